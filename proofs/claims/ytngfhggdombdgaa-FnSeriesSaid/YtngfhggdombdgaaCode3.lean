/- The code of the Go functions in the generator's own form, printed by a program of mine (gen.py) out of the loaded program; each with the check that it is so. -/
import Derived.Test.YtngfhggdombdgaaVcFn
import Derived.Test.YtngfhggdombdgaaGeo
import Derived.Test.YtngfhggdombdgaaRows
import Derived.KernelRfl
namespace Go.Proofs.Ytngfhggdombdgaa
open Go Go.Fl Go.Vc
set_option linter.all false
set_option maxRecDepth 100000

/- spec.LineThrough -/
def c_spec_LineThrough : FV := ⟨118, [.tmp 2, .tmp 3, .tmp 4],
  .seq (.ops [⟨.mov (.const (.float .f32 0)), some 2, none⟩,
    ⟨.mov (.const (.float .f32 0)), some 3, none⟩,
    ⟨.mov (.const (.int .i64 0)), some 4, none⟩])
  (.seq (.seq (.ops [⟨.mov (.tmp 0), some 15, none⟩,
    ⟨.call 80 [.tmp 15], some 16, none⟩,
    ⟨.un .not (.tmp 16), some 17, none⟩])
  (.cond (.tmp 17) (.seq (.ops [⟨.mov (.const (.float .f32 0)), some 2, none⟩,
    ⟨.mov (.const (.float .f32 0)), some 3, none⟩,
    ⟨.mov (.const (.int .i64 1)), some 4, none⟩])
  (.ret)) (.skip)))
  (.seq (.seq (.ops [⟨.mov (.tmp 0), some 18, none⟩,
    ⟨.lenL (.tmp 18), some 19, none⟩,
    ⟨.bin .lss (.tmp 19) (.const (.int .i64 2)), some 20, none⟩])
  (.cond (.tmp 20) (.seq (.ops [⟨.mov (.const (.float .f32 0)), some 2, none⟩,
    ⟨.mov (.const (.float .f32 0)), some 3, none⟩,
    ⟨.mov (.const (.int .i64 6)), some 4, none⟩])
  (.ret)) (.skip)))
  (.seq (.ops [⟨.buildA 1 (#[.float .f32 0, .float .f32 0, .float .f32 0, .float .f32 0]) [], some 21, none⟩,
    ⟨.alloc 103 (.agg (#[.float .f32 0, .float .f32 0, .float .f32 0, .float .f32 0])), some 5, none⟩,
    ⟨.store 4 (.tmp 5) (.tmp 21), none, none⟩])
  (.seq (.seq (.ops [⟨.mov (.const (.int .i64 0)), some 6, none⟩])
  (.block 0 (.loop (.seq (.seq (.ops [⟨.mov (.tmp 6), some 22, none⟩,
    ⟨.mov (.tmp 0), some 23, none⟩,
    ⟨.lenL (.tmp 23), some 24, none⟩,
    ⟨.bin .lss (.tmp 22) (.tmp 24), some 25, none⟩])
  (.cond (.tmp 25) (.skip) (.exit 0)))
  (.seq (.block 1 (.seq (.ops [⟨.mov (.tmp 0), some 28, none⟩,
    ⟨.mov (.tmp 6), some 29, none⟩,
    ⟨.idxS 2 (.tmp 28) (.tmp 29), some 30, none⟩,
    ⟨.addr (.tmp 30) 0, some 31, none⟩,
    ⟨.load none (.tmp 31), some 32, none⟩,
    ⟨.convF .f32 (.tmp 32), some 33, none⟩,
    ⟨.call 63 [.tmp 33], some 34, none⟩,
    ⟨.mov (.tmp 34), some 7, none⟩])
  (.seq (.ops [⟨.mov (.tmp 0), some 35, none⟩,
    ⟨.mov (.tmp 6), some 36, none⟩,
    ⟨.idxS 2 (.tmp 35) (.tmp 36), some 37, none⟩,
    ⟨.load (some 2) (.tmp 37), some 38, none⟩,
    ⟨.call 96 [.tmp 38], some 39, none⟩,
    ⟨.mov (.tmp 39), some 8, none⟩])
  (.seq (.ops [⟨.mov (.tmp 7), some 40, none⟩,
    ⟨.mov (.tmp 8), some 41, none⟩,
    ⟨.mov (.tmp 7), some 42, none⟩,
    ⟨.mov (.tmp 7), some 43, none⟩,
    ⟨.fbin .mul (.tmp 42) (.tmp 43), some 44, none⟩,
    ⟨.mov (.tmp 7), some 45, none⟩,
    ⟨.mov (.tmp 8), some 46, none⟩,
    ⟨.fbin .mul (.tmp 45) (.tmp 46), some 47, none⟩,
    ⟨.buildA 1 (#[.float .f32 0, .float .f32 0, .float .f32 0, .float .f32 0]) [(0, .tmp 40), (1, .tmp 41), (2, .tmp 44), (3, .tmp 47)], some 48, none⟩,
    ⟨.alloc 103 (.agg (#[.float .f32 0, .float .f32 0, .float .f32 0, .float .f32 0])), some 9, none⟩,
    ⟨.store 4 (.tmp 9) (.tmp 48), none, none⟩])
  (.seq (.ops [⟨.mov (.const (.int .i64 0)), some 10, none⟩])
  (.block 2 (.loop (.seq (.seq (.ops [⟨.mov (.tmp 10), some 49, none⟩,
    ⟨.bin .lss (.tmp 49) (.const (.int .i64 4)), some 50, none⟩])
  (.cond (.tmp 50) (.skip) (.exit 2)))
  (.seq (.block 3 (.seq (.ops [⟨.mov (.tmp 6), some 53, none⟩,
    ⟨.bin .eql (.tmp 53) (.const (.int .i64 0)), some 54, none⟩])
  (.cond (.tmp 54) (.ops [⟨.mov (.tmp 10), some 55, none⟩,
    ⟨.mov (.tmp 10), some 56, none⟩,
    ⟨.idxA 4 1 (.tmp 9) (.tmp 56), some 57, none⟩,
    ⟨.load none (.tmp 57), some 58, none⟩,
    ⟨.idxA 4 1 (.tmp 5) (.tmp 55), some 59, none⟩,
    ⟨.store 1 (.tmp 59) (.tmp 58), none, none⟩]) (.ops [⟨.mov (.tmp 10), some 60, none⟩,
    ⟨.mov (.tmp 10), some 61, none⟩,
    ⟨.idxA 4 1 (.tmp 5) (.tmp 61), some 62, none⟩,
    ⟨.load none (.tmp 62), some 63, none⟩,
    ⟨.mov (.tmp 10), some 64, none⟩,
    ⟨.idxA 4 1 (.tmp 9) (.tmp 64), some 65, none⟩,
    ⟨.load none (.tmp 65), some 66, none⟩,
    ⟨.fbin .add (.tmp 63) (.tmp 66), some 67, none⟩,
    ⟨.idxA 4 1 (.tmp 5) (.tmp 60), some 68, none⟩,
    ⟨.store 1 (.tmp 68) (.tmp 67), none, none⟩]))))
  (.ops [⟨.mov (.tmp 10), some 51, none⟩,
    ⟨.bin .add (.tmp 51) (.const (.int .i64 1)), some 52, none⟩,
    ⟨.mov (.tmp 52), some 10, none⟩]))))))))))
  (.ops [⟨.mov (.tmp 6), some 26, none⟩,
    ⟨.bin .add (.tmp 26) (.const (.int .i64 1)), some 27, none⟩,
    ⟨.mov (.tmp 27), some 6, none⟩]))))))
  (.seq (.ops [⟨.mov (.tmp 0), some 69, none⟩,
    ⟨.lenL (.tmp 69), some 70, none⟩,
    ⟨.convF .f32 (.tmp 70), some 71, none⟩,
    ⟨.mov (.tmp 71), some 11, none⟩])
  (.seq (.ops [⟨.mov (.tmp 11), some 72, none⟩,
    ⟨.idxA 4 1 (.tmp 5) (.const (.int .i64 2)), some 73, none⟩,
    ⟨.load none (.tmp 73), some 74, none⟩,
    ⟨.fbin .mul (.tmp 72) (.tmp 74), some 75, none⟩,
    ⟨.idxA 4 1 (.tmp 5) (.const (.int .i64 0)), some 76, none⟩,
    ⟨.load none (.tmp 76), some 77, none⟩,
    ⟨.idxA 4 1 (.tmp 5) (.const (.int .i64 0)), some 78, none⟩,
    ⟨.load none (.tmp 78), some 79, none⟩,
    ⟨.fbin .mul (.tmp 77) (.tmp 79), some 80, none⟩,
    ⟨.fbin .sub (.tmp 75) (.tmp 80), some 81, none⟩,
    ⟨.mov (.tmp 81), some 12, none⟩])
  (.seq (.ops [⟨.mov (.tmp 11), some 82, none⟩,
    ⟨.idxA 4 1 (.tmp 5) (.const (.int .i64 3)), some 83, none⟩,
    ⟨.load none (.tmp 83), some 84, none⟩,
    ⟨.fbin .mul (.tmp 82) (.tmp 84), some 85, none⟩,
    ⟨.idxA 4 1 (.tmp 5) (.const (.int .i64 0)), some 86, none⟩,
    ⟨.load none (.tmp 86), some 87, none⟩,
    ⟨.idxA 4 1 (.tmp 5) (.const (.int .i64 1)), some 88, none⟩,
    ⟨.load none (.tmp 88), some 89, none⟩,
    ⟨.fbin .mul (.tmp 87) (.tmp 89), some 90, none⟩,
    ⟨.fbin .sub (.tmp 85) (.tmp 90), some 91, none⟩,
    ⟨.mov (.tmp 12), some 92, none⟩,
    ⟨.fbin .quo (.tmp 91) (.tmp 92), some 93, none⟩,
    ⟨.mov (.tmp 93), some 13, none⟩])
  (.seq (.ops [⟨.idxA 4 1 (.tmp 5) (.const (.int .i64 1)), some 94, none⟩,
    ⟨.load none (.tmp 94), some 95, none⟩,
    ⟨.mov (.tmp 13), some 96, none⟩,
    ⟨.idxA 4 1 (.tmp 5) (.const (.int .i64 0)), some 97, none⟩,
    ⟨.load none (.tmp 97), some 98, none⟩,
    ⟨.fbin .mul (.tmp 96) (.tmp 98), some 99, none⟩,
    ⟨.fbin .sub (.tmp 95) (.tmp 99), some 100, none⟩,
    ⟨.mov (.tmp 11), some 101, none⟩,
    ⟨.fbin .quo (.tmp 100) (.tmp 101), some 102, none⟩,
    ⟨.mov (.tmp 102), some 14, none⟩])
  (.seq (.seq (.ops [⟨.mov (.tmp 12), some 103, none⟩,
    ⟨.fbin .gtr (.tmp 103) (.const (.float .f32 0)), some 104, none⟩,
    ⟨.un .not (.tmp 104), some 105, none⟩,
    ⟨.mov (.tmp 105), some 106, none⟩,
    ⟨.mov (.tmp 13), some 107, some (106, false)⟩,
    ⟨.call 97 [.tmp 107], some 108, some (106, false)⟩,
    ⟨.un .not (.tmp 108), some 109, some (106, false)⟩,
    ⟨.pick (.tmp 106) (.const (.bool true)) (.tmp 109), some 110, none⟩,
    ⟨.mov (.tmp 110), some 111, none⟩,
    ⟨.mov (.tmp 14), some 112, some (111, false)⟩,
    ⟨.call 97 [.tmp 112], some 113, some (111, false)⟩,
    ⟨.un .not (.tmp 113), some 114, some (111, false)⟩,
    ⟨.pick (.tmp 111) (.const (.bool true)) (.tmp 114), some 115, none⟩])
  (.cond (.tmp 115) (.seq (.ops [⟨.mov (.const (.float .f32 0)), some 2, none⟩,
    ⟨.mov (.const (.float .f32 0)), some 3, none⟩,
    ⟨.mov (.const (.int .i64 4)), some 4, none⟩])
  (.ret)) (.skip)))
  (.seq (.ops [⟨.mov (.tmp 14), some 116, none⟩,
    ⟨.mov (.tmp 13), some 117, none⟩,
    ⟨.mov (.tmp 116), some 2, none⟩,
    ⟨.mov (.tmp 117), some 3, none⟩,
    ⟨.mov (.const (.int .i64 0)), some 4, none⟩])
  (.ret)))))))))))⟩
theorem ok_spec_LineThrough : cmpF Try.prog Try.f57 = some c_spec_LineThrough := by kernel_rfl

/- impl.LineThrough -/
def c_impl_LineThrough : FV := ⟨109, [.tmp 2, .tmp 3, .tmp 4],
  .seq (.ops [⟨.mov (.const (.float .f32 0)), some 2, none⟩,
    ⟨.mov (.const (.float .f32 0)), some 3, none⟩,
    ⟨.mov (.const (.int .i64 0)), some 4, none⟩])
  (.seq (.block 0 (.seq (.ops [⟨.mov (.tmp 0), some 20, none⟩,
    ⟨.call 40 [.tmp 20], some 21, none⟩,
    ⟨.un .not (.tmp 21), some 22, none⟩,
    ⟨.mov (.tmp 22), some 19, none⟩])
  (.cond (.tmp 19) (.seq (.ops [⟨.mov (.const (.float .f32 0)), some 2, none⟩,
    ⟨.mov (.const (.float .f32 0)), some 3, none⟩,
    ⟨.mov (.const (.int .i64 1)), some 4, none⟩])
  (.ret)) (.seq (.ops [⟨.mov (.tmp 0), some 24, none⟩,
    ⟨.lenL (.tmp 24), some 25, none⟩,
    ⟨.bin .lss (.tmp 25) (.const (.int .i64 2)), some 26, none⟩,
    ⟨.mov (.tmp 26), some 23, none⟩])
  (.cond (.tmp 23) (.seq (.ops [⟨.mov (.const (.float .f32 0)), some 2, none⟩,
    ⟨.mov (.const (.float .f32 0)), some 3, none⟩,
    ⟨.mov (.const (.int .i64 6)), some 4, none⟩])
  (.ret)) (.skip))))))
  (.seq (.ops [⟨.bslice 25 1 0 (#[.float .f32 0]) [], some 27, none⟩,
    ⟨.bslice 25 1 0 (#[.float .f32 0]) [], some 28, none⟩,
    ⟨.bslice 25 1 0 (#[.float .f32 0]) [], some 29, none⟩,
    ⟨.bslice 25 1 0 (#[.float .f32 0]) [], some 30, none⟩,
    ⟨.mov (.tmp 27), some 5, none⟩,
    ⟨.mov (.tmp 28), some 6, none⟩,
    ⟨.mov (.tmp 29), some 7, none⟩,
    ⟨.mov (.tmp 30), some 8, none⟩])
  (.seq (.seq (.ops [⟨.mov (.tmp 0), some 31, none⟩,
    ⟨.lenL (.tmp 31), some 32, none⟩,
    ⟨.mov (.const (.int .i64 0)), some 33, none⟩])
  (.block 1 (.loop (.seq (.ops [⟨.bin .lss (.tmp 33) (.tmp 32), some 34, none⟩])
  (.seq (.cond (.tmp 34) (.skip) (.exit 1))
  (.seq (.block 2 (.seq (.ops [⟨.idxS 2 (.tmp 31) (.tmp 33), some 35, none⟩,
    ⟨.load (some 2) (.tmp 35), some 36, none⟩,
    ⟨.alloc 87 (.agg (#[.int .i64 0, .int .i16 0])), some 10, none⟩,
    ⟨.store 2 (.tmp 10) (.tmp 36), none, none⟩])
  (.seq (.bops [⟨.load (some 2) (.tmp 10), some 37, none⟩,
    ⟨.call 98 [.tmp 37], some 38, none⟩,
    ⟨.load (some 2) (.tmp 10), some 39, none⟩,
    ⟨.call 99 [.tmp 39], some 40, none⟩,
    ⟨.mov (.tmp 38), some 11, none⟩,
    ⟨.mov (.tmp 40), some 12, none⟩])
  (.ops [⟨.mov (.tmp 5), some 41, none⟩,
    ⟨.mov (.tmp 11), some 42, none⟩,
    ⟨.bslice 25 1 1 (#[.float .f32 0]) [(0, .tmp 42)], some 43, none⟩,
    ⟨.app 25 1 (.tmp 41) (.tmp 43), some 44, none⟩,
    ⟨.mov (.tmp 6), some 45, none⟩,
    ⟨.mov (.tmp 12), some 46, none⟩,
    ⟨.bslice 25 1 1 (#[.float .f32 0]) [(0, .tmp 46)], some 47, none⟩,
    ⟨.app 25 1 (.tmp 45) (.tmp 47), some 48, none⟩,
    ⟨.mov (.tmp 7), some 49, none⟩,
    ⟨.mov (.tmp 11), some 50, none⟩,
    ⟨.mov (.tmp 11), some 51, none⟩,
    ⟨.fbin .mul (.tmp 50) (.tmp 51), some 52, none⟩,
    ⟨.bslice 25 1 1 (#[.float .f32 0]) [(0, .tmp 52)], some 53, none⟩,
    ⟨.app 25 1 (.tmp 49) (.tmp 53), some 54, none⟩,
    ⟨.mov (.tmp 8), some 55, none⟩,
    ⟨.mov (.tmp 11), some 56, none⟩,
    ⟨.mov (.tmp 12), some 57, none⟩,
    ⟨.fbin .mul (.tmp 56) (.tmp 57), some 58, none⟩,
    ⟨.bslice 25 1 1 (#[.float .f32 0]) [(0, .tmp 58)], some 59, none⟩,
    ⟨.app 25 1 (.tmp 55) (.tmp 59), some 60, none⟩,
    ⟨.mov (.tmp 44), some 5, none⟩,
    ⟨.mov (.tmp 48), some 6, none⟩,
    ⟨.mov (.tmp 54), some 7, none⟩,
    ⟨.mov (.tmp 60), some 8, none⟩]))))
  (.ops [⟨.bin .add (.tmp 33) (.const (.int .i64 1)), some 61, none⟩,
    ⟨.mov (.tmp 61), some 33, none⟩])))))))
  (.seq (.ops [⟨.mov (.tmp 0), some 62, none⟩,
    ⟨.lenL (.tmp 62), some 63, none⟩,
    ⟨.convF .f32 (.tmp 63), some 64, none⟩,
    ⟨.mov (.tmp 5), some 65, none⟩,
    ⟨.call 100 [.tmp 65], some 66, none⟩,
    ⟨.mov (.tmp 6), some 67, none⟩,
    ⟨.call 100 [.tmp 67], some 68, none⟩,
    ⟨.mov (.tmp 64), some 13, none⟩,
    ⟨.mov (.tmp 66), some 14, none⟩,
    ⟨.mov (.tmp 68), some 15, none⟩])
  (.seq (.ops [⟨.mov (.tmp 13), some 69, none⟩,
    ⟨.mov (.tmp 7), some 70, none⟩,
    ⟨.call 100 [.tmp 70], some 71, none⟩,
    ⟨.fbin .mul (.tmp 69) (.tmp 71), some 72, none⟩,
    ⟨.mov (.tmp 14), some 73, none⟩,
    ⟨.mov (.tmp 14), some 74, none⟩,
    ⟨.fbin .mul (.tmp 73) (.tmp 74), some 75, none⟩,
    ⟨.fbin .sub (.tmp 72) (.tmp 75), some 76, none⟩,
    ⟨.mov (.tmp 76), some 16, none⟩])
  (.seq (.ops [⟨.mov (.tmp 13), some 77, none⟩,
    ⟨.mov (.tmp 8), some 78, none⟩,
    ⟨.call 100 [.tmp 78], some 79, none⟩,
    ⟨.fbin .mul (.tmp 77) (.tmp 79), some 80, none⟩,
    ⟨.mov (.tmp 14), some 81, none⟩,
    ⟨.mov (.tmp 15), some 82, none⟩,
    ⟨.fbin .mul (.tmp 81) (.tmp 82), some 83, none⟩,
    ⟨.fbin .sub (.tmp 80) (.tmp 83), some 84, none⟩,
    ⟨.mov (.tmp 16), some 85, none⟩,
    ⟨.fbin .quo (.tmp 84) (.tmp 85), some 86, none⟩,
    ⟨.mov (.tmp 86), some 17, none⟩])
  (.seq (.ops [⟨.mov (.tmp 15), some 87, none⟩,
    ⟨.mov (.tmp 17), some 88, none⟩,
    ⟨.mov (.tmp 14), some 89, none⟩,
    ⟨.fbin .mul (.tmp 88) (.tmp 89), some 90, none⟩,
    ⟨.fbin .sub (.tmp 87) (.tmp 90), some 91, none⟩,
    ⟨.mov (.tmp 13), some 92, none⟩,
    ⟨.fbin .quo (.tmp 91) (.tmp 92), some 93, none⟩,
    ⟨.mov (.tmp 93), some 18, none⟩])
  (.seq (.seq (.ops [⟨.mov (.tmp 16), some 94, none⟩,
    ⟨.fbin .gtr (.tmp 94) (.const (.float .f32 0)), some 95, none⟩,
    ⟨.un .not (.tmp 95), some 96, none⟩,
    ⟨.mov (.tmp 96), some 97, none⟩,
    ⟨.mov (.tmp 17), some 98, some (97, false)⟩,
    ⟨.call 101 [.tmp 98], some 99, some (97, false)⟩,
    ⟨.un .not (.tmp 99), some 100, some (97, false)⟩,
    ⟨.pick (.tmp 97) (.const (.bool true)) (.tmp 100), some 101, none⟩,
    ⟨.mov (.tmp 101), some 102, none⟩,
    ⟨.mov (.tmp 18), some 103, some (102, false)⟩,
    ⟨.call 101 [.tmp 103], some 104, some (102, false)⟩,
    ⟨.un .not (.tmp 104), some 105, some (102, false)⟩,
    ⟨.pick (.tmp 102) (.const (.bool true)) (.tmp 105), some 106, none⟩])
  (.cond (.tmp 106) (.seq (.ops [⟨.mov (.const (.float .f32 0)), some 2, none⟩,
    ⟨.mov (.const (.float .f32 0)), some 3, none⟩,
    ⟨.mov (.const (.int .i64 4)), some 4, none⟩])
  (.ret)) (.skip)))
  (.seq (.ops [⟨.mov (.tmp 18), some 107, none⟩,
    ⟨.mov (.tmp 17), some 108, none⟩,
    ⟨.mov (.tmp 107), some 2, none⟩,
    ⟨.mov (.tmp 108), some 3, none⟩,
    ⟨.mov (.const (.int .i64 0)), some 4, none⟩])
  (.ret))))))))))⟩
theorem ok_impl_LineThrough : cmpF Try.prog Try.f58 = some c_impl_LineThrough := by kernel_rfl

/- spec.DrawdownAt -/
def c_spec_DrawdownAt : FV := ⟨29, [.tmp 10, .tmp 11],
  .seq (.ops [⟨.box 70 (.tmp 0), some 5, none⟩,
    ⟨.box 39 (.tmp 1), some 6, none⟩,
    ⟨.mov (.const (.float .f32 0)), some 10, none⟩,
    ⟨.mov (.const (.int .i64 0)), some 11, none⟩])
  (.seq (.seq (.ops [⟨.load (some 2) (.tmp 5), some 13, none⟩,
    ⟨.load (some 3) (.tmp 6), some 14, none⟩,
    ⟨.bslice 39 3 1 (#[.int .i8 0, .int .i8 0, .float .f32 0]) [(0, .tmp 14)], some 15, none⟩,
    ⟨.mov (.tmp 2), some 16, none⟩,
    ⟨.mov (.tmp 3), some 17, none⟩,
    ⟨.mov (.tmp 4), some 18, none⟩,
    ⟨.call 89 [.tmp 13, .tmp 15, .tmp 16, .tmp 17, .tmp 18], some 19, none⟩,
    ⟨.mov (.tmp 19), some 12, none⟩])
  (.seq (.ops [⟨.mov (.tmp 12), some 20, none⟩,
    ⟨.bin .neq (.tmp 20) (.const (.int .i64 0)), some 21, none⟩])
  (.cond (.tmp 21) (.seq (.ops [⟨.mov (.tmp 12), some 22, none⟩,
    ⟨.mov (.const (.float .f32 0)), some 10, none⟩,
    ⟨.mov (.tmp 22), some 11, none⟩])
  (.ret)) (.skip))))
  (.seq (.ops [⟨.load (some 2) (.tmp 5), some 23, none⟩,
    ⟨.load (some 3) (.tmp 6), some 24, none⟩,
    ⟨.mov (.tmp 2), some 25, none⟩,
    ⟨.mov (.tmp 3), some 26, none⟩,
    ⟨.mov (.tmp 4), some 27, none⟩,
    ⟨.call 102 [.tmp 23, .tmp 24, .tmp 25, .tmp 26, .tmp 27], some 28, none⟩,
    ⟨.mov (.tmp 28), some 10, none⟩,
    ⟨.mov (.const (.int .i64 0)), some 11, none⟩])
  (.ret)))⟩
theorem ok_spec_DrawdownAt : cmpF Try.prog Try.f59 = some c_spec_DrawdownAt := by kernel_rfl

/- impl.DrawdownAt -/
def c_impl_DrawdownAt : FV := ⟨30, [.tmp 10, .tmp 11],
  .seq (.ops [⟨.box 70 (.tmp 0), some 5, none⟩,
    ⟨.box 39 (.tmp 1), some 6, none⟩,
    ⟨.mov (.const (.float .f32 0)), some 10, none⟩,
    ⟨.mov (.const (.int .i64 0)), some 11, none⟩])
  (.seq (.seq (.ops [⟨.load (some 2) (.tmp 5), some 13, none⟩,
    ⟨.load (some 3) (.tmp 6), some 14, none⟩,
    ⟨.bslice 39 3 1 (#[.int .i8 0, .int .i8 0, .float .f32 0]) [(0, .tmp 14)], some 15, none⟩,
    ⟨.mov (.tmp 2), some 16, none⟩,
    ⟨.mov (.tmp 3), some 17, none⟩,
    ⟨.mov (.tmp 4), some 18, none⟩,
    ⟨.bslice 2 1 1 (#[.int .i64 0]) [(0, .tmp 18)], some 19, none⟩,
    ⟨.call 91 [.tmp 13, .tmp 15, .tmp 16, .tmp 17, .tmp 19], some 20, none⟩,
    ⟨.mov (.tmp 20), some 12, none⟩])
  (.seq (.ops [⟨.mov (.tmp 12), some 21, none⟩,
    ⟨.bin .neq (.tmp 21) (.const (.int .i64 0)), some 22, none⟩])
  (.cond (.tmp 22) (.seq (.ops [⟨.mov (.tmp 12), some 23, none⟩,
    ⟨.mov (.const (.float .f32 0)), some 10, none⟩,
    ⟨.mov (.tmp 23), some 11, none⟩])
  (.ret)) (.skip))))
  (.seq (.ops [⟨.load (some 2) (.tmp 5), some 24, none⟩,
    ⟨.load (some 3) (.tmp 6), some 25, none⟩,
    ⟨.mov (.tmp 2), some 26, none⟩,
    ⟨.mov (.tmp 3), some 27, none⟩,
    ⟨.mov (.tmp 4), some 28, none⟩,
    ⟨.call 103 [.tmp 24, .tmp 25, .tmp 26, .tmp 27, .tmp 28], some 29, none⟩,
    ⟨.mov (.tmp 29), some 10, none⟩,
    ⟨.mov (.const (.int .i64 0)), some 11, none⟩])
  (.ret)))⟩
theorem ok_impl_DrawdownAt : cmpF Try.prog Try.f60 = some c_impl_DrawdownAt := by kernel_rfl

/- spec.l00From -/
def c_spec_l00From : FV := ⟨6, [.tmp 2],
  .seq (.ops [⟨.mov (.const (.pointer none)), some 2, none⟩])
  (.seq (.ops [⟨.mov (.tmp 0), some 3, none⟩,
    ⟨.build [(0, 1), (1, 1), (2, 1)] (#[.slice none 0 0, .int .i64 0, .int .u64 0]) [(0, .tmp 3)], some 4, none⟩,
    ⟨.box 109 (.tmp 4), some 5, none⟩,
    ⟨.mov (.tmp 5), some 2, none⟩])
  (.ret))⟩
theorem ok_spec_l00From : cmpF Try.prog Try.f61 = some c_spec_l00From := by kernel_rfl

/- spec.l00Src.pick -/
def c_spec_l00Src_pick : FV := ⟨20, [.tmp 4],
  .seq (.ops [⟨.mov (.const (.int .i64 0)), some 4, none⟩])
  (.seq (.seq (.ops [⟨.mov (.tmp 1), some 6, none⟩,
    ⟨.bin .leq (.tmp 6) (.const (.int .i64 1)), some 7, none⟩])
  (.cond (.tmp 7) (.seq (.ops [⟨.mov (.const (.int .i64 0)), some 4, none⟩])
  (.ret)) (.skip)))
  (.seq (.ops [⟨.mov (.tmp 0), some 8, none⟩,
    ⟨.call 104 [.tmp 8], some 9, none⟩,
    ⟨.mov (.tmp 9), some 5, none⟩])
  (.seq (.seq (.ops [⟨.mov (.tmp 1), some 10, none⟩,
    ⟨.bin .gtr (.tmp 10) (.const (.int .i64 200)), some 11, none⟩])
  (.cond (.tmp 11) (.ops [⟨.mov (.tmp 5), some 12, none⟩,
    ⟨.bin .mul (.tmp 12) (.const (.int .i64 256)), some 13, none⟩,
    ⟨.mov (.tmp 0), some 14, none⟩,
    ⟨.call 104 [.tmp 14], some 15, none⟩,
    ⟨.bin .add (.tmp 13) (.tmp 15), some 16, none⟩,
    ⟨.mov (.tmp 16), some 5, none⟩]) (.skip)))
  (.seq (.ops [⟨.mov (.tmp 5), some 17, none⟩,
    ⟨.mov (.tmp 1), some 18, none⟩,
    ⟨.bin .rem (.tmp 17) (.tmp 18), some 19, none⟩,
    ⟨.mov (.tmp 19), some 4, none⟩])
  (.ret)))))⟩
theorem ok_spec_l00Src_pick : cmpF Try.prog Try.f62 = some c_spec_l00Src_pick := by kernel_rfl

/- spec.l03Ln -/
def c_spec_l03Ln : FV := ⟨54, [.tmp 2],
  .seq (.ops [⟨.mov (.const (.float .f32 0)), some 2, none⟩])
  (.seq (.ops [⟨.mov (.tmp 0), some 9, none⟩,
    ⟨.mov (.tmp 9), some 3, none⟩])
  (.seq (.ops [⟨.mov (.const (.int .i64 0)), some 4, none⟩])
  (.seq (.block 0 (.loop (.seq (.seq (.ops [⟨.mov (.tmp 3), some 10, none⟩,
    ⟨.fbin .geq (.tmp 10) (.const (.float .f32 1069547520)), some 11, none⟩])
  (.cond (.tmp 11) (.skip) (.exit 0)))
  (.block 1 (.seq (.ops [⟨.mov (.tmp 3), some 12, none⟩,
    ⟨.fbin .quo (.tmp 12) (.const (.float .f32 1073741824)), some 13, none⟩,
    ⟨.mov (.tmp 13), some 3, none⟩])
  (.ops [⟨.mov (.tmp 4), some 14, none⟩,
    ⟨.bin .add (.tmp 14) (.const (.int .i64 1)), some 15, none⟩,
    ⟨.mov (.tmp 15), some 4, none⟩]))))))
  (.seq (.block 2 (.loop (.seq (.seq (.ops [⟨.mov (.tmp 3), some 16, none⟩,
    ⟨.fbin .lss (.tmp 16) (.const (.float .f32 1061158912)), some 17, none⟩])
  (.cond (.tmp 17) (.skip) (.exit 2)))
  (.block 3 (.seq (.ops [⟨.mov (.tmp 3), some 18, none⟩,
    ⟨.fbin .mul (.tmp 18) (.const (.float .f32 1073741824)), some 19, none⟩,
    ⟨.mov (.tmp 19), some 3, none⟩])
  (.ops [⟨.mov (.tmp 4), some 20, none⟩,
    ⟨.bin .sub (.tmp 20) (.const (.int .i64 1)), some 21, none⟩,
    ⟨.mov (.tmp 21), some 4, none⟩]))))))
  (.seq (.ops [⟨.mov (.tmp 3), some 22, none⟩,
    ⟨.fbin .sub (.tmp 22) (.const (.float .f32 1065353216)), some 23, none⟩,
    ⟨.mov (.tmp 3), some 24, none⟩,
    ⟨.fbin .add (.tmp 24) (.const (.float .f32 1065353216)), some 25, none⟩,
    ⟨.fbin .quo (.tmp 23) (.tmp 25), some 26, none⟩,
    ⟨.mov (.tmp 26), some 5, none⟩])
  (.seq (.ops [⟨.mov (.tmp 5), some 27, none⟩,
    ⟨.mov (.tmp 5), some 28, none⟩,
    ⟨.fbin .mul (.tmp 27) (.tmp 28), some 29, none⟩,
    ⟨.mov (.tmp 29), some 6, none⟩])
  (.seq (.ops [⟨.mov (.tmp 6), some 30, none⟩,
    ⟨.call 68 [.const (.int .i64 1), .const (.int .i64 7)], some 31, none⟩,
    ⟨.fbin .mul (.tmp 30) (.tmp 31), some 32, none⟩,
    ⟨.call 68 [.const (.int .i64 1), .const (.int .i64 5)], some 33, none⟩,
    ⟨.fbin .add (.tmp 32) (.tmp 33), some 34, none⟩,
    ⟨.mov (.tmp 34), some 7, none⟩])
  (.seq (.ops [⟨.mov (.tmp 7), some 35, none⟩,
    ⟨.mov (.tmp 6), some 36, none⟩,
    ⟨.fbin .mul (.tmp 35) (.tmp 36), some 37, none⟩,
    ⟨.call 68 [.const (.int .i64 1), .const (.int .i64 3)], some 38, none⟩,
    ⟨.fbin .add (.tmp 37) (.tmp 38), some 39, none⟩,
    ⟨.mov (.tmp 39), some 7, none⟩])
  (.seq (.ops [⟨.mov (.tmp 7), some 40, none⟩,
    ⟨.mov (.tmp 6), some 41, none⟩,
    ⟨.fbin .mul (.tmp 40) (.tmp 41), some 42, none⟩,
    ⟨.fbin .add (.tmp 42) (.const (.float .f32 1065353216)), some 43, none⟩,
    ⟨.mov (.tmp 43), some 7, none⟩])
  (.seq (.ops [⟨.mov (.tmp 5), some 44, none⟩,
    ⟨.mov (.tmp 7), some 45, none⟩,
    ⟨.fbin .mul (.tmp 44) (.tmp 45), some 46, none⟩,
    ⟨.mov (.tmp 46), some 8, none⟩])
  (.seq (.ops [⟨.mov (.tmp 8), some 47, none⟩,
    ⟨.fbin .mul (.const (.float .f32 1073741824)) (.tmp 47), some 48, none⟩,
    ⟨.mov (.tmp 48), some 8, none⟩])
  (.seq (.ops [⟨.mov (.tmp 4), some 49, none⟩,
    ⟨.convF .f32 (.tmp 49), some 50, none⟩,
    ⟨.fbin .mul (.tmp 50) (.const (.float .f32 1060205080)), some 51, none⟩,
    ⟨.mov (.tmp 8), some 52, none⟩,
    ⟨.fbin .add (.tmp 51) (.tmp 52), some 53, none⟩,
    ⟨.mov (.tmp 53), some 2, none⟩])
  (.ret)))))))))))))⟩
theorem ok_spec_l03Ln : cmpF Try.prog Try.f63 = some c_spec_l03Ln := by kernel_rfl

/- spec.l03Exp -/
def c_spec_l03Exp : FV := ⟨29, [.tmp 2],
  .seq (.ops [⟨.mov (.const (.float .f32 0)), some 2, none⟩])
  (.seq (.ops [⟨.mov (.tmp 0), some 6, none⟩,
    ⟨.fbin .quo (.tmp 6) (.const (.float .f32 1132462080)), some 7, none⟩,
    ⟨.mov (.tmp 7), some 3, none⟩])
  (.seq (.ops [⟨.mov (.tmp 3), some 8, none⟩,
    ⟨.call 68 [.const (.int .i64 1), .const (.int .i64 6)], some 9, none⟩,
    ⟨.fbin .mul (.tmp 8) (.tmp 9), some 10, none⟩,
    ⟨.fbin .add (.tmp 10) (.const (.float .f32 1056964608)), some 11, none⟩,
    ⟨.mov (.tmp 11), some 4, none⟩])
  (.seq (.ops [⟨.mov (.tmp 4), some 12, none⟩,
    ⟨.mov (.tmp 3), some 13, none⟩,
    ⟨.fbin .mul (.tmp 12) (.tmp 13), some 14, none⟩,
    ⟨.fbin .add (.tmp 14) (.const (.float .f32 1065353216)), some 15, none⟩,
    ⟨.mov (.tmp 15), some 4, none⟩])
  (.seq (.ops [⟨.mov (.tmp 4), some 16, none⟩,
    ⟨.mov (.tmp 3), some 17, none⟩,
    ⟨.fbin .mul (.tmp 16) (.tmp 17), some 18, none⟩,
    ⟨.fbin .add (.tmp 18) (.const (.float .f32 1065353216)), some 19, none⟩,
    ⟨.mov (.tmp 19), some 4, none⟩])
  (.seq (.seq (.ops [⟨.mov (.const (.int .i64 0)), some 5, none⟩])
  (.block 0 (.loop (.seq (.seq (.ops [⟨.mov (.tmp 5), some 20, none⟩,
    ⟨.bin .lss (.tmp 20) (.const (.int .i64 8)), some 21, none⟩])
  (.cond (.tmp 21) (.skip) (.exit 0)))
  (.seq (.block 1 (.ops [⟨.mov (.tmp 4), some 24, none⟩,
    ⟨.mov (.tmp 4), some 25, none⟩,
    ⟨.fbin .mul (.tmp 24) (.tmp 25), some 26, none⟩,
    ⟨.mov (.tmp 26), some 4, none⟩]))
  (.ops [⟨.mov (.tmp 5), some 22, none⟩,
    ⟨.bin .add (.tmp 22) (.const (.int .i64 1)), some 23, none⟩,
    ⟨.mov (.tmp 23), some 5, none⟩]))))))
  (.seq (.ops [⟨.mov (.tmp 4), some 27, none⟩,
    ⟨.fbin .quo (.const (.float .f32 1065353216)) (.tmp 27), some 28, none⟩,
    ⟨.mov (.tmp 28), some 2, none⟩])
  (.ret)))))))⟩
theorem ok_spec_l03Exp : cmpF Try.prog Try.f64 = some c_spec_l03Exp := by kernel_rfl

/- spec.l03Well -/
def c_spec_l03Well : FV := ⟨59, [.tmp 2],
  .seq (.ops [⟨.mov (.const (.float .f32 0)), some 2, none⟩])
  (.seq (.seq (.ops [⟨.mov (.tmp 0), some 9, none⟩,
    ⟨.fbin .leq (.tmp 9) (.const (.float .f32 1065353216)), some 10, none⟩])
  (.cond (.tmp 10) (.seq (.ops [⟨.mov (.tmp 0), some 11, none⟩,
    ⟨.call 68 [.const (.int .i64 1), .const (.int .i64 600)], some 12, none⟩,
    ⟨.fbin .mul (.tmp 11) (.tmp 12), some 13, none⟩,
    ⟨.call 68 [.const (.int .i64 1), .const (.int .i64 96)], some 14, none⟩,
    ⟨.fbin .sub (.tmp 13) (.tmp 14), some 15, none⟩,
    ⟨.mov (.tmp 15), some 3, none⟩])
  (.seq (.ops [⟨.mov (.tmp 3), some 16, none⟩,
    ⟨.mov (.tmp 0), some 17, none⟩,
    ⟨.fbin .mul (.tmp 16) (.tmp 17), some 18, none⟩,
    ⟨.call 68 [.const (.int .i64 1), .const (.int .i64 18)], some 19, none⟩,
    ⟨.fbin .add (.tmp 18) (.tmp 19), some 20, none⟩,
    ⟨.mov (.tmp 20), some 3, none⟩])
  (.seq (.ops [⟨.mov (.tmp 3), some 21, none⟩,
    ⟨.mov (.tmp 0), some 22, none⟩,
    ⟨.fbin .mul (.tmp 21) (.tmp 22), some 23, none⟩,
    ⟨.call 68 [.const (.int .i64 1), .const (.int .i64 4)], some 24, none⟩,
    ⟨.fbin .sub (.tmp 23) (.tmp 24), some 25, none⟩,
    ⟨.mov (.tmp 25), some 3, none⟩])
  (.seq (.ops [⟨.mov (.tmp 3), some 26, none⟩,
    ⟨.mov (.tmp 0), some 27, none⟩,
    ⟨.fbin .mul (.tmp 26) (.tmp 27), some 28, none⟩,
    ⟨.fbin .add (.tmp 28) (.const (.float .f32 1065353216)), some 29, none⟩,
    ⟨.mov (.tmp 29), some 3, none⟩])
  (.seq (.ops [⟨.mov (.const (.float .f32 0)), some 4, none⟩])
  (.seq (.ops [⟨.mov (.tmp 4), some 30, none⟩,
    ⟨.fbin .sub (.tmp 30) (.const (.float .f32 1058260072)), some 31, none⟩,
    ⟨.mov (.tmp 0), some 32, none⟩,
    ⟨.call 63 [.tmp 32], some 33, none⟩,
    ⟨.fbin .sub (.tmp 31) (.tmp 33), some 34, none⟩,
    ⟨.mov (.tmp 34), some 5, none⟩])
  (.seq (.ops [⟨.mov (.tmp 5), some 35, none⟩,
    ⟨.mov (.tmp 3), some 36, none⟩,
    ⟨.mov (.tmp 0), some 37, none⟩,
    ⟨.fbin .mul (.tmp 36) (.tmp 37), some 38, none⟩,
    ⟨.fbin .add (.tmp 35) (.tmp 38), some 39, none⟩,
    ⟨.mov (.tmp 39), some 2, none⟩])
  (.ret)))))))) (.skip)))
  (.seq (.ops [⟨.mov (.tmp 0), some 40, none⟩,
    ⟨.mov (.tmp 40), some 6, none⟩])
  (.seq (.seq (.ops [⟨.mov (.const (.int .i64 8)), some 7, none⟩])
  (.block 0 (.loop (.seq (.seq (.ops [⟨.mov (.tmp 7), some 41, none⟩,
    ⟨.bin .geq (.tmp 41) (.const (.int .i64 1)), some 42, none⟩])
  (.cond (.tmp 42) (.skip) (.exit 0)))
  (.seq (.block 1 (.seq (.ops [⟨.mov (.tmp 7), some 45, none⟩,
    ⟨.convF .f32 (.tmp 45), some 46, none⟩,
    ⟨.mov (.tmp 46), some 8, none⟩])
  (.ops [⟨.mov (.tmp 0), some 47, none⟩,
    ⟨.mov (.tmp 8), some 48, none⟩,
    ⟨.mov (.tmp 8), some 49, none⟩,
    ⟨.mov (.tmp 6), some 50, none⟩,
    ⟨.fbin .quo (.tmp 49) (.tmp 50), some 51, none⟩,
    ⟨.fbin .add (.const (.float .f32 1065353216)) (.tmp 51), some 52, none⟩,
    ⟨.fbin .quo (.tmp 48) (.tmp 52), some 53, none⟩,
    ⟨.fbin .add (.tmp 47) (.tmp 53), some 54, none⟩,
    ⟨.mov (.tmp 54), some 6, none⟩])))
  (.ops [⟨.mov (.tmp 7), some 43, none⟩,
    ⟨.bin .sub (.tmp 43) (.const (.int .i64 1)), some 44, none⟩,
    ⟨.mov (.tmp 44), some 7, none⟩]))))))
  (.seq (.ops [⟨.mov (.tmp 0), some 55, none⟩,
    ⟨.call 64 [.tmp 55], some 56, none⟩,
    ⟨.mov (.tmp 6), some 57, none⟩,
    ⟨.fbin .quo (.tmp 56) (.tmp 57), some 58, none⟩,
    ⟨.mov (.tmp 58), some 2, none⟩])
  (.ret)))))⟩
theorem ok_spec_l03Well : cmpF Try.prog Try.f65 = some c_spec_l03Well := by kernel_rfl

/- spec.l01Same -/
def c_spec_l01Same : FV := ⟨26, [.tmp 4],
  .seq (.ops [⟨.mov (.const (.bool false)), some 4, none⟩])
  (.seq (.seq (.ops [⟨.mov (.tmp 0), some 5, none⟩,
    ⟨.mov (.tmp 0), some 6, none⟩,
    ⟨.fbin .neq (.tmp 5) (.tmp 6), some 7, none⟩,
    ⟨.mov (.tmp 7), some 8, none⟩,
    ⟨.mov (.tmp 1), some 9, some (8, false)⟩,
    ⟨.mov (.tmp 1), some 10, some (8, false)⟩,
    ⟨.fbin .neq (.tmp 9) (.tmp 10), some 11, some (8, false)⟩,
    ⟨.pick (.tmp 8) (.const (.bool true)) (.tmp 11), some 12, none⟩])
  (.cond (.tmp 12) (.seq (.ops [⟨.mov (.tmp 0), some 13, none⟩,
    ⟨.mov (.tmp 0), some 14, none⟩,
    ⟨.fbin .neq (.tmp 13) (.tmp 14), some 15, none⟩,
    ⟨.mov (.tmp 15), some 16, none⟩,
    ⟨.mov (.tmp 1), some 17, some (16, true)⟩,
    ⟨.mov (.tmp 1), some 18, some (16, true)⟩,
    ⟨.fbin .neq (.tmp 17) (.tmp 18), some 19, some (16, true)⟩,
    ⟨.pick (.tmp 16) (.tmp 19) (.const (.bool false)), some 20, none⟩,
    ⟨.mov (.tmp 20), some 4, none⟩])
  (.ret)) (.skip)))
  (.seq (.ops [⟨.mov (.tmp 0), some 21, none⟩,
    ⟨.f32bits (.tmp 21), some 22, none⟩,
    ⟨.mov (.tmp 1), some 23, none⟩,
    ⟨.f32bits (.tmp 23), some 24, none⟩,
    ⟨.bin .eql (.tmp 22) (.tmp 24), some 25, none⟩,
    ⟨.mov (.tmp 25), some 4, none⟩])
  (.ret)))⟩
theorem ok_spec_l01Same : cmpF Try.prog Try.f66 = some c_spec_l01Same := by kernel_rfl

/- spec.l04Site -/
def c_spec_l04Site : FV := ⟨18, [.tmp 2],
  .seq (.ops [⟨.box 41 (.tmp 0), some 1, none⟩,
    ⟨.mov (.const (.bool false)), some 2, none⟩])
  (.seq (.ops [⟨.addr (.tmp 1) 0, some 3, none⟩,
    ⟨.load (some 3) (.tmp 3), some 4, none⟩,
    ⟨.call 74 [.tmp 4], some 5, none⟩,
    ⟨.mov (.tmp 5), some 6, none⟩,
    ⟨.addr (.tmp 1) 3, some 7, some (6, true)⟩,
    ⟨.load none (.tmp 7), some 8, some (6, true)⟩,
    ⟨.convI .i64 (.tmp 8), some 9, some (6, true)⟩,
    ⟨.call 106 [.tmp 9], some 10, some (6, true)⟩,
    ⟨.pick (.tmp 6) (.tmp 10) (.const (.bool false)), some 11, none⟩,
    ⟨.mov (.tmp 11), some 12, none⟩,
    ⟨.addr (.tmp 1) 4, some 13, some (12, true)⟩,
    ⟨.load none (.tmp 13), some 14, some (12, true)⟩,
    ⟨.convI .i64 (.tmp 14), some 15, some (12, true)⟩,
    ⟨.call 106 [.tmp 15], some 16, some (12, true)⟩,
    ⟨.pick (.tmp 12) (.tmp 16) (.const (.bool false)), some 17, none⟩,
    ⟨.mov (.tmp 17), some 2, none⟩])
  (.ret))⟩
theorem ok_spec_l04Site : cmpF Try.prog Try.f67 = some c_spec_l04Site := by kernel_rfl

/- spec.l03Ratio -/
def c_spec_l03Ratio : FV := ⟨10, [.tmp 4],
  .seq (.ops [⟨.mov (.const (.float .f32 0)), some 4, none⟩])
  (.seq (.ops [⟨.mov (.tmp 0), some 5, none⟩,
    ⟨.convF .f32 (.tmp 5), some 6, none⟩,
    ⟨.mov (.tmp 1), some 7, none⟩,
    ⟨.convF .f32 (.tmp 7), some 8, none⟩,
    ⟨.fbin .quo (.tmp 6) (.tmp 8), some 9, none⟩,
    ⟨.mov (.tmp 9), some 4, none⟩])
  (.ret))⟩
theorem ok_spec_l03Ratio : cmpF Try.prog Try.f68 = some c_spec_l03Ratio := by kernel_rfl

/- impl.ValidSite -/
def c_impl_ValidSite : FV := ⟨18, [.tmp 2],
  .seq (.ops [⟨.box 41 (.tmp 0), some 1, none⟩,
    ⟨.mov (.const (.bool false)), some 2, none⟩])
  (.seq (.ops [⟨.addr (.tmp 1) 0, some 3, none⟩,
    ⟨.load (some 3) (.tmp 3), some 4, none⟩,
    ⟨.call 77 [.tmp 4], some 5, none⟩,
    ⟨.mov (.tmp 5), some 6, none⟩,
    ⟨.addr (.tmp 1) 3, some 7, some (6, true)⟩,
    ⟨.load none (.tmp 7), some 8, some (6, true)⟩,
    ⟨.convI .i64 (.tmp 8), some 9, some (6, true)⟩,
    ⟨.call 79 [.tmp 9], some 10, some (6, true)⟩,
    ⟨.pick (.tmp 6) (.tmp 10) (.const (.bool false)), some 11, none⟩,
    ⟨.mov (.tmp 11), some 12, none⟩,
    ⟨.addr (.tmp 1) 4, some 13, some (12, true)⟩,
    ⟨.load none (.tmp 13), some 14, some (12, true)⟩,
    ⟨.convI .i64 (.tmp 14), some 15, some (12, true)⟩,
    ⟨.call 79 [.tmp 15], some 16, some (12, true)⟩,
    ⟨.pick (.tmp 12) (.tmp 16) (.const (.bool false)), some 17, none⟩,
    ⟨.mov (.tmp 17), some 2, none⟩])
  (.ret))⟩
theorem ok_impl_ValidSite : cmpF Try.prog Try.f69 = some c_impl_ValidSite := by kernel_rfl

/- impl.fourPi -/
def c_impl_fourPi : FV := ⟨1, [.tmp 0],
  .seq (.ops [⟨.mov (.const (.float .f32 0)), some 0, none⟩])
  (.seq (.ops [⟨.mov (.const (.float .f32 1095307227)), some 0, none⟩])
  (.ret))⟩
theorem ok_impl_fourPi : cmpF Try.prog Try.f70 = some c_impl_fourPi := by kernel_rfl

/- laws.toReading -/
def c_laws_toReading : FV := ⟨11, [.cell 2 (some 2)],
  .seq (.ops [⟨.box 89 (.tmp 0), some 1, none⟩,
    ⟨.alloc 87 (.agg (#[.int .i64 0, .int .i16 0])), some 2, none⟩])
  (.seq (.ops [⟨.alloc 87 (.agg (#[.int .i64 0, .int .i16 0])), some 3, none⟩])
  (.seq (.ops [⟨.addr (.tmp 1) 0, some 4, none⟩,
    ⟨.load none (.tmp 4), some 5, none⟩,
    ⟨.addr (.tmp 3) 0, some 6, none⟩,
    ⟨.store 1 (.tmp 6) (.tmp 5), none, none⟩])
  (.seq (.ops [⟨.addr (.tmp 1) 1, some 7, none⟩,
    ⟨.load none (.tmp 7), some 8, none⟩,
    ⟨.addr (.tmp 3) 1, some 9, none⟩,
    ⟨.store 1 (.tmp 9) (.tmp 8), none, none⟩])
  (.seq (.ops [⟨.load (some 2) (.tmp 3), some 10, none⟩,
    ⟨.store 2 (.tmp 2) (.tmp 10), none, none⟩])
  (.ret)))))⟩
theorem ok_laws_toReading : cmpF Try.prog Try.f71 = some c_laws_toReading := by kernel_rfl

/- slices.Equal[[]impl.Reading,impl.Reading] -/
def c_slices_Equal___impl_Reading_impl_Reading : FV := ⟨26, [.tmp 4],
  .seq (.ops [⟨.mov (.const (.bool false)), some 4, none⟩])
  (.seq (.seq (.ops [⟨.mov (.tmp 0), some 6, none⟩,
    ⟨.lenL (.tmp 6), some 7, none⟩,
    ⟨.mov (.tmp 1), some 8, none⟩,
    ⟨.lenL (.tmp 8), some 9, none⟩,
    ⟨.bin .neq (.tmp 7) (.tmp 9), some 10, none⟩])
  (.cond (.tmp 10) (.seq (.ops [⟨.mov (.const (.bool false)), some 4, none⟩])
  (.ret)) (.skip)))
  (.seq (.seq (.ops [⟨.mov (.tmp 0), some 11, none⟩,
    ⟨.lenL (.tmp 11), some 12, none⟩,
    ⟨.mov (.const (.int .i64 0)), some 13, none⟩])
  (.block 0 (.loop (.seq (.ops [⟨.bin .lss (.tmp 13) (.tmp 12), some 14, none⟩])
  (.seq (.cond (.tmp 14) (.skip) (.exit 0))
  (.seq (.block 1 (.seq (.ops [⟨.mov (.tmp 13), some 15, none⟩,
    ⟨.mov (.tmp 15), some 5, none⟩])
  (.seq (.ops [⟨.mov (.tmp 0), some 16, none⟩,
    ⟨.mov (.tmp 5), some 17, none⟩,
    ⟨.idxS 2 (.tmp 16) (.tmp 17), some 18, none⟩,
    ⟨.load (some 2) (.tmp 18), some 19, none⟩,
    ⟨.mov (.tmp 1), some 20, none⟩,
    ⟨.mov (.tmp 5), some 21, none⟩,
    ⟨.idxS 2 (.tmp 20) (.tmp 21), some 22, none⟩,
    ⟨.load (some 2) (.tmp 22), some 23, none⟩,
    ⟨.aeq true (.tmp 19) (.tmp 23), some 24, none⟩])
  (.cond (.tmp 24) (.seq (.ops [⟨.mov (.const (.bool false)), some 4, none⟩])
  (.ret)) (.skip)))))
  (.ops [⟨.bin .add (.tmp 13) (.const (.int .i64 1)), some 25, none⟩,
    ⟨.mov (.tmp 25), some 13, none⟩])))))))
  (.seq (.ops [⟨.mov (.const (.bool true)), some 4, none⟩])
  (.ret))))⟩
theorem ok_slices_Equal___impl_Reading_impl_Reading : cmpF Try.prog Try.f72 = some c_slices_Equal___impl_Reading_impl_Reading := by kernel_rfl

/- laws.eqReading -/
def c_laws_eqReading : FV := ⟨15, [.tmp 4],
  .seq (.ops [⟨.box 87 (.tmp 0), some 2, none⟩,
    ⟨.box 87 (.tmp 1), some 3, none⟩,
    ⟨.mov (.const (.bool false)), some 4, none⟩])
  (.seq (.seq (.ops [⟨.addr (.tmp 2) 0, some 5, none⟩,
    ⟨.load none (.tmp 5), some 6, none⟩,
    ⟨.addr (.tmp 3) 0, some 7, none⟩,
    ⟨.load none (.tmp 7), some 8, none⟩,
    ⟨.bin .neq (.tmp 6) (.tmp 8), some 9, none⟩])
  (.cond (.tmp 9) (.seq (.ops [⟨.mov (.const (.bool false)), some 4, none⟩])
  (.ret)) (.skip)))
  (.seq (.seq (.ops [⟨.addr (.tmp 2) 1, some 10, none⟩,
    ⟨.load none (.tmp 10), some 11, none⟩,
    ⟨.addr (.tmp 3) 1, some 12, none⟩,
    ⟨.load none (.tmp 12), some 13, none⟩,
    ⟨.bin .neq (.tmp 11) (.tmp 13), some 14, none⟩])
  (.cond (.tmp 14) (.seq (.ops [⟨.mov (.const (.bool false)), some 4, none⟩])
  (.ret)) (.skip)))
  (.seq (.ops [⟨.mov (.const (.bool true)), some 4, none⟩])
  (.ret))))⟩
theorem ok_laws_eqReading : cmpF Try.prog Try.f73 = some c_laws_eqReading := by kernel_rfl

/- spec.l03Ok -/
def c_spec_l03Ok : FV := ⟨18, [.tmp 2],
  .seq (.ops [⟨.box 39 (.tmp 0), some 1, none⟩,
    ⟨.mov (.const (.bool false)), some 2, none⟩])
  (.seq (.ops [⟨.addr (.tmp 1) 0, some 3, none⟩,
    ⟨.load none (.tmp 3), some 4, none⟩,
    ⟨.convI .i64 (.tmp 4), some 5, none⟩,
    ⟨.call 106 [.tmp 5], some 6, none⟩,
    ⟨.mov (.tmp 6), some 7, none⟩,
    ⟨.addr (.tmp 1) 1, some 8, some (7, true)⟩,
    ⟨.load none (.tmp 8), some 9, some (7, true)⟩,
    ⟨.convI .i64 (.tmp 9), some 10, some (7, true)⟩,
    ⟨.call 106 [.tmp 10], some 11, some (7, true)⟩,
    ⟨.pick (.tmp 7) (.tmp 11) (.const (.bool false)), some 12, none⟩,
    ⟨.mov (.tmp 12), some 13, none⟩,
    ⟨.addr (.tmp 1) 2, some 14, some (13, true)⟩,
    ⟨.load none (.tmp 14), some 15, some (13, true)⟩,
    ⟨.call 107 [.tmp 15], some 16, some (13, true)⟩,
    ⟨.pick (.tmp 13) (.tmp 16) (.const (.bool false)), some 17, none⟩,
    ⟨.mov (.tmp 17), some 2, none⟩])
  (.ret))⟩
theorem ok_spec_l03Ok : cmpF Try.prog Try.f74 = some c_spec_l03Ok := by kernel_rfl

/- spec.l00In -/
def c_spec_l00In : FV := ⟨15, [.tmp 6],
  .seq (.ops [⟨.mov (.const (.bool false)), some 6, none⟩])
  (.seq (.ops [⟨.mov (.tmp 0), some 7, none⟩,
    ⟨.mov (.tmp 1), some 8, none⟩,
    ⟨.bin .geq (.tmp 7) (.tmp 8), some 9, none⟩,
    ⟨.mov (.tmp 9), some 10, none⟩,
    ⟨.mov (.tmp 0), some 11, some (10, true)⟩,
    ⟨.mov (.tmp 2), some 12, some (10, true)⟩,
    ⟨.bin .leq (.tmp 11) (.tmp 12), some 13, some (10, true)⟩,
    ⟨.pick (.tmp 10) (.tmp 13) (.const (.bool false)), some 14, none⟩,
    ⟨.mov (.tmp 14), some 6, none⟩])
  (.ret))⟩
theorem ok_spec_l00In : cmpF Try.prog Try.f75 = some c_spec_l00In := by kernel_rfl

end Go.Proofs.Ytngfhggdombdgaa

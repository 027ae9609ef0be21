/- The code of the Go functions in the generator's own form, printed by a program of mine (gen.py) out of the loaded program; each with the check that it is so. -/
import Derived.Test.YtainhignhmmhlaaVcFn
import Derived.Test.YtainhignhmmhlaaGeo
import Derived.Test.YtainhignhmmhlaaRows
import Derived.KernelRfl
namespace Go.Proofs.Ytainhignhmmhlaa
open Go Go.Fl Go.Vc
set_option linter.all false
set_option maxRecDepth 100000

/- slices.IndexFunc[[]int64,int64] -/
def c_slices_IndexFunc___int64_int64 : FV := ⟨19, [.tmp 4],
  .seq (.ops [⟨.mov (.const (.int .i64 0)), some 4, none⟩])
  (.seq (.seq (.ops [⟨.mov (.tmp 0), some 6, none⟩,
    ⟨.lenL (.tmp 6), some 7, none⟩,
    ⟨.mov (.const (.int .i64 0)), some 8, none⟩])
  (.block 0 (.loop (.seq (.ops [⟨.bin .lss (.tmp 8) (.tmp 7), some 9, none⟩])
  (.seq (.cond (.tmp 9) (.skip) (.exit 0))
  (.seq (.block 1 (.seq (.ops [⟨.mov (.tmp 8), some 10, none⟩,
    ⟨.mov (.tmp 10), some 5, none⟩])
  (.seq (.ops [⟨.mov (.tmp 1), some 11, none⟩,
    ⟨.mov (.tmp 0), some 12, none⟩,
    ⟨.mov (.tmp 5), some 13, none⟩,
    ⟨.idxS 1 (.tmp 12) (.tmp 13), some 14, none⟩,
    ⟨.load none (.tmp 14), some 15, none⟩,
    ⟨.callv (.tmp 11) [.tmp 15], some 16, none⟩])
  (.cond (.tmp 16) (.seq (.ops [⟨.mov (.tmp 5), some 17, none⟩,
    ⟨.mov (.tmp 17), some 4, none⟩])
  (.ret)) (.skip)))))
  (.ops [⟨.bin .add (.tmp 8) (.const (.int .i64 1)), some 18, none⟩,
    ⟨.mov (.tmp 18), some 8, none⟩])))))))
  (.seq (.ops [⟨.mov (.const (.int .i64 (-1))), some 4, none⟩])
  (.ret)))⟩
theorem ok_slices_IndexFunc___int64_int64 : cmpF Try.prog Try.f156 = some c_slices_IndexFunc___int64_int64 := by kernel_rfl

/- math.Abs -/
def c_math_Abs : FV := ⟨7, [.tmp 2],
  .seq (.ops [⟨.mov (.const (.float .f64 0)), some 2, none⟩])
  (.seq (.ops [⟨.mov (.tmp 0), some 3, none⟩,
    ⟨.f64bits (.tmp 3), some 4, none⟩,
    ⟨.bin .andNot (.tmp 4) (.const (.int .u64 9223372036854775808)), some 5, none⟩,
    ⟨.f64from (.tmp 5), some 6, none⟩,
    ⟨.mov (.tmp 6), some 2, none⟩])
  (.ret))⟩
theorem ok_math_Abs : cmpF Try.prog Try.f157 = some c_math_Abs := by kernel_rfl

/- math.Copysign -/
def c_math_Copysign : FV := ⟨13, [.tmp 4],
  .seq (.ops [⟨.mov (.const (.float .f64 0)), some 4, none⟩])
  (.seq (.ops [⟨.mov (.tmp 0), some 5, none⟩,
    ⟨.f64bits (.tmp 5), some 6, none⟩,
    ⟨.bin .andNot (.tmp 6) (.const (.int .u64 9223372036854775808)), some 7, none⟩,
    ⟨.mov (.tmp 1), some 8, none⟩,
    ⟨.f64bits (.tmp 8), some 9, none⟩,
    ⟨.bin .and (.tmp 9) (.const (.int .u64 9223372036854775808)), some 10, none⟩,
    ⟨.bin .or (.tmp 7) (.tmp 10), some 11, none⟩,
    ⟨.f64from (.tmp 11), some 12, none⟩,
    ⟨.mov (.tmp 12), some 4, none⟩])
  (.ret))⟩
theorem ok_math_Copysign : cmpF Try.prog Try.f159 = some c_math_Copysign := by kernel_rfl

/- math.trunc -/
def c_math_trunc : FV := ⟨26, [.tmp 2],
  .seq (.ops [⟨.mov (.const (.float .f64 0)), some 2, none⟩])
  (.seq (.seq (.ops [⟨.mov (.tmp 0), some 5, none⟩,
    ⟨.call 157 [.tmp 5], some 6, none⟩,
    ⟨.fbin .lss (.tmp 6) (.const (.float .f64 4607182418800017408)), some 7, none⟩])
  (.cond (.tmp 7) (.seq (.ops [⟨.mov (.tmp 0), some 8, none⟩,
    ⟨.call 159 [.const (.float .f64 0), .tmp 8], some 9, none⟩,
    ⟨.mov (.tmp 9), some 2, none⟩])
  (.ret)) (.skip)))
  (.seq (.ops [⟨.mov (.tmp 0), some 10, none⟩,
    ⟨.f64bits (.tmp 10), some 11, none⟩,
    ⟨.mov (.tmp 11), some 3, none⟩])
  (.seq (.ops [⟨.mov (.tmp 3), some 12, none⟩,
    ⟨.bin .shr (.tmp 12) (.const (.int .u64 52)), some 13, none⟩,
    ⟨.bin .and (.tmp 13) (.const (.int .u64 2047)), some 14, none⟩,
    ⟨.bin .sub (.tmp 14) (.const (.int .u64 1023)), some 15, none⟩,
    ⟨.mov (.tmp 15), some 4, none⟩])
  (.seq (.seq (.ops [⟨.mov (.tmp 4), some 16, none⟩,
    ⟨.bin .lss (.tmp 16) (.const (.int .u64 52)), some 17, none⟩])
  (.cond (.tmp 17) (.ops [⟨.mov (.tmp 3), some 18, none⟩,
    ⟨.mov (.tmp 4), some 19, none⟩,
    ⟨.bin .sub (.const (.int .u64 52)) (.tmp 19), some 20, none⟩,
    ⟨.bin .shl (.const (.int .u64 1)) (.tmp 20), some 21, none⟩,
    ⟨.bin .sub (.tmp 21) (.const (.int .u64 1)), some 22, none⟩,
    ⟨.bin .andNot (.tmp 18) (.tmp 22), some 23, none⟩,
    ⟨.mov (.tmp 23), some 3, none⟩]) (.skip)))
  (.seq (.ops [⟨.mov (.tmp 3), some 24, none⟩,
    ⟨.f64from (.tmp 24), some 25, none⟩,
    ⟨.mov (.tmp 25), some 2, none⟩])
  (.ret))))))⟩
theorem ok_math_trunc : cmpF Try.prog Try.f163 = some c_math_trunc := by kernel_rfl

end Go.Proofs.Ytainhignhmmhlaa

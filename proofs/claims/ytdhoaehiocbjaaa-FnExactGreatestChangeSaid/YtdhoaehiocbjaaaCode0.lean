/- The code of the Go functions in the generator's own form, printed by a program of mine (gen.py) out of the loaded program; each with the check that it is so. -/
import Derived.Test.YtdhoaehiocbjaaaVcFn
import Derived.Test.YtdhoaehiocbjaaaGeo
import Derived.Test.YtdhoaehiocbjaaaRows
import Derived.KernelRfl
namespace Go.Proofs.Ytdhoaehiocbjaaa
open Go Go.Fl Go.Vc
set_option linter.all false
set_option maxRecDepth 100000

/- laws.FnExactChangesBetween -/
def c_laws_FnExactChangesBetween : FV := ⟨34, [.tmp 4],
  .seq (.ops [⟨.box 27 (.tmp 0), some 2, none⟩,
    ⟨.box 27 (.tmp 1), some 3, none⟩,
    ⟨.mov (.const (.bool false)), some 4, none⟩])
  (.seq (.fops [⟨.load (some 195) (.tmp 2), some 10, none⟩,
    ⟨.call 6 [.tmp 10], some 11, none⟩,
    ⟨.load (some 195) (.tmp 3), some 12, none⟩,
    ⟨.call 6 [.tmp 12], some 13, none⟩,
    ⟨.call 5 [.tmp 11, .tmp 13], some 14, none⟩,
    ⟨.mov (.tmp 14), some 9, none⟩,
    ⟨.ext (.tmp 9) 0, some 15, none⟩,
    ⟨.ext (.tmp 9) 1, some 16, none⟩] ⟨.alloc 28 (.agg (fcells fz)), some 5, none⟩ [⟨.store 64 (.tmp 5) (.tmp 15), none, none⟩,
    ⟨.mov (.tmp 16), some 6, none⟩])
  (.seq (.fops [⟨.load (some 195) (.tmp 2), some 18, none⟩,
    ⟨.call 6 [.tmp 18], some 19, none⟩,
    ⟨.load (some 195) (.tmp 3), some 20, none⟩,
    ⟨.call 6 [.tmp 20], some 21, none⟩,
    ⟨.call 7 [.tmp 19, .tmp 21], some 22, none⟩,
    ⟨.mov (.tmp 22), some 17, none⟩,
    ⟨.ext (.tmp 17) 0, some 23, none⟩,
    ⟨.ext (.tmp 17) 1, some 24, none⟩] ⟨.alloc 28 (.agg (fcells fz)), some 7, none⟩ [⟨.store 64 (.tmp 7) (.tmp 23), none, none⟩,
    ⟨.mov (.tmp 24), some 8, none⟩])
  (.seq (.seq (.ops [⟨.load (some 64) (.tmp 7), some 25, none⟩,
    ⟨.load (some 64) (.tmp 5), some 26, none⟩,
    ⟨.call 8 [.tmp 25, .tmp 26], some 27, none⟩,
    ⟨.un .not (.tmp 27), some 28, none⟩,
    ⟨.mov (.tmp 28), some 29, none⟩,
    ⟨.mov (.tmp 8), some 30, some (29, false)⟩,
    ⟨.mov (.tmp 6), some 31, some (29, false)⟩,
    ⟨.bin .neq (.tmp 30) (.tmp 31), some 32, some (29, false)⟩,
    ⟨.pick (.tmp 29) (.const (.bool true)) (.tmp 32), some 33, none⟩])
  (.cond (.tmp 33) (.seq (.ops [⟨.mov (.const (.bool false)), some 4, none⟩])
  (.ret)) (.skip)))
  (.seq (.ops [⟨.mov (.const (.bool true)), some 4, none⟩])
  (.ret)))))⟩
theorem ok_laws_FnExactChangesBetween : cmpF Try.prog Try.f3 = some c_laws_FnExactChangesBetween := by kernel_rfl

/- laws.FnExactGreatestChange -/
def c_laws_FnExactGreatestChange : FV := ⟨45, [.tmp 4],
  .seq (.ops [⟨.box 27 (.tmp 0), some 2, none⟩,
    ⟨.box 27 (.tmp 1), some 3, none⟩,
    ⟨.mov (.const (.bool false)), some 4, none⟩])
  (.seq (.bops [⟨.load (some 195) (.tmp 2), some 12, none⟩,
    ⟨.call 6 [.tmp 12], some 13, none⟩,
    ⟨.load (some 195) (.tmp 3), some 14, none⟩,
    ⟨.call 6 [.tmp 14], some 15, none⟩,
    ⟨.call 9 [.tmp 13, .tmp 15], some 16, none⟩,
    ⟨.mov (.tmp 16), some 11, none⟩,
    ⟨.ext (.tmp 11) 0, some 17, none⟩,
    ⟨.ext (.tmp 11) 1, some 18, none⟩,
    ⟨.ext (.tmp 11) 2, some 19, none⟩,
    ⟨.mov (.tmp 17), some 5, none⟩,
    ⟨.mov (.tmp 18), some 6, none⟩,
    ⟨.mov (.tmp 19), some 7, none⟩])
  (.seq (.bops [⟨.load (some 195) (.tmp 2), some 21, none⟩,
    ⟨.call 6 [.tmp 21], some 22, none⟩,
    ⟨.load (some 195) (.tmp 3), some 23, none⟩,
    ⟨.call 6 [.tmp 23], some 24, none⟩,
    ⟨.call 10 [.tmp 22, .tmp 24], some 25, none⟩,
    ⟨.mov (.tmp 25), some 20, none⟩,
    ⟨.ext (.tmp 20) 0, some 26, none⟩,
    ⟨.ext (.tmp 20) 1, some 27, none⟩,
    ⟨.ext (.tmp 20) 2, some 28, none⟩,
    ⟨.mov (.tmp 26), some 8, none⟩,
    ⟨.mov (.tmp 27), some 9, none⟩,
    ⟨.mov (.tmp 28), some 10, none⟩])
  (.seq (.seq (.ops [⟨.mov (.tmp 8), some 29, none⟩,
    ⟨.mov (.tmp 5), some 30, none⟩,
    ⟨.bin .neq (.tmp 29) (.tmp 30), some 31, none⟩,
    ⟨.mov (.tmp 31), some 32, none⟩,
    ⟨.mov (.tmp 9), some 33, some (32, false)⟩,
    ⟨.convF .f64 (.tmp 33), some 34, some (32, false)⟩,
    ⟨.mov (.tmp 6), some 35, some (32, false)⟩,
    ⟨.convF .f64 (.tmp 35), some 36, some (32, false)⟩,
    ⟨.call 11 [.tmp 34, .tmp 36], some 37, some (32, false)⟩,
    ⟨.un .not (.tmp 37), some 38, some (32, false)⟩,
    ⟨.pick (.tmp 32) (.const (.bool true)) (.tmp 38), some 39, none⟩,
    ⟨.mov (.tmp 39), some 40, none⟩,
    ⟨.mov (.tmp 10), some 41, some (40, false)⟩,
    ⟨.mov (.tmp 7), some 42, some (40, false)⟩,
    ⟨.bin .neq (.tmp 41) (.tmp 42), some 43, some (40, false)⟩,
    ⟨.pick (.tmp 40) (.const (.bool true)) (.tmp 43), some 44, none⟩])
  (.cond (.tmp 44) (.seq (.ops [⟨.mov (.const (.bool false)), some 4, none⟩])
  (.ret)) (.skip)))
  (.seq (.ops [⟨.mov (.const (.bool true)), some 4, none⟩])
  (.ret)))))⟩
theorem ok_laws_FnExactGreatestChange : cmpF Try.prog Try.f4 = some c_laws_FnExactGreatestChange := by kernel_rfl

/- spec.ChangesBetween -/
def c_spec_ChangesBetween : FV := ⟨23, [.cell 4 (some 64), .tmp 5],
  .seq (.ops [⟨.box 32 (.tmp 0), some 2, none⟩,
    ⟨.box 32 (.tmp 1), some 3, none⟩,
    ⟨.alloc 28 (.agg (fcells fz)), some 4, none⟩,
    ⟨.mov (.const (.int .i64 0)), some 5, none⟩])
  (.seq (.seq (.ops [⟨.call 12 [.tmp 2], some 8, none⟩,
    ⟨.un .not (.tmp 8), some 9, none⟩,
    ⟨.mov (.tmp 9), some 10, none⟩,
    ⟨.call 12 [.tmp 3], some 11, some (10, false)⟩,
    ⟨.un .not (.tmp 11), some 12, some (10, false)⟩,
    ⟨.pick (.tmp 10) (.const (.bool true)) (.tmp 12), some 13, none⟩])
  (.cond (.tmp 13) (.seq (.ops [⟨.buildA 1 (fcells fz) [], some 14, none⟩,
    ⟨.store 64 (.tmp 4) (.tmp 14), none, none⟩,
    ⟨.mov (.const (.int .i64 1)), some 5, none⟩])
  (.ret)) (.skip)))
  (.seq (.ops [⟨.call 13 [.tmp 2, .tmp 3], some 16, none⟩,
    ⟨.mov (.tmp 16), some 15, none⟩,
    ⟨.ext (.tmp 15) 0, some 17, none⟩,
    ⟨.ext (.tmp 15) 1, some 18, none⟩,
    ⟨.alloc 28 (.agg (fcells fz)), some 6, none⟩,
    ⟨.store 64 (.tmp 6) (.tmp 17), none, none⟩,
    ⟨.mov (.tmp 18), some 7, none⟩])
  (.seq (.seq (.ops [⟨.mov (.tmp 7), some 19, none⟩,
    ⟨.un .not (.tmp 19), some 20, none⟩])
  (.cond (.tmp 20) (.seq (.ops [⟨.buildA 1 (fcells fz) [], some 21, none⟩,
    ⟨.store 64 (.tmp 4) (.tmp 21), none, none⟩,
    ⟨.mov (.const (.int .i64 4)), some 5, none⟩])
  (.ret)) (.skip)))
  (.seq (.ops [⟨.load (some 64) (.tmp 6), some 22, none⟩,
    ⟨.store 64 (.tmp 4) (.tmp 22), none, none⟩,
    ⟨.mov (.const (.int .i64 0)), some 5, none⟩])
  (.ret)))))⟩
theorem ok_spec_ChangesBetween : cmpF Try.prog Try.f5 = some c_spec_ChangesBetween := by kernel_rfl

/- laws.toGround -/
def c_laws_toGround : FV := ⟨26, [.cell 2 (some 195)],
  .seq (.ops [⟨.box 27 (.tmp 0), some 1, none⟩,
    ⟨.alloc 32 (.agg (gcells gz)), some 2, none⟩])
  (.seq (.ops [⟨.alloc 32 (.agg (gcells gz)), some 3, none⟩])
  (.seq (.ops [⟨.addr (.tmp 1) 0, some 4, none⟩,
    ⟨.load none (.tmp 4), some 5, none⟩,
    ⟨.addr (.tmp 3) 0, some 6, none⟩,
    ⟨.store 1 (.tmp 6) (.tmp 5), none, none⟩])
  (.seq (.ops [⟨.addr (.tmp 1) 1, some 7, none⟩,
    ⟨.load none (.tmp 7), some 8, none⟩,
    ⟨.addr (.tmp 3) 1, some 9, none⟩,
    ⟨.store 1 (.tmp 9) (.tmp 8), none, none⟩])
  (.seq (.ops [⟨.addr (.tmp 1) 2, some 10, none⟩,
    ⟨.load (some 64) (.tmp 10), some 11, none⟩,
    ⟨.call 14 [.tmp 11], some 12, none⟩,
    ⟨.addr (.tmp 3) 2, some 13, none⟩,
    ⟨.store 64 (.tmp 13) (.tmp 12), none, none⟩])
  (.seq (.ops [⟨.addr (.tmp 1) 66, some 14, none⟩,
    ⟨.load (some 64) (.tmp 14), some 15, none⟩,
    ⟨.call 14 [.tmp 15], some 16, none⟩,
    ⟨.addr (.tmp 3) 66, some 17, none⟩,
    ⟨.store 64 (.tmp 17) (.tmp 16), none, none⟩])
  (.seq (.ops [⟨.addr (.tmp 1) 130, some 18, none⟩,
    ⟨.load (some 64) (.tmp 18), some 19, none⟩,
    ⟨.call 14 [.tmp 19], some 20, none⟩,
    ⟨.addr (.tmp 3) 130, some 21, none⟩,
    ⟨.store 64 (.tmp 21) (.tmp 20), none, none⟩])
  (.seq (.ops [⟨.addr (.tmp 1) 194, some 22, none⟩,
    ⟨.load none (.tmp 22), some 23, none⟩,
    ⟨.addr (.tmp 3) 194, some 24, none⟩,
    ⟨.store 1 (.tmp 24) (.tmp 23), none, none⟩])
  (.seq (.ops [⟨.load (some 195) (.tmp 3), some 25, none⟩,
    ⟨.store 195 (.tmp 2) (.tmp 25), none, none⟩])
  (.ret)))))))))⟩
theorem ok_laws_toGround : cmpF Try.prog Try.f6 = some c_laws_toGround := by kernel_rfl

/- impl.ChangesBetween -/
def c_impl_ChangesBetween : FV := ⟨59, [.cell 4 (some 64), .tmp 5],
  .seq (.ops [⟨.box 32 (.tmp 0), some 2, none⟩,
    ⟨.box 32 (.tmp 1), some 3, none⟩,
    ⟨.alloc 28 (.agg (fcells fz)), some 4, none⟩,
    ⟨.mov (.const (.int .i64 0)), some 5, none⟩])
  (.seq (.block 0 (.seq (.ops [⟨.load (some 195) (.tmp 2), some 10, none⟩,
    ⟨.call 15 [.tmp 10], some 11, none⟩,
    ⟨.un .not (.tmp 11), some 12, none⟩,
    ⟨.mov (.tmp 12), some 13, none⟩,
    ⟨.load (some 195) (.tmp 3), some 14, some (13, false)⟩,
    ⟨.call 15 [.tmp 14], some 15, some (13, false)⟩,
    ⟨.un .not (.tmp 15), some 16, some (13, false)⟩,
    ⟨.pick (.tmp 13) (.const (.bool true)) (.tmp 16), some 17, none⟩,
    ⟨.mov (.tmp 17), some 9, none⟩])
  (.cond (.tmp 9) (.seq (.ops [⟨.buildA 1 (fcells fz) [], some 18, none⟩,
    ⟨.store 64 (.tmp 4) (.tmp 18), none, none⟩,
    ⟨.mov (.const (.int .i64 1)), some 5, none⟩])
  (.ret)) (.seq (.ops [⟨.addr (.tmp 2) 0, some 20, none⟩,
    ⟨.load none (.tmp 20), some 21, none⟩,
    ⟨.addr (.tmp 3) 0, some 22, none⟩,
    ⟨.load none (.tmp 22), some 23, none⟩,
    ⟨.bin .neq (.tmp 21) (.tmp 23), some 24, none⟩,
    ⟨.mov (.tmp 24), some 25, none⟩,
    ⟨.addr (.tmp 2) 1, some 26, some (25, false)⟩,
    ⟨.load none (.tmp 26), some 27, some (25, false)⟩,
    ⟨.addr (.tmp 3) 1, some 28, some (25, false)⟩,
    ⟨.load none (.tmp 28), some 29, some (25, false)⟩,
    ⟨.bin .neq (.tmp 27) (.tmp 29), some 30, some (25, false)⟩,
    ⟨.pick (.tmp 25) (.const (.bool true)) (.tmp 30), some 31, none⟩,
    ⟨.mov (.tmp 31), some 19, none⟩])
  (.cond (.tmp 19) (.seq (.ops [⟨.buildA 1 (fcells fz) [], some 32, none⟩,
    ⟨.store 64 (.tmp 4) (.tmp 32), none, none⟩,
    ⟨.mov (.const (.int .i64 4)), some 5, none⟩])
  (.ret)) (.skip))))))
  (.seq (.ops [⟨.buildA 1 (fcells fz) [], some 33, none⟩,
    ⟨.alloc 28 (.agg (fcells fz)), some 6, none⟩,
    ⟨.store 64 (.tmp 6) (.tmp 33), none, none⟩])
  (.seq (.seq (.ops [⟨.call 16 [.tmp 2], some 34, none⟩,
    ⟨.lenL (.tmp 34), some 35, none⟩,
    ⟨.mov (.const (.int .i64 0)), some 36, none⟩])
  (.block 1 (.loop (.seq (.ops [⟨.bin .lss (.tmp 36) (.tmp 35), some 37, none⟩])
  (.seq (.cond (.tmp 37) (.skip) (.exit 1))
  (.seq (.block 2 (.seq (.ops [⟨.idxS 1 (.tmp 34) (.tmp 36), some 38, none⟩,
    ⟨.load none (.tmp 38), some 39, none⟩,
    ⟨.mov (.tmp 39), some 8, none⟩])
  (.seq (.ops [⟨.mov (.tmp 8), some 40, none⟩,
    ⟨.mov (.tmp 8), some 41, none⟩,
    ⟨.addr (.tmp 3) 130, some 42, none⟩,
    ⟨.idxA 64 1 (.tmp 42) (.tmp 41), some 43, none⟩,
    ⟨.load none (.tmp 43), some 44, none⟩,
    ⟨.mov (.tmp 8), some 45, none⟩,
    ⟨.addr (.tmp 2) 130, some 46, none⟩,
    ⟨.idxA 64 1 (.tmp 46) (.tmp 45), some 47, none⟩,
    ⟨.load none (.tmp 47), some 48, none⟩,
    ⟨.fbin .sub (.tmp 44) (.tmp 48), some 49, none⟩,
    ⟨.idxA 64 1 (.tmp 6) (.tmp 40), some 50, none⟩,
    ⟨.store 1 (.tmp 50) (.tmp 49), none, none⟩])
  (.seq (.ops [⟨.mov (.tmp 8), some 51, none⟩,
    ⟨.idxA 64 1 (.tmp 6) (.tmp 51), some 52, none⟩,
    ⟨.load none (.tmp 52), some 53, none⟩,
    ⟨.call 17 [.tmp 53], some 54, none⟩,
    ⟨.un .not (.tmp 54), some 55, none⟩])
  (.cond (.tmp 55) (.seq (.ops [⟨.buildA 1 (fcells fz) [], some 56, none⟩,
    ⟨.store 64 (.tmp 4) (.tmp 56), none, none⟩,
    ⟨.mov (.const (.int .i64 4)), some 5, none⟩])
  (.ret)) (.skip))))))
  (.ops [⟨.bin .add (.tmp 36) (.const (.int .i64 1)), some 57, none⟩,
    ⟨.mov (.tmp 57), some 36, none⟩])))))))
  (.seq (.ops [⟨.load (some 64) (.tmp 6), some 58, none⟩,
    ⟨.store 64 (.tmp 4) (.tmp 58), none, none⟩,
    ⟨.mov (.const (.int .i64 0)), some 5, none⟩])
  (.ret)))))⟩
theorem ok_impl_ChangesBetween : cmpF Try.prog Try.f7 = some c_impl_ChangesBetween := by kernel_rfl

/- laws.eqField -/
def c_laws_eqField : FV := ⟨20, [.tmp 4],
  .seq (.ops [⟨.box 28 (.tmp 0), some 2, none⟩,
    ⟨.box 28 (.tmp 1), some 3, none⟩,
    ⟨.mov (.const (.bool false)), some 4, none⟩])
  (.seq (.seq (.ops [⟨.mov (.const (.int .i64 0)), some 5, none⟩])
  (.block 0 (.loop (.seq (.seq (.ops [⟨.mov (.tmp 5), some 6, none⟩,
    ⟨.bin .lss (.tmp 6) (.const (.int .i64 64)), some 7, none⟩])
  (.cond (.tmp 7) (.skip) (.exit 0)))
  (.seq (.block 1 (.seq (.dops [⟨.mov (.tmp 5), some 10, none⟩,
    ⟨.idxA 64 1 (.tmp 2) (.tmp 10), some 11, none⟩,
    ⟨.load none (.tmp 11), some 12, none⟩,
    ⟨.convF .f64 (.tmp 12), some 13, none⟩,
    ⟨.mov (.tmp 5), some 14, none⟩,
    ⟨.idxA 64 1 (.tmp 3) (.tmp 14), some 15, none⟩,
    ⟨.load none (.tmp 15), some 16, none⟩,
    ⟨.convF .f64 (.tmp 16), some 17, none⟩,
    ⟨.call 11 [.tmp 13, .tmp 17], some 18, none⟩,
    ⟨.un .not (.tmp 18), some 19, none⟩])
  (.cond (.tmp 19) (.seq (.ops [⟨.mov (.const (.bool false)), some 4, none⟩])
  (.ret)) (.skip))))
  (.ops [⟨.mov (.tmp 5), some 8, none⟩,
    ⟨.bin .add (.tmp 8) (.const (.int .i64 1)), some 9, none⟩,
    ⟨.mov (.tmp 9), some 5, none⟩]))))))
  (.seq (.ops [⟨.mov (.const (.bool true)), some 4, none⟩])
  (.ret)))⟩
theorem ok_laws_eqField : cmpF Try.prog Try.f8 = some c_laws_eqField := by kernel_rfl

/- spec.GreatestChange -/
def c_spec_GreatestChange : FV := ⟨42, [.tmp 4, .tmp 5, .tmp 6],
  .seq (.ops [⟨.box 32 (.tmp 0), some 2, none⟩,
    ⟨.box 32 (.tmp 1), some 3, none⟩,
    ⟨.mov (.const (.int .i64 0)), some 4, none⟩,
    ⟨.mov (.const (.float .f32 0)), some 5, none⟩,
    ⟨.mov (.const (.int .i64 0)), some 6, none⟩])
  (.seq (.ops [⟨.load (some 195) (.tmp 2), some 12, none⟩,
    ⟨.load (some 195) (.tmp 3), some 13, none⟩,
    ⟨.call 5 [.tmp 12, .tmp 13], some 14, none⟩,
    ⟨.mov (.tmp 14), some 11, none⟩,
    ⟨.ext (.tmp 11) 0, some 15, none⟩,
    ⟨.ext (.tmp 11) 1, some 16, none⟩,
    ⟨.alloc 28 (.agg (fcells fz)), some 7, none⟩,
    ⟨.store 64 (.tmp 7) (.tmp 15), none, none⟩,
    ⟨.mov (.tmp 16), some 8, none⟩])
  (.seq (.seq (.ops [⟨.mov (.tmp 8), some 17, none⟩,
    ⟨.bin .neq (.tmp 17) (.const (.int .i64 0)), some 18, none⟩])
  (.cond (.tmp 18) (.seq (.ops [⟨.mov (.tmp 8), some 19, none⟩,
    ⟨.mov (.const (.int .i64 0)), some 4, none⟩,
    ⟨.mov (.const (.float .f32 0)), some 5, none⟩,
    ⟨.mov (.tmp 19), some 6, none⟩])
  (.ret)) (.skip)))
  (.seq (.ops [⟨.mov (.const (.int .i64 0)), some 9, none⟩])
  (.seq (.seq (.ops [⟨.mov (.const (.int .i64 1)), some 10, none⟩])
  (.block 0 (.loop (.seq (.seq (.ops [⟨.mov (.tmp 10), some 20, none⟩,
    ⟨.bin .lss (.tmp 20) (.const (.int .i64 64)), some 21, none⟩])
  (.cond (.tmp 21) (.skip) (.exit 0)))
  (.seq (.block 1 (.seq (.bops [⟨.mov (.tmp 10), some 24, none⟩,
    ⟨.call 18 [.tmp 2, .tmp 24], some 25, none⟩,
    ⟨.mov (.tmp 25), some 26, none⟩,
    ⟨.mov (.tmp 10), some 27, some (26, true)⟩,
    ⟨.idxA 64 1 (.tmp 7) (.tmp 27), some 28, some (26, true)⟩,
    ⟨.load none (.tmp 28), some 29, some (26, true)⟩,
    ⟨.call 19 [.tmp 29], some 30, some (26, true)⟩,
    ⟨.mov (.tmp 9), some 31, some (26, true)⟩,
    ⟨.idxA 64 1 (.tmp 7) (.tmp 31), some 32, some (26, true)⟩,
    ⟨.load none (.tmp 32), some 33, some (26, true)⟩,
    ⟨.call 19 [.tmp 33], some 34, some (26, true)⟩,
    ⟨.fbin .gtr (.tmp 30) (.tmp 34), some 35, some (26, true)⟩,
    ⟨.pick (.tmp 26) (.tmp 35) (.const (.bool false)), some 36, none⟩])
  (.cond (.tmp 36) (.ops [⟨.mov (.tmp 10), some 37, none⟩,
    ⟨.mov (.tmp 37), some 9, none⟩]) (.skip))))
  (.ops [⟨.mov (.tmp 10), some 22, none⟩,
    ⟨.bin .add (.tmp 22) (.const (.int .i64 1)), some 23, none⟩,
    ⟨.mov (.tmp 23), some 10, none⟩]))))))
  (.seq (.ops [⟨.mov (.tmp 9), some 38, none⟩,
    ⟨.mov (.tmp 9), some 39, none⟩,
    ⟨.idxA 64 1 (.tmp 7) (.tmp 39), some 40, none⟩,
    ⟨.load none (.tmp 40), some 41, none⟩,
    ⟨.mov (.tmp 38), some 4, none⟩,
    ⟨.mov (.tmp 41), some 5, none⟩,
    ⟨.mov (.const (.int .i64 0)), some 6, none⟩])
  (.ret))))))⟩
theorem ok_spec_GreatestChange : cmpF Try.prog Try.f9 = some c_spec_GreatestChange := by kernel_rfl

/- impl.GreatestChange -/
def c_impl_GreatestChange : FV := ⟨25, [.tmp 4, .tmp 5, .tmp 6],
  .seq (.ops [⟨.box 32 (.tmp 0), some 2, none⟩,
    ⟨.box 32 (.tmp 1), some 3, none⟩,
    ⟨.mov (.const (.int .i64 0)), some 4, none⟩,
    ⟨.mov (.const (.float .f32 0)), some 5, none⟩,
    ⟨.mov (.const (.int .i64 0)), some 6, none⟩])
  (.seq (.ops [⟨.load (some 195) (.tmp 2), some 11, none⟩,
    ⟨.load (some 195) (.tmp 3), some 12, none⟩,
    ⟨.call 7 [.tmp 11, .tmp 12], some 13, none⟩,
    ⟨.mov (.tmp 13), some 10, none⟩,
    ⟨.ext (.tmp 10) 0, some 14, none⟩,
    ⟨.ext (.tmp 10) 1, some 15, none⟩,
    ⟨.alloc 28 (.agg (fcells fz)), some 7, none⟩,
    ⟨.store 64 (.tmp 7) (.tmp 14), none, none⟩,
    ⟨.mov (.tmp 15), some 8, none⟩])
  (.seq (.seq (.ops [⟨.mov (.tmp 8), some 16, none⟩,
    ⟨.bin .neq (.tmp 16) (.const (.int .i64 0)), some 17, none⟩])
  (.cond (.tmp 17) (.seq (.ops [⟨.mov (.tmp 8), some 18, none⟩,
    ⟨.mov (.const (.int .i64 0)), some 4, none⟩,
    ⟨.mov (.const (.float .f32 0)), some 5, none⟩,
    ⟨.mov (.tmp 18), some 6, none⟩])
  (.ret)) (.skip)))
  (.seq (.ops [⟨.call 16 [.tmp 2], some 19, none⟩,
    ⟨.call 20 [.tmp 19, .tmp 7], some 20, none⟩,
    ⟨.mov (.tmp 20), some 9, none⟩])
  (.seq (.ops [⟨.mov (.tmp 9), some 21, none⟩,
    ⟨.mov (.tmp 9), some 22, none⟩,
    ⟨.idxA 64 1 (.tmp 7) (.tmp 22), some 23, none⟩,
    ⟨.load none (.tmp 23), some 24, none⟩,
    ⟨.mov (.tmp 21), some 4, none⟩,
    ⟨.mov (.tmp 24), some 5, none⟩,
    ⟨.mov (.const (.int .i64 0)), some 6, none⟩])
  (.ret)))))⟩
theorem ok_impl_GreatestChange : cmpF Try.prog Try.f10 = some c_impl_GreatestChange := by kernel_rfl

/- laws.sameFloat -/
def c_laws_sameFloat : FV := ⟨37, [.tmp 4],
  .seq (.ops [⟨.mov (.const (.bool false)), some 4, none⟩])
  (.seq (.seq (.ops [⟨.mov (.tmp 0), some 5, none⟩,
    ⟨.mov (.tmp 0), some 6, none⟩,
    ⟨.fbin .neq (.tmp 5) (.tmp 6), some 7, none⟩,
    ⟨.mov (.tmp 7), some 8, none⟩,
    ⟨.mov (.tmp 1), some 9, some (8, false)⟩,
    ⟨.mov (.tmp 1), some 10, some (8, false)⟩,
    ⟨.fbin .neq (.tmp 9) (.tmp 10), some 11, some (8, false)⟩,
    ⟨.pick (.tmp 8) (.const (.bool true)) (.tmp 11), some 12, none⟩])
  (.cond (.tmp 12) (.seq (.ops [⟨.mov (.tmp 0), some 13, none⟩,
    ⟨.mov (.tmp 0), some 14, none⟩,
    ⟨.fbin .neq (.tmp 13) (.tmp 14), some 15, none⟩,
    ⟨.mov (.tmp 15), some 16, none⟩,
    ⟨.mov (.tmp 1), some 17, some (16, true)⟩,
    ⟨.mov (.tmp 1), some 18, some (16, true)⟩,
    ⟨.fbin .neq (.tmp 17) (.tmp 18), some 19, some (16, true)⟩,
    ⟨.pick (.tmp 16) (.tmp 19) (.const (.bool false)), some 20, none⟩,
    ⟨.mov (.tmp 20), some 4, none⟩])
  (.ret)) (.skip)))
  (.seq (.seq (.ops [⟨.mov (.tmp 0), some 21, none⟩,
    ⟨.fbin .eql (.tmp 21) (.const (.float .f64 0)), some 22, none⟩,
    ⟨.mov (.tmp 22), some 23, none⟩,
    ⟨.mov (.tmp 1), some 24, some (23, true)⟩,
    ⟨.fbin .eql (.tmp 24) (.const (.float .f64 0)), some 25, some (23, true)⟩,
    ⟨.pick (.tmp 23) (.tmp 25) (.const (.bool false)), some 26, none⟩])
  (.cond (.tmp 26) (.seq (.ops [⟨.mov (.tmp 0), some 27, none⟩,
    ⟨.fbin .quo (.const (.float .f64 4607182418800017408)) (.tmp 27), some 28, none⟩,
    ⟨.fbin .gtr (.tmp 28) (.const (.float .f64 0)), some 29, none⟩,
    ⟨.mov (.tmp 1), some 30, none⟩,
    ⟨.fbin .quo (.const (.float .f64 4607182418800017408)) (.tmp 30), some 31, none⟩,
    ⟨.fbin .gtr (.tmp 31) (.const (.float .f64 0)), some 32, none⟩,
    ⟨.beq false (.tmp 29) (.tmp 32), some 33, none⟩,
    ⟨.mov (.tmp 33), some 4, none⟩])
  (.ret)) (.skip)))
  (.seq (.ops [⟨.mov (.tmp 0), some 34, none⟩,
    ⟨.mov (.tmp 1), some 35, none⟩,
    ⟨.fbin .eql (.tmp 34) (.tmp 35), some 36, none⟩,
    ⟨.mov (.tmp 36), some 4, none⟩])
  (.ret))))⟩
theorem ok_laws_sameFloat : cmpF Try.prog Try.f11 = some c_laws_sameFloat := by kernel_rfl

/- spec.l01Ok -/
def c_spec_l01Ok : FV := ⟨68, [.tmp 2],
  .seq (.ops [⟨.mov (.const (.bool false)), some 2, none⟩])
  (.seq (.seq (.ops [⟨.mov (.tmp 0), some 4, none⟩,
    ⟨.nilc (.tmp 4), some 5, none⟩,
    ⟨.addr (.tmp 5) 0, some 6, none⟩,
    ⟨.load none (.tmp 6), some 7, none⟩,
    ⟨.convI .i64 (.tmp 7), some 8, none⟩,
    ⟨.call 21 [.tmp 8, .const (.int .i64 2), .const (.int .i64 8)], some 9, none⟩,
    ⟨.un .not (.tmp 9), some 10, none⟩,
    ⟨.mov (.tmp 10), some 11, none⟩,
    ⟨.mov (.tmp 0), some 12, some (11, false)⟩,
    ⟨.nilc (.tmp 12), some 13, some (11, false)⟩,
    ⟨.addr (.tmp 13) 1, some 14, some (11, false)⟩,
    ⟨.load none (.tmp 14), some 15, some (11, false)⟩,
    ⟨.convI .i64 (.tmp 15), some 16, some (11, false)⟩,
    ⟨.call 21 [.tmp 16, .const (.int .i64 2), .const (.int .i64 8)], some 17, some (11, false)⟩,
    ⟨.un .not (.tmp 17), some 18, some (11, false)⟩,
    ⟨.pick (.tmp 11) (.const (.bool true)) (.tmp 18), some 19, none⟩])
  (.cond (.tmp 19) (.seq (.ops [⟨.mov (.const (.bool false)), some 2, none⟩])
  (.ret)) (.skip)))
  (.seq (.seq (.ops [⟨.mov (.tmp 0), some 20, none⟩,
    ⟨.mov (.tmp 0), some 21, none⟩,
    ⟨.nilc (.tmp 21), some 22, none⟩,
    ⟨.addr (.tmp 22) 2, some 23, none⟩,
    ⟨.call 22 [.tmp 20, .tmp 23], some 24, none⟩,
    ⟨.un .not (.tmp 24), some 25, none⟩,
    ⟨.mov (.tmp 25), some 26, none⟩,
    ⟨.mov (.tmp 0), some 27, some (26, false)⟩,
    ⟨.mov (.tmp 0), some 28, some (26, false)⟩,
    ⟨.nilc (.tmp 28), some 29, some (26, false)⟩,
    ⟨.addr (.tmp 29) 66, some 30, some (26, false)⟩,
    ⟨.call 22 [.tmp 27, .tmp 30], some 31, some (26, false)⟩,
    ⟨.un .not (.tmp 31), some 32, some (26, false)⟩,
    ⟨.pick (.tmp 26) (.const (.bool true)) (.tmp 32), some 33, none⟩,
    ⟨.mov (.tmp 33), some 34, none⟩,
    ⟨.mov (.tmp 0), some 35, some (34, false)⟩,
    ⟨.mov (.tmp 0), some 36, some (34, false)⟩,
    ⟨.nilc (.tmp 36), some 37, some (34, false)⟩,
    ⟨.addr (.tmp 37) 130, some 38, some (34, false)⟩,
    ⟨.call 22 [.tmp 35, .tmp 38], some 39, some (34, false)⟩,
    ⟨.un .not (.tmp 39), some 40, some (34, false)⟩,
    ⟨.pick (.tmp 34) (.const (.bool true)) (.tmp 40), some 41, none⟩])
  (.cond (.tmp 41) (.seq (.ops [⟨.mov (.const (.bool false)), some 2, none⟩])
  (.ret)) (.skip)))
  (.seq (.seq (.ops [⟨.mov (.const (.int .i64 0)), some 3, none⟩])
  (.block 0 (.loop (.seq (.seq (.ops [⟨.mov (.tmp 3), some 42, none⟩,
    ⟨.bin .lss (.tmp 42) (.const (.int .i64 64)), some 43, none⟩])
  (.cond (.tmp 43) (.skip) (.exit 0)))
  (.seq (.block 1 (.seq (.ops [⟨.mov (.tmp 0), some 46, none⟩,
    ⟨.mov (.tmp 3), some 47, none⟩,
    ⟨.nilc (.tmp 46), some 48, none⟩,
    ⟨.addr (.tmp 48) 2, some 49, none⟩,
    ⟨.idxA 64 1 (.tmp 49) (.tmp 47), some 50, none⟩,
    ⟨.load none (.tmp 50), some 51, none⟩,
    ⟨.fbin .lss (.tmp 51) (.const (.float .f32 0)), some 52, none⟩])
  (.cond (.tmp 52) (.seq (.ops [⟨.mov (.const (.bool false)), some 2, none⟩])
  (.ret)) (.skip))))
  (.ops [⟨.mov (.tmp 3), some 44, none⟩,
    ⟨.bin .add (.tmp 44) (.const (.int .i64 1)), some 45, none⟩,
    ⟨.mov (.tmp 45), some 3, none⟩]))))))
  (.seq (.bops [⟨.mov (.tmp 0), some 53, none⟩,
    ⟨.nilc (.tmp 53), some 54, none⟩,
    ⟨.addr (.tmp 54) 194, some 55, none⟩,
    ⟨.load none (.tmp 55), some 56, none⟩,
    ⟨.bin .neq (.tmp 56) (.const (.int .u64 0)), some 57, none⟩,
    ⟨.mov (.tmp 57), some 58, none⟩,
    ⟨.mov (.tmp 0), some 59, some (58, true)⟩,
    ⟨.nilc (.tmp 59), some 60, some (58, true)⟩,
    ⟨.addr (.tmp 60) 194, some 61, some (58, true)⟩,
    ⟨.load none (.tmp 61), some 62, some (58, true)⟩,
    ⟨.mov (.tmp 0), some 63, some (58, true)⟩,
    ⟨.call 23 [.tmp 63], some 64, some (58, true)⟩,
    ⟨.bin .andNot (.tmp 62) (.tmp 64), some 65, some (58, true)⟩,
    ⟨.bin .eql (.tmp 65) (.const (.int .u64 0)), some 66, some (58, true)⟩,
    ⟨.pick (.tmp 58) (.tmp 66) (.const (.bool false)), some 67, none⟩,
    ⟨.mov (.tmp 67), some 2, none⟩])
  (.ret)))))⟩
theorem ok_spec_l01Ok : cmpF Try.prog Try.f12 = some c_spec_l01Ok := by kernel_rfl

/- spec.l02Changes -/
def c_spec_l02Changes : FV := ⟨53, [.cell 4 (some 64), .tmp 5],
  .seq (.ops [⟨.alloc 28 (.agg (fcells fz)), some 4, none⟩,
    ⟨.mov (.const (.bool false)), some 5, none⟩])
  (.seq (.ops [⟨.buildA 1 (fcells fz) [], some 8, none⟩,
    ⟨.alloc 28 (.agg (fcells fz)), some 6, none⟩,
    ⟨.store 64 (.tmp 6) (.tmp 8), none, none⟩])
  (.seq (.seq (.ops [⟨.mov (.tmp 0), some 9, none⟩,
    ⟨.nilc (.tmp 9), some 10, none⟩,
    ⟨.addr (.tmp 10) 0, some 11, none⟩,
    ⟨.load none (.tmp 11), some 12, none⟩,
    ⟨.mov (.tmp 1), some 13, none⟩,
    ⟨.nilc (.tmp 13), some 14, none⟩,
    ⟨.addr (.tmp 14) 0, some 15, none⟩,
    ⟨.load none (.tmp 15), some 16, none⟩,
    ⟨.bin .neq (.tmp 12) (.tmp 16), some 17, none⟩,
    ⟨.mov (.tmp 17), some 18, none⟩,
    ⟨.mov (.tmp 0), some 19, some (18, false)⟩,
    ⟨.nilc (.tmp 19), some 20, some (18, false)⟩,
    ⟨.addr (.tmp 20) 1, some 21, some (18, false)⟩,
    ⟨.load none (.tmp 21), some 22, some (18, false)⟩,
    ⟨.mov (.tmp 1), some 23, some (18, false)⟩,
    ⟨.nilc (.tmp 23), some 24, some (18, false)⟩,
    ⟨.addr (.tmp 24) 1, some 25, some (18, false)⟩,
    ⟨.load none (.tmp 25), some 26, some (18, false)⟩,
    ⟨.bin .neq (.tmp 22) (.tmp 26), some 27, some (18, false)⟩,
    ⟨.pick (.tmp 18) (.const (.bool true)) (.tmp 27), some 28, none⟩])
  (.cond (.tmp 28) (.seq (.ops [⟨.load (some 64) (.tmp 6), some 29, none⟩,
    ⟨.store 64 (.tmp 4) (.tmp 29), none, none⟩,
    ⟨.mov (.const (.bool false)), some 5, none⟩])
  (.ret)) (.skip)))
  (.seq (.seq (.ops [⟨.mov (.const (.int .i64 0)), some 7, none⟩])
  (.block 0 (.loop (.seq (.seq (.ops [⟨.mov (.tmp 7), some 30, none⟩,
    ⟨.bin .lss (.tmp 30) (.const (.int .i64 64)), some 31, none⟩])
  (.cond (.tmp 31) (.skip) (.exit 0)))
  (.seq (.block 1 (.seq (.ops [⟨.mov (.tmp 0), some 34, none⟩,
    ⟨.mov (.tmp 7), some 35, none⟩,
    ⟨.call 18 [.tmp 34, .tmp 35], some 36, none⟩])
  (.cond (.tmp 36) (.ops [⟨.mov (.tmp 7), some 37, none⟩,
    ⟨.mov (.tmp 1), some 38, none⟩,
    ⟨.mov (.tmp 7), some 39, none⟩,
    ⟨.nilc (.tmp 38), some 40, none⟩,
    ⟨.addr (.tmp 40) 130, some 41, none⟩,
    ⟨.idxA 64 1 (.tmp 41) (.tmp 39), some 42, none⟩,
    ⟨.load none (.tmp 42), some 43, none⟩,
    ⟨.mov (.tmp 0), some 44, none⟩,
    ⟨.mov (.tmp 7), some 45, none⟩,
    ⟨.nilc (.tmp 44), some 46, none⟩,
    ⟨.addr (.tmp 46) 130, some 47, none⟩,
    ⟨.idxA 64 1 (.tmp 47) (.tmp 45), some 48, none⟩,
    ⟨.load none (.tmp 48), some 49, none⟩,
    ⟨.fbin .sub (.tmp 43) (.tmp 49), some 50, none⟩,
    ⟨.idxA 64 1 (.tmp 6) (.tmp 37), some 51, none⟩,
    ⟨.store 1 (.tmp 51) (.tmp 50), none, none⟩]) (.skip))))
  (.ops [⟨.mov (.tmp 7), some 32, none⟩,
    ⟨.bin .add (.tmp 32) (.const (.int .i64 1)), some 33, none⟩,
    ⟨.mov (.tmp 33), some 7, none⟩]))))))
  (.seq (.ops [⟨.load (some 64) (.tmp 6), some 52, none⟩,
    ⟨.store 64 (.tmp 4) (.tmp 52), none, none⟩,
    ⟨.mov (.const (.bool true)), some 5, none⟩])
  (.ret)))))⟩
theorem ok_spec_l02Changes : cmpF Try.prog Try.f13 = some c_spec_l02Changes := by kernel_rfl

/- laws.toField -/
def c_laws_toField : FV := ⟨15, [.cell 2 (some 64)],
  .seq (.ops [⟨.box 24 (.tmp 0), some 1, none⟩,
    ⟨.alloc 28 (.agg (fcells fz)), some 2, none⟩])
  (.seq (.ops [⟨.alloc 28 (.agg (fcells fz)), some 3, none⟩])
  (.seq (.seq (.ops [⟨.mov (.const (.int .i64 0)), some 4, none⟩])
  (.block 0 (.loop (.seq (.seq (.ops [⟨.mov (.tmp 4), some 5, none⟩,
    ⟨.bin .lss (.tmp 5) (.const (.int .i64 64)), some 6, none⟩])
  (.cond (.tmp 6) (.skip) (.exit 0)))
  (.seq (.block 1 (.ops [⟨.mov (.tmp 4), some 9, none⟩,
    ⟨.mov (.tmp 4), some 10, none⟩,
    ⟨.idxA 64 1 (.tmp 1) (.tmp 10), some 11, none⟩,
    ⟨.load none (.tmp 11), some 12, none⟩,
    ⟨.idxA 64 1 (.tmp 3) (.tmp 9), some 13, none⟩,
    ⟨.store 1 (.tmp 13) (.tmp 12), none, none⟩]))
  (.ops [⟨.mov (.tmp 4), some 7, none⟩,
    ⟨.bin .add (.tmp 7) (.const (.int .i64 1)), some 8, none⟩,
    ⟨.mov (.tmp 8), some 4, none⟩]))))))
  (.seq (.ops [⟨.load (some 64) (.tmp 3), some 14, none⟩,
    ⟨.store 64 (.tmp 2) (.tmp 14), none, none⟩])
  (.ret))))⟩
theorem ok_laws_toField : cmpF Try.prog Try.f14 = some c_laws_toField := by kernel_rfl

/- impl.ValidGround -/
def c_impl_ValidGround : FV := ⟨39, [.tmp 2],
  .seq (.ops [⟨.box 32 (.tmp 0), some 1, none⟩,
    ⟨.mov (.const (.bool false)), some 2, none⟩])
  (.seq (.seq (.ops [⟨.addr (.tmp 1) 0, some 4, none⟩,
    ⟨.load none (.tmp 4), some 5, none⟩,
    ⟨.convI .i64 (.tmp 5), some 6, none⟩,
    ⟨.call 24 [.tmp 6, .const (.int .i64 2), .const (.int .i64 8)], some 7, none⟩,
    ⟨.un .not (.tmp 7), some 8, none⟩,
    ⟨.mov (.tmp 8), some 9, none⟩,
    ⟨.addr (.tmp 1) 1, some 10, some (9, false)⟩,
    ⟨.load none (.tmp 10), some 11, some (9, false)⟩,
    ⟨.convI .i64 (.tmp 11), some 12, some (9, false)⟩,
    ⟨.call 24 [.tmp 12, .const (.int .i64 2), .const (.int .i64 8)], some 13, some (9, false)⟩,
    ⟨.un .not (.tmp 13), some 14, some (9, false)⟩,
    ⟨.pick (.tmp 9) (.const (.bool true)) (.tmp 14), some 15, none⟩])
  (.cond (.tmp 15) (.seq (.ops [⟨.mov (.const (.bool false)), some 2, none⟩])
  (.ret)) (.skip)))
  (.seq (.ops [⟨.addr (.tmp 1) 2, some 16, none⟩,
    ⟨.call 25 [.tmp 1, .tmp 16, .func 26], some 17, none⟩,
    ⟨.mov (.tmp 17), some 18, none⟩,
    ⟨.addr (.tmp 1) 66, some 19, some (18, true)⟩,
    ⟨.call 25 [.tmp 1, .tmp 19, .func 27], some 20, some (18, true)⟩,
    ⟨.pick (.tmp 18) (.tmp 20) (.const (.bool false)), some 21, none⟩,
    ⟨.mov (.tmp 21), some 22, none⟩,
    ⟨.addr (.tmp 1) 130, some 23, some (22, true)⟩,
    ⟨.call 25 [.tmp 1, .tmp 23, .func 27], some 24, some (22, true)⟩,
    ⟨.pick (.tmp 22) (.tmp 24) (.const (.bool false)), some 25, none⟩,
    ⟨.mov (.tmp 25), some 3, none⟩])
  (.seq (.bops [⟨.mov (.tmp 3), some 26, none⟩,
    ⟨.mov (.tmp 26), some 27, none⟩,
    ⟨.addr (.tmp 1) 194, some 28, some (27, true)⟩,
    ⟨.load none (.tmp 28), some 29, some (27, true)⟩,
    ⟨.bin .neq (.tmp 29) (.const (.int .u64 0)), some 30, some (27, true)⟩,
    ⟨.pick (.tmp 27) (.tmp 30) (.const (.bool false)), some 31, none⟩,
    ⟨.mov (.tmp 31), some 32, none⟩,
    ⟨.addr (.tmp 1) 194, some 33, some (32, true)⟩,
    ⟨.load none (.tmp 33), some 34, some (32, true)⟩,
    ⟨.call 28 [.tmp 1], some 35, some (32, true)⟩,
    ⟨.bin .andNot (.tmp 34) (.tmp 35), some 36, some (32, true)⟩,
    ⟨.bin .eql (.tmp 36) (.const (.int .u64 0)), some 37, some (32, true)⟩,
    ⟨.pick (.tmp 32) (.tmp 37) (.const (.bool false)), some 38, none⟩,
    ⟨.mov (.tmp 38), some 2, none⟩])
  (.ret))))⟩
theorem ok_impl_ValidGround : cmpF Try.prog Try.f15 = some c_impl_ValidGround := by kernel_rfl

/- impl.Ground.cells -/
def c_impl_Ground_cells : FV := ⟨18, [.tmp 2],
  .seq (.ops [⟨.mov (.const (.slice none 0 0)), some 2, none⟩])
  (.seq (.ops [⟨.bslice 3 1 0 (#[.int .i64 0]) [], some 5, none⟩,
    ⟨.mov (.tmp 5), some 3, none⟩])
  (.seq (.seq (.ops [⟨.mov (.const (.int .i64 0)), some 6, none⟩])
  (.block 0 (.loop (.seq (.ops [⟨.bin .lss (.tmp 6) (.const (.int .i64 64)), some 7, none⟩])
  (.seq (.cond (.tmp 7) (.skip) (.exit 0))
  (.seq (.block 1 (.seq (.ops [⟨.mov (.tmp 6), some 8, none⟩,
    ⟨.mov (.tmp 8), some 4, none⟩])
  (.seq (.ops [⟨.mov (.tmp 0), some 9, none⟩,
    ⟨.mov (.tmp 4), some 10, none⟩,
    ⟨.call 29 [.tmp 9, .tmp 10], some 11, none⟩])
  (.cond (.tmp 11) (.ops [⟨.mov (.tmp 3), some 12, none⟩,
    ⟨.mov (.tmp 4), some 13, none⟩,
    ⟨.bslice 3 1 1 (#[.int .i64 0]) [(0, .tmp 13)], some 14, none⟩,
    ⟨.app 3 1 (.tmp 12) (.tmp 14), some 15, none⟩,
    ⟨.mov (.tmp 15), some 3, none⟩]) (.skip)))))
  (.ops [⟨.bin .add (.tmp 6) (.const (.int .i64 1)), some 16, none⟩,
    ⟨.mov (.tmp 16), some 6, none⟩])))))))
  (.seq (.ops [⟨.mov (.tmp 3), some 17, none⟩,
    ⟨.mov (.tmp 17), some 2, none⟩])
  (.ret))))⟩
theorem ok_impl_Ground_cells : cmpF Try.prog Try.f16 = some c_impl_Ground_cells := by kernel_rfl

/- impl.finite -/
def c_impl_finite : FV := ⟨7, [.tmp 2],
  .seq (.ops [⟨.mov (.const (.bool false)), some 2, none⟩])
  (.seq (.ops [⟨.mov (.tmp 0), some 3, none⟩,
    ⟨.mov (.tmp 0), some 4, none⟩,
    ⟨.fbin .sub (.tmp 3) (.tmp 4), some 5, none⟩,
    ⟨.fbin .eql (.tmp 5) (.const (.float .f32 0)), some 6, none⟩,
    ⟨.mov (.tmp 6), some 2, none⟩])
  (.ret))⟩
theorem ok_impl_finite : cmpF Try.prog Try.f17 = some c_impl_finite := by kernel_rfl

/- spec.l01Is -/
def c_spec_l01Is : FV := ⟨27, [.tmp 4],
  .seq (.ops [⟨.mov (.const (.bool false)), some 4, none⟩])
  (.seq (.ops [⟨.mov (.tmp 1), some 5, none⟩,
    ⟨.call 21 [.tmp 5, .const (.int .i64 0), .const (.int .i64 63)], some 6, none⟩,
    ⟨.mov (.tmp 6), some 7, none⟩,
    ⟨.mov (.tmp 1), some 8, some (7, true)⟩,
    ⟨.bin .rem (.tmp 8) (.const (.int .i64 8)), some 9, some (7, true)⟩,
    ⟨.mov (.tmp 0), some 10, some (7, true)⟩,
    ⟨.nilc (.tmp 10), some 11, some (7, true)⟩,
    ⟨.addr (.tmp 11) 0, some 12, some (7, true)⟩,
    ⟨.load none (.tmp 12), some 13, some (7, true)⟩,
    ⟨.convI .i64 (.tmp 13), some 14, some (7, true)⟩,
    ⟨.bin .lss (.tmp 9) (.tmp 14), some 15, some (7, true)⟩,
    ⟨.pick (.tmp 7) (.tmp 15) (.const (.bool false)), some 16, none⟩,
    ⟨.mov (.tmp 16), some 17, none⟩,
    ⟨.mov (.tmp 1), some 18, some (17, true)⟩,
    ⟨.bin .quo (.tmp 18) (.const (.int .i64 8)), some 19, some (17, true)⟩,
    ⟨.mov (.tmp 0), some 20, some (17, true)⟩,
    ⟨.nilc (.tmp 20), some 21, some (17, true)⟩,
    ⟨.addr (.tmp 21) 1, some 22, some (17, true)⟩,
    ⟨.load none (.tmp 22), some 23, some (17, true)⟩,
    ⟨.convI .i64 (.tmp 23), some 24, some (17, true)⟩,
    ⟨.bin .lss (.tmp 19) (.tmp 24), some 25, some (17, true)⟩,
    ⟨.pick (.tmp 17) (.tmp 25) (.const (.bool false)), some 26, none⟩,
    ⟨.mov (.tmp 26), some 4, none⟩])
  (.ret))⟩
theorem ok_spec_l01Is : cmpF Try.prog Try.f18 = some c_spec_l01Is := by kernel_rfl

/- spec.l01Size -/
def c_spec_l01Size : FV := ⟨8, [.tmp 2],
  .seq (.ops [⟨.mov (.const (.float .f32 0)), some 2, none⟩])
  (.seq (.seq (.ops [⟨.mov (.tmp 0), some 3, none⟩,
    ⟨.fbin .leq (.tmp 3) (.const (.float .f32 0)), some 4, none⟩])
  (.cond (.tmp 4) (.seq (.ops [⟨.mov (.tmp 0), some 5, none⟩,
    ⟨.fbin .sub (.const (.float .f32 0)) (.tmp 5), some 6, none⟩,
    ⟨.mov (.tmp 6), some 2, none⟩])
  (.ret)) (.skip)))
  (.seq (.ops [⟨.mov (.tmp 0), some 7, none⟩,
    ⟨.mov (.tmp 7), some 2, none⟩])
  (.ret)))⟩
theorem ok_spec_l01Size : cmpF Try.prog Try.f19 = some c_spec_l01Size := by kernel_rfl

/- impl.greatest -/
def c_impl_greatest : FV := ⟨34, [.tmp 4],
  .seq (.ops [⟨.mov (.const (.int .i64 0)), some 4, none⟩])
  (.seq (.ops [⟨.mov (.const (.int .i64 (-1))), some 5, none⟩])
  (.seq (.seq (.ops [⟨.mov (.tmp 0), some 8, none⟩,
    ⟨.lenL (.tmp 8), some 9, none⟩,
    ⟨.mov (.const (.int .i64 0)), some 10, none⟩])
  (.block 0 (.loop (.seq (.ops [⟨.bin .lss (.tmp 10) (.tmp 9), some 11, none⟩])
  (.seq (.cond (.tmp 11) (.skip) (.exit 0))
  (.seq (.block 1 (.seq (.ops [⟨.idxS 1 (.tmp 8) (.tmp 10), some 12, none⟩,
    ⟨.load none (.tmp 12), some 13, none⟩,
    ⟨.mov (.tmp 13), some 7, none⟩])
  (.seq (.bops [⟨.mov (.tmp 5), some 14, none⟩,
    ⟨.bin .lss (.tmp 14) (.const (.int .i64 0)), some 15, none⟩,
    ⟨.mov (.tmp 15), some 16, none⟩,
    ⟨.mov (.tmp 1), some 17, some (16, false)⟩,
    ⟨.mov (.tmp 7), some 18, some (16, false)⟩,
    ⟨.nilc (.tmp 17), some 19, some (16, false)⟩,
    ⟨.idxA 64 1 (.tmp 19) (.tmp 18), some 20, some (16, false)⟩,
    ⟨.load none (.tmp 20), some 21, some (16, false)⟩,
    ⟨.call 30 [.tmp 21], some 22, some (16, false)⟩,
    ⟨.mov (.tmp 1), some 23, some (16, false)⟩,
    ⟨.mov (.tmp 5), some 24, some (16, false)⟩,
    ⟨.nilc (.tmp 23), some 25, some (16, false)⟩,
    ⟨.idxA 64 1 (.tmp 25) (.tmp 24), some 26, some (16, false)⟩,
    ⟨.load none (.tmp 26), some 27, some (16, false)⟩,
    ⟨.call 30 [.tmp 27], some 28, some (16, false)⟩,
    ⟨.fbin .gtr (.tmp 22) (.tmp 28), some 29, some (16, false)⟩,
    ⟨.pick (.tmp 16) (.const (.bool true)) (.tmp 29), some 30, none⟩])
  (.cond (.tmp 30) (.ops [⟨.mov (.tmp 7), some 31, none⟩,
    ⟨.mov (.tmp 31), some 5, none⟩]) (.skip)))))
  (.ops [⟨.bin .add (.tmp 10) (.const (.int .i64 1)), some 32, none⟩,
    ⟨.mov (.tmp 32), some 10, none⟩])))))))
  (.seq (.ops [⟨.mov (.tmp 5), some 33, none⟩,
    ⟨.mov (.tmp 33), some 4, none⟩])
  (.ret))))⟩
theorem ok_impl_greatest : cmpF Try.prog Try.f20 = some c_impl_greatest := by kernel_rfl

/- spec.l00In -/
def c_spec_l00In : FV := ⟨15, [.tmp 6],
  .seq (.ops [⟨.mov (.const (.bool false)), some 6, none⟩])
  (.seq (.ops [⟨.mov (.tmp 0), some 7, none⟩,
    ⟨.mov (.tmp 1), some 8, none⟩,
    ⟨.bin .geq (.tmp 7) (.tmp 8), some 9, none⟩,
    ⟨.mov (.tmp 9), some 10, none⟩,
    ⟨.mov (.tmp 0), some 11, some (10, true)⟩,
    ⟨.mov (.tmp 2), some 12, some (10, true)⟩,
    ⟨.bin .leq (.tmp 11) (.tmp 12), some 13, some (10, true)⟩,
    ⟨.pick (.tmp 10) (.tmp 13) (.const (.bool false)), some 14, none⟩,
    ⟨.mov (.tmp 14), some 6, none⟩])
  (.ret))⟩
theorem ok_spec_l00In : cmpF Try.prog Try.f21 = some c_spec_l00In := by kernel_rfl

end Go.Proofs.Ytdhoaehiocbjaaa

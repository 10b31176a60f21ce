/- The same for the list itself, and what both sides list. Under: nothing. -/
import Derived.Test.YtnecjlmfpnbooaaGreatDoorFnRun4
import Derived.Test.YtnecjlmfpnbooaaGreatDoorFnSym
import Derived.KernelRfl
namespace Go.Ab.Fn
open Go Go.Ab Go.Proofs
theorem run_names : isR [] (namesV) ((envE noG kn0 ext tabN.fn tabR.fn tabC.fn tabO.fn 10000 20).call 19 []) = true := by kernel_rfl
theorem ok_names : OkC Tryz.prog noG 19 [] [] (namesV) := ok_of_run mixed kn0_ok extOk (TF.fn_all allN) (TF.fn_all allR) (TF.fn_all allC) (TF.fn_all allO) (isR_eq run_names)
theorem run_ref : isR [] (namesL) ((envE noG kn0 ext tabN.fn tabR.fn tabC.fn tabO.fn 10000 20).call 7 []) = true := by kernel_rfl
theorem ok_ref : OkC Tryz.prog noG 7 [] [] (namesL) := ok_of_run mixed kn0_ok extOk (TF.fn_all allN) (TF.fn_all allR) (TF.fn_all allC) (TF.fn_all allO) (isR_eq run_ref)
theorem run_a0 : isR [] (.str [115, 116, 97, 99, 107, 117, 110, 100, 101, 114, 102, 108, 111, 119]) ((envE noG kn0 ext tabN.fn tabR.fn tabC.fn tabO.fn 10000 20).call 5 [.int .i64 20]) = true := by kernel_rfl
theorem ok_a0 : OkC Tryz.prog noG 5 [.int .i64 20] [] (.str [115, 116, 97, 99, 107, 117, 110, 100, 101, 114, 102, 108, 111, 119]) := ok_of_run mixed kn0_ok extOk (TF.fn_all allN) (TF.fn_all allR) (TF.fn_all allC) (TF.fn_all allO) (isR_eq run_a0)
theorem run_b0 : isR [] (.str [115, 116, 97, 99, 107, 117, 110, 100, 101, 114, 102, 108, 111, 119]) ((envE noG kn0 ext tabN.fn tabR.fn tabC.fn tabO.fn 10000 20).call 6 [.int .i64 20]) = true := by kernel_rfl
theorem ok_b0 : OkC Tryz.prog noG 6 [.int .i64 20] [] (.str [115, 116, 97, 99, 107, 117, 110, 100, 101, 114, 102, 108, 111, 119]) := ok_of_run mixed kn0_ok extOk (TF.fn_all allN) (TF.fn_all allR) (TF.fn_all allC) (TF.fn_all allO) (isR_eq run_b0)
theorem run_c0 : isR [] (.int .i64 20) ((envE noG kn0 ext tabN.fn tabR.fn tabC.fn tabO.fn 10000 20).call 8 [.str [115, 116, 97, 99, 107, 117, 110, 100, 101, 114, 102, 108, 111, 119]]) = true := by kernel_rfl
theorem ok_c0 : OkC Tryz.prog noG 8 [.str [115, 116, 97, 99, 107, 117, 110, 100, 101, 114, 102, 108, 111, 119]] [] (.int .i64 20) := ok_of_run mixed kn0_ok extOk (TF.fn_all allN) (TF.fn_all allR) (TF.fn_all allC) (TF.fn_all allO) (isR_eq run_c0)
theorem run_d0 : isR [] (.int .i64 20) ((envE noG kn0 ext tabN.fn tabR.fn tabC.fn tabO.fn 10000 20).call 9 [.str [115, 116, 97, 99, 107, 117, 110, 100, 101, 114, 102, 108, 111, 119]]) = true := by kernel_rfl
theorem ok_d0 : OkC Tryz.prog noG 9 [.str [115, 116, 97, 99, 107, 117, 110, 100, 101, 114, 102, 108, 111, 119]] [] (.int .i64 20) := ok_of_run mixed kn0_ok extOk (TF.fn_all allN) (TF.fn_all allR) (TF.fn_all allC) (TF.fn_all allO) (isR_eq run_d0)
theorem run_a1 : isR [] (.str [115, 116, 97, 99, 107, 111, 118, 101, 114, 102, 108, 111, 119]) ((envE noG kn0 ext tabN.fn tabR.fn tabC.fn tabO.fn 10000 20).call 5 [.int .i64 21]) = true := by kernel_rfl
theorem ok_a1 : OkC Tryz.prog noG 5 [.int .i64 21] [] (.str [115, 116, 97, 99, 107, 111, 118, 101, 114, 102, 108, 111, 119]) := ok_of_run mixed kn0_ok extOk (TF.fn_all allN) (TF.fn_all allR) (TF.fn_all allC) (TF.fn_all allO) (isR_eq run_a1)
theorem run_b1 : isR [] (.str [115, 116, 97, 99, 107, 111, 118, 101, 114, 102, 108, 111, 119]) ((envE noG kn0 ext tabN.fn tabR.fn tabC.fn tabO.fn 10000 20).call 6 [.int .i64 21]) = true := by kernel_rfl
theorem ok_b1 : OkC Tryz.prog noG 6 [.int .i64 21] [] (.str [115, 116, 97, 99, 107, 111, 118, 101, 114, 102, 108, 111, 119]) := ok_of_run mixed kn0_ok extOk (TF.fn_all allN) (TF.fn_all allR) (TF.fn_all allC) (TF.fn_all allO) (isR_eq run_b1)
theorem run_c1 : isR [] (.int .i64 21) ((envE noG kn0 ext tabN.fn tabR.fn tabC.fn tabO.fn 10000 20).call 8 [.str [115, 116, 97, 99, 107, 111, 118, 101, 114, 102, 108, 111, 119]]) = true := by kernel_rfl
theorem ok_c1 : OkC Tryz.prog noG 8 [.str [115, 116, 97, 99, 107, 111, 118, 101, 114, 102, 108, 111, 119]] [] (.int .i64 21) := ok_of_run mixed kn0_ok extOk (TF.fn_all allN) (TF.fn_all allR) (TF.fn_all allC) (TF.fn_all allO) (isR_eq run_c1)
theorem run_d1 : isR [] (.int .i64 21) ((envE noG kn0 ext tabN.fn tabR.fn tabC.fn tabO.fn 10000 20).call 9 [.str [115, 116, 97, 99, 107, 111, 118, 101, 114, 102, 108, 111, 119]]) = true := by kernel_rfl
theorem ok_d1 : OkC Tryz.prog noG 9 [.str [115, 116, 97, 99, 107, 111, 118, 101, 114, 102, 108, 111, 119]] [] (.int .i64 21) := ok_of_run mixed kn0_ok extOk (TF.fn_all allN) (TF.fn_all allR) (TF.fn_all allC) (TF.fn_all allO) (isR_eq run_d1)
theorem run_a2 : isR [] (.str [116, 121, 112, 101, 99, 104, 101, 99, 107]) ((envE noG kn0 ext tabN.fn tabR.fn tabC.fn tabO.fn 10000 20).call 5 [.int .i64 22]) = true := by kernel_rfl
theorem ok_a2 : OkC Tryz.prog noG 5 [.int .i64 22] [] (.str [116, 121, 112, 101, 99, 104, 101, 99, 107]) := ok_of_run mixed kn0_ok extOk (TF.fn_all allN) (TF.fn_all allR) (TF.fn_all allC) (TF.fn_all allO) (isR_eq run_a2)
theorem run_b2 : isR [] (.str [116, 121, 112, 101, 99, 104, 101, 99, 107]) ((envE noG kn0 ext tabN.fn tabR.fn tabC.fn tabO.fn 10000 20).call 6 [.int .i64 22]) = true := by kernel_rfl
theorem ok_b2 : OkC Tryz.prog noG 6 [.int .i64 22] [] (.str [116, 121, 112, 101, 99, 104, 101, 99, 107]) := ok_of_run mixed kn0_ok extOk (TF.fn_all allN) (TF.fn_all allR) (TF.fn_all allC) (TF.fn_all allO) (isR_eq run_b2)
theorem run_c2 : isR [] (.int .i64 22) ((envE noG kn0 ext tabN.fn tabR.fn tabC.fn tabO.fn 10000 20).call 8 [.str [116, 121, 112, 101, 99, 104, 101, 99, 107]]) = true := by kernel_rfl
theorem ok_c2 : OkC Tryz.prog noG 8 [.str [116, 121, 112, 101, 99, 104, 101, 99, 107]] [] (.int .i64 22) := ok_of_run mixed kn0_ok extOk (TF.fn_all allN) (TF.fn_all allR) (TF.fn_all allC) (TF.fn_all allO) (isR_eq run_c2)
theorem run_d2 : isR [] (.int .i64 22) ((envE noG kn0 ext tabN.fn tabR.fn tabC.fn tabO.fn 10000 20).call 9 [.str [116, 121, 112, 101, 99, 104, 101, 99, 107]]) = true := by kernel_rfl
theorem ok_d2 : OkC Tryz.prog noG 9 [.str [116, 121, 112, 101, 99, 104, 101, 99, 107]] [] (.int .i64 22) := ok_of_run mixed kn0_ok extOk (TF.fn_all allN) (TF.fn_all allR) (TF.fn_all allC) (TF.fn_all allO) (isR_eq run_d2)
theorem run_a3 : isR [] (.str [114, 97, 110, 103, 101, 99, 104, 101, 99, 107]) ((envE noG kn0 ext tabN.fn tabR.fn tabC.fn tabO.fn 10000 20).call 5 [.int .i64 23]) = true := by kernel_rfl
theorem ok_a3 : OkC Tryz.prog noG 5 [.int .i64 23] [] (.str [114, 97, 110, 103, 101, 99, 104, 101, 99, 107]) := ok_of_run mixed kn0_ok extOk (TF.fn_all allN) (TF.fn_all allR) (TF.fn_all allC) (TF.fn_all allO) (isR_eq run_a3)
theorem run_b3 : isR [] (.str [114, 97, 110, 103, 101, 99, 104, 101, 99, 107]) ((envE noG kn0 ext tabN.fn tabR.fn tabC.fn tabO.fn 10000 20).call 6 [.int .i64 23]) = true := by kernel_rfl
theorem ok_b3 : OkC Tryz.prog noG 6 [.int .i64 23] [] (.str [114, 97, 110, 103, 101, 99, 104, 101, 99, 107]) := ok_of_run mixed kn0_ok extOk (TF.fn_all allN) (TF.fn_all allR) (TF.fn_all allC) (TF.fn_all allO) (isR_eq run_b3)
theorem run_c3 : isR [] (.int .i64 23) ((envE noG kn0 ext tabN.fn tabR.fn tabC.fn tabO.fn 10000 20).call 8 [.str [114, 97, 110, 103, 101, 99, 104, 101, 99, 107]]) = true := by kernel_rfl
theorem ok_c3 : OkC Tryz.prog noG 8 [.str [114, 97, 110, 103, 101, 99, 104, 101, 99, 107]] [] (.int .i64 23) := ok_of_run mixed kn0_ok extOk (TF.fn_all allN) (TF.fn_all allR) (TF.fn_all allC) (TF.fn_all allO) (isR_eq run_c3)
theorem run_d3 : isR [] (.int .i64 23) ((envE noG kn0 ext tabN.fn tabR.fn tabC.fn tabO.fn 10000 20).call 9 [.str [114, 97, 110, 103, 101, 99, 104, 101, 99, 107]]) = true := by kernel_rfl
theorem ok_d3 : OkC Tryz.prog noG 9 [.str [114, 97, 110, 103, 101, 99, 104, 101, 99, 107]] [] (.int .i64 23) := ok_of_run mixed kn0_ok extOk (TF.fn_all allN) (TF.fn_all allR) (TF.fn_all allC) (TF.fn_all allO) (isR_eq run_d3)
theorem run_a4 : isR [] (.str [117, 110, 100, 101, 102, 105, 110, 101, 100]) ((envE noG kn0 ext tabN.fn tabR.fn tabC.fn tabO.fn 10000 20).call 5 [.int .i64 24]) = true := by kernel_rfl
theorem ok_a4 : OkC Tryz.prog noG 5 [.int .i64 24] [] (.str [117, 110, 100, 101, 102, 105, 110, 101, 100]) := ok_of_run mixed kn0_ok extOk (TF.fn_all allN) (TF.fn_all allR) (TF.fn_all allC) (TF.fn_all allO) (isR_eq run_a4)
theorem run_b4 : isR [] (.str [117, 110, 100, 101, 102, 105, 110, 101, 100]) ((envE noG kn0 ext tabN.fn tabR.fn tabC.fn tabO.fn 10000 20).call 6 [.int .i64 24]) = true := by kernel_rfl
theorem ok_b4 : OkC Tryz.prog noG 6 [.int .i64 24] [] (.str [117, 110, 100, 101, 102, 105, 110, 101, 100]) := ok_of_run mixed kn0_ok extOk (TF.fn_all allN) (TF.fn_all allR) (TF.fn_all allC) (TF.fn_all allO) (isR_eq run_b4)
theorem run_c4 : isR [] (.int .i64 24) ((envE noG kn0 ext tabN.fn tabR.fn tabC.fn tabO.fn 10000 20).call 8 [.str [117, 110, 100, 101, 102, 105, 110, 101, 100]]) = true := by kernel_rfl
theorem ok_c4 : OkC Tryz.prog noG 8 [.str [117, 110, 100, 101, 102, 105, 110, 101, 100]] [] (.int .i64 24) := ok_of_run mixed kn0_ok extOk (TF.fn_all allN) (TF.fn_all allR) (TF.fn_all allC) (TF.fn_all allO) (isR_eq run_c4)
theorem run_d4 : isR [] (.int .i64 24) ((envE noG kn0 ext tabN.fn tabR.fn tabC.fn tabO.fn 10000 20).call 9 [.str [117, 110, 100, 101, 102, 105, 110, 101, 100]]) = true := by kernel_rfl
theorem ok_d4 : OkC Tryz.prog noG 9 [.str [117, 110, 100, 101, 102, 105, 110, 101, 100]] [] (.int .i64 24) := ok_of_run mixed kn0_ok extOk (TF.fn_all allN) (TF.fn_all allR) (TF.fn_all allC) (TF.fn_all allO) (isR_eq run_d4)
theorem run_a5 : isR [] (.str [117, 110, 100, 101, 102, 105, 110, 101, 100, 114, 101, 115, 117, 108, 116]) ((envE noG kn0 ext tabN.fn tabR.fn tabC.fn tabO.fn 10000 20).call 5 [.int .i64 25]) = true := by kernel_rfl
theorem ok_a5 : OkC Tryz.prog noG 5 [.int .i64 25] [] (.str [117, 110, 100, 101, 102, 105, 110, 101, 100, 114, 101, 115, 117, 108, 116]) := ok_of_run mixed kn0_ok extOk (TF.fn_all allN) (TF.fn_all allR) (TF.fn_all allC) (TF.fn_all allO) (isR_eq run_a5)
theorem run_b5 : isR [] (.str [117, 110, 100, 101, 102, 105, 110, 101, 100, 114, 101, 115, 117, 108, 116]) ((envE noG kn0 ext tabN.fn tabR.fn tabC.fn tabO.fn 10000 20).call 6 [.int .i64 25]) = true := by kernel_rfl
theorem ok_b5 : OkC Tryz.prog noG 6 [.int .i64 25] [] (.str [117, 110, 100, 101, 102, 105, 110, 101, 100, 114, 101, 115, 117, 108, 116]) := ok_of_run mixed kn0_ok extOk (TF.fn_all allN) (TF.fn_all allR) (TF.fn_all allC) (TF.fn_all allO) (isR_eq run_b5)
theorem run_c5 : isR [] (.int .i64 25) ((envE noG kn0 ext tabN.fn tabR.fn tabC.fn tabO.fn 10000 20).call 8 [.str [117, 110, 100, 101, 102, 105, 110, 101, 100, 114, 101, 115, 117, 108, 116]]) = true := by kernel_rfl
theorem ok_c5 : OkC Tryz.prog noG 8 [.str [117, 110, 100, 101, 102, 105, 110, 101, 100, 114, 101, 115, 117, 108, 116]] [] (.int .i64 25) := ok_of_run mixed kn0_ok extOk (TF.fn_all allN) (TF.fn_all allR) (TF.fn_all allC) (TF.fn_all allO) (isR_eq run_c5)
theorem run_d5 : isR [] (.int .i64 25) ((envE noG kn0 ext tabN.fn tabR.fn tabC.fn tabO.fn 10000 20).call 9 [.str [117, 110, 100, 101, 102, 105, 110, 101, 100, 114, 101, 115, 117, 108, 116]]) = true := by kernel_rfl
theorem ok_d5 : OkC Tryz.prog noG 9 [.str [117, 110, 100, 101, 102, 105, 110, 101, 100, 114, 101, 115, 117, 108, 116]] [] (.int .i64 25) := ok_of_run mixed kn0_ok extOk (TF.fn_all allN) (TF.fn_all allR) (TF.fn_all allC) (TF.fn_all allO) (isR_eq run_d5)
theorem run_a6 : isR [] (.str [108, 105, 109, 105, 116, 99, 104, 101, 99, 107]) ((envE noG kn0 ext tabN.fn tabR.fn tabC.fn tabO.fn 10000 20).call 5 [.int .i64 26]) = true := by kernel_rfl
theorem ok_a6 : OkC Tryz.prog noG 5 [.int .i64 26] [] (.str [108, 105, 109, 105, 116, 99, 104, 101, 99, 107]) := ok_of_run mixed kn0_ok extOk (TF.fn_all allN) (TF.fn_all allR) (TF.fn_all allC) (TF.fn_all allO) (isR_eq run_a6)
theorem run_b6 : isR [] (.str [108, 105, 109, 105, 116, 99, 104, 101, 99, 107]) ((envE noG kn0 ext tabN.fn tabR.fn tabC.fn tabO.fn 10000 20).call 6 [.int .i64 26]) = true := by kernel_rfl
theorem ok_b6 : OkC Tryz.prog noG 6 [.int .i64 26] [] (.str [108, 105, 109, 105, 116, 99, 104, 101, 99, 107]) := ok_of_run mixed kn0_ok extOk (TF.fn_all allN) (TF.fn_all allR) (TF.fn_all allC) (TF.fn_all allO) (isR_eq run_b6)
theorem run_c6 : isR [] (.int .i64 26) ((envE noG kn0 ext tabN.fn tabR.fn tabC.fn tabO.fn 10000 20).call 8 [.str [108, 105, 109, 105, 116, 99, 104, 101, 99, 107]]) = true := by kernel_rfl
theorem ok_c6 : OkC Tryz.prog noG 8 [.str [108, 105, 109, 105, 116, 99, 104, 101, 99, 107]] [] (.int .i64 26) := ok_of_run mixed kn0_ok extOk (TF.fn_all allN) (TF.fn_all allR) (TF.fn_all allC) (TF.fn_all allO) (isR_eq run_c6)
theorem run_d6 : isR [] (.int .i64 26) ((envE noG kn0 ext tabN.fn tabR.fn tabC.fn tabO.fn 10000 20).call 9 [.str [108, 105, 109, 105, 116, 99, 104, 101, 99, 107]]) = true := by kernel_rfl
theorem ok_d6 : OkC Tryz.prog noG 9 [.str [108, 105, 109, 105, 116, 99, 104, 101, 99, 107]] [] (.int .i64 26) := ok_of_run mixed kn0_ok extOk (TF.fn_all allN) (TF.fn_all allR) (TF.fn_all allC) (TF.fn_all allO) (isR_eq run_d6)
theorem run_a7 : isR [] (.str [86, 77, 101, 114, 114, 111, 114]) ((envE noG kn0 ext tabN.fn tabR.fn tabC.fn tabO.fn 10000 20).call 5 [.int .i64 27]) = true := by kernel_rfl
theorem ok_a7 : OkC Tryz.prog noG 5 [.int .i64 27] [] (.str [86, 77, 101, 114, 114, 111, 114]) := ok_of_run mixed kn0_ok extOk (TF.fn_all allN) (TF.fn_all allR) (TF.fn_all allC) (TF.fn_all allO) (isR_eq run_a7)
theorem run_b7 : isR [] (.str [86, 77, 101, 114, 114, 111, 114]) ((envE noG kn0 ext tabN.fn tabR.fn tabC.fn tabO.fn 10000 20).call 6 [.int .i64 27]) = true := by kernel_rfl
theorem ok_b7 : OkC Tryz.prog noG 6 [.int .i64 27] [] (.str [86, 77, 101, 114, 114, 111, 114]) := ok_of_run mixed kn0_ok extOk (TF.fn_all allN) (TF.fn_all allR) (TF.fn_all allC) (TF.fn_all allO) (isR_eq run_b7)
theorem run_c7 : isR [] (.int .i64 27) ((envE noG kn0 ext tabN.fn tabR.fn tabC.fn tabO.fn 10000 20).call 8 [.str [86, 77, 101, 114, 114, 111, 114]]) = true := by kernel_rfl
theorem ok_c7 : OkC Tryz.prog noG 8 [.str [86, 77, 101, 114, 114, 111, 114]] [] (.int .i64 27) := ok_of_run mixed kn0_ok extOk (TF.fn_all allN) (TF.fn_all allR) (TF.fn_all allC) (TF.fn_all allO) (isR_eq run_c7)
theorem run_d7 : isR [] (.int .i64 27) ((envE noG kn0 ext tabN.fn tabR.fn tabC.fn tabO.fn 10000 20).call 9 [.str [86, 77, 101, 114, 114, 111, 114]]) = true := by kernel_rfl
theorem ok_d7 : OkC Tryz.prog noG 9 [.str [86, 77, 101, 114, 114, 111, 114]] [] (.int .i64 27) := ok_of_run mixed kn0_ok extOk (TF.fn_all allN) (TF.fn_all allR) (TF.fn_all allC) (TF.fn_all allO) (isR_eq run_d7)
theorem run_a8 : isR [] (.str [100, 105, 99, 116, 115, 116, 97, 99, 107, 117, 110, 100, 101, 114, 102, 108, 111, 119]) ((envE noG kn0 ext tabN.fn tabR.fn tabC.fn tabO.fn 10000 20).call 5 [.int .i64 28]) = true := by kernel_rfl
theorem ok_a8 : OkC Tryz.prog noG 5 [.int .i64 28] [] (.str [100, 105, 99, 116, 115, 116, 97, 99, 107, 117, 110, 100, 101, 114, 102, 108, 111, 119]) := ok_of_run mixed kn0_ok extOk (TF.fn_all allN) (TF.fn_all allR) (TF.fn_all allC) (TF.fn_all allO) (isR_eq run_a8)
theorem run_b8 : isR [] (.str [100, 105, 99, 116, 115, 116, 97, 99, 107, 117, 110, 100, 101, 114, 102, 108, 111, 119]) ((envE noG kn0 ext tabN.fn tabR.fn tabC.fn tabO.fn 10000 20).call 6 [.int .i64 28]) = true := by kernel_rfl
theorem ok_b8 : OkC Tryz.prog noG 6 [.int .i64 28] [] (.str [100, 105, 99, 116, 115, 116, 97, 99, 107, 117, 110, 100, 101, 114, 102, 108, 111, 119]) := ok_of_run mixed kn0_ok extOk (TF.fn_all allN) (TF.fn_all allR) (TF.fn_all allC) (TF.fn_all allO) (isR_eq run_b8)
theorem run_c8 : isR [] (.int .i64 28) ((envE noG kn0 ext tabN.fn tabR.fn tabC.fn tabO.fn 10000 20).call 8 [.str [100, 105, 99, 116, 115, 116, 97, 99, 107, 117, 110, 100, 101, 114, 102, 108, 111, 119]]) = true := by kernel_rfl
theorem ok_c8 : OkC Tryz.prog noG 8 [.str [100, 105, 99, 116, 115, 116, 97, 99, 107, 117, 110, 100, 101, 114, 102, 108, 111, 119]] [] (.int .i64 28) := ok_of_run mixed kn0_ok extOk (TF.fn_all allN) (TF.fn_all allR) (TF.fn_all allC) (TF.fn_all allO) (isR_eq run_c8)
theorem run_d8 : isR [] (.int .i64 28) ((envE noG kn0 ext tabN.fn tabR.fn tabC.fn tabO.fn 10000 20).call 9 [.str [100, 105, 99, 116, 115, 116, 97, 99, 107, 117, 110, 100, 101, 114, 102, 108, 111, 119]]) = true := by kernel_rfl
theorem ok_d8 : OkC Tryz.prog noG 9 [.str [100, 105, 99, 116, 115, 116, 97, 99, 107, 117, 110, 100, 101, 114, 102, 108, 111, 119]] [] (.int .i64 28) := ok_of_run mixed kn0_ok extOk (TF.fn_all allN) (TF.fn_all allR) (TF.fn_all allC) (TF.fn_all allO) (isR_eq run_d8)
theorem run_a9 : isR [] (.str [100, 105, 99, 116, 115, 116, 97, 99, 107, 111, 118, 101, 114, 102, 108, 111, 119]) ((envE noG kn0 ext tabN.fn tabR.fn tabC.fn tabO.fn 10000 20).call 5 [.int .i64 29]) = true := by kernel_rfl
theorem ok_a9 : OkC Tryz.prog noG 5 [.int .i64 29] [] (.str [100, 105, 99, 116, 115, 116, 97, 99, 107, 111, 118, 101, 114, 102, 108, 111, 119]) := ok_of_run mixed kn0_ok extOk (TF.fn_all allN) (TF.fn_all allR) (TF.fn_all allC) (TF.fn_all allO) (isR_eq run_a9)
theorem run_b9 : isR [] (.str [100, 105, 99, 116, 115, 116, 97, 99, 107, 111, 118, 101, 114, 102, 108, 111, 119]) ((envE noG kn0 ext tabN.fn tabR.fn tabC.fn tabO.fn 10000 20).call 6 [.int .i64 29]) = true := by kernel_rfl
theorem ok_b9 : OkC Tryz.prog noG 6 [.int .i64 29] [] (.str [100, 105, 99, 116, 115, 116, 97, 99, 107, 111, 118, 101, 114, 102, 108, 111, 119]) := ok_of_run mixed kn0_ok extOk (TF.fn_all allN) (TF.fn_all allR) (TF.fn_all allC) (TF.fn_all allO) (isR_eq run_b9)
theorem run_c9 : isR [] (.int .i64 29) ((envE noG kn0 ext tabN.fn tabR.fn tabC.fn tabO.fn 10000 20).call 8 [.str [100, 105, 99, 116, 115, 116, 97, 99, 107, 111, 118, 101, 114, 102, 108, 111, 119]]) = true := by kernel_rfl
theorem ok_c9 : OkC Tryz.prog noG 8 [.str [100, 105, 99, 116, 115, 116, 97, 99, 107, 111, 118, 101, 114, 102, 108, 111, 119]] [] (.int .i64 29) := ok_of_run mixed kn0_ok extOk (TF.fn_all allN) (TF.fn_all allR) (TF.fn_all allC) (TF.fn_all allO) (isR_eq run_c9)
theorem run_d9 : isR [] (.int .i64 29) ((envE noG kn0 ext tabN.fn tabR.fn tabC.fn tabO.fn 10000 20).call 9 [.str [100, 105, 99, 116, 115, 116, 97, 99, 107, 111, 118, 101, 114, 102, 108, 111, 119]]) = true := by kernel_rfl
theorem ok_d9 : OkC Tryz.prog noG 9 [.str [100, 105, 99, 116, 115, 116, 97, 99, 107, 111, 118, 101, 114, 102, 108, 111, 119]] [] (.int .i64 29) := ok_of_run mixed kn0_ok extOk (TF.fn_all allN) (TF.fn_all allR) (TF.fn_all allC) (TF.fn_all allO) (isR_eq run_d9)
theorem run_a10 : isR [] (.str [100, 105, 99, 116, 102, 117, 108, 108]) ((envE noG kn0 ext tabN.fn tabR.fn tabC.fn tabO.fn 10000 20).call 5 [.int .i64 30]) = true := by kernel_rfl
theorem ok_a10 : OkC Tryz.prog noG 5 [.int .i64 30] [] (.str [100, 105, 99, 116, 102, 117, 108, 108]) := ok_of_run mixed kn0_ok extOk (TF.fn_all allN) (TF.fn_all allR) (TF.fn_all allC) (TF.fn_all allO) (isR_eq run_a10)
theorem run_b10 : isR [] (.str [100, 105, 99, 116, 102, 117, 108, 108]) ((envE noG kn0 ext tabN.fn tabR.fn tabC.fn tabO.fn 10000 20).call 6 [.int .i64 30]) = true := by kernel_rfl
theorem ok_b10 : OkC Tryz.prog noG 6 [.int .i64 30] [] (.str [100, 105, 99, 116, 102, 117, 108, 108]) := ok_of_run mixed kn0_ok extOk (TF.fn_all allN) (TF.fn_all allR) (TF.fn_all allC) (TF.fn_all allO) (isR_eq run_b10)
theorem run_c10 : isR [] (.int .i64 30) ((envE noG kn0 ext tabN.fn tabR.fn tabC.fn tabO.fn 10000 20).call 8 [.str [100, 105, 99, 116, 102, 117, 108, 108]]) = true := by kernel_rfl
theorem ok_c10 : OkC Tryz.prog noG 8 [.str [100, 105, 99, 116, 102, 117, 108, 108]] [] (.int .i64 30) := ok_of_run mixed kn0_ok extOk (TF.fn_all allN) (TF.fn_all allR) (TF.fn_all allC) (TF.fn_all allO) (isR_eq run_c10)
theorem run_d10 : isR [] (.int .i64 30) ((envE noG kn0 ext tabN.fn tabR.fn tabC.fn tabO.fn 10000 20).call 9 [.str [100, 105, 99, 116, 102, 117, 108, 108]]) = true := by kernel_rfl
theorem ok_d10 : OkC Tryz.prog noG 9 [.str [100, 105, 99, 116, 102, 117, 108, 108]] [] (.int .i64 30) := ok_of_run mixed kn0_ok extOk (TF.fn_all allN) (TF.fn_all allR) (TF.fn_all allC) (TF.fn_all allO) (isR_eq run_d10)
theorem run_a11 : isR [] (.str [105, 110, 118, 97, 108, 105, 100, 97, 99, 99, 101, 115, 115]) ((envE noG kn0 ext tabN.fn tabR.fn tabC.fn tabO.fn 10000 20).call 5 [.int .i64 31]) = true := by kernel_rfl
theorem ok_a11 : OkC Tryz.prog noG 5 [.int .i64 31] [] (.str [105, 110, 118, 97, 108, 105, 100, 97, 99, 99, 101, 115, 115]) := ok_of_run mixed kn0_ok extOk (TF.fn_all allN) (TF.fn_all allR) (TF.fn_all allC) (TF.fn_all allO) (isR_eq run_a11)
theorem run_b11 : isR [] (.str [105, 110, 118, 97, 108, 105, 100, 97, 99, 99, 101, 115, 115]) ((envE noG kn0 ext tabN.fn tabR.fn tabC.fn tabO.fn 10000 20).call 6 [.int .i64 31]) = true := by kernel_rfl
theorem ok_b11 : OkC Tryz.prog noG 6 [.int .i64 31] [] (.str [105, 110, 118, 97, 108, 105, 100, 97, 99, 99, 101, 115, 115]) := ok_of_run mixed kn0_ok extOk (TF.fn_all allN) (TF.fn_all allR) (TF.fn_all allC) (TF.fn_all allO) (isR_eq run_b11)
theorem run_c11 : isR [] (.int .i64 31) ((envE noG kn0 ext tabN.fn tabR.fn tabC.fn tabO.fn 10000 20).call 8 [.str [105, 110, 118, 97, 108, 105, 100, 97, 99, 99, 101, 115, 115]]) = true := by kernel_rfl
theorem ok_c11 : OkC Tryz.prog noG 8 [.str [105, 110, 118, 97, 108, 105, 100, 97, 99, 99, 101, 115, 115]] [] (.int .i64 31) := ok_of_run mixed kn0_ok extOk (TF.fn_all allN) (TF.fn_all allR) (TF.fn_all allC) (TF.fn_all allO) (isR_eq run_c11)
theorem run_d11 : isR [] (.int .i64 31) ((envE noG kn0 ext tabN.fn tabR.fn tabC.fn tabO.fn 10000 20).call 9 [.str [105, 110, 118, 97, 108, 105, 100, 97, 99, 99, 101, 115, 115]]) = true := by kernel_rfl
theorem ok_d11 : OkC Tryz.prog noG 9 [.str [105, 110, 118, 97, 108, 105, 100, 97, 99, 99, 101, 115, 115]] [] (.int .i64 31) := ok_of_run mixed kn0_ok extOk (TF.fn_all allN) (TF.fn_all allR) (TF.fn_all allC) (TF.fn_all allO) (isR_eq run_d11)
theorem run_a12 : isR [] (.str [117, 110, 109, 97, 116, 99, 104, 101, 100, 109, 97, 114, 107]) ((envE noG kn0 ext tabN.fn tabR.fn tabC.fn tabO.fn 10000 20).call 5 [.int .i64 32]) = true := by kernel_rfl
theorem ok_a12 : OkC Tryz.prog noG 5 [.int .i64 32] [] (.str [117, 110, 109, 97, 116, 99, 104, 101, 100, 109, 97, 114, 107]) := ok_of_run mixed kn0_ok extOk (TF.fn_all allN) (TF.fn_all allR) (TF.fn_all allC) (TF.fn_all allO) (isR_eq run_a12)
theorem run_b12 : isR [] (.str [117, 110, 109, 97, 116, 99, 104, 101, 100, 109, 97, 114, 107]) ((envE noG kn0 ext tabN.fn tabR.fn tabC.fn tabO.fn 10000 20).call 6 [.int .i64 32]) = true := by kernel_rfl
theorem ok_b12 : OkC Tryz.prog noG 6 [.int .i64 32] [] (.str [117, 110, 109, 97, 116, 99, 104, 101, 100, 109, 97, 114, 107]) := ok_of_run mixed kn0_ok extOk (TF.fn_all allN) (TF.fn_all allR) (TF.fn_all allC) (TF.fn_all allO) (isR_eq run_b12)
theorem run_c12 : isR [] (.int .i64 32) ((envE noG kn0 ext tabN.fn tabR.fn tabC.fn tabO.fn 10000 20).call 8 [.str [117, 110, 109, 97, 116, 99, 104, 101, 100, 109, 97, 114, 107]]) = true := by kernel_rfl
theorem ok_c12 : OkC Tryz.prog noG 8 [.str [117, 110, 109, 97, 116, 99, 104, 101, 100, 109, 97, 114, 107]] [] (.int .i64 32) := ok_of_run mixed kn0_ok extOk (TF.fn_all allN) (TF.fn_all allR) (TF.fn_all allC) (TF.fn_all allO) (isR_eq run_c12)
theorem run_d12 : isR [] (.int .i64 32) ((envE noG kn0 ext tabN.fn tabR.fn tabC.fn tabO.fn 10000 20).call 9 [.str [117, 110, 109, 97, 116, 99, 104, 101, 100, 109, 97, 114, 107]]) = true := by kernel_rfl
theorem ok_d12 : OkC Tryz.prog noG 9 [.str [117, 110, 109, 97, 116, 99, 104, 101, 100, 109, 97, 114, 107]] [] (.int .i64 32) := ok_of_run mixed kn0_ok extOk (TF.fn_all allN) (TF.fn_all allR) (TF.fn_all allC) (TF.fn_all allO) (isR_eq run_d12)
theorem run_a13 : isR [] (.str [105, 110, 118, 97, 108, 105, 100, 101, 120, 105, 116]) ((envE noG kn0 ext tabN.fn tabR.fn tabC.fn tabO.fn 10000 20).call 5 [.int .i64 33]) = true := by kernel_rfl
theorem ok_a13 : OkC Tryz.prog noG 5 [.int .i64 33] [] (.str [105, 110, 118, 97, 108, 105, 100, 101, 120, 105, 116]) := ok_of_run mixed kn0_ok extOk (TF.fn_all allN) (TF.fn_all allR) (TF.fn_all allC) (TF.fn_all allO) (isR_eq run_a13)
theorem run_b13 : isR [] (.str [105, 110, 118, 97, 108, 105, 100, 101, 120, 105, 116]) ((envE noG kn0 ext tabN.fn tabR.fn tabC.fn tabO.fn 10000 20).call 6 [.int .i64 33]) = true := by kernel_rfl
theorem ok_b13 : OkC Tryz.prog noG 6 [.int .i64 33] [] (.str [105, 110, 118, 97, 108, 105, 100, 101, 120, 105, 116]) := ok_of_run mixed kn0_ok extOk (TF.fn_all allN) (TF.fn_all allR) (TF.fn_all allC) (TF.fn_all allO) (isR_eq run_b13)
theorem run_c13 : isR [] (.int .i64 33) ((envE noG kn0 ext tabN.fn tabR.fn tabC.fn tabO.fn 10000 20).call 8 [.str [105, 110, 118, 97, 108, 105, 100, 101, 120, 105, 116]]) = true := by kernel_rfl
theorem ok_c13 : OkC Tryz.prog noG 8 [.str [105, 110, 118, 97, 108, 105, 100, 101, 120, 105, 116]] [] (.int .i64 33) := ok_of_run mixed kn0_ok extOk (TF.fn_all allN) (TF.fn_all allR) (TF.fn_all allC) (TF.fn_all allO) (isR_eq run_c13)
theorem run_d13 : isR [] (.int .i64 33) ((envE noG kn0 ext tabN.fn tabR.fn tabC.fn tabO.fn 10000 20).call 9 [.str [105, 110, 118, 97, 108, 105, 100, 101, 120, 105, 116]]) = true := by kernel_rfl
theorem ok_d13 : OkC Tryz.prog noG 9 [.str [105, 110, 118, 97, 108, 105, 100, 101, 120, 105, 116]] [] (.int .i64 33) := ok_of_run mixed kn0_ok extOk (TF.fn_all allN) (TF.fn_all allR) (TF.fn_all allC) (TF.fn_all allO) (isR_eq run_d13)
theorem run_a14 : isR [] (.str [105, 110, 118, 97, 108, 105, 100, 114, 101, 115, 116, 111, 114, 101]) ((envE noG kn0 ext tabN.fn tabR.fn tabC.fn tabO.fn 10000 20).call 5 [.int .i64 34]) = true := by kernel_rfl
theorem ok_a14 : OkC Tryz.prog noG 5 [.int .i64 34] [] (.str [105, 110, 118, 97, 108, 105, 100, 114, 101, 115, 116, 111, 114, 101]) := ok_of_run mixed kn0_ok extOk (TF.fn_all allN) (TF.fn_all allR) (TF.fn_all allC) (TF.fn_all allO) (isR_eq run_a14)
theorem run_b14 : isR [] (.str [105, 110, 118, 97, 108, 105, 100, 114, 101, 115, 116, 111, 114, 101]) ((envE noG kn0 ext tabN.fn tabR.fn tabC.fn tabO.fn 10000 20).call 6 [.int .i64 34]) = true := by kernel_rfl
theorem ok_b14 : OkC Tryz.prog noG 6 [.int .i64 34] [] (.str [105, 110, 118, 97, 108, 105, 100, 114, 101, 115, 116, 111, 114, 101]) := ok_of_run mixed kn0_ok extOk (TF.fn_all allN) (TF.fn_all allR) (TF.fn_all allC) (TF.fn_all allO) (isR_eq run_b14)
theorem run_c14 : isR [] (.int .i64 34) ((envE noG kn0 ext tabN.fn tabR.fn tabC.fn tabO.fn 10000 20).call 8 [.str [105, 110, 118, 97, 108, 105, 100, 114, 101, 115, 116, 111, 114, 101]]) = true := by kernel_rfl
theorem ok_c14 : OkC Tryz.prog noG 8 [.str [105, 110, 118, 97, 108, 105, 100, 114, 101, 115, 116, 111, 114, 101]] [] (.int .i64 34) := ok_of_run mixed kn0_ok extOk (TF.fn_all allN) (TF.fn_all allR) (TF.fn_all allC) (TF.fn_all allO) (isR_eq run_c14)
theorem run_d14 : isR [] (.int .i64 34) ((envE noG kn0 ext tabN.fn tabR.fn tabC.fn tabO.fn 10000 20).call 9 [.str [105, 110, 118, 97, 108, 105, 100, 114, 101, 115, 116, 111, 114, 101]]) = true := by kernel_rfl
theorem ok_d14 : OkC Tryz.prog noG 9 [.str [105, 110, 118, 97, 108, 105, 100, 114, 101, 115, 116, 111, 114, 101]] [] (.int .i64 34) := ok_of_run mixed kn0_ok extOk (TF.fn_all allN) (TF.fn_all allR) (TF.fn_all allC) (TF.fn_all allO) (isR_eq run_d14)
theorem run_a15 : isR [] (.str [101, 120, 101, 99, 115, 116, 97, 99, 107, 111, 118, 101, 114, 102, 108, 111, 119]) ((envE noG kn0 ext tabN.fn tabR.fn tabC.fn tabO.fn 10000 20).call 5 [.int .i64 35]) = true := by kernel_rfl
theorem ok_a15 : OkC Tryz.prog noG 5 [.int .i64 35] [] (.str [101, 120, 101, 99, 115, 116, 97, 99, 107, 111, 118, 101, 114, 102, 108, 111, 119]) := ok_of_run mixed kn0_ok extOk (TF.fn_all allN) (TF.fn_all allR) (TF.fn_all allC) (TF.fn_all allO) (isR_eq run_a15)
theorem run_b15 : isR [] (.str [101, 120, 101, 99, 115, 116, 97, 99, 107, 111, 118, 101, 114, 102, 108, 111, 119]) ((envE noG kn0 ext tabN.fn tabR.fn tabC.fn tabO.fn 10000 20).call 6 [.int .i64 35]) = true := by kernel_rfl
theorem ok_b15 : OkC Tryz.prog noG 6 [.int .i64 35] [] (.str [101, 120, 101, 99, 115, 116, 97, 99, 107, 111, 118, 101, 114, 102, 108, 111, 119]) := ok_of_run mixed kn0_ok extOk (TF.fn_all allN) (TF.fn_all allR) (TF.fn_all allC) (TF.fn_all allO) (isR_eq run_b15)
theorem run_c15 : isR [] (.int .i64 35) ((envE noG kn0 ext tabN.fn tabR.fn tabC.fn tabO.fn 10000 20).call 8 [.str [101, 120, 101, 99, 115, 116, 97, 99, 107, 111, 118, 101, 114, 102, 108, 111, 119]]) = true := by kernel_rfl
theorem ok_c15 : OkC Tryz.prog noG 8 [.str [101, 120, 101, 99, 115, 116, 97, 99, 107, 111, 118, 101, 114, 102, 108, 111, 119]] [] (.int .i64 35) := ok_of_run mixed kn0_ok extOk (TF.fn_all allN) (TF.fn_all allR) (TF.fn_all allC) (TF.fn_all allO) (isR_eq run_c15)
theorem run_d15 : isR [] (.int .i64 35) ((envE noG kn0 ext tabN.fn tabR.fn tabC.fn tabO.fn 10000 20).call 9 [.str [101, 120, 101, 99, 115, 116, 97, 99, 107, 111, 118, 101, 114, 102, 108, 111, 119]]) = true := by kernel_rfl
theorem ok_d15 : OkC Tryz.prog noG 9 [.str [101, 120, 101, 99, 115, 116, 97, 99, 107, 111, 118, 101, 114, 102, 108, 111, 119]] [] (.int .i64 35) := ok_of_run mixed kn0_ok extOk (TF.fn_all allN) (TF.fn_all allR) (TF.fn_all allC) (TF.fn_all allO) (isR_eq run_d15)
theorem run_a16 : isR [] (.str [105, 111, 101, 114, 114, 111, 114]) ((envE noG kn0 ext tabN.fn tabR.fn tabC.fn tabO.fn 10000 20).call 5 [.int .i64 36]) = true := by kernel_rfl
theorem ok_a16 : OkC Tryz.prog noG 5 [.int .i64 36] [] (.str [105, 111, 101, 114, 114, 111, 114]) := ok_of_run mixed kn0_ok extOk (TF.fn_all allN) (TF.fn_all allR) (TF.fn_all allC) (TF.fn_all allO) (isR_eq run_a16)
theorem run_b16 : isR [] (.str [105, 111, 101, 114, 114, 111, 114]) ((envE noG kn0 ext tabN.fn tabR.fn tabC.fn tabO.fn 10000 20).call 6 [.int .i64 36]) = true := by kernel_rfl
theorem ok_b16 : OkC Tryz.prog noG 6 [.int .i64 36] [] (.str [105, 111, 101, 114, 114, 111, 114]) := ok_of_run mixed kn0_ok extOk (TF.fn_all allN) (TF.fn_all allR) (TF.fn_all allC) (TF.fn_all allO) (isR_eq run_b16)
theorem run_c16 : isR [] (.int .i64 36) ((envE noG kn0 ext tabN.fn tabR.fn tabC.fn tabO.fn 10000 20).call 8 [.str [105, 111, 101, 114, 114, 111, 114]]) = true := by kernel_rfl
theorem ok_c16 : OkC Tryz.prog noG 8 [.str [105, 111, 101, 114, 114, 111, 114]] [] (.int .i64 36) := ok_of_run mixed kn0_ok extOk (TF.fn_all allN) (TF.fn_all allR) (TF.fn_all allC) (TF.fn_all allO) (isR_eq run_c16)
theorem run_d16 : isR [] (.int .i64 36) ((envE noG kn0 ext tabN.fn tabR.fn tabC.fn tabO.fn 10000 20).call 9 [.str [105, 111, 101, 114, 114, 111, 114]]) = true := by kernel_rfl
theorem ok_d16 : OkC Tryz.prog noG 9 [.str [105, 111, 101, 114, 114, 111, 114]] [] (.int .i64 36) := ok_of_run mixed kn0_ok extOk (TF.fn_all allN) (TF.fn_all allR) (TF.fn_all allC) (TF.fn_all allO) (isR_eq run_d16)
theorem run_a17 : isR [] (.str [115, 121, 110, 116, 97, 120, 101, 114, 114, 111, 114]) ((envE noG kn0 ext tabN.fn tabR.fn tabC.fn tabO.fn 10000 20).call 5 [.int .i64 37]) = true := by kernel_rfl
theorem ok_a17 : OkC Tryz.prog noG 5 [.int .i64 37] [] (.str [115, 121, 110, 116, 97, 120, 101, 114, 114, 111, 114]) := ok_of_run mixed kn0_ok extOk (TF.fn_all allN) (TF.fn_all allR) (TF.fn_all allC) (TF.fn_all allO) (isR_eq run_a17)
theorem run_b17 : isR [] (.str [115, 121, 110, 116, 97, 120, 101, 114, 114, 111, 114]) ((envE noG kn0 ext tabN.fn tabR.fn tabC.fn tabO.fn 10000 20).call 6 [.int .i64 37]) = true := by kernel_rfl
theorem ok_b17 : OkC Tryz.prog noG 6 [.int .i64 37] [] (.str [115, 121, 110, 116, 97, 120, 101, 114, 114, 111, 114]) := ok_of_run mixed kn0_ok extOk (TF.fn_all allN) (TF.fn_all allR) (TF.fn_all allC) (TF.fn_all allO) (isR_eq run_b17)
theorem run_c17 : isR [] (.int .i64 37) ((envE noG kn0 ext tabN.fn tabR.fn tabC.fn tabO.fn 10000 20).call 8 [.str [115, 121, 110, 116, 97, 120, 101, 114, 114, 111, 114]]) = true := by kernel_rfl
theorem ok_c17 : OkC Tryz.prog noG 8 [.str [115, 121, 110, 116, 97, 120, 101, 114, 114, 111, 114]] [] (.int .i64 37) := ok_of_run mixed kn0_ok extOk (TF.fn_all allN) (TF.fn_all allR) (TF.fn_all allC) (TF.fn_all allO) (isR_eq run_c17)
theorem run_d17 : isR [] (.int .i64 37) ((envE noG kn0 ext tabN.fn tabR.fn tabC.fn tabO.fn 10000 20).call 9 [.str [115, 121, 110, 116, 97, 120, 101, 114, 114, 111, 114]]) = true := by kernel_rfl
theorem ok_d17 : OkC Tryz.prog noG 9 [.str [115, 121, 110, 116, 97, 120, 101, 114, 114, 111, 114]] [] (.int .i64 37) := ok_of_run mixed kn0_ok extOk (TF.fn_all allN) (TF.fn_all allR) (TF.fn_all allC) (TF.fn_all allO) (isR_eq run_d17)
theorem run_a18 : isR [] (.str [110, 111, 99, 117, 114, 114, 101, 110, 116, 112, 111, 105, 110, 116]) ((envE noG kn0 ext tabN.fn tabR.fn tabC.fn tabO.fn 10000 20).call 5 [.int .i64 38]) = true := by kernel_rfl
theorem ok_a18 : OkC Tryz.prog noG 5 [.int .i64 38] [] (.str [110, 111, 99, 117, 114, 114, 101, 110, 116, 112, 111, 105, 110, 116]) := ok_of_run mixed kn0_ok extOk (TF.fn_all allN) (TF.fn_all allR) (TF.fn_all allC) (TF.fn_all allO) (isR_eq run_a18)
theorem run_b18 : isR [] (.str [110, 111, 99, 117, 114, 114, 101, 110, 116, 112, 111, 105, 110, 116]) ((envE noG kn0 ext tabN.fn tabR.fn tabC.fn tabO.fn 10000 20).call 6 [.int .i64 38]) = true := by kernel_rfl
theorem ok_b18 : OkC Tryz.prog noG 6 [.int .i64 38] [] (.str [110, 111, 99, 117, 114, 114, 101, 110, 116, 112, 111, 105, 110, 116]) := ok_of_run mixed kn0_ok extOk (TF.fn_all allN) (TF.fn_all allR) (TF.fn_all allC) (TF.fn_all allO) (isR_eq run_b18)
theorem run_c18 : isR [] (.int .i64 38) ((envE noG kn0 ext tabN.fn tabR.fn tabC.fn tabO.fn 10000 20).call 8 [.str [110, 111, 99, 117, 114, 114, 101, 110, 116, 112, 111, 105, 110, 116]]) = true := by kernel_rfl
theorem ok_c18 : OkC Tryz.prog noG 8 [.str [110, 111, 99, 117, 114, 114, 101, 110, 116, 112, 111, 105, 110, 116]] [] (.int .i64 38) := ok_of_run mixed kn0_ok extOk (TF.fn_all allN) (TF.fn_all allR) (TF.fn_all allC) (TF.fn_all allO) (isR_eq run_c18)
theorem run_d18 : isR [] (.int .i64 38) ((envE noG kn0 ext tabN.fn tabR.fn tabC.fn tabO.fn 10000 20).call 9 [.str [110, 111, 99, 117, 114, 114, 101, 110, 116, 112, 111, 105, 110, 116]]) = true := by kernel_rfl
theorem ok_d18 : OkC Tryz.prog noG 9 [.str [110, 111, 99, 117, 114, 114, 101, 110, 116, 112, 111, 105, 110, 116]] [] (.int .i64 38) := ok_of_run mixed kn0_ok extOk (TF.fn_all allN) (TF.fn_all allR) (TF.fn_all allC) (TF.fn_all allO) (isR_eq run_d18)
theorem run_a19 : isR [] (.str [105, 110, 118, 97, 108, 105, 100, 102, 111, 110, 116]) ((envE noG kn0 ext tabN.fn tabR.fn tabC.fn tabO.fn 10000 20).call 5 [.int .i64 39]) = true := by kernel_rfl
theorem ok_a19 : OkC Tryz.prog noG 5 [.int .i64 39] [] (.str [105, 110, 118, 97, 108, 105, 100, 102, 111, 110, 116]) := ok_of_run mixed kn0_ok extOk (TF.fn_all allN) (TF.fn_all allR) (TF.fn_all allC) (TF.fn_all allO) (isR_eq run_a19)
theorem run_b19 : isR [] (.str [105, 110, 118, 97, 108, 105, 100, 102, 111, 110, 116]) ((envE noG kn0 ext tabN.fn tabR.fn tabC.fn tabO.fn 10000 20).call 6 [.int .i64 39]) = true := by kernel_rfl
theorem ok_b19 : OkC Tryz.prog noG 6 [.int .i64 39] [] (.str [105, 110, 118, 97, 108, 105, 100, 102, 111, 110, 116]) := ok_of_run mixed kn0_ok extOk (TF.fn_all allN) (TF.fn_all allR) (TF.fn_all allC) (TF.fn_all allO) (isR_eq run_b19)
theorem run_c19 : isR [] (.int .i64 39) ((envE noG kn0 ext tabN.fn tabR.fn tabC.fn tabO.fn 10000 20).call 8 [.str [105, 110, 118, 97, 108, 105, 100, 102, 111, 110, 116]]) = true := by kernel_rfl
theorem ok_c19 : OkC Tryz.prog noG 8 [.str [105, 110, 118, 97, 108, 105, 100, 102, 111, 110, 116]] [] (.int .i64 39) := ok_of_run mixed kn0_ok extOk (TF.fn_all allN) (TF.fn_all allR) (TF.fn_all allC) (TF.fn_all allO) (isR_eq run_c19)
theorem run_d19 : isR [] (.int .i64 39) ((envE noG kn0 ext tabN.fn tabR.fn tabC.fn tabO.fn 10000 20).call 9 [.str [105, 110, 118, 97, 108, 105, 100, 102, 111, 110, 116]]) = true := by kernel_rfl
theorem ok_d19 : OkC Tryz.prog noG 9 [.str [105, 110, 118, 97, 108, 105, 100, 102, 111, 110, 116]] [] (.int .i64 39) := ok_of_run mixed kn0_ok extOk (TF.fn_all allN) (TF.fn_all allR) (TF.fn_all allC) (TF.fn_all allO) (isR_eq run_d19)
theorem run_a20 : isR [] (.str [117, 110, 100, 101, 102, 105, 110, 101, 100, 114, 101, 115, 111, 117, 114, 99, 101]) ((envE noG kn0 ext tabN.fn tabR.fn tabC.fn tabO.fn 10000 20).call 5 [.int .i64 40]) = true := by kernel_rfl
theorem ok_a20 : OkC Tryz.prog noG 5 [.int .i64 40] [] (.str [117, 110, 100, 101, 102, 105, 110, 101, 100, 114, 101, 115, 111, 117, 114, 99, 101]) := ok_of_run mixed kn0_ok extOk (TF.fn_all allN) (TF.fn_all allR) (TF.fn_all allC) (TF.fn_all allO) (isR_eq run_a20)
theorem run_b20 : isR [] (.str [117, 110, 100, 101, 102, 105, 110, 101, 100, 114, 101, 115, 111, 117, 114, 99, 101]) ((envE noG kn0 ext tabN.fn tabR.fn tabC.fn tabO.fn 10000 20).call 6 [.int .i64 40]) = true := by kernel_rfl
theorem ok_b20 : OkC Tryz.prog noG 6 [.int .i64 40] [] (.str [117, 110, 100, 101, 102, 105, 110, 101, 100, 114, 101, 115, 111, 117, 114, 99, 101]) := ok_of_run mixed kn0_ok extOk (TF.fn_all allN) (TF.fn_all allR) (TF.fn_all allC) (TF.fn_all allO) (isR_eq run_b20)
theorem run_c20 : isR [] (.int .i64 40) ((envE noG kn0 ext tabN.fn tabR.fn tabC.fn tabO.fn 10000 20).call 8 [.str [117, 110, 100, 101, 102, 105, 110, 101, 100, 114, 101, 115, 111, 117, 114, 99, 101]]) = true := by kernel_rfl
theorem ok_c20 : OkC Tryz.prog noG 8 [.str [117, 110, 100, 101, 102, 105, 110, 101, 100, 114, 101, 115, 111, 117, 114, 99, 101]] [] (.int .i64 40) := ok_of_run mixed kn0_ok extOk (TF.fn_all allN) (TF.fn_all allR) (TF.fn_all allC) (TF.fn_all allO) (isR_eq run_c20)
theorem run_d20 : isR [] (.int .i64 40) ((envE noG kn0 ext tabN.fn tabR.fn tabC.fn tabO.fn 10000 20).call 9 [.str [117, 110, 100, 101, 102, 105, 110, 101, 100, 114, 101, 115, 111, 117, 114, 99, 101]]) = true := by kernel_rfl
theorem ok_d20 : OkC Tryz.prog noG 9 [.str [117, 110, 100, 101, 102, 105, 110, 101, 100, 114, 101, 115, 111, 117, 114, 99, 101]] [] (.int .i64 40) := ok_of_run mixed kn0_ok extOk (TF.fn_all allN) (TF.fn_all allR) (TF.fn_all allC) (TF.fn_all allO) (isR_eq run_d20)
theorem run_a21 : isR [] (.str [99, 111, 110, 102, 105, 103, 117, 114, 97, 116, 105, 111, 110, 101, 114, 114, 111, 114]) ((envE noG kn0 ext tabN.fn tabR.fn tabC.fn tabO.fn 10000 20).call 5 [.int .i64 41]) = true := by kernel_rfl
theorem ok_a21 : OkC Tryz.prog noG 5 [.int .i64 41] [] (.str [99, 111, 110, 102, 105, 103, 117, 114, 97, 116, 105, 111, 110, 101, 114, 114, 111, 114]) := ok_of_run mixed kn0_ok extOk (TF.fn_all allN) (TF.fn_all allR) (TF.fn_all allC) (TF.fn_all allO) (isR_eq run_a21)
theorem run_b21 : isR [] (.str [99, 111, 110, 102, 105, 103, 117, 114, 97, 116, 105, 111, 110, 101, 114, 114, 111, 114]) ((envE noG kn0 ext tabN.fn tabR.fn tabC.fn tabO.fn 10000 20).call 6 [.int .i64 41]) = true := by kernel_rfl
theorem ok_b21 : OkC Tryz.prog noG 6 [.int .i64 41] [] (.str [99, 111, 110, 102, 105, 103, 117, 114, 97, 116, 105, 111, 110, 101, 114, 114, 111, 114]) := ok_of_run mixed kn0_ok extOk (TF.fn_all allN) (TF.fn_all allR) (TF.fn_all allC) (TF.fn_all allO) (isR_eq run_b21)
theorem run_c21 : isR [] (.int .i64 41) ((envE noG kn0 ext tabN.fn tabR.fn tabC.fn tabO.fn 10000 20).call 8 [.str [99, 111, 110, 102, 105, 103, 117, 114, 97, 116, 105, 111, 110, 101, 114, 114, 111, 114]]) = true := by kernel_rfl
theorem ok_c21 : OkC Tryz.prog noG 8 [.str [99, 111, 110, 102, 105, 103, 117, 114, 97, 116, 105, 111, 110, 101, 114, 114, 111, 114]] [] (.int .i64 41) := ok_of_run mixed kn0_ok extOk (TF.fn_all allN) (TF.fn_all allR) (TF.fn_all allC) (TF.fn_all allO) (isR_eq run_c21)
theorem run_d21 : isR [] (.int .i64 41) ((envE noG kn0 ext tabN.fn tabR.fn tabC.fn tabO.fn 10000 20).call 9 [.str [99, 111, 110, 102, 105, 103, 117, 114, 97, 116, 105, 111, 110, 101, 114, 114, 111, 114]]) = true := by kernel_rfl
theorem ok_d21 : OkC Tryz.prog noG 9 [.str [99, 111, 110, 102, 105, 103, 117, 114, 97, 116, 105, 111, 110, 101, 114, 114, 111, 114]] [] (.int .i64 41) := ok_of_run mixed kn0_ok extOk (TF.fn_all allN) (TF.fn_all allR) (TF.fn_all allC) (TF.fn_all allO) (isR_eq run_d21)
theorem run_a22 : isR [] (.str [116, 105, 109, 101, 111, 117, 116]) ((envE noG kn0 ext tabN.fn tabR.fn tabC.fn tabO.fn 10000 20).call 5 [.int .i64 42]) = true := by kernel_rfl
theorem ok_a22 : OkC Tryz.prog noG 5 [.int .i64 42] [] (.str [116, 105, 109, 101, 111, 117, 116]) := ok_of_run mixed kn0_ok extOk (TF.fn_all allN) (TF.fn_all allR) (TF.fn_all allC) (TF.fn_all allO) (isR_eq run_a22)
theorem run_b22 : isR [] (.str [116, 105, 109, 101, 111, 117, 116]) ((envE noG kn0 ext tabN.fn tabR.fn tabC.fn tabO.fn 10000 20).call 6 [.int .i64 42]) = true := by kernel_rfl
theorem ok_b22 : OkC Tryz.prog noG 6 [.int .i64 42] [] (.str [116, 105, 109, 101, 111, 117, 116]) := ok_of_run mixed kn0_ok extOk (TF.fn_all allN) (TF.fn_all allR) (TF.fn_all allC) (TF.fn_all allO) (isR_eq run_b22)
theorem run_c22 : isR [] (.int .i64 42) ((envE noG kn0 ext tabN.fn tabR.fn tabC.fn tabO.fn 10000 20).call 8 [.str [116, 105, 109, 101, 111, 117, 116]]) = true := by kernel_rfl
theorem ok_c22 : OkC Tryz.prog noG 8 [.str [116, 105, 109, 101, 111, 117, 116]] [] (.int .i64 42) := ok_of_run mixed kn0_ok extOk (TF.fn_all allN) (TF.fn_all allR) (TF.fn_all allC) (TF.fn_all allO) (isR_eq run_c22)
theorem run_d22 : isR [] (.int .i64 42) ((envE noG kn0 ext tabN.fn tabR.fn tabC.fn tabO.fn 10000 20).call 9 [.str [116, 105, 109, 101, 111, 117, 116]]) = true := by kernel_rfl
theorem ok_d22 : OkC Tryz.prog noG 9 [.str [116, 105, 109, 101, 111, 117, 116]] [] (.int .i64 42) := ok_of_run mixed kn0_ok extOk (TF.fn_all allN) (TF.fn_all allR) (TF.fn_all allC) (TF.fn_all allO) (isR_eq run_d22)
theorem noExt : InlOk Tryz.prog noG fun g => (noX g).map extH := fun _ _ h => by cases h
theorem toOk {g : Nat} {c : RFn} {ps : List PV} {r : PV} (hc : tabC.fn g = some c) (hl : ps.length = c.nparams) (h : fnW noG (OkC Tryz.prog noG) noX noT noT 0 c ps r) : OkC Tryz.prog noG g ps [] r :=
  ok_of_fnW mixed (TF.fn_all allC g c hc) noExt (fun _ _ h => by cases h) (fun _ _ h => by cases h) hl h
/-- Name. -/
theorem okName (e : Int) : ∃ r, OkC Tryz.prog noG 5 [.int .i64 e] [] (.str r) ∧ OkC Tryz.prog noG 6 [.int .i64 e] [] (.str r) := by
  by_cases h : e < 20 ∨ 42 < e
  · exact ⟨[], toOk (c := c5) rfl rfl (nameOut _ e h), toOk (c := c6) rfl rfl (refNameOut _ e h ok_ref)⟩
  · have : e = 20 ∨ e = 21 ∨ e = 22 ∨ e = 23 ∨ e = 24 ∨ e = 25 ∨ e = 26 ∨ e = 27 ∨ e = 28 ∨ e = 29 ∨ e = 30 ∨ e = 31 ∨ e = 32 ∨ e = 33 ∨ e = 34 ∨ e = 35 ∨ e = 36 ∨ e = 37 ∨ e = 38 ∨ e = 39 ∨ e = 40 ∨ e = 41 ∨ e = 42 := by omega
    rcases this with rfl | rfl | rfl | rfl | rfl | rfl | rfl | rfl | rfl | rfl | rfl | rfl | rfl | rfl | rfl | rfl | rfl | rfl | rfl | rfl | rfl | rfl | rfl
    · exact ⟨_, ok_a0, ok_b0⟩
    · exact ⟨_, ok_a1, ok_b1⟩
    · exact ⟨_, ok_a2, ok_b2⟩
    · exact ⟨_, ok_a3, ok_b3⟩
    · exact ⟨_, ok_a4, ok_b4⟩
    · exact ⟨_, ok_a5, ok_b5⟩
    · exact ⟨_, ok_a6, ok_b6⟩
    · exact ⟨_, ok_a7, ok_b7⟩
    · exact ⟨_, ok_a8, ok_b8⟩
    · exact ⟨_, ok_a9, ok_b9⟩
    · exact ⟨_, ok_a10, ok_b10⟩
    · exact ⟨_, ok_a11, ok_b11⟩
    · exact ⟨_, ok_a12, ok_b12⟩
    · exact ⟨_, ok_a13, ok_b13⟩
    · exact ⟨_, ok_a14, ok_b14⟩
    · exact ⟨_, ok_a15, ok_b15⟩
    · exact ⟨_, ok_a16, ok_b16⟩
    · exact ⟨_, ok_a17, ok_b17⟩
    · exact ⟨_, ok_a18, ok_b18⟩
    · exact ⟨_, ok_a19, ok_b19⟩
    · exact ⟨_, ok_a20, ok_b20⟩
    · exact ⟨_, ok_a21, ok_b21⟩
    · exact ⟨_, ok_a22, ok_b22⟩
/-- Of. -/
theorem okOf (s : List UInt8) : ∃ r, OkC Tryz.prog noG 8 [.str s] [] (.int .i64 r) ∧ OkC Tryz.prog noG 9 [.str s] [] (.int .i64 r) := by
  by_cases h0 : s = [115, 116, 97, 99, 107, 117, 110, 100, 101, 114, 102, 108, 111, 119]
  · subst h0; exact ⟨_, ok_c0, ok_d0⟩
  by_cases h1 : s = [115, 116, 97, 99, 107, 111, 118, 101, 114, 102, 108, 111, 119]
  · subst h1; exact ⟨_, ok_c1, ok_d1⟩
  by_cases h2 : s = [116, 121, 112, 101, 99, 104, 101, 99, 107]
  · subst h2; exact ⟨_, ok_c2, ok_d2⟩
  by_cases h3 : s = [114, 97, 110, 103, 101, 99, 104, 101, 99, 107]
  · subst h3; exact ⟨_, ok_c3, ok_d3⟩
  by_cases h4 : s = [117, 110, 100, 101, 102, 105, 110, 101, 100]
  · subst h4; exact ⟨_, ok_c4, ok_d4⟩
  by_cases h5 : s = [117, 110, 100, 101, 102, 105, 110, 101, 100, 114, 101, 115, 117, 108, 116]
  · subst h5; exact ⟨_, ok_c5, ok_d5⟩
  by_cases h6 : s = [108, 105, 109, 105, 116, 99, 104, 101, 99, 107]
  · subst h6; exact ⟨_, ok_c6, ok_d6⟩
  by_cases h7 : s = [86, 77, 101, 114, 114, 111, 114]
  · subst h7; exact ⟨_, ok_c7, ok_d7⟩
  by_cases h8 : s = [100, 105, 99, 116, 115, 116, 97, 99, 107, 117, 110, 100, 101, 114, 102, 108, 111, 119]
  · subst h8; exact ⟨_, ok_c8, ok_d8⟩
  by_cases h9 : s = [100, 105, 99, 116, 115, 116, 97, 99, 107, 111, 118, 101, 114, 102, 108, 111, 119]
  · subst h9; exact ⟨_, ok_c9, ok_d9⟩
  by_cases h10 : s = [100, 105, 99, 116, 102, 117, 108, 108]
  · subst h10; exact ⟨_, ok_c10, ok_d10⟩
  by_cases h11 : s = [105, 110, 118, 97, 108, 105, 100, 97, 99, 99, 101, 115, 115]
  · subst h11; exact ⟨_, ok_c11, ok_d11⟩
  by_cases h12 : s = [117, 110, 109, 97, 116, 99, 104, 101, 100, 109, 97, 114, 107]
  · subst h12; exact ⟨_, ok_c12, ok_d12⟩
  by_cases h13 : s = [105, 110, 118, 97, 108, 105, 100, 101, 120, 105, 116]
  · subst h13; exact ⟨_, ok_c13, ok_d13⟩
  by_cases h14 : s = [105, 110, 118, 97, 108, 105, 100, 114, 101, 115, 116, 111, 114, 101]
  · subst h14; exact ⟨_, ok_c14, ok_d14⟩
  by_cases h15 : s = [101, 120, 101, 99, 115, 116, 97, 99, 107, 111, 118, 101, 114, 102, 108, 111, 119]
  · subst h15; exact ⟨_, ok_c15, ok_d15⟩
  by_cases h16 : s = [105, 111, 101, 114, 114, 111, 114]
  · subst h16; exact ⟨_, ok_c16, ok_d16⟩
  by_cases h17 : s = [115, 121, 110, 116, 97, 120, 101, 114, 114, 111, 114]
  · subst h17; exact ⟨_, ok_c17, ok_d17⟩
  by_cases h18 : s = [110, 111, 99, 117, 114, 114, 101, 110, 116, 112, 111, 105, 110, 116]
  · subst h18; exact ⟨_, ok_c18, ok_d18⟩
  by_cases h19 : s = [105, 110, 118, 97, 108, 105, 100, 102, 111, 110, 116]
  · subst h19; exact ⟨_, ok_c19, ok_d19⟩
  by_cases h20 : s = [117, 110, 100, 101, 102, 105, 110, 101, 100, 114, 101, 115, 111, 117, 114, 99, 101]
  · subst h20; exact ⟨_, ok_c20, ok_d20⟩
  by_cases h21 : s = [99, 111, 110, 102, 105, 103, 117, 114, 97, 116, 105, 111, 110, 101, 114, 114, 111, 114]
  · subst h21; exact ⟨_, ok_c21, ok_d21⟩
  by_cases h22 : s = [116, 105, 109, 101, 111, 117, 116]
  · subst h22; exact ⟨_, ok_c22, ok_d22⟩
  have hn : ∀ c ∈ names, s ≠ c := by
    intro c hc
    simp only [names, List.mem_cons, List.not_mem_nil, or_false] at hc
    rcases hc with rfl | rfl | rfl | rfl | rfl | rfl | rfl | rfl | rfl | rfl | rfl | rfl | rfl | rfl | rfl | rfl | rfl | rfl | rfl | rfl | rfl | rfl | rfl
    · exact h0
    · exact h1
    · exact h2
    · exact h3
    · exact h4
    · exact h5
    · exact h6
    · exact h7
    · exact h8
    · exact h9
    · exact h10
    · exact h11
    · exact h12
    · exact h13
    · exact h14
    · exact h15
    · exact h16
    · exact h17
    · exact h18
    · exact h19
    · exact h20
    · exact h21
    · exact h22
  exact ⟨0, toOk (c := c8) rfl rfl (ofOut _ s ok_names hn), toOk (c := c9) rfl rfl (refOut _ s ok_ref hn)⟩
end Go.Ab.Fn

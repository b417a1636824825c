/- Text 5 of 10 of this claim: a machine of plain values beside the model, what the functions of the program and of the reference answer over it, and last the row and its card. -/
import Derived.Test.YtgikdhbldjkbbaaGreatDoorVK4
import Derived.Test.YtgikdhbldjkbbaaGreatDoorProg
import Derived.KernelRfl
set_option linter.unusedVariables false
set_option linter.unusedSimpArgs false
set_option maxRecDepth 1000000
namespace Go.Vs.Tryz
open Go.Proofs
def v3_0 : List VI := [.op (some 1) none (.box (.t 0)), .op (some 2) none (.p (.mov (.c (.bool false))))]
def v3_1 : List VI := [.op (some 9) none (.ld true 26 (.t 1)), .call (some 10) none (.fn 4) [.t 9], .op (some 8) none (.p (.mov (.t 10))), .op (some 11) none (.p (.ext (.t 8) 0)), .op (some 12) none (.p (.ext (.t 8) 1)), .op (some 3) none (.new [.int .u64 (nl 0), .int .u64 (nl 0), .int .u64 (nl 0), .int .u64 (nl 0), .int .u64 (nl 0), .int .u64 (nl 0), .int .u64 (nl 0), .int .u64 (nl 0), .nils, .nils]), .op (some 4) none (.new [.int .i64 0, .int .i64 0, .int .i64 0, .int .i64 0, .int .i64 0, .int .i64 0, .int .i64 0, .int .i64 0, .int .i64 0, .int .i64 0, .int .i64 0, .int .i64 0, .int .i64 0, .int .i64 0, .int .i64 0, .int .i64 0, .int .i64 0, .int .i64 0, .int .i64 0, .int .i64 0, .int .i64 0, .int .u64 (nl 0), .int .u64 (nl 0), .int .u64 (nl 0), .int .u64 (nl 0), .nils, .int .i64 0, .int .i64 0, .int .i64 0, .int .i64 0, .int .i64 0, .int .i64 0, .int .i64 0, .int .i64 0, .int .i64 0, .int .i64 0, .int .i64 0, .int .i64 0, .int .i64 0, .int .i64 0, .int .i64 0, .int .i64 0, .int .i64 0, .int .i64 0, .int .i64 0, .int .i64 0, .int .i64 0, .int .u64 (nl 0), .int .u64 (nl 0), .int .u64 (nl 0), .int .u64 (nl 0), .nils, .nils, .nils]), .op none none (.st 10 (.t 3) (.t 11)), .op none none (.st 54 (.t 4) (.t 12))]
def v3_2 : List VI := [.op (some 14) none (.ld true 26 (.t 1)), .call (some 15) none (.fn 5) [.t 14], .op (some 13) none (.p (.mov (.t 15))), .op (some 16) none (.p (.ext (.t 13) 0)), .op (some 17) none (.p (.ext (.t 13) 1)), .op (some 5) none (.new [.nils, .nils, .int .u64 (nl 0), .int .u64 (nl 0), .int .u64 (nl 0), .int .u64 (nl 0), .int .u64 (nl 0), .int .u64 (nl 0), .int .u64 (nl 0), .int .u64 (nl 0)]), .op (some 6) none (.new [.nils, .nils, .int .u64 (nl 0), .int .u64 (nl 0), .int .u64 (nl 0), .int .u64 (nl 0), .int .u64 (nl 0), .int .u64 (nl 0), .int .u64 (nl 0), .int .u64 (nl 0)]), .op none none (.st 10 (.t 5) (.t 16)), .op none none (.st 10 (.t 6) (.t 17))]
def v3_3 : List VI := [.op (some 18) none (.p (.fda 23 (.t 1))), .op (some 19) none (.ld false 1 (.t 18)), .call (some 20) none (.fn 6) [.t 19], .op (some 7) none (.p (.mov (.t 20)))]
def v3_4 : List DS := [.mk 0 true (.op (some 21) none (.ld true 10 (.t 3))) [] [], .mk 1 true (.op (some 22) none (.ld true 10 (.t 5))) [] [], .mk 2 true (.op (some 23) none (.p (.mov (.t 7)))) [] [], .mk 4 true (.op (some 25) none (.ld true 54 (.t 4))) [] [], .mk 5 true (.op (some 26) none (.ld true 10 (.t 6))) [] [], .mk 6 true (.op (some 27) none (.p (.fda 23 (.t 1)))) [] [], .mk 7 true (.op (some 28) none (.ld false 1 (.t 27))) [] [], .mk 3 false (.call (some 24) none (.fn 7) [.t 21, .t 22, .t 23]) [4, 6, 27] [], .mk 8 false (.call (some 29) none (.fn 9) [.t 28]) [4, 6] [], .mk 9 false (.call (some 30) none (.fn 8) [.t 25, .t 26, .t 29]) [] [], .mk 10 true (.op (some 31) none (.p (.eq false .i (.t 24) (.t 30)))) [] [], .mk 11 true (.op (some 32) none (.p (.mov (.t 31)))) [] [], .mk 12 true (.op (some 33) (some (32, true)) (.p (.fda 8 (.t 3)))) [] [], .mk 13 true (.op (some 34) (some (32, true)) (.ld false 1 (.t 33))) [] [], .mk 14 true (.op (some 35) (some (32, true)) (.p (.fda 8 (.t 1)))) [] [], .mk 15 true (.op (some 36) (some (32, true)) (.ld false 1 (.t 35))) [] [], .mk 16 false (.call (some 37) (some (32, true)) (.fn 10) [.t 34, .t 36]) [] [], .mk 17 true (.op (some 38) none (.p (.pick (.t 32) (.t 37) (.c (.bool false))))) [] [], .mk 18 true (.op (some 39) none (.p (.mov (.t 38)))) [] [], .mk 19 true (.op (some 40) (some (39, true)) (.p (.mov (.t 7)))) [] [], .mk 20 true (.op (some 41) (some (39, true)) (.p (.fda 23 (.t 1)))) [] [], .mk 21 true (.op (some 42) (some (39, true)) (.ld false 1 (.t 41))) [] [], .mk 22 false (.call (some 43) (some (39, true)) (.fn 11) [.t 40, .t 42]) [] [], .mk 23 true (.op (some 44) none (.p (.pick (.t 39) (.t 43) (.c (.bool false))))) [] [], .mk 24 false (.op (some 2) none (.p (.mov (.t 44)))) [] []]
def v3 : VC := .seq (.reg v3_0) (.seq (.reg v3_1) (.seq (.reg v3_2) (.seq (.reg v3_3) (.seq (.drw v3_4) .ret))))
def rr3 : List RV := [.t 2]
theorem code3 : (Tryz.f3.body).bind (cCode Tryz.prog) = some v3 := by kernel_rfl
theorem res3 : cRVs Tryz.prog (Tryz.f3.results.toList) = some rr3 := by kernel_rfl
theorem nt3 : Tryz.f3.ntmps = 45 := by kernel_rfl
theorem nm3 : (Tryz.f3.name == "runtime.NumGoroutine") = false := by kernel_rfl
def v4_0 : List VI := [.op (some 1) none (.box (.t 0)), .op (some 2) none (.new [.int .u64 (nl 0), .int .u64 (nl 0), .int .u64 (nl 0), .int .u64 (nl 0), .int .u64 (nl 0), .int .u64 (nl 0), .int .u64 (nl 0), .int .u64 (nl 0), .nils, .nils]), .op (some 3) none (.new [.int .i64 0, .int .i64 0, .int .i64 0, .int .i64 0, .int .i64 0, .int .i64 0, .int .i64 0, .int .i64 0, .int .i64 0, .int .i64 0, .int .i64 0, .int .i64 0, .int .i64 0, .int .i64 0, .int .i64 0, .int .i64 0, .int .i64 0, .int .i64 0, .int .i64 0, .int .i64 0, .int .i64 0, .int .u64 (nl 0), .int .u64 (nl 0), .int .u64 (nl 0), .int .u64 (nl 0), .nils, .int .i64 0, .int .i64 0, .int .i64 0, .int .i64 0, .int .i64 0, .int .i64 0, .int .i64 0, .int .i64 0, .int .i64 0, .int .i64 0, .int .i64 0, .int .i64 0, .int .i64 0, .int .i64 0, .int .i64 0, .int .i64 0, .int .i64 0, .int .i64 0, .int .i64 0, .int .i64 0, .int .i64 0, .int .u64 (nl 0), .int .u64 (nl 0), .int .u64 (nl 0), .int .u64 (nl 0), .nils, .nils, .nils])]
def v4_1 : List DS := [.mk 0 true (.op (some 4) none (.p (.fda 4 (.t 1)))) [] [], .mk 1 true (.op (some 5) none (.ld true 4 (.t 4))) [] [], .mk 3 true (.op (some 7) none (.p (.fda 0 (.t 1)))) [] [], .mk 4 true (.op (some 8) none (.ld true 4 (.t 7))) [] [], .mk 6 true (.op (some 10) none (.p (.fda 8 (.t 1)))) [] [], .mk 7 true (.op (some 11) none (.ld false 1 (.t 10))) [] [], .mk 9 true (.op (some 13) none (.p (.fda 9 (.t 1)))) [] [], .mk 10 true (.op (some 14) none (.ld false 1 (.t 13))) [] [], .mk 13 true (.op (some 17) none (.p (.fda 4 (.t 1)))) [] [], .mk 14 true (.op (some 18) none (.ld true 4 (.t 17))) [] [], .mk 16 true (.op (some 20) none (.p (.fda 0 (.t 1)))) [] [], .mk 17 true (.op (some 21) none (.ld true 4 (.t 20))) [] [], .mk 19 true (.op (some 23) none (.p (.fda 8 (.t 1)))) [] [], .mk 20 true (.op (some 24) none (.ld false 1 (.t 23))) [] [], .mk 22 true (.op (some 26) none (.p (.fda 9 (.t 1)))) [] [], .mk 23 true (.op (some 27) none (.ld false 1 (.t 26))) [] [], .mk 2 false (.call (some 6) none (.fn 12) [.t 5]) [7, 10, 13, 17, 20, 23, 26] [], .mk 5 false (.call (some 9) none (.fn 12) [.t 8]) [10, 13, 17, 20, 23, 26] [], .mk 8 false (.call (some 12) none (.fn 13) [.t 11]) [13, 17, 20, 23, 26] [], .mk 11 false (.call (some 15) none (.fn 13) [.t 14]) [17, 20, 23, 26] [], .mk 12 true (.op (some 16) none (.p (.bld [.int .u64 (nl 0), .int .u64 (nl 0), .int .u64 (nl 0), .int .u64 (nl 0), .int .u64 (nl 0), .int .u64 (nl 0), .int .u64 (nl 0), .int .u64 (nl 0), .nils, .nils] [(0, 4, .t 6), (4, 4, .t 9), (8, 1, .t 12), (9, 1, .t 15)]))) [] [], .mk 15 false (.call (some 19) none (.fn 14) [.t 18]) [20, 23, 26] [], .mk 18 false (.call (some 22) none (.fn 14) [.t 21]) [23, 26] [], .mk 21 false (.call (some 25) none (.fn 15) [.t 24]) [26] [], .mk 24 false (.call (some 28) none (.fn 15) [.t 27]) [] [], .mk 25 true (.op (some 29) none (.p (.bld [.int .i64 0, .int .i64 0, .int .i64 0, .int .i64 0, .int .i64 0, .int .i64 0, .int .i64 0, .int .i64 0, .int .i64 0, .int .i64 0, .int .i64 0, .int .i64 0, .int .i64 0, .int .i64 0, .int .i64 0, .int .i64 0, .int .i64 0, .int .i64 0, .int .i64 0, .int .i64 0, .int .i64 0, .int .u64 (nl 0), .int .u64 (nl 0), .int .u64 (nl 0), .int .u64 (nl 0), .nils, .int .i64 0, .int .i64 0, .int .i64 0, .int .i64 0, .int .i64 0, .int .i64 0, .int .i64 0, .int .i64 0, .int .i64 0, .int .i64 0, .int .i64 0, .int .i64 0, .int .i64 0, .int .i64 0, .int .i64 0, .int .i64 0, .int .i64 0, .int .i64 0, .int .i64 0, .int .i64 0, .int .i64 0, .int .u64 (nl 0), .int .u64 (nl 0), .int .u64 (nl 0), .int .u64 (nl 0), .nils, .nils, .nils] [(0, 26, .t 19), (26, 26, .t 22), (52, 1, .t 25), (53, 1, .t 28)]))) [] [], .mk 26 false (.op none none (.st 10 (.t 2) (.t 16))) [] [], .mk 27 false (.op none none (.st 54 (.t 3) (.t 29))) [] []]
def v4 : VC := .seq (.reg v4_0) (.seq (.drw v4_1) .ret)
def rr4 : List RV := [.m 2 true 10, .m 3 true 54]
theorem code4 : (Tryz.f4.body).bind (cCode Tryz.prog) = some v4 := by kernel_rfl
theorem res4 : cRVs Tryz.prog (Tryz.f4.results.toList) = some rr4 := by kernel_rfl
theorem nt4 : Tryz.f4.ntmps = 30 := by kernel_rfl
theorem nm4 : (Tryz.f4.name == "runtime.NumGoroutine") = false := by kernel_rfl
def v5_0 : List VI := [.op (some 1) none (.box (.t 0)), .op (some 2) none (.new [.nils, .nils, .int .u64 (nl 0), .int .u64 (nl 0), .int .u64 (nl 0), .int .u64 (nl 0), .int .u64 (nl 0), .int .u64 (nl 0), .int .u64 (nl 0), .int .u64 (nl 0)]), .op (some 3) none (.new [.nils, .nils, .int .u64 (nl 0), .int .u64 (nl 0), .int .u64 (nl 0), .int .u64 (nl 0), .int .u64 (nl 0), .int .u64 (nl 0), .int .u64 (nl 0), .int .u64 (nl 0)])]
def v5_1 : List DS := [.mk 0 true (.op (some 4) none (.p (.fda 12 (.t 1)))) [] [], .mk 1 true (.op (some 5) none (.ld false 1 (.t 4))) [] [], .mk 3 true (.op (some 7) none (.p (.fda 13 (.t 1)))) [] [], .mk 4 true (.op (some 8) none (.ld false 1 (.t 7))) [] [], .mk 6 true (.op (some 10) none (.p (.fda 14 (.t 1)))) [] [], .mk 7 true (.op (some 11) none (.ld true 4 (.t 10))) [] [], .mk 8 true (.op (some 12) none (.p (.fda 18 (.t 1)))) [] [], .mk 9 true (.op (some 13) none (.ld true 4 (.t 12))) [] [], .mk 11 true (.op (some 15) none (.p (.fda 12 (.t 1)))) [] [], .mk 12 true (.op (some 16) none (.ld false 1 (.t 15))) [] [], .mk 14 true (.op (some 18) none (.p (.fda 13 (.t 1)))) [] [], .mk 15 true (.op (some 19) none (.ld false 1 (.t 18))) [] [], .mk 17 true (.op (some 21) none (.p (.fda 14 (.t 1)))) [] [], .mk 18 true (.op (some 22) none (.ld true 4 (.t 21))) [] [], .mk 20 true (.op (some 24) none (.p (.fda 18 (.t 1)))) [] [], .mk 21 true (.op (some 25) none (.ld true 4 (.t 24))) [] [], .mk 2 false (.call (some 6) none (.fn 13) [.t 5]) [7, 10, 12, 15, 18, 21, 24] [], .mk 5 false (.call (some 9) none (.fn 13) [.t 8]) [10, 12, 15, 18, 21, 24] [], .mk 10 true (.op (some 14) none (.p (.bld [.nils, .nils, .int .u64 (nl 0), .int .u64 (nl 0), .int .u64 (nl 0), .int .u64 (nl 0), .int .u64 (nl 0), .int .u64 (nl 0), .int .u64 (nl 0), .int .u64 (nl 0)] [(0, 1, .t 6), (1, 1, .t 9), (2, 4, .t 11), (6, 4, .t 13)]))) [] [], .mk 13 false (.call (some 17) none (.fn 15) [.t 16]) [10, 12, 18, 21, 24] [], .mk 16 false (.call (some 20) none (.fn 15) [.t 19]) [10, 12, 21, 24] [], .mk 19 false (.call (some 23) none (.fn 16) [.t 22]) [10, 12, 24] [], .mk 22 false (.call (some 26) none (.fn 16) [.t 25]) [10, 12] [], .mk 23 true (.op (some 27) none (.p (.bld [.nils, .nils, .int .u64 (nl 0), .int .u64 (nl 0), .int .u64 (nl 0), .int .u64 (nl 0), .int .u64 (nl 0), .int .u64 (nl 0), .int .u64 (nl 0), .int .u64 (nl 0)] [(0, 1, .t 17), (1, 1, .t 20), (2, 4, .t 23), (6, 4, .t 26)]))) [] [], .mk 24 false (.op none none (.st 10 (.t 2) (.t 14))) [] [], .mk 25 false (.op none none (.st 10 (.t 3) (.t 27))) [] []]
def v5 : VC := .seq (.reg v5_0) (.seq (.drw v5_1) .ret)
def rr5 : List RV := [.m 2 true 10, .m 3 true 10]
theorem code5 : (Tryz.f5.body).bind (cCode Tryz.prog) = some v5 := by kernel_rfl
theorem res5 : cRVs Tryz.prog (Tryz.f5.results.toList) = some rr5 := by kernel_rfl
theorem nt5 : Tryz.f5.ntmps = 28 := by kernel_rfl
theorem nm5 : (Tryz.f5.name == "runtime.NumGoroutine") = false := by kernel_rfl
def v6_0 : List VI := [.op (some 2) none (.p (.mov (.c .nils)))]
def v6_1 : List VI := [.op (some 5) none (.p (.mov (.t 0))), .call (some 6) none (.fn 17) [.t 5], .op (some 0) none (.p (.mov (.t 6)))]
def v6_2 : List VI := [.op (some 7) none (.p (.mov (.t 0))), .op (some 8) none (.p (.len false (.t 7))), .op (some 9) none (.p (.bin .add (.t 8) (.c (.int .i64 1)))), .op (some 10) none (.mks 4 32 [.int .u64 (nl 0), .int .u64 (nl 0), .int .u64 (nl 0), .int .u64 (nl 0)] (.t 9) (.t 9)), .op (some 3) none (.p (.mov (.t 10)))]
def v6_3 : List VI := [.op (some 4) none (.p (.mov (.c (.int .i64 0))))]
def v6_4 : List VI := [.op (some 11) none (.p (.mov (.t 4))), .op (some 12) none (.p (.mov (.t 0))), .op (some 13) none (.p (.len false (.t 12))), .op (some 14) none (.p (.bin .lss (.t 11) (.t 13)))]
def v6_5 : List VI := [.op (some 17) none (.p (.mov (.t 3))), .op (some 18) none (.p (.mov (.t 4))), .op (some 19) none (.p (.mov (.t 0))), .op (some 20) none (.p (.mov (.t 4))), .op (some 21) none (.p (.ixs 4 (.t 19) (.t 20))), .op (some 22) none (.ld true 4 (.t 21)), .op (some 23) none (.p (.ixs 4 (.t 17) (.t 18))), .op none none (.st 4 (.t 23) (.t 22))]
def v6_6 : VC := .reg v6_5
def v6_7 : List VI := [.op (some 15) none (.p (.mov (.t 4))), .op (some 16) none (.p (.bin .add (.t 15) (.c (.int .i64 1)))), .op (some 4) none (.p (.mov (.t 16)))]
def v6_8 : VC := .seq (.seq (.reg v6_4) (.cond (.t 14) .skip (.exit 0))) (.seq (.block 1 v6_6) (.reg v6_7))
def v6_9 : VC := .loop v6_8
def v6_10 : List VI := [.op (some 24) none (.p (.mov (.t 3))), .op (some 25) none (.p (.mov (.t 0))), .op (some 26) none (.p (.len false (.t 25))), .op (some 27) none (.p (.bld [.int .u64 (nl 0), .int .u64 (nl 0), .int .u64 (nl 0), .int .u64 (nl 0)] [(0, 1, .c (.int .u64 (nl 78)))])), .op (some 28) none (.p (.ixs 4 (.t 24) (.t 26))), .op none none (.st 4 (.t 28) (.t 27))]
def v6_11 : List VI := [.op (some 29) none (.p (.mov (.t 3))), .op (some 30) none (.p (.mov (.t 0))), .op (some 31) none (.p (.len false (.t 30))), .op (some 32) none (.slx 4 (.t 29) none (some (.t 31)) none), .op (some 2) none (.p (.mov (.t 32)))]
def v6 : VC := .seq (.reg v6_0) (.seq (.reg v6_1) (.seq (.reg v6_2) (.seq (.seq (.reg v6_3) (.block 0 v6_9)) (.seq (.reg v6_10) (.seq (.reg v6_11) .ret)))))
def rr6 : List RV := [.t 2]
theorem code6 : (Tryz.f6.body).bind (cCode Tryz.prog) = some v6 := by kernel_rfl
theorem res6 : cRVs Tryz.prog (Tryz.f6.results.toList) = some rr6 := by kernel_rfl
theorem nt6 : Tryz.f6.ntmps = 33 := by kernel_rfl
theorem nm6 : (Tryz.f6.name == "runtime.NumGoroutine") = false := by kernel_rfl
def v7_0 : List VI := [.op (some 3) none (.box (.t 0)), .op (some 4) none (.box (.t 1)), .op (some 6) none (.p (.mov (.c (.int .i64 0))))]
def v7_1 : List VI := [.op (some 12) none (.ld true 10 (.t 3)), .op (some 13) none (.ld true 10 (.t 4)), .op (some 14) none (.p (.mov (.t 2))), .call (some 15) none (.fn 18) [.t 12, .t 13, .t 14], .op (some 7) none (.p (.mov (.t 15)))]
def v7_2 : List VI := [.op (some 16) none (.p (.mov (.t 7))), .op (some 17) none (.p (.eq true .i (.t 16) (.c (.int .i64 0))))]
def v7_3 : List VI := [.op (some 18) none (.p (.mov (.t 7))), .op (some 6) none (.p (.mov (.t 18)))]
def v7_4 : List VI := [.op (some 19) none (.ld true 10 (.t 3)), .op (some 8) none (.new [.int .u64 (nl 0), .int .u64 (nl 0), .int .u64 (nl 0), .int .u64 (nl 0), .int .u64 (nl 0), .int .u64 (nl 0), .int .u64 (nl 0), .int .u64 (nl 0), .nils, .nils]), .op none none (.st 10 (.t 8) (.t 19))]
def v7_5 : List VI := [.op (some 20) none (.ld true 10 (.t 3)), .op (some 21) none (.ld true 10 (.t 4)), .op (some 22) none (.p (.mov (.t 2))), .call (some 23) none (.fn 19) [.t 20, .t 21, .t 22]]
def v7_6 : List VI := [.op (some 9) none (.new [.int .u64 (nl 0), .int .u64 (nl 0), .int .u64 (nl 0), .int .u64 (nl 0), .int .u64 (nl 0), .int .u64 (nl 0), .int .u64 (nl 0), .int .u64 (nl 0), .nils, .nils]), .op none none (.st 10 (.t 9) (.t 24))]
def v7_7 : List VI := [.op (some 25) none (.ld true 10 (.t 9)), .op none none (.st 10 (.t 8) (.t 25))]
def v7_8 : VC := .reg v7_7
def v7_9 : VC := .reg v7_6
def v7_10 : VC := .block 1 v7_8
def v7_11 : VC := .rng (.t 23) [24] v7_9 v7_10
def v7_12 : List VI := [.op (some 27) none (.p (.fda 4 (.t 8))), .op (some 28) none (.ld true 4 (.t 27)), .op (some 29) none (.p (.fda 8 (.t 8))), .op (some 30) none (.ld false 1 (.t 29)), .op (some 31) none (.p (.fda 9 (.t 8))), .op (some 32) none (.ld false 1 (.t 31)), .op (some 33) none (.p (.fda 2 (.t 4))), .op (some 34) none (.ld true 4 (.t 33)), .op (some 35) none (.bsl 1 [.int .u64 (nl 0), .int .u64 (nl 0), .int .u64 (nl 0), .int .u64 (nl 0)] [(0, 4, .t 34)]), .op (some 36) none (.p (.fda 6 (.t 4))), .op (some 37) none (.ld true 4 (.t 36)), .op (some 38) none (.bsl 1 [.int .u64 (nl 0), .int .u64 (nl 0), .int .u64 (nl 0), .int .u64 (nl 0)] [(0, 4, .t 37)]), .call (some 39) none (.fn 20) [.t 28, .t 30, .t 32, .t 35, .t 38], .op (some 26) none (.p (.mov (.t 39))), .op (some 40) none (.p (.ext (.t 26) 0)), .op (some 41) none (.p (.ext (.t 26) 1)), .op (some 10) none (.new [.int .u64 (nl 0), .int .u64 (nl 0), .int .u64 (nl 0), .int .u64 (nl 0)]), .op none none (.st 4 (.t 10) (.t 40)), .op (some 11) none (.p (.mov (.t 41)))]
def v7_13 : List VI := [.op (some 42) none (.ld true 4 (.t 10)), .op (some 43) none (.p (.mkI 29 (.t 42))), .op (some 44) none (.p (.fda 0 (.t 8))), .op (some 45) none (.ld true 4 (.t 44)), .call (some 46) none (.inv (.t 43) "Same") [.t 45], .op (some 47) none (.p (.un .not (.t 46)))]
def v7_14 : List VI := [.op (some 6) none (.p (.mov (.c (.int .i64 120))))]
def v7_15 : List VI := [.op (some 6) none (.p (.mov (.c (.int .i64 0))))]
def v7 : VC := .seq (.reg v7_0) (.seq (.seq (.reg v7_1) (.seq (.reg v7_2) (.cond (.t 17) (.seq (.reg v7_3) .ret) .skip))) (.seq (.reg v7_4) (.seq (.seq (.reg v7_5) (.block 0 v7_11)) (.seq (.reg v7_12) (.seq (.seq (.reg v7_13) (.cond (.t 47) (.seq (.reg v7_14) .ret) .skip)) (.seq (.reg v7_15) .ret))))))
def rr7 : List RV := [.t 6]
theorem code7 : (Tryz.f7.body).bind (cCode Tryz.prog) = some v7 := by kernel_rfl
theorem res7 : cRVs Tryz.prog (Tryz.f7.results.toList) = some rr7 := by kernel_rfl
theorem nt7 : Tryz.f7.ntmps = 48 := by kernel_rfl
theorem nm7 : (Tryz.f7.name == "runtime.NumGoroutine") = false := by kernel_rfl
def v8_0 : List VI := [.op (some 3) none (.box (.t 0)), .op (some 4) none (.box (.t 1)), .op (some 6) none (.p (.mov (.c (.int .i64 0))))]
def v8_1 : List VI := [.op (some 8) none (.ld true 54 (.t 3)), .op (some 9) none (.ld true 10 (.t 4)), .op (some 10) none (.p (.mov (.t 2))), .call (some 11) none (.fn 21) [.t 8, .t 9, .t 10], .op (some 7) none (.p (.mov (.t 11)))]
def v8_2 : List VI := [.op (some 12) none (.p (.mov (.t 7))), .op (some 13) none (.p (.eq true .i (.t 12) (.c (.int .i64 0))))]
def v8_3 : List VI := [.op (some 14) none (.p (.mov (.t 7))), .op (some 6) none (.p (.mov (.t 14)))]
def v8_4 : List VI := [.op (some 15) none (.ld true 54 (.t 3)), .op (some 16) none (.ld true 10 (.t 4)), .op (some 17) none (.p (.mov (.t 2))), .call (some 18) none (.fn 22) [.t 15, .t 16, .t 17], .call (some 19) none (.fn 23) [.t 18], .op (some 20) none (.p (.un .not (.t 19)))]
def v8_5 : List VI := [.op (some 6) none (.p (.mov (.c (.int .i64 120))))]
def v8_6 : List VI := [.op (some 6) none (.p (.mov (.c (.int .i64 0))))]
def v8 : VC := .seq (.reg v8_0) (.seq (.reg v8_1) (.seq (.seq (.reg v8_2) (.cond (.t 13) (.seq (.reg v8_3) .ret) .skip)) (.seq (.seq (.reg v8_4) (.cond (.t 20) (.seq (.reg v8_5) .ret) .skip)) (.seq (.reg v8_6) .ret))))
def rr8 : List RV := [.t 6]
theorem code8 : (Tryz.f8.body).bind (cCode Tryz.prog) = some v8 := by kernel_rfl
theorem res8 : cRVs Tryz.prog (Tryz.f8.results.toList) = some rr8 := by kernel_rfl
theorem nt8 : Tryz.f8.ntmps = 21 := by kernel_rfl
theorem nm8 : (Tryz.f8.name == "runtime.NumGoroutine") = false := by kernel_rfl
def v9_0 : List VI := [.op (some 2) none (.p (.mov (.c .nils)))]
def v9_1 : List VI := [.op (some 5) none (.p (.mov (.t 0))), .call (some 6) none (.fn 17) [.t 5], .op (some 0) none (.p (.mov (.t 6)))]
def v9_2 : List VI := [.op (some 3) none (.p (.mov (.c .nils)))]
def v9_3 : List VI := [.op (some 4) none (.p (.mov (.c (.int .i64 0))))]
def v9_4 : List VI := [.op (some 7) none (.p (.mov (.t 4))), .op (some 8) none (.p (.mov (.t 0))), .op (some 9) none (.p (.len false (.t 8))), .op (some 10) none (.p (.bin .lss (.t 7) (.t 9)))]
def v9_5 : List VI := [.op (some 13) none (.p (.mov (.t 3))), .op (some 14) none (.p (.mov (.t 0))), .op (some 15) none (.p (.mov (.t 4))), .op (some 16) none (.p (.ixs 4 (.t 14) (.t 15))), .op (some 17) none (.ld true 4 (.t 16)), .call (some 18) none (.fn 16) [.t 17], .op (some 19) none (.bsl 1 [.int .u64 (nl 0), .int .u64 (nl 0), .int .u64 (nl 0), .int .u64 (nl 0)] [(0, 4, .t 18)]), .op (some 20) none (.app 4 32 false (.t 13) (.t 19)), .op (some 3) none (.p (.mov (.t 20)))]
def v9_6 : VC := .reg v9_5
def v9_7 : List VI := [.op (some 11) none (.p (.mov (.t 4))), .op (some 12) none (.p (.bin .add (.t 11) (.c (.int .i64 1)))), .op (some 4) none (.p (.mov (.t 12)))]
def v9_8 : VC := .seq (.seq (.reg v9_4) (.cond (.t 10) .skip (.exit 0))) (.seq (.block 1 v9_6) (.reg v9_7))
def v9_9 : VC := .loop v9_8
def v9_10 : List VI := [.op (some 21) none (.p (.mov (.t 3))), .op (some 2) none (.p (.mov (.t 21)))]
def v9 : VC := .seq (.reg v9_0) (.seq (.reg v9_1) (.seq (.reg v9_2) (.seq (.seq (.reg v9_3) (.block 0 v9_9)) (.seq (.reg v9_10) .ret))))
def rr9 : List RV := [.t 2]
theorem code9 : (Tryz.f9.body).bind (cCode Tryz.prog) = some v9 := by kernel_rfl
theorem res9 : cRVs Tryz.prog (Tryz.f9.results.toList) = some rr9 := by kernel_rfl
theorem nt9 : Tryz.f9.ntmps = 22 := by kernel_rfl
theorem nm9 : (Tryz.f9.name == "runtime.NumGoroutine") = false := by kernel_rfl
def v10_0 : List VI := [.op (some 4) none (.p (.mov (.c (.bool false))))]
def v10_1 : List VI := [.op (some 7) none (.p (.mov (.t 1))), .call (some 8) none (.fn 17) [.t 7], .op (some 1) none (.p (.mov (.t 8)))]
def v10_2 : List VI := [.op (some 9) none (.p (.mov (.t 0))), .op (some 10) none (.p (.mov (.t 1))), .op (some 11) none (.p (.len false (.t 10))), .op (some 12) none (.p (.bin .add (.t 11) (.c (.int .i64 1)))), .op (some 13) none (.slx 4 (.t 9) none (some (.t 12)) none), .op (some 5) none (.p (.mov (.t 13)))]
def v10_3 : List VI := [.op (some 6) none (.p (.mov (.c (.int .i64 0))))]
def v10_4 : List VI := [.op (some 14) none (.p (.mov (.t 6))), .op (some 15) none (.p (.mov (.t 1))), .op (some 16) none (.p (.len false (.t 15))), .op (some 17) none (.p (.bin .lss (.t 14) (.t 16)))]
def v10_5 : List DS := [.mk 0 true (.op (some 20) none (.p (.mov (.t 5)))) [] [], .mk 1 true (.op (some 21) none (.p (.mov (.t 6)))) [] [], .mk 2 true (.op (some 22) none (.p (.ixs 4 (.t 20) (.t 21)))) [] [], .mk 3 true (.op (some 23) none (.ld true 4 (.t 22))) [] [], .mk 4 true (.op (some 24) none (.p (.mov (.t 1)))) [] [], .mk 5 true (.op (some 25) none (.p (.mov (.t 6)))) [] [], .mk 6 true (.op (some 26) none (.p (.ixs 4 (.t 24) (.t 25)))) [] [], .mk 7 true (.op (some 27) none (.ld true 4 (.t 26))) [] [], .mk 8 false (.call (some 28) none (.fn 12) [.t 27]) [22] [], .mk 9 true (.op (some 29) none (.p (.eqa true [.i, .i, .i, .i] (.t 23) (.t 28)))) [] []]
def v10_6 : List VI := [.op (some 4) none (.p (.mov (.c (.bool false))))]
def v10_7 : VC := .seq (.drw v10_5) (.cond (.t 29) (.seq (.reg v10_6) .ret) .skip)
def v10_8 : List VI := [.op (some 18) none (.p (.mov (.t 6))), .op (some 19) none (.p (.bin .add (.t 18) (.c (.int .i64 1)))), .op (some 6) none (.p (.mov (.t 19)))]
def v10_9 : VC := .seq (.seq (.reg v10_4) (.cond (.t 17) .skip (.exit 0))) (.seq (.block 1 v10_7) (.reg v10_8))
def v10_10 : VC := .loop v10_9
def v10_11 : List DS := [.mk 0 true (.op (some 30) none (.p (.mov (.t 5)))) [] [], .mk 1 true (.op (some 31) none (.p (.mov (.t 1)))) [] [], .mk 2 true (.op (some 32) none (.p (.len false (.t 31)))) [] [], .mk 3 true (.op (some 33) none (.p (.ixs 4 (.t 30) (.t 32)))) [] [], .mk 4 true (.op (some 34) none (.ld true 4 (.t 33))) [] [], .mk 5 true (.op (some 35) none (.p (.bld [.int .u64 (nl 0), .int .u64 (nl 0), .int .u64 (nl 0), .int .u64 (nl 0)] [(0, 1, .c (.int .u64 (nl 77)))]))) [] [], .mk 6 false (.call (some 36) none (.fn 12) [.t 35]) [33] [], .mk 7 true (.op (some 37) none (.p (.eqa false [.i, .i, .i, .i] (.t 34) (.t 36)))) [] [], .mk 8 false (.op (some 4) none (.p (.mov (.t 37)))) [] []]
def v10 : VC := .seq (.reg v10_0) (.seq (.reg v10_1) (.seq (.reg v10_2) (.seq (.seq (.reg v10_3) (.block 0 v10_10)) (.seq (.drw v10_11) .ret))))
def rr10 : List RV := [.t 4]
theorem code10 : (Tryz.f10.body).bind (cCode Tryz.prog) = some v10 := by kernel_rfl
theorem res10 : cRVs Tryz.prog (Tryz.f10.results.toList) = some rr10 := by kernel_rfl
theorem nt10 : Tryz.f10.ntmps = 38 := by kernel_rfl
theorem nm10 : (Tryz.f10.name == "runtime.NumGoroutine") = false := by kernel_rfl
def v11_0 : List VI := [.op (some 4) none (.p (.mov (.c (.bool false))))]
def v11_1 : List VI := [.op (some 7) none (.p (.mov (.t 1))), .call (some 8) none (.fn 17) [.t 7], .op (some 1) none (.p (.mov (.t 8)))]
def v11_2 : List VI := [.op (some 9) none (.p (.mov (.t 0))), .op (some 10) none (.p (.mov (.t 1))), .op (some 11) none (.p (.len false (.t 10))), .op (some 12) none (.p (.bin .add (.t 11) (.c (.int .i64 1)))), .op (some 13) none (.slx 4 (.t 9) none (some (.t 12)) none), .op (some 5) none (.p (.mov (.t 13)))]
def v11_3 : List VI := [.op (some 6) none (.p (.mov (.c (.int .i64 0))))]
def v11_4 : List VI := [.op (some 14) none (.p (.mov (.t 6))), .op (some 15) none (.p (.mov (.t 1))), .op (some 16) none (.p (.len false (.t 15))), .op (some 17) none (.p (.bin .lss (.t 14) (.t 16)))]
def v11_5 : List DS := [.mk 0 true (.op (some 20) none (.p (.mov (.t 5)))) [] [], .mk 1 true (.op (some 21) none (.p (.mov (.t 6)))) [] [], .mk 2 true (.op (some 22) none (.p (.ixs 4 (.t 20) (.t 21)))) [] [], .mk 3 true (.op (some 23) none (.ld true 4 (.t 22))) [] [], .mk 4 true (.op (some 24) none (.p (.mov (.t 1)))) [] [], .mk 5 true (.op (some 25) none (.p (.mov (.t 6)))) [] [], .mk 6 true (.op (some 26) none (.p (.ixs 4 (.t 24) (.t 25)))) [] [], .mk 7 true (.op (some 27) none (.ld true 4 (.t 26))) [] [], .mk 8 true (.op (some 28) none (.p (.eqa true [.i, .i, .i, .i] (.t 23) (.t 27)))) [] []]
def v11_6 : List VI := [.op (some 4) none (.p (.mov (.c (.bool false))))]
def v11_7 : VC := .seq (.drw v11_5) (.cond (.t 28) (.seq (.reg v11_6) .ret) .skip)
def v11_8 : List VI := [.op (some 18) none (.p (.mov (.t 6))), .op (some 19) none (.p (.bin .add (.t 18) (.c (.int .i64 1)))), .op (some 6) none (.p (.mov (.t 19)))]
def v11_9 : VC := .seq (.seq (.reg v11_4) (.cond (.t 17) .skip (.exit 0))) (.seq (.block 1 v11_7) (.reg v11_8))
def v11_10 : VC := .loop v11_9
def v11_11 : List VI := [.op (some 29) none (.p (.mov (.t 5))), .op (some 30) none (.p (.mov (.t 1))), .op (some 31) none (.p (.len false (.t 30))), .op (some 32) none (.p (.ixs 4 (.t 29) (.t 31))), .op (some 33) none (.ld true 4 (.t 32)), .op (some 34) none (.p (.bld [.int .u64 (nl 0), .int .u64 (nl 0), .int .u64 (nl 0), .int .u64 (nl 0)] [(0, 1, .c (.int .u64 (nl 78)))])), .op (some 35) none (.p (.eqa false [.i, .i, .i, .i] (.t 33) (.t 34))), .op (some 4) none (.p (.mov (.t 35)))]
def v11 : VC := .seq (.reg v11_0) (.seq (.reg v11_1) (.seq (.reg v11_2) (.seq (.seq (.reg v11_3) (.block 0 v11_10)) (.seq (.reg v11_11) .ret))))
def rr11 : List RV := [.t 4]
theorem code11 : (Tryz.f11.body).bind (cCode Tryz.prog) = some v11 := by kernel_rfl
theorem res11 : cRVs Tryz.prog (Tryz.f11.results.toList) = some rr11 := by kernel_rfl
theorem nt11 : Tryz.f11.ntmps = 36 := by kernel_rfl
theorem nm11 : (Tryz.f11.name == "runtime.NumGoroutine") = false := by kernel_rfl
def v12_0 : List VI := [.op (some 1) none (.box (.t 0)), .op (some 2) none (.new [.int .u64 (nl 0), .int .u64 (nl 0), .int .u64 (nl 0), .int .u64 (nl 0)])]
def v12_1 : List VI := [.op (some 3) none (.ld true 4 (.t 1)), .op (some 4) none (.p (.bld [.int .u64 (nl 0), .int .u64 (nl 0), .int .u64 (nl 0), .int .u64 (nl 0)] [(0, 4, .t 3)])), .op none none (.st 4 (.t 2) (.t 4))]
def v12 : VC := .seq (.reg v12_0) (.seq (.reg v12_1) .ret)
def rr12 : List RV := [.m 2 true 4]
theorem code12 : (Tryz.f12.body).bind (cCode Tryz.prog) = some v12 := by kernel_rfl
theorem res12 : cRVs Tryz.prog (Tryz.f12.results.toList) = some rr12 := by kernel_rfl
theorem nt12 : Tryz.f12.ntmps = 5 := by kernel_rfl
theorem nm12 : (Tryz.f12.name == "runtime.NumGoroutine") = false := by kernel_rfl
def v13_0 : List VI := [.op (some 2) none (.p (.mov (.c .nils)))]
def v13_1 : List VI := [.op (some 5) none (.p (.mov (.t 0))), .call (some 6) none (.fn 17) [.t 5], .op (some 0) none (.p (.mov (.t 6)))]
def v13_2 : List VI := [.op (some 7) none (.p (.mov (.t 0))), .op (some 8) none (.p (.len false (.t 7))), .op (some 9) none (.p (.bin .add (.t 8) (.c (.int .i64 1)))), .op (some 10) none (.mks 4 32 [.int .u64 (nl 0), .int .u64 (nl 0), .int .u64 (nl 0), .int .u64 (nl 0)] (.t 9) (.t 9)), .op (some 3) none (.p (.mov (.t 10)))]
def v13_3 : List VI := [.op (some 4) none (.p (.mov (.c (.int .i64 0))))]
def v13_4 : List VI := [.op (some 11) none (.p (.mov (.t 4))), .op (some 12) none (.p (.mov (.t 0))), .op (some 13) none (.p (.len false (.t 12))), .op (some 14) none (.p (.bin .lss (.t 11) (.t 13)))]
def v13_5 : List VI := [.op (some 17) none (.p (.mov (.t 3))), .op (some 18) none (.p (.mov (.t 4))), .op (some 19) none (.p (.mov (.t 0))), .op (some 20) none (.p (.mov (.t 4))), .op (some 21) none (.p (.ixs 4 (.t 19) (.t 20))), .op (some 22) none (.ld true 4 (.t 21)), .call (some 23) none (.fn 12) [.t 22], .op (some 24) none (.p (.ixs 4 (.t 17) (.t 18))), .op none none (.st 4 (.t 24) (.t 23))]
def v13_6 : VC := .reg v13_5
def v13_7 : List VI := [.op (some 15) none (.p (.mov (.t 4))), .op (some 16) none (.p (.bin .add (.t 15) (.c (.int .i64 1)))), .op (some 4) none (.p (.mov (.t 16)))]
def v13_8 : VC := .seq (.seq (.reg v13_4) (.cond (.t 14) .skip (.exit 0))) (.seq (.block 1 v13_6) (.reg v13_7))
def v13_9 : VC := .loop v13_8
def v13_10 : List VI := [.op (some 25) none (.p (.mov (.t 3))), .op (some 26) none (.p (.mov (.t 0))), .op (some 27) none (.p (.len false (.t 26))), .op (some 28) none (.p (.bld [.int .u64 (nl 0), .int .u64 (nl 0), .int .u64 (nl 0), .int .u64 (nl 0)] [(0, 1, .c (.int .u64 (nl 77)))])), .call (some 29) none (.fn 12) [.t 28], .op (some 30) none (.p (.ixs 4 (.t 25) (.t 27))), .op none none (.st 4 (.t 30) (.t 29))]
def v13_11 : List VI := [.op (some 31) none (.p (.mov (.t 3))), .op (some 32) none (.p (.mov (.t 0))), .op (some 33) none (.p (.len false (.t 32))), .op (some 34) none (.slx 4 (.t 31) none (some (.t 33)) none), .op (some 2) none (.p (.mov (.t 34)))]
def v13 : VC := .seq (.reg v13_0) (.seq (.reg v13_1) (.seq (.reg v13_2) (.seq (.seq (.reg v13_3) (.block 0 v13_9)) (.seq (.reg v13_10) (.seq (.reg v13_11) .ret)))))
def rr13 : List RV := [.t 2]
theorem code13 : (Tryz.f13.body).bind (cCode Tryz.prog) = some v13 := by kernel_rfl
theorem res13 : cRVs Tryz.prog (Tryz.f13.results.toList) = some rr13 := by kernel_rfl
theorem nt13 : Tryz.f13.ntmps = 35 := by kernel_rfl
theorem nm13 : (Tryz.f13.name == "runtime.NumGoroutine") = false := by kernel_rfl
def v14_0 : List VI := [.op (some 1) none (.box (.t 0)), .op (some 2) none (.new [.int .i64 0, .int .i64 0, .int .i64 0, .int .i64 0, .int .i64 0, .int .i64 0, .int .i64 0, .int .i64 0, .int .i64 0, .int .i64 0, .int .i64 0, .int .i64 0, .int .i64 0, .int .i64 0, .int .i64 0, .int .i64 0, .int .i64 0, .int .i64 0, .int .i64 0, .int .i64 0, .int .i64 0, .int .u64 (nl 0), .int .u64 (nl 0), .int .u64 (nl 0), .int .u64 (nl 0), .nils])]
def v14_1 : List VI := [.op (some 3) none (.ld true 4 (.t 1)), .call (some 4) none (.fn 16) [.t 3], .call (some 5) none (.fn 24) [.t 4], .op none none (.st 26 (.t 2) (.t 5))]
def v14 : VC := .seq (.reg v14_0) (.seq (.reg v14_1) .ret)
def rr14 : List RV := [.m 2 true 26]
theorem code14 : (Tryz.f14.body).bind (cCode Tryz.prog) = some v14 := by kernel_rfl
theorem res14 : cRVs Tryz.prog (Tryz.f14.results.toList) = some rr14 := by kernel_rfl
theorem nt14 : Tryz.f14.ntmps = 6 := by kernel_rfl
theorem nm14 : (Tryz.f14.name == "runtime.NumGoroutine") = false := by kernel_rfl
def v15_0 : List VI := [.op (some 2) none (.p (.mov (.c .nils)))]
def v15_1 : List VI := [.op (some 5) none (.p (.mov (.t 0))), .call (some 6) none (.fn 17) [.t 5], .op (some 0) none (.p (.mov (.t 6)))]
def v15_2 : List VI := [.op (some 3) none (.p (.mov (.c .nils)))]
def v15_3 : List VI := [.op (some 4) none (.p (.mov (.c (.int .i64 0))))]
def v15_4 : List VI := [.op (some 7) none (.p (.mov (.t 4))), .op (some 8) none (.p (.mov (.t 0))), .op (some 9) none (.p (.len false (.t 8))), .op (some 10) none (.p (.bin .lss (.t 7) (.t 9)))]
def v15_5 : List VI := [.op (some 13) none (.p (.mov (.t 3))), .op (some 14) none (.p (.mov (.t 0))), .op (some 15) none (.p (.mov (.t 4))), .op (some 16) none (.p (.ixs 4 (.t 14) (.t 15))), .op (some 17) none (.ld true 4 (.t 16)), .call (some 18) none (.fn 14) [.t 17], .op (some 19) none (.bsl 1 [.int .i64 0, .int .i64 0, .int .i64 0, .int .i64 0, .int .i64 0, .int .i64 0, .int .i64 0, .int .i64 0, .int .i64 0, .int .i64 0, .int .i64 0, .int .i64 0, .int .i64 0, .int .i64 0, .int .i64 0, .int .i64 0, .int .i64 0, .int .i64 0, .int .i64 0, .int .i64 0, .int .i64 0, .int .u64 (nl 0), .int .u64 (nl 0), .int .u64 (nl 0), .int .u64 (nl 0), .nils] [(0, 26, .t 18)]), .op (some 20) none (.app 26 224 false (.t 13) (.t 19)), .op (some 3) none (.p (.mov (.t 20)))]
def v15_6 : VC := .reg v15_5
def v15_7 : List VI := [.op (some 11) none (.p (.mov (.t 4))), .op (some 12) none (.p (.bin .add (.t 11) (.c (.int .i64 1)))), .op (some 4) none (.p (.mov (.t 12)))]
def v15_8 : VC := .seq (.seq (.reg v15_4) (.cond (.t 10) .skip (.exit 0))) (.seq (.block 1 v15_6) (.reg v15_7))
def v15_9 : VC := .loop v15_8
def v15_10 : List VI := [.op (some 21) none (.p (.mov (.t 3))), .op (some 2) none (.p (.mov (.t 21)))]
def v15 : VC := .seq (.reg v15_0) (.seq (.reg v15_1) (.seq (.reg v15_2) (.seq (.seq (.reg v15_3) (.block 0 v15_9)) (.seq (.reg v15_10) .ret))))
def rr15 : List RV := [.t 2]
theorem code15 : (Tryz.f15.body).bind (cCode Tryz.prog) = some v15 := by kernel_rfl
theorem res15 : cRVs Tryz.prog (Tryz.f15.results.toList) = some rr15 := by kernel_rfl
theorem nt15 : Tryz.f15.ntmps = 22 := by kernel_rfl
theorem nm15 : (Tryz.f15.name == "runtime.NumGoroutine") = false := by kernel_rfl
def v16_0 : List VI := [.op (some 1) none (.box (.t 0)), .op (some 2) none (.new [.int .u64 (nl 0), .int .u64 (nl 0), .int .u64 (nl 0), .int .u64 (nl 0)])]
def v16_1 : List VI := [.op (some 3) none (.p (.mov (.c .nils)))]
def v16_2 : List VI := [.op (some 4) none (.p (.mov (.c (.int .i64 0))))]
def v16_3 : List VI := [.op (some 5) none (.p (.mov (.t 4))), .op (some 6) none (.p (.bin .lss (.t 5) (.c (.int .i64 4))))]
def v16_4 : List DS := [.mk 0 true (.op (some 9) none (.p (.mov (.t 3)))) [] [], .mk 1 true (.op (some 10) none (.p (.mov (.t 4)))) [] [], .mk 2 true (.op (some 11) none (.p (.ixa 4 1 (.t 1) (.t 10)))) [] [], .mk 3 true (.op (some 12) none (.ld false 1 (.t 11))) [] [], .mk 4 true (.op (some 13) none (.p (.bin .and (.t 12) (.c (.int .u64 (nl 65535)))))) [] [], .mk 5 true (.op (some 14) none (.p (.mov (.t 4)))) [] [], .mk 6 true (.op (some 15) none (.p (.ixa 4 1 (.t 1) (.t 14)))) [] [], .mk 7 true (.op (some 16) none (.ld false 1 (.t 15))) [] [], .mk 8 true (.op (some 17) none (.p (.bin .shr (.t 16) (.c (.int .u64 (nl 16)))))) [] [], .mk 9 true (.op (some 18) none (.p (.bin .and (.t 17) (.c (.int .u64 (nl 65535)))))) [] [], .mk 10 true (.op (some 19) none (.p (.mov (.t 4)))) [] [], .mk 11 true (.op (some 20) none (.p (.ixa 4 1 (.t 1) (.t 19)))) [] [], .mk 12 true (.op (some 21) none (.ld false 1 (.t 20))) [] [], .mk 13 true (.op (some 22) none (.p (.bin .shr (.t 21) (.c (.int .u64 (nl 32)))))) [] [], .mk 14 true (.op (some 23) none (.p (.bin .and (.t 22) (.c (.int .u64 (nl 65535)))))) [] [], .mk 15 true (.op (some 24) none (.p (.mov (.t 4)))) [] [], .mk 16 true (.op (some 25) none (.p (.ixa 4 1 (.t 1) (.t 24)))) [] [], .mk 17 true (.op (some 26) none (.ld false 1 (.t 25))) [] [], .mk 18 true (.op (some 27) none (.p (.bin .shr (.t 26) (.c (.int .u64 (nl 48)))))) [] [], .mk 19 true (.op (some 28) none (.bsl 4 [.int .u64 (nl 0), .int .u64 (nl 0), .int .u64 (nl 0), .int .u64 (nl 0)] [(0, 1, .t 13), (1, 1, .t 18), (2, 1, .t 23), (3, 1, .t 27)])) [] [], .mk 20 false (.op (some 29) none (.app 1 8 false (.t 9) (.t 28))) [] [], .mk 21 false (.op (some 3) none (.p (.mov (.t 29)))) [] []]
def v16_5 : VC := .drw v16_4
def v16_6 : List VI := [.op (some 7) none (.p (.mov (.t 4))), .op (some 8) none (.p (.bin .add (.t 7) (.c (.int .i64 1)))), .op (some 4) none (.p (.mov (.t 8)))]
def v16_7 : VC := .seq (.seq (.reg v16_3) (.cond (.t 6) .skip (.exit 0))) (.seq (.block 1 v16_5) (.reg v16_6))
def v16_8 : VC := .loop v16_7
def v16_9 : List VI := [.op (some 30) none (.p (.mov (.t 3))), .call (some 31) none (.fn 25) [.t 30], .op none none (.st 4 (.t 2) (.t 31))]
def v16 : VC := .seq (.reg v16_0) (.seq (.reg v16_1) (.seq (.seq (.reg v16_2) (.block 0 v16_8)) (.seq (.reg v16_9) .ret)))
def rr16 : List RV := [.m 2 true 4]
theorem code16 : (Tryz.f16.body).bind (cCode Tryz.prog) = some v16 := by kernel_rfl
theorem res16 : cRVs Tryz.prog (Tryz.f16.results.toList) = some rr16 := by kernel_rfl
theorem nt16 : Tryz.f16.ntmps = 32 := by kernel_rfl
theorem nm16 : (Tryz.f16.name == "runtime.NumGoroutine") = false := by kernel_rfl
def v17_0 : List VI := [.op (some 2) none (.p (.mov (.c .nils)))]
def v17_1 : List VI := [.op (some 3) none (.p (.mov (.t 0))), .op (some 4) none (.p (.len false (.t 3))), .op (some 5) none (.p (.bin .gtr (.t 4) (.c (.int .i64 2100))))]
def v17_2 : List VI := [.op (some 6) none (.p (.mov (.t 0))), .op (some 7) none (.slx 4 (.t 6) none (some (.c (.int .i64 2100))) none), .op (some 2) none (.p (.mov (.t 7)))]
def v17_3 : List VI := [.op (some 8) none (.p (.mov (.t 0))), .op (some 2) none (.p (.mov (.t 8)))]
def v17 : VC := .seq (.reg v17_0) (.seq (.seq (.reg v17_1) (.cond (.t 5) (.seq (.reg v17_2) .ret) .skip)) (.seq (.reg v17_3) .ret))
def rr17 : List RV := [.t 2]
theorem code17 : (Tryz.f17.body).bind (cCode Tryz.prog) = some v17 := by kernel_rfl
theorem res17 : cRVs Tryz.prog (Tryz.f17.results.toList) = some rr17 := by kernel_rfl
theorem nt17 : Tryz.f17.ntmps = 9 := by kernel_rfl
theorem nm17 : (Tryz.f17.name == "runtime.NumGoroutine") = false := by kernel_rfl
def v18_0 : List VI := [.op (some 3) none (.box (.t 0)), .op (some 4) none (.box (.t 1)), .op (some 6) none (.p (.mov (.c (.int .i64 0))))]
def v18_1 : List VI := [.op (some 12) none (.p (.fda 8 (.t 3))), .op (some 13) none (.ld false 1 (.t 12)), .op (some 14) none (.p (.len false (.t 13))), .call (some 15) none (.fn 26) [.t 14], .op (some 11) none (.p (.mov (.t 15))), .op (some 16) none (.p (.ext (.t 11) 0)), .op (some 17) none (.p (.ext (.t 11) 1)), .op (some 7) none (.p (.mov (.t 16))), .op (some 8) none (.p (.mov (.t 17)))]
def v18_2 : List VI := [.op (some 18) none (.p (.mov (.t 8))), .op (some 19) none (.p (.un .not (.t 18))), .op (some 20) none (.p (.mov (.t 19))), .op (some 21) (some (20, false)) (.p (.fda 9 (.t 3))), .op (some 22) (some (20, false)) (.ld false 1 (.t 21)), .op (some 23) (some (20, false)) (.p (.len false (.t 22))), .op (some 24) (some (20, false)) (.p (.fda 8 (.t 3))), .op (some 25) (some (20, false)) (.ld false 1 (.t 24)), .op (some 26) (some (20, false)) (.p (.len false (.t 25))), .op (some 27) (some (20, false)) (.p (.eq true .i (.t 23) (.t 26))), .op (some 28) none (.p (.pick (.t 20) (.c (.bool true)) (.t 27))), .op (some 29) none (.p (.mov (.t 28))), .op (some 30) (some (29, false)) (.p (.fda 0 (.t 4))), .op (some 31) (some (29, false)) (.ld false 1 (.t 30)), .op (some 32) (some (29, false)) (.p (.len false (.t 31))), .op (some 33) (some (29, false)) (.p (.mov (.t 7))), .op (some 34) (some (29, false)) (.p (.eq true .i (.t 32) (.t 33))), .op (some 35) none (.p (.pick (.t 29) (.c (.bool true)) (.t 34))), .op (some 36) none (.p (.mov (.t 35))), .op (some 37) (some (36, false)) (.p (.fda 1 (.t 4))), .op (some 38) (some (36, false)) (.ld false 1 (.t 37)), .op (some 39) (some (36, false)) (.p (.len false (.t 38))), .op (some 40) (some (36, false)) (.p (.mov (.t 7))), .op (some 41) (some (36, false)) (.p (.eq true .i (.t 39) (.t 40))), .op (some 42) none (.p (.pick (.t 36) (.c (.bool true)) (.t 41))), .op (some 43) none (.p (.mov (.t 42))), .op (some 44) (some (43, false)) (.p (.mov (.t 2))), .op (some 45) (some (43, false)) (.p (.len false (.t 44))), .op (some 46) (some (43, false)) (.p (.mov (.t 7))), .op (some 47) (some (43, false)) (.p (.eq true .i (.t 45) (.t 46))), .op (some 48) none (.p (.pick (.t 43) (.c (.bool true)) (.t 47)))]
def v18_3 : List VI := [.op (some 6) none (.p (.mov (.c (.int .i64 2))))]
def v18_4 : List VI := [.op (some 49) none (.p (.mov (.t 2))), .op (some 50) none (.p (.len false (.t 49))), .op (some 51) none (.p (.mov (.c (.int .i64 0))))]
def v18_5 : List VI := [.op (some 52) none (.p (.bin .lss (.t 51) (.t 50)))]
def v18_6 : List VI := [.op (some 53) none (.p (.ixs 4 (.t 49) (.t 51))), .op (some 54) none (.ld true 4 (.t 53)), .op (some 10) none (.new [.int .u64 (nl 0), .int .u64 (nl 0), .int .u64 (nl 0), .int .u64 (nl 0)]), .op none none (.st 4 (.t 10) (.t 54))]
def v18_7 : List VI := [.op (some 55) none (.ld true 4 (.t 10)), .call (some 56) none (.fn 27) [.t 55]]
def v18_8 : List VI := [.op (some 6) none (.p (.mov (.c (.int .i64 4))))]
def v18_9 : VC := .seq (.reg v18_6) (.seq (.reg v18_7) (.cond (.t 56) (.seq (.reg v18_8) .ret) .skip))
def v18_10 : List VI := [.op (some 57) none (.p (.bin .add (.t 51) (.c (.int .i64 1)))), .op (some 51) none (.p (.mov (.t 57)))]
def v18_11 : VC := .seq (.reg v18_5) (.seq (.cond (.t 52) .skip (.exit 0)) (.seq (.block 1 v18_9) (.reg v18_10)))
def v18_12 : VC := .loop v18_11
def v18_13 : List VI := [.op (some 6) none (.p (.mov (.c (.int .i64 0))))]
def v18 : VC := .seq (.reg v18_0) (.seq (.reg v18_1) (.seq (.seq (.reg v18_2) (.cond (.t 48) (.seq (.reg v18_3) .ret) .skip)) (.seq (.seq (.reg v18_4) (.block 0 v18_12)) (.seq (.reg v18_13) .ret))))
def rr18 : List RV := [.t 6]
theorem code18 : (Tryz.f18.body).bind (cCode Tryz.prog) = some v18 := by kernel_rfl
theorem res18 : cRVs Tryz.prog (Tryz.f18.results.toList) = some rr18 := by kernel_rfl
theorem nt18 : Tryz.f18.ntmps = 58 := by kernel_rfl
theorem nm18 : (Tryz.f18.name == "runtime.NumGoroutine") = false := by kernel_rfl
def v19_0 : List VI := [.op (some 3) none (.box (.t 0)), .op (some 4) none (.box (.t 1)), .op (some 5) none (.box (.t 2)), .op (some 6) none (.p (.mov (.c .nilf)))]
def v19_1 : List DS := [.mk 0 true (.op (some 7) none (.p (.fda 8 (.t 3)))) [] [], .mk 1 true (.op (some 8) none (.ld false 1 (.t 7))) [] [], .mk 3 true (.op (some 10) none (.p (.fda 9 (.t 3)))) [] [], .mk 4 true (.op (some 11) none (.ld false 1 (.t 10))) [] [], .mk 2 false (.op (some 9) none (.app 4 32 false (.c .nils) (.t 8))) [10] [], .mk 6 true (.op (some 13) none (.p (.fda 8 (.t 3)))) [] [], .mk 5 false (.op (some 12) none (.app 4 32 false (.c .nils) (.t 11))) [] [], .mk 7 false (.op none none (.st 1 (.t 13) (.t 9))) [] [], .mk 8 true (.op (some 14) none (.p (.fda 9 (.t 3)))) [] [], .mk 9 false (.op none none (.st 1 (.t 14) (.t 12))) [] []]
def v19_2 : List DS := [.mk 0 true (.op (some 15) none (.p (.fda 0 (.t 4)))) [] [], .mk 1 true (.op (some 16) none (.ld false 1 (.t 15))) [] [], .mk 3 true (.op (some 18) none (.p (.fda 1 (.t 4)))) [] [], .mk 4 true (.op (some 19) none (.ld false 1 (.t 18))) [] [], .mk 2 false (.op (some 17) none (.app 4 32 false (.c .nils) (.t 16))) [18] [], .mk 6 true (.op (some 21) none (.p (.fda 0 (.t 4)))) [] [], .mk 5 false (.op (some 20) none (.app 4 32 false (.c .nils) (.t 19))) [] [], .mk 7 false (.op none none (.st 1 (.t 21) (.t 17))) [] [], .mk 8 true (.op (some 22) none (.p (.fda 1 (.t 4)))) [] [], .mk 9 false (.op none none (.st 1 (.t 22) (.t 20))) [] []]
def v19_3 : List VI := [.op (some 23) none (.ld false 1 (.t 5)), .op (some 24) none (.app 4 32 false (.c .nils) (.t 23)), .op none none (.st 1 (.t 5) (.t 24))]
def v19_4 : List VI := [.op (some 25) none (.p (.mkF (Fn.func 28) [] [.t 3, .t 4, .t 5])), .op (some 6) none (.p (.mov (.t 25)))]
def v19 : VC := .seq (.reg v19_0) (.seq (.drw v19_1) (.seq (.drw v19_2) (.seq (.reg v19_3) (.seq (.reg v19_4) .ret))))
def rr19 : List RV := [.t 6]
theorem code19 : (Tryz.f19.body).bind (cCode Tryz.prog) = some v19 := by kernel_rfl
theorem res19 : cRVs Tryz.prog (Tryz.f19.results.toList) = some rr19 := by kernel_rfl
theorem nt19 : Tryz.f19.ntmps = 26 := by kernel_rfl
theorem nm19 : (Tryz.f19.name == "runtime.NumGoroutine") = false := by kernel_rfl
def v20_0 : List VI := [.op (some 5) none (.box (.t 0)), .op (some 10) none (.new [.int .u64 (nl 0), .int .u64 (nl 0), .int .u64 (nl 0), .int .u64 (nl 0)]), .op (some 11) none (.p (.mov (.c (.int .i64 0))))]
def v20_1 : List VI := [.op (some 15) none (.p (.mov (.t 1))), .op (some 16) none (.p (.len false (.t 15))), .op (some 17) none (.p (.mov (.t 2))), .op (some 18) none (.p (.len false (.t 17))), .op (some 19) none (.p (.eq true .i (.t 16) (.t 18))), .op (some 20) none (.p (.mov (.t 19))), .op (some 21) (some (20, false)) (.p (.mov (.t 3))), .op (some 22) (some (20, false)) (.p (.len false (.t 21))), .op (some 23) (some (20, false)) (.p (.mov (.t 4))), .op (some 24) (some (20, false)) (.p (.len false (.t 23))), .op (some 25) (some (20, false)) (.p (.eq true .i (.t 22) (.t 24))), .op (some 26) none (.p (.pick (.t 20) (.c (.bool true)) (.t 25))), .op (some 27) none (.p (.mov (.t 26))), .op (some 28) (some (27, false)) (.p (.mov (.t 3))), .op (some 29) (some (27, false)) (.p (.len false (.t 28))), .op (some 30) (some (27, false)) (.p (.mov (.t 1))), .op (some 31) (some (27, false)) (.p (.len false (.t 30))), .op (some 32) (some (27, false)) (.p (.eq true .i (.t 29) (.t 31))), .op (some 33) none (.p (.pick (.t 27) (.c (.bool true)) (.t 32)))]
def v20_2 : List VI := [.op (some 12) none (.new [.int .u64 (nl 0), .int .u64 (nl 0), .int .u64 (nl 0), .int .u64 (nl 0)])]
def v20_3 : List VI := [.op (some 34) none (.ld true 4 (.t 12)), .op none none (.st 4 (.t 10) (.t 34)), .op (some 11) none (.p (.mov (.c (.int .i64 2))))]
def v20_4 : List VI := [.op (some 36) none (.p (.mov (.t 3))), .op (some 37) none (.p (.mov (.t 4))), .call (some 38) none (.fn 30) [.t 36, .t 37], .op (some 35) none (.p (.mov (.t 38))), .op (some 39) none (.p (.ext (.t 35) 0)), .op (some 40) none (.p (.ext (.t 35) 1)), .op (some 13) none (.new [.int .u64 (nl 0), .int .u64 (nl 0), .int .u64 (nl 0), .int .u64 (nl 0)]), .op none none (.st 4 (.t 13) (.t 39)), .op (some 14) none (.p (.mov (.t 40)))]
def v20_5 : List VI := [.op (some 41) none (.ld true 4 (.t 5)), .op (some 42) none (.p (.mov (.t 1))), .op (some 43) none (.p (.mov (.t 2))), .op (some 44) none (.p (.mov (.t 3))), .op (some 45) none (.p (.mov (.t 4))), .op (some 46) none (.ld true 4 (.t 13)), .call (some 47) none (.fn 31) [.t 41, .t 42, .t 43, .t 44, .t 45, .t 46], .op (some 48) none (.p (.mov (.t 14))), .op none none (.st 4 (.t 10) (.t 47)), .op (some 11) none (.p (.mov (.t 48)))]
def v20 : VC := .seq (.reg v20_0) (.seq (.seq (.reg v20_1) (.cond (.t 33) (.seq (.reg v20_2) (.seq (.reg v20_3) .ret)) .skip)) (.seq (.reg v20_4) (.seq (.reg v20_5) .ret)))
def rr20 : List RV := [.m 10 true 4, .t 11]
theorem code20 : (Tryz.f20.body).bind (cCode Tryz.prog) = some v20 := by kernel_rfl
theorem res20 : cRVs Tryz.prog (Tryz.f20.results.toList) = some rr20 := by kernel_rfl
theorem nt20 : Tryz.f20.ntmps = 49 := by kernel_rfl
theorem nm20 : (Tryz.f20.name == "runtime.NumGoroutine") = false := by kernel_rfl
def v21_0 : List VI := [.op (some 3) none (.box (.t 0)), .op (some 4) none (.box (.t 1)), .op (some 6) none (.p (.mov (.c (.int .i64 0))))]
def v21_1 : List VI := [.op (some 9) none (.p (.fda 52 (.t 3))), .op (some 10) none (.ld false 1 (.t 9)), .op (some 11) none (.p (.len false (.t 10))), .call (some 12) none (.fn 32) [.t 11], .op (some 7) none (.p (.mov (.t 12)))]
def v21_2 : List VI := [.op (some 13) none (.p (.fda 52 (.t 3))), .op (some 14) none (.ld false 1 (.t 13)), .op (some 15) none (.p (.len false (.t 14))), .op (some 16) none (.p (.fda 53 (.t 3))), .op (some 17) none (.ld false 1 (.t 16)), .op (some 18) none (.p (.len false (.t 17))), .op (some 19) none (.p (.eq true .i (.t 15) (.t 18))), .op (some 20) none (.p (.mov (.t 19))), .op (some 21) (some (20, false)) (.p (.mov (.t 7))), .op (some 22) (some (20, false)) (.p (.bin .lss (.t 21) (.c (.int .i64 0)))), .op (some 23) none (.p (.pick (.t 20) (.c (.bool true)) (.t 22))), .op (some 24) none (.p (.mov (.t 23))), .op (some 25) (some (24, false)) (.p (.fda 0 (.t 4))), .op (some 26) (some (24, false)) (.ld false 1 (.t 25)), .op (some 27) (some (24, false)) (.p (.len false (.t 26))), .op (some 28) (some (24, false)) (.p (.mov (.t 7))), .op (some 29) (some (24, false)) (.p (.eq true .i (.t 27) (.t 28))), .op (some 30) none (.p (.pick (.t 24) (.c (.bool true)) (.t 29))), .op (some 31) none (.p (.mov (.t 30))), .op (some 32) (some (31, false)) (.p (.fda 1 (.t 4))), .op (some 33) (some (31, false)) (.ld false 1 (.t 32)), .op (some 34) (some (31, false)) (.p (.len false (.t 33))), .op (some 35) (some (31, false)) (.p (.mov (.t 7))), .op (some 36) (some (31, false)) (.p (.eq true .i (.t 34) (.t 35))), .op (some 37) none (.p (.pick (.t 31) (.c (.bool true)) (.t 36))), .op (some 38) none (.p (.mov (.t 37))), .op (some 39) (some (38, false)) (.p (.mov (.t 2))), .op (some 40) (some (38, false)) (.p (.len false (.t 39))), .op (some 41) (some (38, false)) (.p (.mov (.t 7))), .op (some 42) (some (38, false)) (.p (.eq true .i (.t 40) (.t 41))), .op (some 43) none (.p (.pick (.t 38) (.c (.bool true)) (.t 42)))]
def v21_3 : List VI := [.op (some 6) none (.p (.mov (.c (.int .i64 2))))]
def v21_4 : List VI := [.op (some 8) none (.p (.mov (.c (.int .i64 0))))]
def v21_5 : List VI := [.op (some 44) none (.p (.mov (.t 8))), .op (some 45) none (.p (.mov (.t 7))), .op (some 46) none (.p (.bin .lss (.t 44) (.t 45)))]
def v21_6 : List VI := [.op (some 49) none (.p (.mov (.t 2))), .op (some 50) none (.p (.mov (.t 8))), .op (some 51) none (.p (.ixs 4 (.t 49) (.t 50))), .op (some 52) none (.ld true 4 (.t 51)), .call (some 53) none (.fn 33) [.t 52]]
def v21_7 : List VI := [.op (some 6) none (.p (.mov (.c (.int .i64 4))))]
def v21_8 : VC := .seq (.reg v21_6) (.cond (.t 53) (.seq (.reg v21_7) .ret) .skip)
def v21_9 : List VI := [.op (some 47) none (.p (.mov (.t 8))), .op (some 48) none (.p (.bin .add (.t 47) (.c (.int .i64 1)))), .op (some 8) none (.p (.mov (.t 48)))]
def v21_10 : VC := .seq (.seq (.reg v21_5) (.cond (.t 46) .skip (.exit 0))) (.seq (.block 1 v21_8) (.reg v21_9))
def v21_11 : VC := .loop v21_10
def v21_12 : List VI := [.op (some 6) none (.p (.mov (.c (.int .i64 0))))]
def v21 : VC := .seq (.reg v21_0) (.seq (.reg v21_1) (.seq (.seq (.reg v21_2) (.cond (.t 43) (.seq (.reg v21_3) .ret) .skip)) (.seq (.seq (.reg v21_4) (.block 0 v21_11)) (.seq (.reg v21_12) .ret))))
def rr21 : List RV := [.t 6]
theorem code21 : (Tryz.f21.body).bind (cCode Tryz.prog) = some v21 := by kernel_rfl
theorem res21 : cRVs Tryz.prog (Tryz.f21.results.toList) = some rr21 := by kernel_rfl
theorem nt21 : Tryz.f21.ntmps = 54 := by kernel_rfl
theorem nm21 : (Tryz.f21.name == "runtime.NumGoroutine") = false := by kernel_rfl
def v22_0 : List VI := [.op (some 3) none (.box (.t 0)), .op (some 4) none (.box (.t 1)), .op (some 6) none (.new [.int .i64 0, .int .i64 0, .int .i64 0, .int .i64 0, .int .i64 0, .int .i64 0, .int .i64 0, .int .i64 0, .int .i64 0, .int .i64 0, .int .i64 0, .int .i64 0, .int .i64 0, .int .i64 0, .int .i64 0, .int .i64 0, .int .i64 0, .int .i64 0, .int .i64 0, .int .i64 0, .int .i64 0, .int .u64 (nl 0), .int .u64 (nl 0), .int .u64 (nl 0), .int .u64 (nl 0), .nils])]
def v22_1 : List VI := [.op (some 10) none (.ld true 54 (.t 3)), .op (some 11) none (.ld true 10 (.t 4)), .op (some 12) none (.p (.mov (.t 2))), .call (some 13) none (.fn 34) [.t 10, .t 11, .t 12], .op (some 7) none (.p (.mov (.t 13)))]
def v22_2 : List VI := [.op (some 14) none (.p (.mov (.t 7))), .op (some 15) none (.p (.mov (.t 7))), .op (some 16) none (.p (.len false (.t 15))), .op (some 17) none (.p (.bin .sub (.t 16) (.c (.int .i64 1)))), .op (some 18) none (.p (.ixs 54 (.t 14) (.t 17))), .op (some 19) none (.ld true 54 (.t 18)), .op (some 8) none (.new [.int .i64 0, .int .i64 0, .int .i64 0, .int .i64 0, .int .i64 0, .int .i64 0, .int .i64 0, .int .i64 0, .int .i64 0, .int .i64 0, .int .i64 0, .int .i64 0, .int .i64 0, .int .i64 0, .int .i64 0, .int .i64 0, .int .i64 0, .int .i64 0, .int .i64 0, .int .i64 0, .int .i64 0, .int .u64 (nl 0), .int .u64 (nl 0), .int .u64 (nl 0), .int .u64 (nl 0), .nils, .int .i64 0, .int .i64 0, .int .i64 0, .int .i64 0, .int .i64 0, .int .i64 0, .int .i64 0, .int .i64 0, .int .i64 0, .int .i64 0, .int .i64 0, .int .i64 0, .int .i64 0, .int .i64 0, .int .i64 0, .int .i64 0, .int .i64 0, .int .i64 0, .int .i64 0, .int .i64 0, .int .i64 0, .int .u64 (nl 0), .int .u64 (nl 0), .int .u64 (nl 0), .int .u64 (nl 0), .nils, .nils, .nils]), .op none none (.st 54 (.t 8) (.t 19))]
def v22_3 : List DS := [.mk 0 true (.op (some 20) none (.p (.fda 52 (.t 8)))) [] [], .mk 1 true (.op (some 21) none (.ld false 1 (.t 20))) [] [], .mk 2 true (.op (some 22) none (.p (.ixs 26 (.t 21) (.c (.int .i64 0))))) [] [], .mk 3 true (.op (some 23) none (.ld true 26 (.t 22))) [] [], .mk 4 true (.op (some 24) none (.p (.fda 2 (.t 4)))) [] [], .mk 5 true (.op (some 25) none (.ld true 4 (.t 24))) [] [], .mk 7 true (.op (some 27) none (.p (.fda 53 (.t 8)))) [] [], .mk 8 true (.op (some 28) none (.ld false 1 (.t 27))) [] [], .mk 9 true (.op (some 29) none (.p (.ixs 26 (.t 28) (.c (.int .i64 0))))) [] [], .mk 10 true (.op (some 30) none (.ld true 26 (.t 29))) [] [], .mk 11 true (.op (some 31) none (.p (.fda 6 (.t 4)))) [] [], .mk 12 true (.op (some 32) none (.ld true 4 (.t 31))) [] [], .mk 15 true (.op (some 35) none (.p (.fda 26 (.t 8)))) [] [], .mk 16 true (.op (some 36) none (.ld true 26 (.t 35))) [] [], .mk 17 true (.op (some 37) none (.p (.fda 2 (.t 4)))) [] [], .mk 18 true (.op (some 38) none (.ld true 4 (.t 37))) [] [], .mk 19 true (.op (some 39) none (.p (.fda 6 (.t 4)))) [] [], .mk 20 true (.op (some 40) none (.ld true 4 (.t 39))) [] [], .mk 24 true (.op (some 9) none (.new [.int .i64 0, .int .i64 0, .int .i64 0, .int .i64 0, .int .i64 0, .int .i64 0, .int .i64 0, .int .i64 0, .int .i64 0, .int .i64 0, .int .i64 0, .int .i64 0, .int .i64 0, .int .i64 0, .int .i64 0, .int .i64 0, .int .i64 0, .int .i64 0, .int .i64 0, .int .i64 0, .int .i64 0, .int .u64 (nl 0), .int .u64 (nl 0), .int .u64 (nl 0), .int .u64 (nl 0), .nils])) [] [], .mk 6 false (.call (some 26) none (.fn 35) [.t 23, .t 25]) [27, 29, 31, 35, 37, 39] [9], .mk 13 false (.call (some 33) none (.fn 35) [.t 30, .t 32]) [35, 37, 39] [9], .mk 14 false (.call (some 34) none (.fn 36) [.t 26, .t 33]) [35, 37, 39] [9], .mk 21 false (.call (some 41) none (.fn 37) [.t 38, .t 40]) [35] [9], .mk 22 false (.call (some 42) none (.fn 35) [.t 36, .t 41]) [] [9], .mk 23 false (.call (some 43) none (.fn 36) [.t 34, .t 42]) [] [9], .mk 25 false (.op none none (.st 26 (.t 9) (.t 43))) [] []]
def v22_4 : List VI := [.op (some 44) none (.p (.fda 0 (.t 8))), .op (some 45) none (.ld true 26 (.t 44)), .op (some 46) none (.ld true 26 (.t 9)), .call (some 47) none (.fn 38) [.t 45, .t 46], .op none none (.st 26 (.t 6) (.t 47))]
def v22 : VC := .seq (.reg v22_0) (.seq (.reg v22_1) (.seq (.reg v22_2) (.seq (.drw v22_3) (.seq (.reg v22_4) .ret))))
def rr22 : List RV := [.m 6 true 26]
theorem code22 : (Tryz.f22.body).bind (cCode Tryz.prog) = some v22 := by kernel_rfl
theorem res22 : cRVs Tryz.prog (Tryz.f22.results.toList) = some rr22 := by kernel_rfl
theorem nt22 : Tryz.f22.ntmps = 48 := by kernel_rfl
theorem nm22 : (Tryz.f22.name == "runtime.NumGoroutine") = false := by kernel_rfl
def v23_0 : List VI := [.op (some 1) none (.box (.t 0)), .op (some 2) none (.p (.mov (.c (.bool false))))]
def v23_1 : List DS := [.mk 0 true (.op (some 3) none (.ld true 26 (.t 1))) [] [], .mk 1 true (.op (some 4) none (.p (.fda 0 (.t 1)))) [] [], .mk 2 true (.op (some 5) none (.ld false 1 (.t 4))) [] [], .mk 3 false (.call (some 6) none (.fn 40) [.t 5]) [1] [], .mk 4 false (.call (some 7) none (.fn 39) [.t 3, .t 6]) [] [], .mk 5 false (.op (some 2) none (.p (.mov (.t 7)))) [] []]
def v23 : VC := .seq (.reg v23_0) (.seq (.drw v23_1) .ret)
def rr23 : List RV := [.t 2]
theorem code23 : (Tryz.f23.body).bind (cCode Tryz.prog) = some v23 := by kernel_rfl
theorem res23 : cRVs Tryz.prog (Tryz.f23.results.toList) = some rr23 := by kernel_rfl
theorem nt23 : Tryz.f23.ntmps = 8 := by kernel_rfl
theorem nm23 : (Tryz.f23.name == "runtime.NumGoroutine") = false := by kernel_rfl
def v24_0 : List VI := [.op (some 1) none (.box (.t 0)), .op (some 2) none (.new [.int .i64 0, .int .i64 0, .int .i64 0, .int .i64 0, .int .i64 0, .int .i64 0, .int .i64 0, .int .i64 0, .int .i64 0, .int .i64 0, .int .i64 0, .int .i64 0, .int .i64 0, .int .i64 0, .int .i64 0, .int .i64 0, .int .i64 0, .int .i64 0, .int .i64 0, .int .i64 0, .int .i64 0, .int .u64 (nl 0), .int .u64 (nl 0), .int .u64 (nl 0), .int .u64 (nl 0), .nils])]
def v24_1 : List VI := [.op (some 3) none (.ld true 4 (.t 1)), .op (some 4) none (.p (.bld [.int .i64 0, .int .i64 0, .int .i64 0, .int .i64 0, .int .i64 0, .int .i64 0, .int .i64 0, .int .i64 0, .int .i64 0, .int .i64 0, .int .i64 0, .int .i64 0, .int .i64 0, .int .i64 0, .int .i64 0, .int .i64 0, .int .i64 0, .int .i64 0, .int .i64 0, .int .i64 0, .int .i64 0, .int .u64 (nl 0), .int .u64 (nl 0), .int .u64 (nl 0), .int .u64 (nl 0), .nils] [(0, 1, .c (.int .i64 2)), (21, 4, .t 3)])), .op none none (.st 26 (.t 2) (.t 4))]
def v24 : VC := .seq (.reg v24_0) (.seq (.reg v24_1) .ret)
def rr24 : List RV := [.m 2 true 26]
theorem code24 : (Tryz.f24.body).bind (cCode Tryz.prog) = some v24 := by kernel_rfl
theorem res24 : cRVs Tryz.prog (Tryz.f24.results.toList) = some rr24 := by kernel_rfl
theorem nt24 : Tryz.f24.ntmps = 5 := by kernel_rfl
theorem nm24 : (Tryz.f24.name == "runtime.NumGoroutine") = false := by kernel_rfl
def v25_0 : List VI := [.op (some 2) none (.new [.int .u64 (nl 0), .int .u64 (nl 0), .int .u64 (nl 0), .int .u64 (nl 0)])]
def v25_1 : List VI := [.op (some 3) none (.new [.int .u64 (nl 0), .int .u64 (nl 0), .int .u64 (nl 0), .int .u64 (nl 0)])]
def v25_2 : List VI := [.op (some 5) none (.p (.mov (.t 0))), .op (some 6) none (.p (.len false (.t 5))), .op (some 7) none (.p (.bin .sub (.t 6) (.c (.int .i64 1)))), .op (some 4) none (.p (.mov (.t 7)))]
def v25_3 : List VI := [.op (some 8) none (.p (.mov (.t 4))), .op (some 9) none (.p (.bin .geq (.t 8) (.c (.int .i64 0))))]
def v25_4 : List DS := [.mk 0 true (.op (some 12) none (.ld true 4 (.t 3))) [] [], .mk 1 true (.op (some 13) none (.p (.mov (.t 0)))) [] [], .mk 2 true (.op (some 14) none (.p (.mov (.t 4)))) [] [], .mk 3 true (.op (some 15) none (.p (.ixs 1 (.t 13) (.t 14)))) [] [], .mk 4 true (.op (some 16) none (.ld false 1 (.t 15))) [] [], .mk 5 false (.call (some 17) none (.fn 41) [.t 12, .t 16]) [] [], .mk 6 false (.op none none (.st 4 (.t 3) (.t 17))) [] []]
def v25_5 : VC := .drw v25_4
def v25_6 : List VI := [.op (some 10) none (.p (.mov (.t 4))), .op (some 11) none (.p (.bin .sub (.t 10) (.c (.int .i64 1)))), .op (some 4) none (.p (.mov (.t 11)))]
def v25_7 : VC := .seq (.seq (.reg v25_3) (.cond (.t 9) .skip (.exit 0))) (.seq (.block 1 v25_5) (.reg v25_6))
def v25_8 : VC := .loop v25_7
def v25_9 : List VI := [.op (some 18) none (.ld true 4 (.t 3)), .op none none (.st 4 (.t 2) (.t 18))]
def v25 : VC := .seq (.reg v25_0) (.seq (.reg v25_1) (.seq (.seq (.reg v25_2) (.block 0 v25_8)) (.seq (.reg v25_9) .ret)))
def rr25 : List RV := [.m 2 true 4]
theorem code25 : (Tryz.f25.body).bind (cCode Tryz.prog) = some v25 := by kernel_rfl
theorem res25 : cRVs Tryz.prog (Tryz.f25.results.toList) = some rr25 := by kernel_rfl
theorem nt25 : Tryz.f25.ntmps = 19 := by kernel_rfl
theorem nm25 : (Tryz.f25.name == "runtime.NumGoroutine") = false := by kernel_rfl
def v26_0 : List VI := [.op (some 2) none (.p (.mov (.c (.int .i64 0)))), .op (some 3) none (.p (.mov (.c (.bool false))))]
def v26_1 : List VI := [.op (some 5) none (.p (.mov (.t 0))), .op (some 6) none (.p (.bin .lss (.t 5) (.c (.int .i64 1)))), .op (some 7) none (.p (.mov (.t 6))), .op (some 8) (some (7, false)) (.p (.mov (.t 0))), .op (some 9) (some (7, false)) (.p (.bin .gtr (.t 8) (.c (.int .i64 1024)))), .op (some 10) none (.p (.pick (.t 7) (.c (.bool true)) (.t 9))), .op (some 11) none (.p (.mov (.t 10))), .op (some 12) (some (11, false)) (.p (.mov (.t 0))), .op (some 13) (some (11, false)) (.p (.mov (.t 0))), .op (some 14) (some (11, false)) (.p (.bin .sub (.t 13) (.c (.int .i64 1)))), .op (some 15) (some (11, false)) (.p (.bin .and (.t 12) (.t 14))), .op (some 16) (some (11, false)) (.p (.eq true .i (.t 15) (.c (.int .i64 0)))), .op (some 17) none (.p (.pick (.t 11) (.c (.bool true)) (.t 16)))]
def v26_2 : List VI := [.op (some 2) none (.p (.mov (.c (.int .i64 0)))), .op (some 3) none (.p (.mov (.c (.bool false))))]
def v26_3 : List VI := [.op (some 4) none (.p (.mov (.c (.int .i64 0))))]
def v26_4 : List VI := [.op (some 18) none (.p (.mov (.t 4))), .op (some 19) none (.p (.bin .shl (.c (.int .i64 1)) (.t 18))), .op (some 20) none (.p (.mov (.t 0))), .op (some 21) none (.p (.bin .lss (.t 19) (.t 20)))]
def v26_5 : List VI := [.op (some 22) none (.p (.mov (.t 4))), .op (some 23) none (.p (.bin .add (.t 22) (.c (.int .i64 1)))), .op (some 4) none (.p (.mov (.t 23)))]
def v26_6 : VC := .reg v26_5
def v26_7 : VC := .seq (.seq (.reg v26_4) (.cond (.t 21) .skip (.exit 0))) (.block 1 v26_6)
def v26_8 : VC := .loop v26_7
def v26_9 : List VI := [.op (some 24) none (.p (.mov (.t 4))), .op (some 2) none (.p (.mov (.t 24))), .op (some 3) none (.p (.mov (.c (.bool true))))]
def v26 : VC := .seq (.reg v26_0) (.seq (.seq (.reg v26_1) (.cond (.t 17) (.seq (.reg v26_2) .ret) .skip)) (.seq (.reg v26_3) (.seq (.block 0 v26_8) (.seq (.reg v26_9) .ret))))
def rr26 : List RV := [.t 2, .t 3]
theorem code26 : (Tryz.f26.body).bind (cCode Tryz.prog) = some v26 := by kernel_rfl
theorem res26 : cRVs Tryz.prog (Tryz.f26.results.toList) = some rr26 := by kernel_rfl
theorem nt26 : Tryz.f26.ntmps = 25 := by kernel_rfl
theorem nm26 : (Tryz.f26.name == "runtime.NumGoroutine") = false := by kernel_rfl
def v27_0 : List VI := [.op (some 1) none (.box (.t 0)), .op (some 2) none (.p (.mov (.c (.bool false))))]
def v27_1 : List VI := [.op (some 3) none (.ld true 4 (.t 1)), .call (some 4) none (.fn 42) [.t 3], .op (some 5) none (.p (.bld [.int .u64 (nl 0), .int .u64 (nl 0), .int .u64 (nl 0), .int .u64 (nl 0)] [])), .op (some 6) none (.p (.eqa false [.i, .i, .i, .i] (.t 4) (.t 5))), .op (some 2) none (.p (.mov (.t 6)))]
def v27 : VC := .seq (.reg v27_0) (.seq (.reg v27_1) .ret)
def rr27 : List RV := [.t 2]
theorem code27 : (Tryz.f27.body).bind (cCode Tryz.prog) = some v27 := by kernel_rfl
theorem res27 : cRVs Tryz.prog (Tryz.f27.results.toList) = some rr27 := by kernel_rfl
theorem nt27 : Tryz.f27.ntmps = 7 := by kernel_rfl
theorem nm27 : (Tryz.f27.name == "runtime.NumGoroutine") = false := by kernel_rfl
def v28_0 : List VI := [.op (some 8) none (.ld true 10 (.t 1)), .op (some 9) none (.ld true 10 (.t 2)), .op (some 10) none (.ld false 1 (.t 3)), .call (some 11) none (.fn 18) [.t 8, .t 9, .t 10], .op (some 12) none (.p (.eq true .i (.t 11) (.c (.int .i64 0))))]
def v28_1 : List VI := [.op (some 13) none (.ld true 10 (.t 1)), .op (some 5) none (.new [.int .u64 (nl 0), .int .u64 (nl 0), .int .u64 (nl 0), .int .u64 (nl 0), .int .u64 (nl 0), .int .u64 (nl 0), .int .u64 (nl 0), .int .u64 (nl 0), .nils, .nils]), .op none none (.st 10 (.t 5) (.t 13))]
def v28_2 : List VI := [.op (some 6) none (.p (.mov (.c (.int .i64 0))))]
def v28_3 : List VI := [.op (some 16) none (.ld true 10 (.t 5)), .op (some 7) none (.new [.int .u64 (nl 0), .int .u64 (nl 0), .int .u64 (nl 0), .int .u64 (nl 0), .int .u64 (nl 0), .int .u64 (nl 0), .int .u64 (nl 0), .int .u64 (nl 0), .nils, .nils]), .op none none (.st 10 (.t 7) (.t 16))]
def v28_4 : List DS := [.mk 0 true (.op (some 17) none (.p (.fda 8 (.t 5)))) [] [], .mk 1 true (.op (some 18) none (.ld false 1 (.t 17))) [] [], .mk 3 true (.op (some 20) none (.p (.fda 9 (.t 5)))) [] [], .mk 4 true (.op (some 21) none (.ld false 1 (.t 20))) [] [], .mk 2 false (.op (some 19) none (.app 4 32 false (.c .nils) (.t 18))) [20] [], .mk 6 true (.op (some 23) none (.p (.fda 8 (.t 7)))) [] [], .mk 5 false (.op (some 22) none (.app 4 32 false (.c .nils) (.t 21))) [] [], .mk 7 false (.op none none (.st 1 (.t 23) (.t 19))) [] [], .mk 8 true (.op (some 24) none (.p (.fda 9 (.t 7)))) [] [], .mk 9 false (.op none none (.st 1 (.t 24) (.t 22))) [] []]
def v28_5 : List VI := [.op (some 25) none (.p (.mov (.t 0))), .op (some 26) none (.ld true 10 (.t 7)), .call (some 27) none (.val (.t 25)) [.t 26], .op (some 28) none (.p (.un .not (.t 27))), .op (some 29) none (.p (.mov (.t 28))), .op (some 30) (some (29, false)) (.p (.mov (.t 6))), .op (some 31) (some (29, false)) (.ld false 1 (.t 3)), .op (some 32) (some (29, false)) (.p (.len false (.t 31))), .op (some 33) (some (29, false)) (.p (.eq false .i (.t 30) (.t 32))), .op (some 34) none (.p (.pick (.t 29) (.c (.bool true)) (.t 33)))]
def v28_6 : List DS := [.mk 0 true (.op (some 35) none (.ld true 10 (.t 5))) [] [], .mk 1 true (.op (some 36) none (.p (.fda 0 (.t 2)))) [] [], .mk 2 true (.op (some 37) none (.ld false 1 (.t 36))) [] [], .mk 3 true (.op (some 38) none (.p (.mov (.t 6)))) [] [], .mk 4 true (.op (some 39) none (.p (.ixs 4 (.t 37) (.t 38)))) [] [], .mk 5 true (.op (some 40) none (.ld true 4 (.t 39))) [] [], .mk 6 true (.op (some 41) none (.p (.fda 1 (.t 2)))) [] [], .mk 7 true (.op (some 42) none (.ld false 1 (.t 41))) [] [], .mk 8 true (.op (some 43) none (.p (.mov (.t 6)))) [] [], .mk 9 true (.op (some 44) none (.p (.ixs 4 (.t 42) (.t 43)))) [] [], .mk 10 true (.op (some 45) none (.ld true 4 (.t 44))) [] [], .mk 11 true (.op (some 46) none (.ld false 1 (.t 3))) [] [], .mk 12 true (.op (some 47) none (.p (.mov (.t 6)))) [] [], .mk 13 true (.op (some 48) none (.p (.ixs 4 (.t 46) (.t 47)))) [] [], .mk 14 true (.op (some 49) none (.ld true 4 (.t 48))) [] [], .mk 15 false (.call (some 50) none (.fn 29) [.t 35, .t 40, .t 45, .t 49]) [] [], .mk 16 false (.op none none (.st 10 (.t 5) (.t 50))) [] []]
def v28_7 : VC := .seq (.reg v28_3) (.seq (.drw v28_4) (.seq (.seq (.reg v28_5) (.cond (.t 34) .ret .skip)) (.drw v28_6)))
def v28_8 : List VI := [.op (some 14) none (.p (.mov (.t 6))), .op (some 15) none (.p (.bin .add (.t 14) (.c (.int .i64 1)))), .op (some 6) none (.p (.mov (.t 15)))]
def v28_9 : VC := .seq (.block 1 v28_7) (.reg v28_8)
def v28_10 : VC := .loop v28_9
def v28 : VC := .seq (.seq (.reg v28_0) (.cond (.t 12) .ret .skip)) (.seq (.reg v28_1) (.seq (.reg v28_2) (.block 0 v28_10)))
def rr28 : List RV := []
theorem code28 : (Tryz.f28.body).bind (cCode Tryz.prog) = some v28 := by kernel_rfl
theorem res28 : cRVs Tryz.prog (Tryz.f28.results.toList) = some rr28 := by kernel_rfl
theorem nt28 : Tryz.f28.ntmps = 51 := by kernel_rfl
theorem nm28 : (Tryz.f28.name == "runtime.NumGoroutine") = false := by kernel_rfl
def v29_0 : List VI := [.op (some 4) none (.box (.t 0)), .op (some 5) none (.box (.t 1)), .op (some 6) none (.box (.t 2)), .op (some 7) none (.box (.t 3)), .op (some 8) none (.new [.int .u64 (nl 0), .int .u64 (nl 0), .int .u64 (nl 0), .int .u64 (nl 0), .int .u64 (nl 0), .int .u64 (nl 0), .int .u64 (nl 0), .int .u64 (nl 0), .nils, .nils])]
def v29_1 : List VI := [.op (some 10) none (.ld true 4 (.t 7)), .call (some 11) none (.fn 43) [.t 10], .op (some 9) none (.new [.int .u64 (nl 0), .int .u64 (nl 0), .int .u64 (nl 0), .int .u64 (nl 0)]), .op none none (.st 4 (.t 9) (.t 11))]
def v29_2 : List DS := [.mk 0 true (.op (some 12) none (.ld true 4 (.t 5))) [] [], .mk 1 true (.op (some 13) none (.p (.mkI 29 (.t 12)))) [] [], .mk 2 true (.op (some 14) none (.ld true 4 (.t 7))) [] [], .mk 3 true (.op (some 15) none (.ld true 4 (.t 7))) [] [], .mk 7 true (.op (some 19) none (.p (.fda 0 (.t 4)))) [] [], .mk 8 true (.op (some 20) none (.ld true 4 (.t 19))) [] [], .mk 11 true (.op (some 23) none (.ld true 4 (.t 6))) [] [], .mk 12 true (.op (some 24) none (.p (.mkI 29 (.t 23)))) [] [], .mk 13 true (.op (some 25) none (.ld true 4 (.t 9))) [] [], .mk 14 true (.op (some 26) none (.ld true 4 (.t 9))) [] [], .mk 18 true (.op (some 30) none (.p (.fda 4 (.t 4)))) [] [], .mk 19 true (.op (some 31) none (.ld true 4 (.t 30))) [] [], .mk 20 true (.op (some 32) none (.ld true 4 (.t 9))) [] [], .mk 21 true (.op (some 33) none (.p (.fda 8 (.t 4)))) [] [], .mk 22 true (.op (some 34) none (.ld false 1 (.t 33))) [] [], .mk 23 true (.op (some 35) none (.ld true 4 (.t 7))) [] [], .mk 25 true (.op (some 37) none (.ld true 4 (.t 7))) [] [], .mk 26 true (.op (some 38) none (.p (.fda 9 (.t 4)))) [] [], .mk 27 true (.op (some 39) none (.ld false 1 (.t 38))) [] [], .mk 28 true (.op (some 40) none (.ld true 4 (.t 9))) [] [], .mk 4 false (.call (some 16) none (.fn 44) [.t 14, .t 15]) [5, 19, 6, 9, 9, 30, 9, 33, 7, 7, 38, 9] [], .mk 5 false (.call (some 17) none (.inv (.t 13) "Times") [.t 16]) [19, 6, 9, 9, 30, 9, 33, 7, 7, 38, 9] [], .mk 6 true (.op (some 18) none (.p (.mkI 29 (.t 17)))) [] [], .mk 9 false (.call (some 21) none (.inv (.t 18) "Add") [.t 20]) [6, 9, 9, 30, 9, 33, 7, 7, 38, 9] [], .mk 10 true (.op (some 22) none (.p (.mkI 29 (.t 21)))) [] [], .mk 15 false (.call (some 27) none (.fn 44) [.t 25, .t 26]) [6, 30, 9, 33, 7, 7, 38, 9] [], .mk 16 false (.call (some 28) none (.inv (.t 24) "Times") [.t 27]) [30, 9, 33, 7, 7, 38, 9] [], .mk 17 false (.call (some 29) none (.inv (.t 22) "Add") [.t 28]) [30, 9, 33, 7, 7, 38, 9] [], .mk 24 false (.call (some 36) none (.fn 45) [.t 32, .t 34, .t 35]) [30, 7, 38, 9] [], .mk 29 false (.call (some 41) none (.fn 45) [.t 37, .t 39, .t 40]) [30] [], .mk 30 true (.op (some 42) none (.p (.bld [.int .u64 (nl 0), .int .u64 (nl 0), .int .u64 (nl 0), .int .u64 (nl 0), .int .u64 (nl 0), .int .u64 (nl 0), .int .u64 (nl 0), .int .u64 (nl 0), .nils, .nils] [(0, 4, .t 29), (4, 4, .t 31), (8, 1, .t 36), (9, 1, .t 41)]))) [] [], .mk 31 false (.op none none (.st 10 (.t 8) (.t 42))) [] []]
def v29 : VC := .seq (.reg v29_0) (.seq (.reg v29_1) (.seq (.drw v29_2) .ret))
def rr29 : List RV := [.m 8 true 10]
theorem code29 : (Tryz.f29.body).bind (cCode Tryz.prog) = some v29 := by kernel_rfl
theorem res29 : cRVs Tryz.prog (Tryz.f29.results.toList) = some rr29 := by kernel_rfl
theorem nt29 : Tryz.f29.ntmps = 43 := by kernel_rfl
theorem nm29 : (Tryz.f29.name == "runtime.NumGoroutine") = false := by kernel_rfl
def v30_0 : List VI := [.op (some 4) none (.new [.int .u64 (nl 0), .int .u64 (nl 0), .int .u64 (nl 0), .int .u64 (nl 0)]), .op (some 5) none (.p (.mov (.c (.int .i64 0))))]
def v30_1 : List VI := [.op (some 6) none (.new [.int .u64 (nl 0), .int .u64 (nl 0), .int .u64 (nl 0), .int .u64 (nl 0)])]
def v30_2 : List VI := [.op (some 9) none (.p (.mov (.t 0))), .op (some 10) none (.p (.len false (.t 9))), .op (some 11) none (.p (.mov (.t 1))), .op (some 12) none (.p (.len false (.t 11))), .op (some 13) none (.p (.eq true .i (.t 10) (.t 12)))]
def v30_3 : List VI := [.op (some 14) none (.ld true 4 (.t 6)), .op none none (.st 4 (.t 4) (.t 14)), .op (some 5) none (.p (.mov (.c (.int .i64 2))))]
def v30_4 : List VI := [.op (some 15) none (.p (.mov (.t 0))), .op (some 16) none (.p (.len false (.t 15))), .op (some 17) none (.p (.mov (.c (.int .i64 0))))]
def v30_5 : List VI := [.op (some 18) none (.p (.bin .lss (.t 17) (.t 16)))]
def v30_6 : List VI := [.op (some 19) none (.p (.mov (.t 17))), .op (some 20) none (.p (.ixs 4 (.t 15) (.t 17))), .op (some 21) none (.ld true 4 (.t 20)), .op (some 8) none (.new [.int .u64 (nl 0), .int .u64 (nl 0), .int .u64 (nl 0), .int .u64 (nl 0)]), .op (some 7) none (.p (.mov (.t 19))), .op none none (.st 4 (.t 8) (.t 21))]
def v30_7 : List DS := [.mk 0 true (.op (some 22) none (.ld true 4 (.t 6))) [] [], .mk 1 true (.op (some 23) none (.p (.mkI 27 (.t 22)))) [] [], .mk 2 true (.op (some 24) none (.ld true 4 (.t 8))) [] [], .mk 3 true (.op (some 25) none (.p (.mkI 27 (.t 24)))) [] [], .mk 4 true (.op (some 26) none (.p (.mov (.t 1)))) [] [], .mk 5 true (.op (some 27) none (.p (.mov (.t 7)))) [] [], .mk 6 true (.op (some 28) none (.p (.ixs 4 (.t 26) (.t 27)))) [] [], .mk 7 true (.op (some 29) none (.ld true 4 (.t 28))) [] [], .mk 8 false (.call (some 30) none (.inv (.t 25) "Mul") [.t 29]) [6] [], .mk 9 false (.call (some 31) none (.inv (.t 23) "Add") [.t 30]) [] [], .mk 10 false (.op none none (.st 4 (.t 6) (.t 31))) [] []]
def v30_8 : VC := .seq (.reg v30_6) (.drw v30_7)
def v30_9 : List VI := [.op (some 32) none (.p (.bin .add (.t 17) (.c (.int .i64 1)))), .op (some 17) none (.p (.mov (.t 32)))]
def v30_10 : VC := .seq (.reg v30_5) (.seq (.cond (.t 18) .skip (.exit 0)) (.seq (.block 1 v30_8) (.reg v30_9)))
def v30_11 : VC := .loop v30_10
def v30_12 : List VI := [.op (some 33) none (.ld true 4 (.t 6)), .op none none (.st 4 (.t 4) (.t 33)), .op (some 5) none (.p (.mov (.c (.int .i64 0))))]
def v30 : VC := .seq (.reg v30_0) (.seq (.reg v30_1) (.seq (.seq (.reg v30_2) (.cond (.t 13) (.seq (.reg v30_3) .ret) .skip)) (.seq (.seq (.reg v30_4) (.block 0 v30_11)) (.seq (.reg v30_12) .ret))))
def rr30 : List RV := [.m 4 true 4, .t 5]
theorem code30 : (Tryz.f30.body).bind (cCode Tryz.prog) = some v30 := by kernel_rfl
theorem res30 : cRVs Tryz.prog (Tryz.f30.results.toList) = some rr30 := by kernel_rfl
theorem nt30 : Tryz.f30.ntmps = 34 := by kernel_rfl
theorem nm30 : (Tryz.f30.name == "runtime.NumGoroutine") = false := by kernel_rfl
def v31_0 : List VI := [.op (some 6) none (.box (.t 0)), .op (some 11) none (.box (.t 5)), .op (some 12) none (.new [.int .u64 (nl 0), .int .u64 (nl 0), .int .u64 (nl 0), .int .u64 (nl 0)])]
def v31_1 : List VI := [.op (some 18) none (.ld true 4 (.t 11)), .op (some 19) none (.ld true 4 (.t 6)), .op (some 20) none (.p (.bld [.int .u64 (nl 0), .int .u64 (nl 0), .int .u64 (nl 0), .int .u64 (nl 0), .int .u64 (nl 0), .int .u64 (nl 0), .int .u64 (nl 0), .int .u64 (nl 0)] [(0, 4, .t 18), (4, 4, .t 19)])), .op (some 21) none (.bsl 1 [.int .u64 (nl 0), .int .u64 (nl 0), .int .u64 (nl 0), .int .u64 (nl 0), .int .u64 (nl 0), .int .u64 (nl 0), .int .u64 (nl 0), .int .u64 (nl 0)] [(0, 8, .t 20)]), .op (some 13) none (.p (.mov (.t 21)))]
def v31_2 : List VI := [.op (some 22) none (.p (.mov (.t 3))), .op (some 23) none (.p (.len false (.t 22))), .op (some 24) none (.p (.mov (.c (.int .i64 0))))]
def v31_3 : List VI := [.op (some 25) none (.p (.bin .lss (.t 24) (.t 23)))]
def v31_4 : List VI := [.op (some 26) none (.p (.mov (.t 24))), .op (some 27) none (.p (.ixs 4 (.t 22) (.t 24))), .op (some 28) none (.ld true 4 (.t 27)), .op (some 15) none (.new [.int .u64 (nl 0), .int .u64 (nl 0), .int .u64 (nl 0), .int .u64 (nl 0)]), .op (some 14) none (.p (.mov (.t 26))), .op none none (.st 4 (.t 15) (.t 28))]
def v31_5 : List DS := [.mk 0 true (.op (some 29) none (.p (.mov (.t 13)))) [] [], .mk 1 true (.op (some 30) none (.ld true 4 (.t 15))) [] [], .mk 2 true (.op (some 31) none (.p (.mov (.t 1)))) [] [], .mk 3 true (.op (some 32) none (.p (.mov (.t 14)))) [] [], .mk 4 true (.op (some 33) none (.p (.ixs 4 (.t 31) (.t 32)))) [] [], .mk 5 true (.op (some 34) none (.ld true 4 (.t 33))) [] [], .mk 6 true (.op (some 35) none (.p (.bld [.int .u64 (nl 0), .int .u64 (nl 0), .int .u64 (nl 0), .int .u64 (nl 0), .int .u64 (nl 0), .int .u64 (nl 0), .int .u64 (nl 0), .int .u64 (nl 0)] [(0, 4, .t 30), (4, 4, .t 34)]))) [] [], .mk 7 true (.op (some 36) none (.p (.mov (.t 4)))) [] [], .mk 8 true (.op (some 37) none (.p (.mov (.t 14)))) [] [], .mk 9 true (.op (some 38) none (.p (.ixs 4 (.t 36) (.t 37)))) [] [], .mk 10 true (.op (some 39) none (.ld true 4 (.t 38))) [] [], .mk 11 true (.op (some 40) none (.p (.mov (.t 2)))) [] [], .mk 12 true (.op (some 41) none (.p (.mov (.t 14)))) [] [], .mk 13 true (.op (some 42) none (.p (.ixs 4 (.t 40) (.t 41)))) [] [], .mk 14 true (.op (some 43) none (.ld true 4 (.t 42))) [] [], .mk 15 true (.op (some 44) none (.p (.bld [.int .u64 (nl 0), .int .u64 (nl 0), .int .u64 (nl 0), .int .u64 (nl 0), .int .u64 (nl 0), .int .u64 (nl 0), .int .u64 (nl 0), .int .u64 (nl 0)] [(0, 4, .t 39), (4, 4, .t 43)]))) [] [], .mk 16 true (.op (some 45) none (.bsl 2 [.int .u64 (nl 0), .int .u64 (nl 0), .int .u64 (nl 0), .int .u64 (nl 0), .int .u64 (nl 0), .int .u64 (nl 0), .int .u64 (nl 0), .int .u64 (nl 0), .int .u64 (nl 0), .int .u64 (nl 0), .int .u64 (nl 0), .int .u64 (nl 0), .int .u64 (nl 0), .int .u64 (nl 0), .int .u64 (nl 0), .int .u64 (nl 0)] [(0, 8, .t 35), (8, 8, .t 44)])) [] [], .mk 17 false (.op (some 46) none (.app 8 64 false (.t 29) (.t 45))) [] [], .mk 18 false (.op (some 13) none (.p (.mov (.t 46)))) [] []]
def v31_6 : VC := .seq (.reg v31_4) (.drw v31_5)
def v31_7 : List VI := [.op (some 47) none (.p (.bin .add (.t 24) (.c (.int .i64 1)))), .op (some 24) none (.p (.mov (.t 47)))]
def v31_8 : VC := .seq (.reg v31_3) (.seq (.cond (.t 25) .skip (.exit 0)) (.seq (.block 1 v31_6) (.reg v31_7)))
def v31_9 : VC := .loop v31_8
def v31_10 : List VI := [.op (some 48) none (.p (.mov (.t 13))), .op (some 49) none (.p (.len false (.t 48))), .op (some 50) none (.p (.bin .lss (.t 49) (.c (.int .i64 24))))]
def v31_11 : List VI := [.op (some 51) none (.p (.mov (.t 13))), .call (some 52) none (.fn 46) [.t 51], .op none none (.st 4 (.t 12) (.t 52))]
def v31_12 : List VI := [.op (some 54) none (.p (.mov (.t 13))), .call (some 55) none (.fn 47) [.t 54], .op (some 53) none (.p (.mov (.t 55))), .op (some 56) none (.p (.ext (.t 53) 0)), .op (some 57) none (.p (.ext (.t 53) 1)), .op (some 16) none (.new [.int .u64 (nl 0), .int .u64 (nl 0), .int .u64 (nl 0), .int .u64 (nl 0)]), .op (some 17) none (.new [.int .i64 0, .int .i64 0]), .op none none (.st 4 (.t 16) (.t 56)), .op none none (.st 2 (.t 17) (.t 57))]
def v31_13 : List VI := [.op (some 58) none (.ld true 4 (.t 16)), .op none none (.st 4 (.t 12) (.t 58))]
def v31 : VC := .seq (.reg v31_0) (.seq (.reg v31_1) (.seq (.seq (.reg v31_2) (.block 0 v31_9)) (.seq (.seq (.reg v31_10) (.cond (.t 50) (.seq (.reg v31_11) .ret) .skip)) (.seq (.reg v31_12) (.seq (.reg v31_13) .ret)))))
def rr31 : List RV := [.m 12 true 4]
theorem code31 : (Tryz.f31.body).bind (cCode Tryz.prog) = some v31 := by kernel_rfl
theorem res31 : cRVs Tryz.prog (Tryz.f31.results.toList) = some rr31 := by kernel_rfl
theorem nt31 : Tryz.f31.ntmps = 59 := by kernel_rfl
theorem nm31 : (Tryz.f31.name == "runtime.NumGoroutine") = false := by kernel_rfl
def v32_0 : List VI := [.op (some 2) none (.p (.mov (.c (.int .i64 0))))]
def v32_1 : List VI := [.op (some 3) none (.p (.mov (.c (.int .i64 0))))]
def v32_2 : List VI := [.op (some 4) none (.p (.mov (.t 3))), .op (some 5) none (.p (.bin .leq (.t 4) (.c (.int .i64 10))))]
def v32_3 : List VI := [.op (some 8) none (.p (.mov (.t 3))), .op (some 9) none (.p (.bin .shl (.c (.int .i64 1)) (.t 8))), .op (some 10) none (.p (.mov (.t 0))), .op (some 11) none (.p (.eq false .i (.t 9) (.t 10)))]
def v32_4 : List VI := [.op (some 12) none (.p (.mov (.t 3))), .op (some 2) none (.p (.mov (.t 12)))]
def v32_5 : VC := .seq (.reg v32_3) (.cond (.t 11) (.seq (.reg v32_4) .ret) .skip)
def v32_6 : List VI := [.op (some 6) none (.p (.mov (.t 3))), .op (some 7) none (.p (.bin .add (.t 6) (.c (.int .i64 1)))), .op (some 3) none (.p (.mov (.t 7)))]
def v32_7 : VC := .seq (.seq (.reg v32_2) (.cond (.t 5) .skip (.exit 0))) (.seq (.block 1 v32_5) (.reg v32_6))
def v32_8 : VC := .loop v32_7
def v32_9 : List VI := [.op (some 2) none (.p (.mov (.c (.int .i64 (-1)))))]
def v32 : VC := .seq (.reg v32_0) (.seq (.seq (.reg v32_1) (.block 0 v32_8)) (.seq (.reg v32_9) .ret))
def rr32 : List RV := [.t 2]
theorem code32 : (Tryz.f32.body).bind (cCode Tryz.prog) = some v32 := by kernel_rfl
theorem res32 : cRVs Tryz.prog (Tryz.f32.results.toList) = some rr32 := by kernel_rfl
theorem nt32 : Tryz.f32.ntmps = 13 := by kernel_rfl
theorem nm32 : (Tryz.f32.name == "runtime.NumGoroutine") = false := by kernel_rfl
def v33_0 : List VI := [.op (some 1) none (.box (.t 0)), .op (some 2) none (.p (.mov (.c (.bool false))))]
def v33_1 : List VI := [.op (some 3) none (.ld true 4 (.t 1)), .op (some 4) none (.p (.bld [.int .u64 (nl 0), .int .u64 (nl 0), .int .u64 (nl 0), .int .u64 (nl 0)] [])), .op (some 5) none (.p (.eqa false [.i, .i, .i, .i] (.t 3) (.t 4))), .op (some 2) none (.p (.mov (.t 5)))]
def v33 : VC := .seq (.reg v33_0) (.seq (.reg v33_1) .ret)
def rr33 : List RV := [.t 2]
theorem code33 : (Tryz.f33.body).bind (cCode Tryz.prog) = some v33 := by kernel_rfl
theorem res33 : cRVs Tryz.prog (Tryz.f33.results.toList) = some rr33 := by kernel_rfl
theorem nt33 : Tryz.f33.ntmps = 6 := by kernel_rfl
theorem nm33 : (Tryz.f33.name == "runtime.NumGoroutine") = false := by kernel_rfl
def v34_0 : List VI := [.op (some 3) none (.box (.t 0)), .op (some 4) none (.box (.t 1)), .op (some 6) none (.p (.mov (.c .nils)))]
def v34_1 : List VI := [.op (some 9) none (.ld true 54 (.t 3)), .op (some 10) none (.ld true 10 (.t 4)), .op (some 11) none (.p (.mov (.t 2))), .call (some 12) none (.fn 21) [.t 9, .t 10, .t 11], .op (some 13) none (.p (.eq true .i (.t 12) (.c (.int .i64 0))))]
def v34_2 : List VI := [.op (some 6) none (.p (.mov (.c .nils)))]
def v34_3 : List VI := [.op (some 14) none (.ld true 54 (.t 3)), .op (some 15) none (.bsl 1 [.int .i64 0, .int .i64 0, .int .i64 0, .int .i64 0, .int .i64 0, .int .i64 0, .int .i64 0, .int .i64 0, .int .i64 0, .int .i64 0, .int .i64 0, .int .i64 0, .int .i64 0, .int .i64 0, .int .i64 0, .int .i64 0, .int .i64 0, .int .i64 0, .int .i64 0, .int .i64 0, .int .i64 0, .int .u64 (nl 0), .int .u64 (nl 0), .int .u64 (nl 0), .int .u64 (nl 0), .nils, .int .i64 0, .int .i64 0, .int .i64 0, .int .i64 0, .int .i64 0, .int .i64 0, .int .i64 0, .int .i64 0, .int .i64 0, .int .i64 0, .int .i64 0, .int .i64 0, .int .i64 0, .int .i64 0, .int .i64 0, .int .i64 0, .int .i64 0, .int .i64 0, .int .i64 0, .int .i64 0, .int .i64 0, .int .u64 (nl 0), .int .u64 (nl 0), .int .u64 (nl 0), .int .u64 (nl 0), .nils, .nils, .nils] [(0, 54, .t 14)]), .op (some 7) none (.p (.mov (.t 15)))]
def v34_4 : List VI := [.op (some 8) none (.p (.mov (.c (.int .i64 0))))]
def v34_5 : List VI := [.op (some 16) none (.p (.mov (.t 8))), .op (some 17) none (.p (.mov (.t 2))), .op (some 18) none (.p (.len false (.t 17))), .op (some 19) none (.p (.bin .lss (.t 16) (.t 18)))]
def v34_6 : List DS := [.mk 0 true (.op (some 22) none (.ld true 54 (.t 3))) [] [], .mk 1 true (.op (some 23) none (.p (.fda 0 (.t 4)))) [] [], .mk 2 true (.op (some 24) none (.ld false 1 (.t 23))) [] [], .mk 3 true (.op (some 25) none (.p (.mov (.t 8)))) [] [], .mk 4 true (.op (some 26) none (.p (.ixs 26 (.t 24) (.t 25)))) [] [], .mk 5 true (.op (some 27) none (.ld true 26 (.t 26))) [] [], .mk 6 true (.op (some 28) none (.p (.fda 1 (.t 4)))) [] [], .mk 7 true (.op (some 29) none (.ld false 1 (.t 28))) [] [], .mk 8 true (.op (some 30) none (.p (.mov (.t 8)))) [] [], .mk 9 true (.op (some 31) none (.p (.ixs 26 (.t 29) (.t 30)))) [] [], .mk 10 true (.op (some 32) none (.ld true 26 (.t 31))) [] [], .mk 11 true (.op (some 33) none (.p (.mov (.t 2)))) [] [], .mk 12 true (.op (some 34) none (.p (.mov (.t 8)))) [] [], .mk 13 true (.op (some 35) none (.p (.ixs 4 (.t 33) (.t 34)))) [] [], .mk 14 true (.op (some 36) none (.ld true 4 (.t 35))) [] [], .mk 15 false (.call (some 37) none (.fn 48) [.t 22, .t 27, .t 32, .t 36]) [] [], .mk 16 false (.op none none (.st 54 (.t 3) (.t 37))) [] []]
def v34_7 : List VI := [.op (some 38) none (.p (.mov (.t 7))), .op (some 39) none (.ld true 54 (.t 3)), .op (some 40) none (.bsl 1 [.int .i64 0, .int .i64 0, .int .i64 0, .int .i64 0, .int .i64 0, .int .i64 0, .int .i64 0, .int .i64 0, .int .i64 0, .int .i64 0, .int .i64 0, .int .i64 0, .int .i64 0, .int .i64 0, .int .i64 0, .int .i64 0, .int .i64 0, .int .i64 0, .int .i64 0, .int .i64 0, .int .i64 0, .int .u64 (nl 0), .int .u64 (nl 0), .int .u64 (nl 0), .int .u64 (nl 0), .nils, .int .i64 0, .int .i64 0, .int .i64 0, .int .i64 0, .int .i64 0, .int .i64 0, .int .i64 0, .int .i64 0, .int .i64 0, .int .i64 0, .int .i64 0, .int .i64 0, .int .i64 0, .int .i64 0, .int .i64 0, .int .i64 0, .int .i64 0, .int .i64 0, .int .i64 0, .int .i64 0, .int .i64 0, .int .u64 (nl 0), .int .u64 (nl 0), .int .u64 (nl 0), .int .u64 (nl 0), .nils, .nils, .nils] [(0, 54, .t 39)]), .op (some 41) none (.app 54 496 false (.t 38) (.t 40)), .op (some 7) none (.p (.mov (.t 41)))]
def v34_8 : VC := .seq (.drw v34_6) (.reg v34_7)
def v34_9 : List VI := [.op (some 20) none (.p (.mov (.t 8))), .op (some 21) none (.p (.bin .add (.t 20) (.c (.int .i64 1)))), .op (some 8) none (.p (.mov (.t 21)))]
def v34_10 : VC := .seq (.seq (.reg v34_5) (.cond (.t 19) .skip (.exit 0))) (.seq (.block 1 v34_8) (.reg v34_9))
def v34_11 : VC := .loop v34_10
def v34_12 : List VI := [.op (some 42) none (.p (.mov (.t 7))), .op (some 6) none (.p (.mov (.t 42)))]
def v34 : VC := .seq (.reg v34_0) (.seq (.seq (.reg v34_1) (.cond (.t 13) (.seq (.reg v34_2) .ret) .skip)) (.seq (.reg v34_3) (.seq (.seq (.reg v34_4) (.block 0 v34_11)) (.seq (.reg v34_12) .ret))))
def rr34 : List RV := [.t 6]
theorem code34 : (Tryz.f34.body).bind (cCode Tryz.prog) = some v34 := by kernel_rfl
theorem res34 : cRVs Tryz.prog (Tryz.f34.results.toList) = some rr34 := by kernel_rfl
theorem nt34 : Tryz.f34.ntmps = 43 := by kernel_rfl
theorem nm34 : (Tryz.f34.name == "runtime.NumGoroutine") = false := by kernel_rfl
def v35_0 : List VI := [.op (some 2) none (.box (.t 0)), .op (some 3) none (.box (.t 1)), .op (some 4) none (.new [.int .i64 0, .int .i64 0, .int .i64 0, .int .i64 0, .int .i64 0, .int .i64 0, .int .i64 0, .int .i64 0, .int .i64 0, .int .i64 0, .int .i64 0, .int .i64 0, .int .i64 0, .int .i64 0, .int .i64 0, .int .i64 0, .int .i64 0, .int .i64 0, .int .i64 0, .int .i64 0, .int .i64 0, .int .u64 (nl 0), .int .u64 (nl 0), .int .u64 (nl 0), .int .u64 (nl 0), .nils])]
def v35_1 : List VI := [.op (some 7) none (.p (.fda 0 (.t 2))), .op (some 8) none (.ld false 1 (.t 7))]
def v35_2 : List VI := [.op (some 10) none (.p (.eq false .i (.t 8) (.c (.int .i64 1)))), .op (some 9) none (.p (.mov (.t 10)))]
def v35_3 : List VI := [.op (some 11) none (.p (.fda 1 (.t 2))), .op (some 12) none (.ld true 20 (.t 11)), .op (some 13) none (.ld true 4 (.t 3)), .call (some 14) none (.fn 50) [.t 12, .t 13], .call (some 15) none (.fn 49) [.t 14], .op none none (.st 26 (.t 4) (.t 15))]
def v35_4 : List VI := [.op (some 17) none (.p (.eq false .i (.t 8) (.c (.int .i64 2)))), .op (some 16) none (.p (.mov (.t 17)))]
def v35_5 : List VI := [.op (some 18) none (.p (.fda 21 (.t 2))), .op (some 19) none (.ld true 4 (.t 18)), .op (some 20) none (.ld true 4 (.t 3)), .call (some 21) none (.fn 37) [.t 19, .t 20], .call (some 22) none (.fn 24) [.t 21], .op none none (.st 26 (.t 4) (.t 22))]
def v35_6 : VC := .seq (.reg v35_2) (.cond (.t 9) (.seq (.reg v35_3) .ret) (.seq (.reg v35_4) (.cond (.t 16) (.seq (.reg v35_5) .ret) .skip)))
def v35_7 : List VI := [.op (some 5) none (.p (.mov (.c .nils)))]
def v35_8 : List VI := [.op (some 6) none (.p (.mov (.c (.int .i64 0))))]
def v35_9 : List VI := [.op (some 23) none (.p (.mov (.t 6))), .op (some 24) none (.p (.fda 25 (.t 2))), .op (some 25) none (.ld false 1 (.t 24)), .op (some 26) none (.p (.len false (.t 25))), .op (some 27) none (.p (.bin .lss (.t 23) (.t 26)))]
def v35_10 : List DS := [.mk 0 true (.op (some 30) none (.p (.mov (.t 5)))) [] [], .mk 1 true (.op (some 31) none (.p (.fda 25 (.t 2)))) [] [], .mk 2 true (.op (some 32) none (.ld false 1 (.t 31))) [] [], .mk 3 true (.op (some 33) none (.p (.mov (.t 6)))) [] [], .mk 4 true (.op (some 34) none (.p (.ixs 4 (.t 32) (.t 33)))) [] [], .mk 5 true (.op (some 35) none (.ld true 4 (.t 34))) [] [], .mk 6 true (.op (some 36) none (.ld true 4 (.t 3))) [] [], .mk 7 false (.call (some 37) none (.fn 37) [.t 35, .t 36]) [] [], .mk 8 true (.op (some 38) none (.bsl 1 [.int .u64 (nl 0), .int .u64 (nl 0), .int .u64 (nl 0), .int .u64 (nl 0)] [(0, 4, .t 37)])) [] [], .mk 9 false (.op (some 39) none (.app 4 32 false (.t 30) (.t 38))) [] [], .mk 10 false (.op (some 5) none (.p (.mov (.t 39)))) [] []]
def v35_11 : VC := .drw v35_10
def v35_12 : List VI := [.op (some 28) none (.p (.mov (.t 6))), .op (some 29) none (.p (.bin .add (.t 28) (.c (.int .i64 1)))), .op (some 6) none (.p (.mov (.t 29)))]
def v35_13 : VC := .seq (.seq (.reg v35_9) (.cond (.t 27) .skip (.exit 1))) (.seq (.block 2 v35_11) (.reg v35_12))
def v35_14 : VC := .loop v35_13
def v35_15 : List VI := [.op (some 40) none (.p (.mov (.t 5))), .call (some 41) none (.fn 51) [.t 40], .op none none (.st 26 (.t 4) (.t 41))]
def v35 : VC := .seq (.reg v35_0) (.seq (.seq (.reg v35_1) (.block 0 v35_6)) (.seq (.reg v35_7) (.seq (.seq (.reg v35_8) (.block 1 v35_14)) (.seq (.reg v35_15) .ret))))
def rr35 : List RV := [.m 4 true 26]
theorem code35 : (Tryz.f35.body).bind (cCode Tryz.prog) = some v35 := by kernel_rfl
theorem res35 : cRVs Tryz.prog (Tryz.f35.results.toList) = some rr35 := by kernel_rfl
theorem nt35 : Tryz.f35.ntmps = 42 := by kernel_rfl
theorem nm35 : (Tryz.f35.name == "runtime.NumGoroutine") = false := by kernel_rfl
def v36_0 : List VI := [.op (some 2) none (.box (.t 0)), .op (some 3) none (.box (.t 1)), .op (some 4) none (.new [.int .i64 0, .int .i64 0, .int .i64 0, .int .i64 0, .int .i64 0, .int .i64 0, .int .i64 0, .int .i64 0, .int .i64 0, .int .i64 0, .int .i64 0, .int .i64 0, .int .i64 0, .int .i64 0, .int .i64 0, .int .i64 0, .int .i64 0, .int .i64 0, .int .i64 0, .int .i64 0, .int .i64 0, .int .u64 (nl 0), .int .u64 (nl 0), .int .u64 (nl 0), .int .u64 (nl 0), .nils])]
def v36_1 : List VI := [.op (some 9) none (.p (.fda 0 (.t 2))), .op (some 10) none (.ld false 1 (.t 9))]
def v36_2 : List VI := [.op (some 12) none (.p (.eq false .i (.t 10) (.c (.int .i64 1)))), .op (some 11) none (.p (.mov (.t 12)))]
def v36_3 : List VI := [.op (some 13) none (.p (.fda 1 (.t 2))), .op (some 14) none (.ld true 20 (.t 13)), .op (some 15) none (.p (.fda 1 (.t 3))), .op (some 16) none (.ld true 20 (.t 15)), .call (some 17) none (.fn 52) [.t 14, .t 16], .call (some 18) none (.fn 49) [.t 17], .op none none (.st 26 (.t 4) (.t 18))]
def v36_4 : List VI := [.op (some 20) none (.p (.eq false .i (.t 10) (.c (.int .i64 2)))), .op (some 19) none (.p (.mov (.t 20)))]
def v36_5 : List VI := [.op (some 21) none (.p (.fda 21 (.t 2))), .op (some 22) none (.ld true 4 (.t 21)), .op (some 23) none (.p (.fda 21 (.t 3))), .op (some 24) none (.ld true 4 (.t 23)), .call (some 25) none (.fn 53) [.t 22, .t 24], .call (some 26) none (.fn 24) [.t 25], .op none none (.st 26 (.t 4) (.t 26))]
def v36_6 : VC := .seq (.reg v36_2) (.cond (.t 11) (.seq (.reg v36_3) .ret) (.seq (.reg v36_4) (.cond (.t 19) (.seq (.reg v36_5) .ret) .skip)))
def v36_7 : List VI := [.op (some 27) none (.p (.fda 25 (.t 2))), .op (some 28) none (.ld false 1 (.t 27)), .op (some 29) none (.p (.len false (.t 28))), .op (some 5) none (.p (.mov (.t 29)))]
def v36_8 : List VI := [.op (some 30) none (.p (.fda 25 (.t 3))), .op (some 31) none (.ld false 1 (.t 30)), .op (some 32) none (.p (.len false (.t 31))), .op (some 33) none (.p (.mov (.t 5))), .op (some 34) none (.p (.bin .gtr (.t 32) (.t 33)))]
def v36_9 : List VI := [.op (some 35) none (.p (.fda 25 (.t 3))), .op (some 36) none (.ld false 1 (.t 35)), .op (some 37) none (.p (.len false (.t 36))), .op (some 5) none (.p (.mov (.t 37)))]
def v36_10 : List VI := [.op (some 6) none (.p (.mov (.c .nils)))]
def v36_11 : List VI := [.op (some 7) none (.p (.mov (.c (.int .i64 0))))]
def v36_12 : List VI := [.op (some 38) none (.p (.mov (.t 7))), .op (some 39) none (.p (.mov (.t 5))), .op (some 40) none (.p (.bin .lss (.t 38) (.t 39)))]
def v36_13 : List VI := [.op (some 43) none (.p (.fda 25 (.t 2))), .op (some 44) none (.ld false 1 (.t 43)), .op (some 45) none (.p (.mov (.t 7))), .call (some 46) none (.fn 54) [.t 44, .t 45], .op (some 8) none (.new [.int .u64 (nl 0), .int .u64 (nl 0), .int .u64 (nl 0), .int .u64 (nl 0)]), .op none none (.st 4 (.t 8) (.t 46))]
def v36_14 : List DS := [.mk 0 true (.op (some 47) none (.p (.mov (.t 6)))) [] [], .mk 1 true (.op (some 48) none (.ld true 4 (.t 8))) [] [], .mk 2 true (.op (some 49) none (.p (.fda 25 (.t 3)))) [] [], .mk 3 true (.op (some 50) none (.ld false 1 (.t 49))) [] [], .mk 4 true (.op (some 51) none (.p (.mov (.t 7)))) [] [], .mk 5 false (.call (some 52) none (.fn 54) [.t 50, .t 51]) [8] [], .mk 6 false (.call (some 53) none (.fn 53) [.t 48, .t 52]) [] [], .mk 7 true (.op (some 54) none (.bsl 1 [.int .u64 (nl 0), .int .u64 (nl 0), .int .u64 (nl 0), .int .u64 (nl 0)] [(0, 4, .t 53)])) [] [], .mk 8 false (.op (some 55) none (.app 4 32 false (.t 47) (.t 54))) [] [], .mk 9 false (.op (some 6) none (.p (.mov (.t 55)))) [] []]
def v36_15 : VC := .seq (.reg v36_13) (.drw v36_14)
def v36_16 : List VI := [.op (some 41) none (.p (.mov (.t 7))), .op (some 42) none (.p (.bin .add (.t 41) (.c (.int .i64 1)))), .op (some 7) none (.p (.mov (.t 42)))]
def v36_17 : VC := .seq (.seq (.reg v36_12) (.cond (.t 40) .skip (.exit 1))) (.seq (.block 2 v36_15) (.reg v36_16))
def v36_18 : VC := .loop v36_17
def v36_19 : List VI := [.op (some 56) none (.p (.mov (.t 6))), .call (some 57) none (.fn 51) [.t 56], .op none none (.st 26 (.t 4) (.t 57))]
def v36 : VC := .seq (.reg v36_0) (.seq (.seq (.reg v36_1) (.block 0 v36_6)) (.seq (.reg v36_7) (.seq (.seq (.reg v36_8) (.cond (.t 34) (.reg v36_9) .skip)) (.seq (.reg v36_10) (.seq (.seq (.reg v36_11) (.block 1 v36_18)) (.seq (.reg v36_19) .ret))))))
def rr36 : List RV := [.m 4 true 26]
theorem code36 : (Tryz.f36.body).bind (cCode Tryz.prog) = some v36 := by kernel_rfl
theorem res36 : cRVs Tryz.prog (Tryz.f36.results.toList) = some rr36 := by kernel_rfl
theorem nt36 : Tryz.f36.ntmps = 58 := by kernel_rfl
theorem nm36 : (Tryz.f36.name == "runtime.NumGoroutine") = false := by kernel_rfl
def v37_0 : List VI := [.op (some 2) none (.box (.t 0)), .op (some 3) none (.box (.t 1)), .op (some 4) none (.new [.int .u64 (nl 0), .int .u64 (nl 0), .int .u64 (nl 0), .int .u64 (nl 0)])]
def v37_1 : List VI := [.op (some 14) none (.ld true 4 (.t 2)), .call (some 15) none (.fn 55) [.t 14], .op (some 5) none (.new [.int .u64 (nl 0), .int .u64 (nl 0), .int .u64 (nl 0), .int .u64 (nl 0), .int .u64 (nl 0), .int .u64 (nl 0), .int .u64 (nl 0), .int .u64 (nl 0)]), .op none none (.st 8 (.t 5) (.t 15))]
def v37_2 : List VI := [.op (some 16) none (.ld true 4 (.t 3)), .call (some 17) none (.fn 55) [.t 16], .op (some 6) none (.new [.int .u64 (nl 0), .int .u64 (nl 0), .int .u64 (nl 0), .int .u64 (nl 0), .int .u64 (nl 0), .int .u64 (nl 0), .int .u64 (nl 0), .int .u64 (nl 0)]), .op none none (.st 8 (.t 6) (.t 17))]
def v37_3 : List VI := [.op (some 7) none (.new [.int .u64 (nl 0), .int .u64 (nl 0), .int .u64 (nl 0), .int .u64 (nl 0), .int .u64 (nl 0), .int .u64 (nl 0), .int .u64 (nl 0), .int .u64 (nl 0), .int .u64 (nl 0), .int .u64 (nl 0), .int .u64 (nl 0), .int .u64 (nl 0), .int .u64 (nl 0), .int .u64 (nl 0), .int .u64 (nl 0), .int .u64 (nl 0)])]
def v37_4 : List VI := [.op (some 8) none (.p (.mov (.c (.int .i64 0))))]
def v37_5 : List VI := [.op (some 18) none (.p (.mov (.t 8))), .op (some 19) none (.p (.bin .lss (.t 18) (.c (.int .i64 8))))]
def v37_6 : List VI := [.op (some 9) none (.p (.mov (.c (.int .u64 (nl 0)))))]
def v37_7 : List VI := [.op (some 10) none (.p (.mov (.c (.int .i64 0))))]
def v37_8 : List VI := [.op (some 22) none (.p (.mov (.t 10))), .op (some 23) none (.p (.bin .lss (.t 22) (.c (.int .i64 8))))]
def v37_9 : List DS := [.mk 0 true (.op (some 26) none (.p (.mov (.t 8)))) [] [], .mk 1 true (.op (some 27) none (.p (.ixa 8 1 (.t 5) (.t 26)))) [] [], .mk 2 true (.op (some 28) none (.ld false 1 (.t 27))) [] [], .mk 3 true (.op (some 29) none (.p (.mov (.t 10)))) [] [], .mk 4 true (.op (some 30) none (.p (.ixa 8 1 (.t 6) (.t 29)))) [] [], .mk 5 true (.op (some 31) none (.ld false 1 (.t 30))) [] [], .mk 6 true (.op (some 32) none (.p (.bin .mul (.t 28) (.t 31)))) [] [], .mk 7 true (.op (some 33) none (.p (.mov (.t 8)))) [] [], .mk 8 true (.op (some 34) none (.p (.mov (.t 10)))) [] [], .mk 9 true (.op (some 35) none (.p (.bin .add (.t 33) (.t 34)))) [] [], .mk 10 true (.op (some 36) none (.p (.ixa 16 1 (.t 7) (.t 35)))) [] [], .mk 11 true (.op (some 37) none (.ld false 1 (.t 36))) [] [], .mk 12 true (.op (some 38) none (.p (.bin .add (.t 32) (.t 37)))) [] [], .mk 13 true (.op (some 39) none (.p (.mov (.t 9)))) [] [], .mk 14 true (.op (some 40) none (.p (.bin .add (.t 38) (.t 39)))) [] [], .mk 15 false (.op (some 11) none (.p (.mov (.t 40)))) [] []]
def v37_10 : List VI := [.op (some 41) none (.p (.mov (.t 8))), .op (some 42) none (.p (.mov (.t 10))), .op (some 43) none (.p (.bin .add (.t 41) (.t 42))), .op (some 44) none (.p (.mov (.t 11))), .op (some 45) none (.p (.bin .and (.t 44) (.c (.int .u64 (nl 4294967295))))), .op (some 46) none (.p (.ixa 16 1 (.t 7) (.t 43))), .op none none (.st 1 (.t 46) (.t 45))]
def v37_11 : List VI := [.op (some 47) none (.p (.mov (.t 11))), .op (some 48) none (.p (.bin .shr (.t 47) (.c (.int .u64 (nl 32))))), .op (some 9) none (.p (.mov (.t 48)))]
def v37_12 : VC := .seq (.drw v37_9) (.seq (.reg v37_10) (.reg v37_11))
def v37_13 : List VI := [.op (some 24) none (.p (.mov (.t 10))), .op (some 25) none (.p (.bin .add (.t 24) (.c (.int .i64 1)))), .op (some 10) none (.p (.mov (.t 25)))]
def v37_14 : VC := .seq (.seq (.reg v37_8) (.cond (.t 23) .skip (.exit 2))) (.seq (.block 3 v37_12) (.reg v37_13))
def v37_15 : VC := .loop v37_14
def v37_16 : List VI := [.op (some 49) none (.p (.mov (.t 8))), .op (some 50) none (.p (.bin .add (.t 49) (.c (.int .i64 8)))), .op (some 51) none (.p (.mov (.t 9))), .op (some 52) none (.p (.ixa 16 1 (.t 7) (.t 50))), .op none none (.st 1 (.t 52) (.t 51))]
def v37_17 : VC := .seq (.reg v37_6) (.seq (.seq (.reg v37_7) (.block 2 v37_15)) (.reg v37_16))
def v37_18 : List VI := [.op (some 20) none (.p (.mov (.t 8))), .op (some 21) none (.p (.bin .add (.t 20) (.c (.int .i64 1)))), .op (some 8) none (.p (.mov (.t 21)))]
def v37_19 : VC := .seq (.seq (.reg v37_5) (.cond (.t 19) .skip (.exit 0))) (.seq (.block 1 v37_17) (.reg v37_18))
def v37_20 : VC := .loop v37_19
def v37_21 : List VI := [.op (some 12) none (.new [.int .u64 (nl 0), .int .u64 (nl 0), .int .u64 (nl 0), .int .u64 (nl 0)])]
def v37_22 : List VI := [.op (some 13) none (.p (.mov (.c (.int .i64 15))))]
def v37_23 : List VI := [.op (some 53) none (.p (.mov (.t 13))), .op (some 54) none (.p (.bin .geq (.t 53) (.c (.int .i64 0))))]
def v37_24 : List DS := [.mk 0 true (.op (some 57) none (.ld true 4 (.t 12))) [] [], .mk 1 true (.op (some 58) none (.p (.mov (.t 13)))) [] [], .mk 2 true (.op (some 59) none (.p (.ixa 16 1 (.t 7) (.t 58)))) [] [], .mk 3 true (.op (some 60) none (.ld false 1 (.t 59))) [] [], .mk 4 true (.op (some 61) none (.p (.bin .shr (.t 60) (.c (.int .u64 (nl 16)))))) [] [], .mk 5 false (.call (some 62) none (.fn 41) [.t 57, .t 61]) [] [], .mk 6 false (.op none none (.st 4 (.t 12) (.t 62))) [] []]
def v37_25 : List DS := [.mk 0 true (.op (some 63) none (.ld true 4 (.t 12))) [] [], .mk 1 true (.op (some 64) none (.p (.mov (.t 13)))) [] [], .mk 2 true (.op (some 65) none (.p (.ixa 16 1 (.t 7) (.t 64)))) [] [], .mk 3 true (.op (some 66) none (.ld false 1 (.t 65))) [] [], .mk 4 true (.op (some 67) none (.p (.bin .and (.t 66) (.c (.int .u64 (nl 65535)))))) [] [], .mk 5 false (.call (some 68) none (.fn 41) [.t 63, .t 67]) [] [], .mk 6 false (.op none none (.st 4 (.t 12) (.t 68))) [] []]
def v37_26 : VC := .seq (.drw v37_24) (.drw v37_25)
def v37_27 : List VI := [.op (some 55) none (.p (.mov (.t 13))), .op (some 56) none (.p (.bin .sub (.t 55) (.c (.int .i64 1)))), .op (some 13) none (.p (.mov (.t 56)))]
def v37_28 : VC := .seq (.seq (.reg v37_23) (.cond (.t 54) .skip (.exit 4))) (.seq (.block 5 v37_26) (.reg v37_27))
def v37_29 : VC := .loop v37_28
def v37_30 : List VI := [.op (some 69) none (.ld true 4 (.t 12)), .op none none (.st 4 (.t 4) (.t 69))]
def v37 : VC := .seq (.reg v37_0) (.seq (.reg v37_1) (.seq (.reg v37_2) (.seq (.reg v37_3) (.seq (.seq (.reg v37_4) (.block 0 v37_20)) (.seq (.reg v37_21) (.seq (.seq (.reg v37_22) (.block 4 v37_29)) (.seq (.reg v37_30) .ret)))))))
def rr37 : List RV := [.m 4 true 4]
theorem code37 : (Tryz.f37.body).bind (cCode Tryz.prog) = some v37 := by kernel_rfl
theorem res37 : cRVs Tryz.prog (Tryz.f37.results.toList) = some rr37 := by kernel_rfl
theorem nt37 : Tryz.f37.ntmps = 70 := by kernel_rfl
theorem nm37 : (Tryz.f37.name == "runtime.NumGoroutine") = false := by kernel_rfl
def v38_0 : List VI := [.op (some 2) none (.box (.t 0)), .op (some 3) none (.box (.t 1)), .op (some 4) none (.new [.int .i64 0, .int .i64 0, .int .i64 0, .int .i64 0, .int .i64 0, .int .i64 0, .int .i64 0, .int .i64 0, .int .i64 0, .int .i64 0, .int .i64 0, .int .i64 0, .int .i64 0, .int .i64 0, .int .i64 0, .int .i64 0, .int .i64 0, .int .i64 0, .int .i64 0, .int .i64 0, .int .i64 0, .int .u64 (nl 0), .int .u64 (nl 0), .int .u64 (nl 0), .int .u64 (nl 0), .nils])]
def v38_1 : List DS := [.mk 0 true (.op (some 5) none (.ld true 26 (.t 2))) [] [], .mk 1 true (.op (some 6) none (.ld true 26 (.t 3))) [] [], .mk 2 false (.call (some 7) none (.fn 56) [.t 6]) [2] [], .mk 3 false (.call (some 8) none (.fn 36) [.t 5, .t 7]) [] [], .mk 4 false (.op none none (.st 26 (.t 4) (.t 8))) [] []]
def v38 : VC := .seq (.reg v38_0) (.seq (.drw v38_1) .ret)
def rr38 : List RV := [.m 4 true 26]
theorem code38 : (Tryz.f38.body).bind (cCode Tryz.prog) = some v38 := by kernel_rfl
theorem res38 : cRVs Tryz.prog (Tryz.f38.results.toList) = some rr38 := by kernel_rfl
theorem nt38 : Tryz.f38.ntmps = 9 := by kernel_rfl
theorem nm38 : (Tryz.f38.name == "runtime.NumGoroutine") = false := by kernel_rfl
def v39_0 : List VI := [.op (some 2) none (.box (.t 0)), .op (some 3) none (.box (.t 1)), .op (some 4) none (.p (.mov (.c (.bool false))))]
def v39_1 : List VI := [.op (some 6) none (.p (.fda 0 (.t 2))), .op (some 7) none (.ld false 1 (.t 6)), .op (some 8) none (.p (.fda 0 (.t 3))), .op (some 9) none (.ld false 1 (.t 8)), .op (some 10) none (.p (.eq true .i (.t 7) (.t 9)))]
def v39_2 : List VI := [.op (some 4) none (.p (.mov (.c (.bool false))))]
def v39_3 : List VI := [.op (some 11) none (.p (.fda 0 (.t 2))), .op (some 12) none (.ld false 1 (.t 11))]
def v39_4 : List VI := [.op (some 14) none (.p (.eq false .i (.t 12) (.c (.int .i64 1)))), .op (some 13) none (.p (.mov (.t 14)))]
def v39_5 : List VI := [.op (some 15) none (.p (.fda 1 (.t 2))), .op (some 16) none (.ld true 20 (.t 15)), .op (some 17) none (.p (.fda 1 (.t 3))), .op (some 18) none (.ld true 20 (.t 17)), .call (some 19) none (.fn 57) [.t 16, .t 18], .op (some 4) none (.p (.mov (.t 19)))]
def v39_6 : List VI := [.op (some 21) none (.p (.eq false .i (.t 12) (.c (.int .i64 2)))), .op (some 20) none (.p (.mov (.t 21)))]
def v39_7 : List VI := [.op (some 22) none (.p (.fda 21 (.t 2))), .op (some 23) none (.ld true 4 (.t 22)), .op (some 24) none (.p (.fda 21 (.t 3))), .op (some 25) none (.ld true 4 (.t 24)), .op (some 26) none (.p (.eqa false [.i, .i, .i, .i] (.t 23) (.t 25))), .op (some 4) none (.p (.mov (.t 26)))]
def v39_8 : VC := .seq (.reg v39_4) (.cond (.t 13) (.seq (.reg v39_5) .ret) (.seq (.reg v39_6) (.cond (.t 20) (.seq (.reg v39_7) .ret) .skip)))
def v39_9 : List VI := [.op (some 27) none (.p (.fda 25 (.t 2))), .op (some 28) none (.ld false 1 (.t 27)), .op (some 29) none (.p (.len false (.t 28))), .op (some 30) none (.p (.fda 25 (.t 3))), .op (some 31) none (.ld false 1 (.t 30)), .op (some 32) none (.p (.len false (.t 31))), .op (some 33) none (.p (.eq true .i (.t 29) (.t 32)))]
def v39_10 : List VI := [.op (some 4) none (.p (.mov (.c (.bool false))))]
def v39_11 : List VI := [.op (some 5) none (.p (.mov (.c (.int .i64 0))))]
def v39_12 : List VI := [.op (some 34) none (.p (.mov (.t 5))), .op (some 35) none (.p (.fda 25 (.t 2))), .op (some 36) none (.ld false 1 (.t 35)), .op (some 37) none (.p (.len false (.t 36))), .op (some 38) none (.p (.bin .lss (.t 34) (.t 37)))]
def v39_13 : List DS := [.mk 0 true (.op (some 41) none (.p (.fda 25 (.t 2)))) [] [], .mk 1 true (.op (some 42) none (.ld false 1 (.t 41))) [] [], .mk 2 true (.op (some 43) none (.p (.mov (.t 5)))) [] [], .mk 3 true (.op (some 44) none (.p (.ixs 4 (.t 42) (.t 43)))) [] [], .mk 4 true (.op (some 45) none (.ld true 4 (.t 44))) [] [], .mk 5 true (.op (some 46) none (.p (.fda 25 (.t 3)))) [] [], .mk 6 true (.op (some 47) none (.ld false 1 (.t 46))) [] [], .mk 7 true (.op (some 48) none (.p (.mov (.t 5)))) [] [], .mk 8 true (.op (some 49) none (.p (.ixs 4 (.t 47) (.t 48)))) [] [], .mk 9 true (.op (some 50) none (.ld true 4 (.t 49))) [] [], .mk 10 true (.op (some 51) none (.p (.eqa true [.i, .i, .i, .i] (.t 45) (.t 50)))) [] []]
def v39_14 : List VI := [.op (some 4) none (.p (.mov (.c (.bool false))))]
def v39_15 : VC := .seq (.drw v39_13) (.cond (.t 51) (.seq (.reg v39_14) .ret) .skip)
def v39_16 : List VI := [.op (some 39) none (.p (.mov (.t 5))), .op (some 40) none (.p (.bin .add (.t 39) (.c (.int .i64 1)))), .op (some 5) none (.p (.mov (.t 40)))]
def v39_17 : VC := .seq (.seq (.reg v39_12) (.cond (.t 38) .skip (.exit 1))) (.seq (.block 2 v39_15) (.reg v39_16))
def v39_18 : VC := .loop v39_17
def v39_19 : List VI := [.op (some 4) none (.p (.mov (.c (.bool true))))]
def v39 : VC := .seq (.reg v39_0) (.seq (.seq (.reg v39_1) (.cond (.t 10) (.seq (.reg v39_2) .ret) .skip)) (.seq (.seq (.reg v39_3) (.block 0 v39_8)) (.seq (.seq (.reg v39_9) (.cond (.t 33) (.seq (.reg v39_10) .ret) .skip)) (.seq (.seq (.reg v39_11) (.block 1 v39_18)) (.seq (.reg v39_19) .ret)))))
def rr39 : List RV := [.t 4]
theorem code39 : (Tryz.f39.body).bind (cCode Tryz.prog) = some v39 := by kernel_rfl
theorem res39 : cRVs Tryz.prog (Tryz.f39.results.toList) = some rr39 := by kernel_rfl
theorem nt39 : Tryz.f39.ntmps = 52 := by kernel_rfl
theorem nm39 : (Tryz.f39.name == "runtime.NumGoroutine") = false := by kernel_rfl
def v40_0 : List VI := [.op (some 2) none (.new [.int .i64 0, .int .i64 0, .int .i64 0, .int .i64 0, .int .i64 0, .int .i64 0, .int .i64 0, .int .i64 0, .int .i64 0, .int .i64 0, .int .i64 0, .int .i64 0, .int .i64 0, .int .i64 0, .int .i64 0, .int .i64 0, .int .i64 0, .int .i64 0, .int .i64 0, .int .i64 0, .int .i64 0, .int .u64 (nl 0), .int .u64 (nl 0), .int .u64 (nl 0), .int .u64 (nl 0), .nils])]
def v40_1 : List VI := [.op (some 3) none (.p (.mov (.t 0))), .op (some 4) none (.p (.bld [.int .i64 0, .int .i64 0, .int .i64 0, .int .i64 0, .int .i64 0, .int .i64 0, .int .i64 0, .int .i64 0, .int .i64 0, .int .i64 0, .int .i64 0, .int .i64 0, .int .i64 0, .int .i64 0, .int .i64 0, .int .i64 0, .int .i64 0, .int .i64 0, .int .i64 0, .int .i64 0, .int .i64 0, .int .u64 (nl 0), .int .u64 (nl 0), .int .u64 (nl 0), .int .u64 (nl 0), .nils] [(0, 1, .t 3)])), .op none none (.st 26 (.t 2) (.t 4))]
def v40 : VC := .seq (.reg v40_0) (.seq (.reg v40_1) .ret)
def rr40 : List RV := [.m 2 true 26]
theorem code40 : (Tryz.f40.body).bind (cCode Tryz.prog) = some v40 := by kernel_rfl
theorem res40 : cRVs Tryz.prog (Tryz.f40.results.toList) = some rr40 := by kernel_rfl
theorem nt40 : Tryz.f40.ntmps = 5 := by kernel_rfl
theorem nm40 : (Tryz.f40.name == "runtime.NumGoroutine") = false := by kernel_rfl
def v41_0 : List VI := [.op (some 2) none (.box (.t 0)), .op (some 4) none (.new [.int .u64 (nl 0), .int .u64 (nl 0), .int .u64 (nl 0), .int .u64 (nl 0)])]
def v41_1 : List VI := [.op (some 16) none (.p (.ixa 4 1 (.t 2) (.c (.int .i64 3)))), .op (some 17) none (.ld false 1 (.t 16)), .op (some 18) none (.p (.bin .shr (.t 17) (.c (.int .u64 (nl 44))))), .op (some 5) none (.p (.mov (.t 18)))]
def v41_2 : List VI := [.op (some 6) none (.new [.int .u64 (nl 0), .int .u64 (nl 0), .int .u64 (nl 0), .int .u64 (nl 0)])]
def v41_3 : List VI := [.op (some 19) none (.p (.ixa 4 1 (.t 2) (.c (.int .i64 0)))), .op (some 20) none (.ld false 1 (.t 19)), .op (some 21) none (.p (.bin .shl (.t 20) (.c (.int .u64 (nl 16))))), .op (some 22) none (.p (.mov (.t 1))), .op (some 23) none (.p (.bin .or (.t 21) (.t 22))), .op (some 24) none (.p (.ixa 4 1 (.t 6) (.c (.int .i64 0)))), .op none none (.st 1 (.t 24) (.t 23))]
def v41_4 : List VI := [.op (some 7) none (.p (.mov (.c (.int .i64 1))))]
def v41_5 : List VI := [.op (some 25) none (.p (.mov (.t 7))), .op (some 26) none (.p (.bin .lss (.t 25) (.c (.int .i64 4))))]
def v41_6 : List DS := [.mk 0 true (.op (some 29) none (.p (.mov (.t 7)))) [] [], .mk 1 true (.op (some 30) none (.p (.mov (.t 7)))) [] [], .mk 2 true (.op (some 31) none (.p (.ixa 4 1 (.t 2) (.t 30)))) [] [], .mk 3 true (.op (some 32) none (.ld false 1 (.t 31))) [] [], .mk 4 true (.op (some 33) none (.p (.bin .shl (.t 32) (.c (.int .u64 (nl 16)))))) [] [], .mk 5 true (.op (some 34) none (.p (.mov (.t 7)))) [] [], .mk 6 true (.op (some 35) none (.p (.bin .sub (.t 34) (.c (.int .i64 1))))) [] [], .mk 7 true (.op (some 36) none (.p (.ixa 4 1 (.t 2) (.t 35)))) [] [], .mk 8 true (.op (some 37) none (.ld false 1 (.t 36))) [] [], .mk 9 true (.op (some 38) none (.p (.bin .shr (.t 37) (.c (.int .u64 (nl 48)))))) [] [], .mk 10 true (.op (some 39) none (.p (.bin .or (.t 33) (.t 38)))) [] [], .mk 11 true (.op (some 40) none (.p (.ixa 4 1 (.t 6) (.t 29)))) [] [], .mk 12 false (.op none none (.st 1 (.t 40) (.t 39))) [] []]
def v41_7 : VC := .drw v41_6
def v41_8 : List VI := [.op (some 27) none (.p (.mov (.t 7))), .op (some 28) none (.p (.bin .add (.t 27) (.c (.int .i64 1)))), .op (some 7) none (.p (.mov (.t 28)))]
def v41_9 : VC := .seq (.seq (.reg v41_5) (.cond (.t 26) .skip (.exit 0))) (.seq (.block 1 v41_7) (.reg v41_8))
def v41_10 : VC := .loop v41_9
def v41_11 : List VI := [.op (some 41) none (.p (.ixa 4 1 (.t 6) (.c (.int .i64 3)))), .op (some 42) none (.ld false 1 (.t 41)), .op (some 43) none (.p (.bin .and (.t 42) (.c (.int .u64 (nl 1152921504606846975))))), .op (some 44) none (.p (.ixa 4 1 (.t 6) (.c (.int .i64 3)))), .op none none (.st 1 (.t 44) (.t 43))]
def v41_12 : List VI := [.call (some 45) none (.fn 58) [], .op (some 8) none (.new [.int .u64 (nl 0), .int .u64 (nl 0), .int .u64 (nl 0), .int .u64 (nl 0)]), .op none none (.st 4 (.t 8) (.t 45))]
def v41_13 : List VI := [.op (some 46) none (.p (.ixa 4 1 (.t 8) (.c (.int .i64 0)))), .op (some 47) none (.ld false 1 (.t 46)), .op (some 48) none (.p (.bin .and (.t 47) (.c (.int .u64 (nl 4294967295))))), .op (some 49) none (.p (.ixa 4 1 (.t 8) (.c (.int .i64 0)))), .op (some 50) none (.ld false 1 (.t 49)), .op (some 51) none (.p (.bin .shr (.t 50) (.c (.int .u64 (nl 32))))), .op (some 52) none (.p (.ixa 4 1 (.t 8) (.c (.int .i64 1)))), .op (some 53) none (.ld false 1 (.t 52)), .op (some 54) none (.p (.bin .and (.t 53) (.c (.int .u64 (nl 4294967295))))), .op (some 55) none (.p (.ixa 4 1 (.t 8) (.c (.int .i64 1)))), .op (some 56) none (.ld false 1 (.t 55)), .op (some 57) none (.p (.bin .shr (.t 56) (.c (.int .u64 (nl 32))))), .op (some 58) none (.p (.bld [.int .u64 (nl 0), .int .u64 (nl 0), .int .u64 (nl 0), .int .u64 (nl 0)] [(0, 1, .t 48), (1, 1, .t 51), (2, 1, .t 54), (3, 1, .t 57)])), .op (some 9) none (.new [.int .u64 (nl 0), .int .u64 (nl 0), .int .u64 (nl 0), .int .u64 (nl 0)]), .op none none (.st 4 (.t 9) (.t 58))]
def v41_14 : List VI := [.op (some 10) none (.p (.mov (.c (.int .u64 (nl 0)))))]
def v41_15 : List VI := [.op (some 11) none (.p (.mov (.c (.int .i64 0))))]
def v41_16 : List VI := [.op (some 59) none (.p (.mov (.t 11))), .op (some 60) none (.p (.bin .lss (.t 59) (.c (.int .i64 4))))]
def v41_17 : List VI := [.op (some 63) none (.p (.mov (.t 11))), .op (some 64) none (.p (.ixa 4 1 (.t 9) (.t 63))), .op (some 65) none (.ld false 1 (.t 64)), .op (some 66) none (.p (.mov (.t 5))), .op (some 67) none (.p (.bin .mul (.t 65) (.t 66))), .op (some 68) none (.p (.mov (.t 10))), .op (some 69) none (.p (.bin .add (.t 67) (.t 68))), .op (some 12) none (.p (.mov (.t 69)))]
def v41_18 : List VI := [.op (some 70) none (.p (.mov (.t 11))), .op (some 71) none (.p (.mov (.t 12))), .op (some 72) none (.p (.bin .and (.t 71) (.c (.int .u64 (nl 4294967295))))), .op (some 73) none (.p (.ixa 4 1 (.t 9) (.t 70))), .op none none (.st 1 (.t 73) (.t 72))]
def v41_19 : List VI := [.op (some 74) none (.p (.mov (.t 12))), .op (some 75) none (.p (.bin .shr (.t 74) (.c (.int .u64 (nl 32))))), .op (some 10) none (.p (.mov (.t 75)))]
def v41_20 : VC := .seq (.reg v41_17) (.seq (.reg v41_18) (.reg v41_19))
def v41_21 : List VI := [.op (some 61) none (.p (.mov (.t 11))), .op (some 62) none (.p (.bin .add (.t 61) (.c (.int .i64 1)))), .op (some 11) none (.p (.mov (.t 62)))]
def v41_22 : VC := .seq (.seq (.reg v41_16) (.cond (.t 60) .skip (.exit 2))) (.seq (.block 3 v41_20) (.reg v41_21))
def v41_23 : VC := .loop v41_22
def v41_24 : List VI := [.op (some 76) none (.p (.ixa 4 1 (.t 9) (.c (.int .i64 0)))), .op (some 77) none (.ld false 1 (.t 76)), .op (some 78) none (.p (.ixa 4 1 (.t 9) (.c (.int .i64 1)))), .op (some 79) none (.ld false 1 (.t 78)), .op (some 80) none (.p (.bin .shl (.t 79) (.c (.int .u64 (nl 32))))), .op (some 81) none (.p (.bin .or (.t 77) (.t 80))), .op (some 82) none (.p (.ixa 4 1 (.t 9) (.c (.int .i64 2)))), .op (some 83) none (.ld false 1 (.t 82)), .op (some 84) none (.p (.ixa 4 1 (.t 9) (.c (.int .i64 3)))), .op (some 85) none (.ld false 1 (.t 84)), .op (some 86) none (.p (.bin .shl (.t 85) (.c (.int .u64 (nl 32))))), .op (some 87) none (.p (.bin .or (.t 83) (.t 86))), .op (some 88) none (.p (.mov (.t 10))), .op (some 89) none (.p (.bld [.int .u64 (nl 0), .int .u64 (nl 0), .int .u64 (nl 0), .int .u64 (nl 0)] [(0, 1, .t 81), (1, 1, .t 87), (2, 1, .t 88), (3, 1, .c (.int .u64 (nl 0)))])), .op (some 13) none (.new [.int .u64 (nl 0), .int .u64 (nl 0), .int .u64 (nl 0), .int .u64 (nl 0)]), .op none none (.st 4 (.t 13) (.t 89))]
def v41_25 : List VI := [.op (some 91) none (.ld true 4 (.t 6)), .op (some 92) none (.ld true 4 (.t 13)), .call (some 93) none (.fn 59) [.t 91, .t 92], .op (some 90) none (.p (.mov (.t 93))), .op (some 94) none (.p (.ext (.t 90) 0)), .op (some 95) none (.p (.ext (.t 90) 1)), .op (some 14) none (.new [.int .u64 (nl 0), .int .u64 (nl 0), .int .u64 (nl 0), .int .u64 (nl 0)]), .op none none (.st 4 (.t 14) (.t 94)), .op (some 15) none (.p (.mov (.t 95)))]
def v41_26 : List VI := [.op (some 96) none (.p (.mov (.t 15))), .op (some 97) none (.p (.eq false .i (.t 96) (.c (.int .u64 (nl 1)))))]
def v41_27 : List VI := [.op (some 99) none (.ld true 4 (.t 14)), .op (some 100) none (.ld true 4 (.t 8)), .call (some 101) none (.fn 60) [.t 99, .t 100], .op (some 98) none (.p (.mov (.t 101))), .op (some 102) none (.p (.ext (.t 98) 0)), .op (some 103) none (.p (.ext (.t 98) 1)), .op none none (.st 4 (.t 14) (.t 102))]
def v41_28 : List VI := [.op (some 104) none (.ld true 4 (.t 14)), .op (some 105) none (.ld true 4 (.t 8)), .call (some 106) none (.fn 61) [.t 104, .t 105], .op (some 107) none (.p (.un .not (.t 106)))]
def v41_29 : List VI := [.op (some 109) none (.ld true 4 (.t 14)), .op (some 110) none (.ld true 4 (.t 8)), .call (some 111) none (.fn 59) [.t 109, .t 110], .op (some 108) none (.p (.mov (.t 111))), .op (some 112) none (.p (.ext (.t 108) 0)), .op (some 113) none (.p (.ext (.t 108) 1)), .op none none (.st 4 (.t 14) (.t 112))]
def v41_30 : List VI := [.op (some 114) none (.ld true 4 (.t 14)), .op none none (.st 4 (.t 4) (.t 114))]
def v41 : VC := .seq (.reg v41_0) (.seq (.reg v41_1) (.seq (.reg v41_2) (.seq (.reg v41_3) (.seq (.seq (.reg v41_4) (.block 0 v41_10)) (.seq (.reg v41_11) (.seq (.reg v41_12) (.seq (.reg v41_13) (.seq (.reg v41_14) (.seq (.seq (.reg v41_15) (.block 2 v41_23)) (.seq (.reg v41_24) (.seq (.reg v41_25) (.seq (.seq (.reg v41_26) (.cond (.t 97) (.reg v41_27) .skip)) (.seq (.seq (.reg v41_28) (.cond (.t 107) (.reg v41_29) .skip)) (.seq (.reg v41_30) .ret))))))))))))))
def rr41 : List RV := [.m 4 true 4]
theorem code41 : (Tryz.f41.body).bind (cCode Tryz.prog) = some v41 := by kernel_rfl
theorem res41 : cRVs Tryz.prog (Tryz.f41.results.toList) = some rr41 := by kernel_rfl
theorem nt41 : Tryz.f41.ntmps = 115 := by kernel_rfl
theorem nm41 : (Tryz.f41.name == "runtime.NumGoroutine") = false := by kernel_rfl
def v42_0 : List VI := [.op (some 1) none (.box (.t 0)), .op (some 2) none (.new [.int .u64 (nl 0), .int .u64 (nl 0), .int .u64 (nl 0), .int .u64 (nl 0)])]
def v42_1 : List VI := [.op (some 14) none (.p (.ixa 4 1 (.t 1) (.c (.int .i64 3)))), .op (some 15) none (.ld false 1 (.t 14)), .op (some 16) none (.p (.bin .lss (.t 15) (.c (.int .u64 (nl 1152921504606846976)))))]
def v42_2 : List VI := [.op (some 17) none (.ld true 4 (.t 1)), .op none none (.st 4 (.t 2) (.t 17))]
def v42_3 : List VI := [.op (some 18) none (.p (.ixa 4 1 (.t 1) (.c (.int .i64 3)))), .op (some 19) none (.ld false 1 (.t 18)), .op (some 20) none (.p (.bin .shr (.t 19) (.c (.int .u64 (nl 60))))), .op (some 3) none (.p (.mov (.t 20)))]
def v42_4 : List VI := [.op (some 21) none (.p (.ixa 4 1 (.t 1) (.c (.int .i64 3)))), .op (some 22) none (.ld false 1 (.t 21)), .op (some 23) none (.p (.bin .and (.t 22) (.c (.int .u64 (nl 1152921504606846975))))), .op (some 24) none (.p (.ixa 4 1 (.t 1) (.c (.int .i64 3)))), .op none none (.st 1 (.t 24) (.t 23))]
def v42_5 : List VI := [.op (some 4) none (.new [.int .u64 (nl 0), .int .u64 (nl 0), .int .u64 (nl 0), .int .u64 (nl 0)])]
def v42_6 : List VI := [.op (some 26) none (.p (.mov (.t 3))), .op (some 27) none (.p (.ixa 4 4 (.g 0) (.c (.int .i64 0)))), .op (some 28) none (.p (.ixa 4 1 (.t 27) (.c (.int .i64 0)))), .op (some 29) none (.ld false 1 (.t 28)), .call (some 30) none (.fn 62) [.t 26, .t 29], .op (some 25) none (.p (.mov (.t 30))), .op (some 31) none (.p (.ext (.t 25) 0)), .op (some 32) none (.p (.ext (.t 25) 1)), .op (some 5) none (.p (.mov (.t 31))), .op (some 6) none (.p (.mov (.t 32)))]
def v42_7 : List VI := [.op (some 33) none (.p (.mov (.t 6))), .op (some 34) none (.p (.ixa 4 1 (.t 4) (.c (.int .i64 0)))), .op none none (.st 1 (.t 34) (.t 33))]
def v42_8 : List VI := [.op (some 36) none (.p (.mov (.t 3))), .op (some 37) none (.p (.ixa 4 4 (.g 0) (.c (.int .i64 0)))), .op (some 38) none (.p (.ixa 4 1 (.t 37) (.c (.int .i64 1)))), .op (some 39) none (.ld false 1 (.t 38)), .call (some 40) none (.fn 62) [.t 36, .t 39], .op (some 35) none (.p (.mov (.t 40))), .op (some 41) none (.p (.ext (.t 35) 0)), .op (some 42) none (.p (.ext (.t 35) 1)), .op (some 7) none (.p (.mov (.t 41))), .op (some 8) none (.p (.mov (.t 42)))]
def v42_9 : List VI := [.op (some 9) none (.p (.mov (.c (.int .u64 (nl 0)))))]
def v42_10 : List VI := [.op (some 44) none (.p (.mov (.t 8))), .op (some 45) none (.p (.mov (.t 5))), .call (some 46) none (.fn 63) [.t 44, .t 45, .c (.int .u64 (nl 0))], .op (some 43) none (.p (.mov (.t 46))), .op (some 47) none (.p (.ext (.t 43) 0)), .op (some 48) none (.p (.ext (.t 43) 1)), .op (some 49) none (.p (.ixa 4 1 (.t 4) (.c (.int .i64 1)))), .op none none (.st 1 (.t 49) (.t 47)), .op (some 9) none (.p (.mov (.t 48)))]
def v42_11 : List VI := [.op (some 50) none (.p (.mov (.t 7))), .op (some 51) none (.p (.mov (.t 9))), .op (some 52) none (.p (.bin .add (.t 50) (.t 51))), .op (some 53) none (.p (.ixa 4 1 (.t 4) (.c (.int .i64 2)))), .op none none (.st 1 (.t 53) (.t 52))]
def v42_12 : List VI := [.op (some 55) none (.ld true 4 (.t 1)), .op (some 56) none (.ld true 4 (.t 4)), .call (some 57) none (.fn 64) [.t 55, .t 56], .op (some 54) none (.p (.mov (.t 57))), .op (some 58) none (.p (.ext (.t 54) 0)), .op (some 59) none (.p (.ext (.t 54) 1)), .op (some 10) none (.new [.int .u64 (nl 0), .int .u64 (nl 0), .int .u64 (nl 0), .int .u64 (nl 0)]), .op none none (.st 4 (.t 10) (.t 58)), .op (some 11) none (.p (.mov (.t 59)))]
def v42_13 : List VI := [.op (some 61) none (.ld true 4 (.t 10)), .op (some 62) none (.p (.ixa 4 4 (.g 0) (.c (.int .i64 0)))), .op (some 63) none (.ld true 4 (.t 62)), .call (some 64) none (.fn 65) [.t 61, .t 63], .op (some 60) none (.p (.mov (.t 64))), .op (some 65) none (.p (.ext (.t 60) 0)), .op (some 66) none (.p (.ext (.t 60) 1)), .op (some 12) none (.new [.int .u64 (nl 0), .int .u64 (nl 0), .int .u64 (nl 0), .int .u64 (nl 0)]), .op none none (.st 4 (.t 12) (.t 65)), .op (some 13) none (.p (.mov (.t 66)))]
def v42_14 : List VI := [.op (some 67) none (.p (.mov (.t 11))), .op (some 68) none (.p (.un .neg (.t 67))), .op (some 69) none (.ld true 4 (.t 12)), .op (some 70) none (.ld true 4 (.t 10)), .call (some 71) none (.fn 67) [.t 68, .t 69, .t 70], .call (some 72) none (.fn 66) [.t 71], .op none none (.st 4 (.t 2) (.t 72))]
def v42 : VC := .seq (.reg v42_0) (.seq (.seq (.reg v42_1) (.cond (.t 16) (.seq (.reg v42_2) .ret) .skip)) (.seq (.reg v42_3) (.seq (.reg v42_4) (.seq (.reg v42_5) (.seq (.reg v42_6) (.seq (.reg v42_7) (.seq (.reg v42_8) (.seq (.reg v42_9) (.seq (.reg v42_10) (.seq (.reg v42_11) (.seq (.reg v42_12) (.seq (.reg v42_13) (.seq (.reg v42_14) .ret)))))))))))))
def rr42 : List RV := [.m 2 true 4]
theorem code42 : (Tryz.f42.body).bind (cCode Tryz.prog) = some v42 := by kernel_rfl
theorem res42 : cRVs Tryz.prog (Tryz.f42.results.toList) = some rr42 := by kernel_rfl
theorem nt42 : Tryz.f42.ntmps = 73 := by kernel_rfl
theorem nm42 : (Tryz.f42.name == "runtime.NumGoroutine") = false := by kernel_rfl
def v43_0 : List VI := [.op (some 1) none (.box (.t 0)), .op (some 2) none (.new [.int .u64 (nl 0), .int .u64 (nl 0), .int .u64 (nl 0), .int .u64 (nl 0)])]
def v43_1 : List VI := [.op (some 3) none (.ld true 4 (.t 1)), .op (some 4) none (.p (.ixa 4 4 (.g 0) (.c (.int .i64 3)))), .op (some 5) none (.ld true 4 (.t 4)), .call (some 6) none (.fn 68) [.t 3, .t 5, .c (.int .i64 253)], .op none none (.st 4 (.t 2) (.t 6))]
def v43 : VC := .seq (.reg v43_0) (.seq (.reg v43_1) .ret)
def rr43 : List RV := [.m 2 true 4]
theorem code43 : (Tryz.f43.body).bind (cCode Tryz.prog) = some v43 := by kernel_rfl
theorem res43 : cRVs Tryz.prog (Tryz.f43.results.toList) = some rr43 := by kernel_rfl
theorem nt43 : Tryz.f43.ntmps = 7 := by kernel_rfl
theorem nm43 : (Tryz.f43.name == "runtime.NumGoroutine") = false := by kernel_rfl
def v44_0 : List VI := [.op (some 2) none (.box (.t 0)), .op (some 3) none (.box (.t 1)), .op (some 4) none (.new [.int .u64 (nl 0), .int .u64 (nl 0), .int .u64 (nl 0), .int .u64 (nl 0)])]
def v44_1 : List DS := [.mk 0 true (.op (some 5) none (.ld true 4 (.t 2))) [] [], .mk 2 true (.op (some 7) none (.ld true 4 (.t 3))) [] [], .mk 5 true (.op (some 10) none (.p (.ixa 4 4 (.g 0) (.c (.int .i64 2))))) [] [], .mk 6 true (.op (some 11) none (.ld true 4 (.t 10))) [] [], .mk 1 false (.call (some 6) none (.fn 42) [.t 5]) [3, 10] [], .mk 3 false (.call (some 8) none (.fn 42) [.t 7]) [10] [], .mk 4 false (.call (some 9) none (.fn 69) [.t 6, .t 8]) [10] [], .mk 7 false (.call (some 12) none (.fn 69) [.t 9, .t 11]) [] [], .mk 8 false (.op none none (.st 4 (.t 4) (.t 12))) [] []]
def v44 : VC := .seq (.reg v44_0) (.seq (.drw v44_1) .ret)
def rr44 : List RV := [.m 4 true 4]
theorem code44 : (Tryz.f44.body).bind (cCode Tryz.prog) = some v44 := by kernel_rfl
theorem res44 : cRVs Tryz.prog (Tryz.f44.results.toList) = some rr44 := by kernel_rfl
theorem nt44 : Tryz.f44.ntmps = 13 := by kernel_rfl
theorem nm44 : (Tryz.f44.name == "runtime.NumGoroutine") = false := by kernel_rfl
def v45_0 : List VI := [.op (some 3) none (.box (.t 0)), .op (some 5) none (.box (.t 2)), .op (some 6) none (.p (.mov (.c .nils)))]
def v45_1 : List VI := [.op (some 13) none (.p (.mov (.t 1))), .call (some 14) none (.fn 70) [.t 13], .op (some 12) none (.p (.mov (.t 14))), .op (some 15) none (.p (.ext (.t 12) 0)), .op (some 16) none (.p (.ext (.t 12) 1)), .op (some 7) none (.p (.mov (.t 15))), .op (some 8) none (.p (.mov (.t 16)))]
def v45_2 : List VI := [.op (some 17) none (.p (.mov (.t 7))), .op (some 18) none (.p (.len false (.t 17))), .op (some 19) none (.mks 4 32 [.int .u64 (nl 0), .int .u64 (nl 0), .int .u64 (nl 0), .int .u64 (nl 0)] (.t 18) (.t 18)), .op (some 9) none (.p (.mov (.t 19)))]
def v45_3 : List VI := [.op (some 20) none (.p (.mov (.t 7))), .op (some 21) none (.p (.len false (.t 20))), .op (some 22) none (.p (.mov (.c (.int .i64 0))))]
def v45_4 : List VI := [.op (some 23) none (.p (.bin .lss (.t 22) (.t 21)))]
def v45_5 : List VI := [.op (some 24) none (.p (.mov (.t 22))), .op (some 25) none (.p (.ixs 4 (.t 20) (.t 22))), .op (some 26) none (.ld true 4 (.t 25)), .op (some 11) none (.new [.int .u64 (nl 0), .int .u64 (nl 0), .int .u64 (nl 0), .int .u64 (nl 0)]), .op (some 10) none (.p (.mov (.t 24))), .op none none (.st 4 (.t 11) (.t 26))]
def v45_6 : List DS := [.mk 0 true (.op (some 27) none (.p (.mov (.t 9)))) [] [], .mk 1 true (.op (some 28) none (.p (.mov (.t 10)))) [] [], .mk 2 true (.op (some 29) none (.ld true 4 (.t 11))) [] [], .mk 3 true (.op (some 30) none (.p (.mkI 29 (.t 29)))) [] [], .mk 4 true (.op (some 31) none (.ld true 4 (.t 3))) [] [], .mk 7 true (.op (some 34) none (.p (.mov (.t 8)))) [] [], .mk 8 true (.op (some 35) none (.p (.mov (.t 10)))) [] [], .mk 9 true (.op (some 36) none (.p (.ixs 4 (.t 34) (.t 35)))) [] [], .mk 10 true (.op (some 37) none (.ld true 4 (.t 36))) [] [], .mk 11 true (.op (some 38) none (.p (.mkI 29 (.t 37)))) [] [], .mk 12 true (.op (some 39) none (.ld true 4 (.t 5))) [] [], .mk 5 false (.call (some 32) none (.inv (.t 30) "Times") [.t 31]) [36, 5] [], .mk 6 true (.op (some 33) none (.p (.mkI 29 (.t 32)))) [] [], .mk 13 false (.call (some 40) none (.inv (.t 38) "Times") [.t 39]) [] [], .mk 14 false (.call (some 41) none (.inv (.t 33) "Add") [.t 40]) [] [], .mk 15 true (.op (some 42) none (.p (.ixs 4 (.t 27) (.t 28)))) [] [], .mk 16 false (.op none none (.st 4 (.t 42) (.t 41))) [] []]
def v45_7 : VC := .seq (.reg v45_5) (.drw v45_6)
def v45_8 : List VI := [.op (some 43) none (.p (.bin .add (.t 22) (.c (.int .i64 1)))), .op (some 22) none (.p (.mov (.t 43)))]
def v45_9 : VC := .seq (.reg v45_4) (.seq (.cond (.t 23) .skip (.exit 0)) (.seq (.block 1 v45_7) (.reg v45_8)))
def v45_10 : VC := .loop v45_9
def v45_11 : List VI := [.op (some 44) none (.p (.mov (.t 9))), .op (some 6) none (.p (.mov (.t 44)))]
def v45 : VC := .seq (.reg v45_0) (.seq (.reg v45_1) (.seq (.reg v45_2) (.seq (.seq (.reg v45_3) (.block 0 v45_10)) (.seq (.reg v45_11) .ret))))
def rr45 : List RV := [.t 6]
theorem code45 : (Tryz.f45.body).bind (cCode Tryz.prog) = some v45 := by kernel_rfl
theorem res45 : cRVs Tryz.prog (Tryz.f45.results.toList) = some rr45 := by kernel_rfl
theorem nt45 : Tryz.f45.ntmps = 45 := by kernel_rfl
theorem nm45 : (Tryz.f45.name == "runtime.NumGoroutine") = false := by kernel_rfl
def v46_0 : List VI := [.op (some 2) none (.new [.int .u64 (nl 0), .int .u64 (nl 0), .int .u64 (nl 0), .int .u64 (nl 0)])]
def v46_1 : List VI := [.op (some 3) none (.new [.int .u64 (nl 0), .int .u64 (nl 0), .int .u64 (nl 0), .int .u64 (nl 0)])]
def v46_2 : List VI := [.op (some 6) none (.p (.mov (.t 0))), .op (some 7) none (.p (.len false (.t 6))), .op (some 8) none (.p (.mov (.c (.int .i64 0))))]
def v46_3 : List VI := [.op (some 9) none (.p (.bin .lss (.t 8) (.t 7)))]
def v46_4 : List VI := [.op (some 10) none (.p (.ixs 8 (.t 6) (.t 8))), .op (some 11) none (.ld true 8 (.t 10)), .op (some 5) none (.new [.int .u64 (nl 0), .int .u64 (nl 0), .int .u64 (nl 0), .int .u64 (nl 0), .int .u64 (nl 0), .int .u64 (nl 0), .int .u64 (nl 0), .int .u64 (nl 0)]), .op none none (.st 8 (.t 5) (.t 11))]
def v46_5 : List DS := [.mk 0 true (.op (some 12) none (.ld true 4 (.t 3))) [] [], .mk 1 true (.op (some 13) none (.p (.mkI 29 (.t 12)))) [] [], .mk 2 true (.op (some 14) none (.p (.fda 4 (.t 5)))) [] [], .mk 3 true (.op (some 15) none (.ld true 4 (.t 14))) [] [], .mk 4 true (.op (some 16) none (.p (.mkI 29 (.t 15)))) [] [], .mk 5 true (.op (some 17) none (.p (.fda 0 (.t 5)))) [] [], .mk 6 true (.op (some 18) none (.ld true 4 (.t 17))) [] [], .mk 7 false (.call (some 19) none (.inv (.t 16) "Times") [.t 18]) [3] [], .mk 8 false (.call (some 20) none (.inv (.t 13) "Add") [.t 19]) [] [], .mk 9 false (.op none none (.st 4 (.t 3) (.t 20))) [] []]
def v46_6 : VC := .seq (.reg v46_4) (.drw v46_5)
def v46_7 : List VI := [.op (some 21) none (.p (.bin .add (.t 8) (.c (.int .i64 1)))), .op (some 8) none (.p (.mov (.t 21)))]
def v46_8 : VC := .seq (.reg v46_3) (.seq (.cond (.t 9) .skip (.exit 0)) (.seq (.block 1 v46_6) (.reg v46_7)))
def v46_9 : VC := .loop v46_8
def v46_10 : List VI := [.op (some 22) none (.ld true 4 (.t 3)), .op none none (.st 4 (.t 2) (.t 22))]
def v46 : VC := .seq (.reg v46_0) (.seq (.reg v46_1) (.seq (.seq (.reg v46_2) (.block 0 v46_9)) (.seq (.reg v46_10) .ret)))
def rr46 : List RV := [.m 2 true 4]
theorem code46 : (Tryz.f46.body).bind (cCode Tryz.prog) = some v46 := by kernel_rfl
theorem res46 : cRVs Tryz.prog (Tryz.f46.results.toList) = some rr46 := by kernel_rfl
theorem nt46 : Tryz.f46.ntmps = 23 := by kernel_rfl
theorem nm46 : (Tryz.f46.name == "runtime.NumGoroutine") = false := by kernel_rfl
def v48_0 : List VI := [.op (some 4) none (.box (.t 0)), .op (some 5) none (.box (.t 1)), .op (some 6) none (.box (.t 2)), .op (some 7) none (.box (.t 3)), .op (some 8) none (.new [.int .i64 0, .int .i64 0, .int .i64 0, .int .i64 0, .int .i64 0, .int .i64 0, .int .i64 0, .int .i64 0, .int .i64 0, .int .i64 0, .int .i64 0, .int .i64 0, .int .i64 0, .int .i64 0, .int .i64 0, .int .i64 0, .int .i64 0, .int .i64 0, .int .i64 0, .int .i64 0, .int .i64 0, .int .u64 (nl 0), .int .u64 (nl 0), .int .u64 (nl 0), .int .u64 (nl 0), .nils, .int .i64 0, .int .i64 0, .int .i64 0, .int .i64 0, .int .i64 0, .int .i64 0, .int .i64 0, .int .i64 0, .int .i64 0, .int .i64 0, .int .i64 0, .int .i64 0, .int .i64 0, .int .i64 0, .int .i64 0, .int .i64 0, .int .i64 0, .int .i64 0, .int .i64 0, .int .i64 0, .int .i64 0, .int .u64 (nl 0), .int .u64 (nl 0), .int .u64 (nl 0), .int .u64 (nl 0), .nils, .nils, .nils])]
def v48_1 : List VI := [.op (some 11) none (.ld true 4 (.t 7)), .call (some 12) none (.fn 76) [.t 11], .op (some 9) none (.new [.int .u64 (nl 0), .int .u64 (nl 0), .int .u64 (nl 0), .int .u64 (nl 0)]), .op none none (.st 4 (.t 9) (.t 12))]
def v48_2 : List VI := [.op (some 13) none (.p (.fda 52 (.t 4))), .op (some 14) none (.ld false 1 (.t 13)), .op (some 15) none (.p (.len false (.t 14))), .op (some 16) none (.p (.bin .quo (.t 15) (.c (.int .i64 2)))), .op (some 10) none (.p (.mov (.t 16)))]
def v48_3 : List DS := [.mk 0 true (.op (some 17) none (.ld true 26 (.t 5))) [] [], .mk 1 true (.op (some 18) none (.ld true 4 (.t 7))) [] [], .mk 2 true (.op (some 19) none (.ld true 4 (.t 7))) [] [], .mk 5 true (.op (some 22) none (.p (.fda 0 (.t 4)))) [] [], .mk 6 true (.op (some 23) none (.ld true 26 (.t 22))) [] [], .mk 8 true (.op (some 25) none (.ld true 26 (.t 6))) [] [], .mk 9 true (.op (some 26) none (.ld true 4 (.t 9))) [] [], .mk 10 true (.op (some 27) none (.ld true 4 (.t 9))) [] [], .mk 14 true (.op (some 31) none (.p (.fda 26 (.t 4)))) [] [], .mk 15 true (.op (some 32) none (.ld true 26 (.t 31))) [] [], .mk 16 true (.op (some 33) none (.ld true 4 (.t 9))) [] [], .mk 17 true (.op (some 34) none (.p (.fda 52 (.t 4)))) [] [], .mk 18 true (.op (some 35) none (.ld false 1 (.t 34))) [] [], .mk 19 true (.op (some 36) none (.p (.mov (.t 10)))) [] [], .mk 20 true (.op (some 37) none (.slx 26 (.t 35) none (some (.t 36)) none)) [] [], .mk 21 true (.op (some 38) none (.ld true 4 (.t 7))) [] [], .mk 22 true (.op (some 39) none (.p (.fda 52 (.t 4)))) [] [], .mk 23 true (.op (some 40) none (.ld false 1 (.t 39))) [] [], .mk 24 true (.op (some 41) none (.p (.mov (.t 10)))) [] [], .mk 25 true (.op (some 42) none (.slx 26 (.t 40) (some (.t 41)) none none)) [] [], .mk 27 true (.op (some 44) none (.ld true 4 (.t 7))) [] [], .mk 28 true (.op (some 45) none (.p (.fda 53 (.t 4)))) [] [], .mk 29 true (.op (some 46) none (.ld false 1 (.t 45))) [] [], .mk 30 true (.op (some 47) none (.p (.mov (.t 10)))) [] [], .mk 31 true (.op (some 48) none (.slx 26 (.t 46) none (some (.t 47)) none)) [] [], .mk 32 true (.op (some 49) none (.ld true 4 (.t 9))) [] [], .mk 33 true (.op (some 50) none (.p (.fda 53 (.t 4)))) [] [], .mk 34 true (.op (some 51) none (.ld false 1 (.t 50))) [] [], .mk 35 true (.op (some 52) none (.p (.mov (.t 10)))) [] [], .mk 36 true (.op (some 53) none (.slx 26 (.t 51) (some (.t 52)) none none)) [] [], .mk 3 false (.call (some 20) none (.fn 37) [.t 18, .t 19]) [5, 22, 6, 9, 9, 31, 9, 34, 35, 7, 39, 40, 7, 45, 46, 9, 50, 51] [], .mk 4 false (.call (some 21) none (.fn 35) [.t 17, .t 20]) [22, 6, 9, 9, 31, 9, 34, 35, 7, 39, 40, 7, 45, 46, 9, 50, 51] [], .mk 7 false (.call (some 24) none (.fn 36) [.t 21, .t 23]) [6, 9, 9, 31, 9, 34, 35, 7, 39, 40, 7, 45, 46, 9, 50, 51] [], .mk 11 false (.call (some 28) none (.fn 37) [.t 26, .t 27]) [6, 31, 9, 34, 35, 7, 39, 40, 7, 45, 46, 9, 50, 51] [], .mk 12 false (.call (some 29) none (.fn 35) [.t 25, .t 28]) [31, 9, 34, 35, 7, 39, 40, 7, 45, 46, 9, 50, 51] [], .mk 13 false (.call (some 30) none (.fn 36) [.t 24, .t 29]) [31, 9, 34, 35, 7, 39, 40, 7, 45, 46, 9, 50, 51] [], .mk 26 false (.call (some 43) none (.fn 77) [.t 33, .t 37, .t 38, .t 42]) [31, 7, 45, 46, 9, 50, 51] [], .mk 37 false (.call (some 54) none (.fn 77) [.t 44, .t 48, .t 49, .t 53]) [31] [], .mk 38 true (.op (some 55) none (.p (.bld [.int .i64 0, .int .i64 0, .int .i64 0, .int .i64 0, .int .i64 0, .int .i64 0, .int .i64 0, .int .i64 0, .int .i64 0, .int .i64 0, .int .i64 0, .int .i64 0, .int .i64 0, .int .i64 0, .int .i64 0, .int .i64 0, .int .i64 0, .int .i64 0, .int .i64 0, .int .i64 0, .int .i64 0, .int .u64 (nl 0), .int .u64 (nl 0), .int .u64 (nl 0), .int .u64 (nl 0), .nils, .int .i64 0, .int .i64 0, .int .i64 0, .int .i64 0, .int .i64 0, .int .i64 0, .int .i64 0, .int .i64 0, .int .i64 0, .int .i64 0, .int .i64 0, .int .i64 0, .int .i64 0, .int .i64 0, .int .i64 0, .int .i64 0, .int .i64 0, .int .i64 0, .int .i64 0, .int .i64 0, .int .i64 0, .int .u64 (nl 0), .int .u64 (nl 0), .int .u64 (nl 0), .int .u64 (nl 0), .nils, .nils, .nils] [(0, 26, .t 30), (26, 26, .t 32), (52, 1, .t 43), (53, 1, .t 54)]))) [] [], .mk 39 false (.op none none (.st 54 (.t 8) (.t 55))) [] []]
def v48 : VC := .seq (.reg v48_0) (.seq (.reg v48_1) (.seq (.reg v48_2) (.seq (.drw v48_3) .ret)))
def rr48 : List RV := [.m 8 true 54]
theorem code48 : (Tryz.f48.body).bind (cCode Tryz.prog) = some v48 := by kernel_rfl
theorem res48 : cRVs Tryz.prog (Tryz.f48.results.toList) = some rr48 := by kernel_rfl
theorem nt48 : Tryz.f48.ntmps = 56 := by kernel_rfl
theorem nm48 : (Tryz.f48.name == "runtime.NumGoroutine") = false := by kernel_rfl
def v53_0 : List VI := [.op (some 2) none (.box (.t 0)), .op (some 3) none (.box (.t 1)), .op (some 4) none (.new [.int .u64 (nl 0), .int .u64 (nl 0), .int .u64 (nl 0), .int .u64 (nl 0)])]
def v53_1 : List VI := [.op (some 8) none (.ld true 4 (.t 2)), .op (some 9) none (.ld true 4 (.t 3)), .call (some 10) none (.fn 60) [.t 8, .t 9], .op (some 7) none (.p (.mov (.t 10))), .op (some 11) none (.p (.ext (.t 7) 0)), .op (some 12) none (.p (.ext (.t 7) 1)), .op (some 5) none (.new [.int .u64 (nl 0), .int .u64 (nl 0), .int .u64 (nl 0), .int .u64 (nl 0)]), .op none none (.st 4 (.t 5) (.t 11)), .op (some 6) none (.p (.mov (.t 12)))]
def v53_2 : List DS := [.mk 0 true (.op (some 13) none (.ld true 4 (.t 5))) [] [], .mk 1 false (.call (some 14) none (.fn 58) []) [5] [], .mk 2 false (.call (some 15) none (.fn 61) [.t 13, .t 14]) [] [], .mk 3 true (.op (some 16) none (.p (.un .not (.t 15)))) [] []]
def v53_3 : List DS := [.mk 0 true (.op (some 18) none (.ld true 4 (.t 5))) [] [], .mk 1 false (.call (some 19) none (.fn 58) []) [5] [], .mk 2 false (.call (some 20) none (.fn 59) [.t 18, .t 19]) [] [], .mk 3 true (.op (some 17) none (.p (.mov (.t 20)))) [] [], .mk 4 true (.op (some 21) none (.p (.ext (.t 17) 0))) [] [], .mk 5 true (.op (some 22) none (.p (.ext (.t 17) 1))) [] [], .mk 6 false (.op none none (.st 4 (.t 5) (.t 21))) [] []]
def v53_4 : List VI := [.op (some 23) none (.ld true 4 (.t 5)), .op none none (.st 4 (.t 4) (.t 23))]
def v53 : VC := .seq (.reg v53_0) (.seq (.reg v53_1) (.seq (.seq (.drw v53_2) (.cond (.t 16) (.drw v53_3) .skip)) (.seq (.reg v53_4) .ret)))
def rr53 : List RV := [.m 4 true 4]
theorem code53 : (Tryz.f53.body).bind (cCode Tryz.prog) = some v53 := by kernel_rfl
theorem res53 : cRVs Tryz.prog (Tryz.f53.results.toList) = some rr53 := by kernel_rfl
theorem nt53 : Tryz.f53.ntmps = 24 := by kernel_rfl
theorem nm53 : (Tryz.f53.name == "runtime.NumGoroutine") = false := by kernel_rfl
def v55_0 : List VI := [.op (some 1) none (.box (.t 0)), .op (some 2) none (.new [.int .u64 (nl 0), .int .u64 (nl 0), .int .u64 (nl 0), .int .u64 (nl 0), .int .u64 (nl 0), .int .u64 (nl 0), .int .u64 (nl 0), .int .u64 (nl 0)])]
def v55_1 : List VI := [.op (some 3) none (.new [.int .u64 (nl 0), .int .u64 (nl 0), .int .u64 (nl 0), .int .u64 (nl 0), .int .u64 (nl 0), .int .u64 (nl 0), .int .u64 (nl 0), .int .u64 (nl 0)])]
def v55_2 : List VI := [.op (some 4) none (.p (.mov (.c (.int .i64 0))))]
def v55_3 : List VI := [.op (some 5) none (.p (.mov (.t 4))), .op (some 6) none (.p (.bin .lss (.t 5) (.c (.int .i64 4))))]
def v55_4 : List VI := [.op (some 9) none (.p (.mov (.t 4))), .op (some 10) none (.p (.bin .mul (.c (.int .i64 2)) (.t 9))), .op (some 11) none (.p (.mov (.t 4))), .op (some 12) none (.p (.ixa 4 1 (.t 1) (.t 11))), .op (some 13) none (.ld false 1 (.t 12)), .op (some 14) none (.p (.bin .and (.t 13) (.c (.int .u64 (nl 4294967295))))), .op (some 15) none (.p (.ixa 8 1 (.t 3) (.t 10))), .op none none (.st 1 (.t 15) (.t 14))]
def v55_5 : List VI := [.op (some 16) none (.p (.mov (.t 4))), .op (some 17) none (.p (.bin .mul (.c (.int .i64 2)) (.t 16))), .op (some 18) none (.p (.bin .add (.t 17) (.c (.int .i64 1)))), .op (some 19) none (.p (.mov (.t 4))), .op (some 20) none (.p (.ixa 4 1 (.t 1) (.t 19))), .op (some 21) none (.ld false 1 (.t 20)), .op (some 22) none (.p (.bin .shr (.t 21) (.c (.int .u64 (nl 32))))), .op (some 23) none (.p (.ixa 8 1 (.t 3) (.t 18))), .op none none (.st 1 (.t 23) (.t 22))]
def v55_6 : VC := .seq (.reg v55_4) (.reg v55_5)
def v55_7 : List VI := [.op (some 7) none (.p (.mov (.t 4))), .op (some 8) none (.p (.bin .add (.t 7) (.c (.int .i64 1)))), .op (some 4) none (.p (.mov (.t 8)))]
def v55_8 : VC := .seq (.seq (.reg v55_3) (.cond (.t 6) .skip (.exit 0))) (.seq (.block 1 v55_6) (.reg v55_7))
def v55_9 : VC := .loop v55_8
def v55_10 : List VI := [.op (some 24) none (.ld true 8 (.t 3)), .op none none (.st 8 (.t 2) (.t 24))]
def v55 : VC := .seq (.reg v55_0) (.seq (.reg v55_1) (.seq (.seq (.reg v55_2) (.block 0 v55_9)) (.seq (.reg v55_10) .ret)))
def rr55 : List RV := [.m 2 true 8]
theorem code55 : (Tryz.f55.body).bind (cCode Tryz.prog) = some v55 := by kernel_rfl
theorem res55 : cRVs Tryz.prog (Tryz.f55.results.toList) = some rr55 := by kernel_rfl
theorem nt55 : Tryz.f55.ntmps = 25 := by kernel_rfl
theorem nm55 : (Tryz.f55.name == "runtime.NumGoroutine") = false := by kernel_rfl
def v56_0 : List VI := [.op (some 1) none (.box (.t 0)), .op (some 2) none (.new [.int .i64 0, .int .i64 0, .int .i64 0, .int .i64 0, .int .i64 0, .int .i64 0, .int .i64 0, .int .i64 0, .int .i64 0, .int .i64 0, .int .i64 0, .int .i64 0, .int .i64 0, .int .i64 0, .int .i64 0, .int .i64 0, .int .i64 0, .int .i64 0, .int .i64 0, .int .i64 0, .int .i64 0, .int .u64 (nl 0), .int .u64 (nl 0), .int .u64 (nl 0), .int .u64 (nl 0), .nils])]
def v56_1 : List DS := [.mk 0 true (.op (some 3) none (.ld true 26 (.t 1))) [] [], .mk 1 false (.call (some 4) none (.fn 82) [.c (.int .u64 (nl 1))]) [1] [], .mk 2 false (.call (some 5) none (.fn 83) [.t 4]) [1] [], .mk 3 false (.call (some 6) none (.fn 35) [.t 3, .t 5]) [] [], .mk 4 false (.op none none (.st 26 (.t 2) (.t 6))) [] []]
def v56 : VC := .seq (.reg v56_0) (.seq (.drw v56_1) .ret)
def rr56 : List RV := [.m 2 true 26]
theorem code56 : (Tryz.f56.body).bind (cCode Tryz.prog) = some v56 := by kernel_rfl
theorem res56 : cRVs Tryz.prog (Tryz.f56.results.toList) = some rr56 := by kernel_rfl
theorem nt56 : Tryz.f56.ntmps = 7 := by kernel_rfl
theorem nm56 : (Tryz.f56.name == "runtime.NumGoroutine") = false := by kernel_rfl
def v58_0 : List VI := [.op (some 0) none (.new [.int .u64 (nl 0), .int .u64 (nl 0), .int .u64 (nl 0), .int .u64 (nl 0)])]
def v58_1 : List VI := [.op (some 1) none (.p (.bld [.int .u64 (nl 0), .int .u64 (nl 0), .int .u64 (nl 0), .int .u64 (nl 0)] [(0, 1, .c (.int .u64 (nl 6346243789798364141))), (1, 1, .c (.int .u64 (nl 1503914060200516822))), (2, 1, .c (.int .u64 (nl 0))), (3, 1, .c (.int .u64 (nl 1152921504606846976)))])), .op none none (.st 4 (.t 0) (.t 1))]
def v58 : VC := .seq (.reg v58_0) (.seq (.reg v58_1) .ret)
def rr58 : List RV := [.m 0 true 4]
theorem code58 : (Tryz.f58.body).bind (cCode Tryz.prog) = some v58 := by kernel_rfl
theorem res58 : cRVs Tryz.prog (Tryz.f58.results.toList) = some rr58 := by kernel_rfl
theorem nt58 : Tryz.f58.ntmps = 2 := by kernel_rfl
theorem nm58 : (Tryz.f58.name == "runtime.NumGoroutine") = false := by kernel_rfl
def v59_0 : List VI := [.op (some 2) none (.box (.t 0)), .op (some 3) none (.box (.t 1)), .op (some 4) none (.new [.int .u64 (nl 0), .int .u64 (nl 0), .int .u64 (nl 0), .int .u64 (nl 0)]), .op (some 5) none (.p (.mov (.c (.int .u64 (nl 0)))))]
def v59_1 : List VI := [.op (some 6) none (.new [.int .u64 (nl 0), .int .u64 (nl 0), .int .u64 (nl 0), .int .u64 (nl 0)])]
def v59_2 : List VI := [.op (some 7) none (.p (.mov (.c (.int .u64 (nl 0)))))]
def v59_3 : List VI := [.op (some 8) none (.p (.mov (.c (.int .i64 0))))]
def v59_4 : List VI := [.op (some 12) none (.p (.mov (.t 8))), .op (some 13) none (.p (.bin .lss (.t 12) (.c (.int .i64 4))))]
def v59_5 : List DS := [.mk 0 true (.op (some 16) none (.p (.mov (.t 8)))) [] [], .mk 1 true (.op (some 17) none (.p (.ixa 4 1 (.t 2) (.t 16)))) [] [], .mk 2 true (.op (some 18) none (.ld false 1 (.t 17))) [] [], .mk 3 true (.op (some 19) none (.p (.mov (.t 8)))) [] [], .mk 4 true (.op (some 20) none (.p (.ixa 4 1 (.t 3) (.t 19)))) [] [], .mk 5 true (.op (some 21) none (.ld false 1 (.t 20))) [] [], .mk 6 true (.op (some 22) none (.p (.bin .sub (.t 18) (.t 21)))) [] [], .mk 7 false (.op (some 9) none (.p (.mov (.t 22)))) [] []]
def v59_6 : List VI := [.op (some 10) none (.p (.mov (.c (.int .u64 (nl 0)))))]
def v59_7 : List DS := [.mk 0 true (.op (some 23) none (.p (.mov (.t 8)))) [] [], .mk 1 true (.op (some 24) none (.p (.ixa 4 1 (.t 2) (.t 23)))) [] [], .mk 2 true (.op (some 25) none (.ld false 1 (.t 24))) [] [], .mk 3 true (.op (some 26) none (.p (.mov (.t 8)))) [] [], .mk 4 true (.op (some 27) none (.p (.ixa 4 1 (.t 3) (.t 26)))) [] [], .mk 5 true (.op (some 28) none (.ld false 1 (.t 27))) [] [], .mk 6 true (.op (some 29) none (.p (.bin .lss (.t 25) (.t 28)))) [] []]
def v59_8 : List VI := [.op (some 10) none (.p (.mov (.c (.int .u64 (nl 1)))))]
def v59_9 : List VI := [.op (some 30) none (.p (.mov (.t 9))), .op (some 31) none (.p (.mov (.t 7))), .op (some 32) none (.p (.bin .sub (.t 30) (.t 31))), .op (some 11) none (.p (.mov (.t 32)))]
def v59_10 : List VI := [.op (some 33) none (.p (.mov (.t 9))), .op (some 34) none (.p (.mov (.t 7))), .op (some 35) none (.p (.bin .lss (.t 33) (.t 34)))]
def v59_11 : List VI := [.op (some 10) none (.p (.mov (.c (.int .u64 (nl 1)))))]
def v59_12 : List VI := [.op (some 36) none (.p (.mov (.t 8))), .op (some 37) none (.p (.mov (.t 11))), .op (some 38) none (.p (.ixa 4 1 (.t 6) (.t 36))), .op none none (.st 1 (.t 38) (.t 37))]
def v59_13 : List VI := [.op (some 39) none (.p (.mov (.t 10))), .op (some 7) none (.p (.mov (.t 39)))]
def v59_14 : VC := .seq (.drw v59_5) (.seq (.reg v59_6) (.seq (.seq (.drw v59_7) (.cond (.t 29) (.reg v59_8) .skip)) (.seq (.reg v59_9) (.seq (.seq (.reg v59_10) (.cond (.t 35) (.reg v59_11) .skip)) (.seq (.reg v59_12) (.reg v59_13))))))
def v59_15 : List VI := [.op (some 14) none (.p (.mov (.t 8))), .op (some 15) none (.p (.bin .add (.t 14) (.c (.int .i64 1)))), .op (some 8) none (.p (.mov (.t 15)))]
def v59_16 : VC := .seq (.seq (.reg v59_4) (.cond (.t 13) .skip (.exit 0))) (.seq (.block 1 v59_14) (.reg v59_15))
def v59_17 : VC := .loop v59_16
def v59_18 : List VI := [.op (some 40) none (.ld true 4 (.t 6)), .op (some 41) none (.p (.mov (.t 7))), .op none none (.st 4 (.t 4) (.t 40)), .op (some 5) none (.p (.mov (.t 41)))]
def v59 : VC := .seq (.reg v59_0) (.seq (.reg v59_1) (.seq (.reg v59_2) (.seq (.seq (.reg v59_3) (.block 0 v59_17)) (.seq (.reg v59_18) .ret))))
def rr59 : List RV := [.m 4 true 4, .t 5]
theorem code59 : (Tryz.f59.body).bind (cCode Tryz.prog) = some v59 := by kernel_rfl
theorem res59 : cRVs Tryz.prog (Tryz.f59.results.toList) = some rr59 := by kernel_rfl
theorem nt59 : Tryz.f59.ntmps = 42 := by kernel_rfl
theorem nm59 : (Tryz.f59.name == "runtime.NumGoroutine") = false := by kernel_rfl
def v60_0 : List VI := [.op (some 2) none (.box (.t 0)), .op (some 3) none (.box (.t 1)), .op (some 4) none (.new [.int .u64 (nl 0), .int .u64 (nl 0), .int .u64 (nl 0), .int .u64 (nl 0)]), .op (some 5) none (.p (.mov (.c (.int .u64 (nl 0)))))]
def v60_1 : List VI := [.op (some 6) none (.new [.int .u64 (nl 0), .int .u64 (nl 0), .int .u64 (nl 0), .int .u64 (nl 0)])]
def v60_2 : List VI := [.op (some 7) none (.p (.mov (.c (.int .u64 (nl 0)))))]
def v60_3 : List VI := [.op (some 8) none (.p (.mov (.c (.int .i64 0))))]
def v60_4 : List VI := [.op (some 12) none (.p (.mov (.t 8))), .op (some 13) none (.p (.bin .lss (.t 12) (.c (.int .i64 4))))]
def v60_5 : List DS := [.mk 0 true (.op (some 16) none (.p (.mov (.t 8)))) [] [], .mk 1 true (.op (some 17) none (.p (.ixa 4 1 (.t 2) (.t 16)))) [] [], .mk 2 true (.op (some 18) none (.ld false 1 (.t 17))) [] [], .mk 3 true (.op (some 19) none (.p (.mov (.t 8)))) [] [], .mk 4 true (.op (some 20) none (.p (.ixa 4 1 (.t 3) (.t 19)))) [] [], .mk 5 true (.op (some 21) none (.ld false 1 (.t 20))) [] [], .mk 6 true (.op (some 22) none (.p (.bin .add (.t 18) (.t 21)))) [] [], .mk 7 false (.op (some 9) none (.p (.mov (.t 22)))) [] []]
def v60_6 : List VI := [.op (some 10) none (.p (.mov (.c (.int .u64 (nl 0)))))]
def v60_7 : List VI := [.op (some 23) none (.p (.mov (.t 9))), .op (some 24) none (.p (.mov (.t 8))), .op (some 25) none (.p (.ixa 4 1 (.t 2) (.t 24))), .op (some 26) none (.ld false 1 (.t 25)), .op (some 27) none (.p (.bin .lss (.t 23) (.t 26)))]
def v60_8 : List VI := [.op (some 10) none (.p (.mov (.c (.int .u64 (nl 1)))))]
def v60_9 : List VI := [.op (some 28) none (.p (.mov (.t 9))), .op (some 29) none (.p (.mov (.t 7))), .op (some 30) none (.p (.bin .add (.t 28) (.t 29))), .op (some 11) none (.p (.mov (.t 30)))]
def v60_10 : List VI := [.op (some 31) none (.p (.mov (.t 11))), .op (some 32) none (.p (.mov (.t 9))), .op (some 33) none (.p (.bin .lss (.t 31) (.t 32)))]
def v60_11 : List VI := [.op (some 10) none (.p (.mov (.c (.int .u64 (nl 1)))))]
def v60_12 : List VI := [.op (some 34) none (.p (.mov (.t 8))), .op (some 35) none (.p (.mov (.t 11))), .op (some 36) none (.p (.ixa 4 1 (.t 6) (.t 34))), .op none none (.st 1 (.t 36) (.t 35))]
def v60_13 : List VI := [.op (some 37) none (.p (.mov (.t 10))), .op (some 7) none (.p (.mov (.t 37)))]
def v60_14 : VC := .seq (.drw v60_5) (.seq (.reg v60_6) (.seq (.seq (.reg v60_7) (.cond (.t 27) (.reg v60_8) .skip)) (.seq (.reg v60_9) (.seq (.seq (.reg v60_10) (.cond (.t 33) (.reg v60_11) .skip)) (.seq (.reg v60_12) (.reg v60_13))))))
def v60_15 : List VI := [.op (some 14) none (.p (.mov (.t 8))), .op (some 15) none (.p (.bin .add (.t 14) (.c (.int .i64 1)))), .op (some 8) none (.p (.mov (.t 15)))]
def v60_16 : VC := .seq (.seq (.reg v60_4) (.cond (.t 13) .skip (.exit 0))) (.seq (.block 1 v60_14) (.reg v60_15))
def v60_17 : VC := .loop v60_16
def v60_18 : List VI := [.op (some 38) none (.ld true 4 (.t 6)), .op (some 39) none (.p (.mov (.t 7))), .op none none (.st 4 (.t 4) (.t 38)), .op (some 5) none (.p (.mov (.t 39)))]
def v60 : VC := .seq (.reg v60_0) (.seq (.reg v60_1) (.seq (.reg v60_2) (.seq (.seq (.reg v60_3) (.block 0 v60_17)) (.seq (.reg v60_18) .ret))))
def rr60 : List RV := [.m 4 true 4, .t 5]
theorem code60 : (Tryz.f60.body).bind (cCode Tryz.prog) = some v60 := by kernel_rfl
theorem res60 : cRVs Tryz.prog (Tryz.f60.results.toList) = some rr60 := by kernel_rfl
theorem nt60 : Tryz.f60.ntmps = 40 := by kernel_rfl
theorem nm60 : (Tryz.f60.name == "runtime.NumGoroutine") = false := by kernel_rfl
def v61_0 : List VI := [.op (some 2) none (.box (.t 0)), .op (some 3) none (.box (.t 1)), .op (some 4) none (.p (.mov (.c (.bool false))))]
def v61_1 : List VI := [.op (some 5) none (.p (.mov (.c (.int .i64 3))))]
def v61_2 : List VI := [.op (some 6) none (.p (.mov (.t 5))), .op (some 7) none (.p (.bin .geq (.t 6) (.c (.int .i64 0))))]
def v61_3 : List DS := [.mk 0 true (.op (some 10) none (.p (.mov (.t 5)))) [] [], .mk 1 true (.op (some 11) none (.p (.ixa 4 1 (.t 2) (.t 10)))) [] [], .mk 2 true (.op (some 12) none (.ld false 1 (.t 11))) [] [], .mk 3 true (.op (some 13) none (.p (.mov (.t 5)))) [] [], .mk 4 true (.op (some 14) none (.p (.ixa 4 1 (.t 3) (.t 13)))) [] [], .mk 5 true (.op (some 15) none (.ld false 1 (.t 14))) [] [], .mk 6 true (.op (some 16) none (.p (.eq true .i (.t 12) (.t 15)))) [] []]
def v61_4 : List DS := [.mk 0 true (.op (some 17) none (.p (.mov (.t 5)))) [] [], .mk 1 true (.op (some 18) none (.p (.ixa 4 1 (.t 2) (.t 17)))) [] [], .mk 2 true (.op (some 19) none (.ld false 1 (.t 18))) [] [], .mk 3 true (.op (some 20) none (.p (.mov (.t 5)))) [] [], .mk 4 true (.op (some 21) none (.p (.ixa 4 1 (.t 3) (.t 20)))) [] [], .mk 5 true (.op (some 22) none (.ld false 1 (.t 21))) [] [], .mk 6 true (.op (some 23) none (.p (.bin .lss (.t 19) (.t 22)))) [] [], .mk 7 false (.op (some 4) none (.p (.mov (.t 23)))) [] []]
def v61_5 : VC := .seq (.drw v61_3) (.cond (.t 16) (.seq (.drw v61_4) .ret) .skip)
def v61_6 : List VI := [.op (some 8) none (.p (.mov (.t 5))), .op (some 9) none (.p (.bin .sub (.t 8) (.c (.int .i64 1)))), .op (some 5) none (.p (.mov (.t 9)))]
def v61_7 : VC := .seq (.seq (.reg v61_2) (.cond (.t 7) .skip (.exit 0))) (.seq (.block 1 v61_5) (.reg v61_6))
def v61_8 : VC := .loop v61_7
def v61_9 : List VI := [.op (some 4) none (.p (.mov (.c (.bool false))))]
def v61 : VC := .seq (.reg v61_0) (.seq (.seq (.reg v61_1) (.block 0 v61_8)) (.seq (.reg v61_9) .ret))
def rr61 : List RV := [.t 4]
theorem code61 : (Tryz.f61.body).bind (cCode Tryz.prog) = some v61 := by kernel_rfl
theorem res61 : cRVs Tryz.prog (Tryz.f61.results.toList) = some rr61 := by kernel_rfl
theorem nt61 : Tryz.f61.ntmps = 24 := by kernel_rfl
theorem nm61 : (Tryz.f61.name == "runtime.NumGoroutine") = false := by kernel_rfl
def v62_0 : List VI := [.op (some 4) none (.p (.mov (.c (.int .u64 (nl 0))))), .op (some 5) none (.p (.mov (.c (.int .u64 (nl 0)))))]
def v62_1 : List VI := [.op (some 14) none (.p (.mov (.t 0))), .op (some 15) none (.p (.bin .and (.t 14) (.c (.int .u64 (nl 4294967295))))), .op (some 6) none (.p (.mov (.t 15)))]
def v62_2 : List VI := [.op (some 16) none (.p (.mov (.t 0))), .op (some 17) none (.p (.bin .shr (.t 16) (.c (.int .u64 (nl 32))))), .op (some 7) none (.p (.mov (.t 17)))]
def v62_3 : List VI := [.op (some 18) none (.p (.mov (.t 1))), .op (some 19) none (.p (.bin .and (.t 18) (.c (.int .u64 (nl 4294967295))))), .op (some 8) none (.p (.mov (.t 19)))]
def v62_4 : List VI := [.op (some 20) none (.p (.mov (.t 1))), .op (some 21) none (.p (.bin .shr (.t 20) (.c (.int .u64 (nl 32))))), .op (some 9) none (.p (.mov (.t 21)))]
def v62_5 : List VI := [.op (some 22) none (.p (.mov (.t 6))), .op (some 23) none (.p (.mov (.t 8))), .op (some 24) none (.p (.bin .mul (.t 22) (.t 23))), .op (some 10) none (.p (.mov (.t 24)))]
def v62_6 : List VI := [.op (some 25) none (.p (.mov (.t 7))), .op (some 26) none (.p (.mov (.t 8))), .op (some 27) none (.p (.bin .mul (.t 25) (.t 26))), .op (some 28) none (.p (.mov (.t 10))), .op (some 29) none (.p (.bin .shr (.t 28) (.c (.int .u64 (nl 32))))), .op (some 30) none (.p (.bin .add (.t 27) (.t 29))), .op (some 11) none (.p (.mov (.t 30)))]
def v62_7 : List VI := [.op (some 31) none (.p (.mov (.t 11))), .op (some 32) none (.p (.bin .and (.t 31) (.c (.int .u64 (nl 4294967295))))), .op (some 12) none (.p (.mov (.t 32)))]
def v62_8 : List VI := [.op (some 33) none (.p (.mov (.t 11))), .op (some 34) none (.p (.bin .shr (.t 33) (.c (.int .u64 (nl 32))))), .op (some 13) none (.p (.mov (.t 34)))]
def v62_9 : List VI := [.op (some 35) none (.p (.mov (.t 12))), .op (some 36) none (.p (.mov (.t 6))), .op (some 37) none (.p (.mov (.t 9))), .op (some 38) none (.p (.bin .mul (.t 36) (.t 37))), .op (some 39) none (.p (.bin .add (.t 35) (.t 38))), .op (some 12) none (.p (.mov (.t 39)))]
def v62_10 : List VI := [.op (some 40) none (.p (.mov (.t 7))), .op (some 41) none (.p (.mov (.t 9))), .op (some 42) none (.p (.bin .mul (.t 40) (.t 41))), .op (some 43) none (.p (.mov (.t 13))), .op (some 44) none (.p (.bin .add (.t 42) (.t 43))), .op (some 45) none (.p (.mov (.t 12))), .op (some 46) none (.p (.bin .shr (.t 45) (.c (.int .u64 (nl 32))))), .op (some 47) none (.p (.bin .add (.t 44) (.t 46))), .op (some 4) none (.p (.mov (.t 47)))]
def v62_11 : List VI := [.op (some 48) none (.p (.mov (.t 0))), .op (some 49) none (.p (.mov (.t 1))), .op (some 50) none (.p (.bin .mul (.t 48) (.t 49))), .op (some 5) none (.p (.mov (.t 50)))]
def v62 : VC := .seq (.reg v62_0) (.seq (.reg v62_1) (.seq (.reg v62_2) (.seq (.reg v62_3) (.seq (.reg v62_4) (.seq (.reg v62_5) (.seq (.reg v62_6) (.seq (.reg v62_7) (.seq (.reg v62_8) (.seq (.reg v62_9) (.seq (.reg v62_10) (.seq (.reg v62_11) .ret)))))))))))
def rr62 : List RV := [.t 4, .t 5]
theorem code62 : (Tryz.f62.body).bind (cCode Tryz.prog) = some v62 := by kernel_rfl
theorem res62 : cRVs Tryz.prog (Tryz.f62.results.toList) = some rr62 := by kernel_rfl
theorem nt62 : Tryz.f62.ntmps = 51 := by kernel_rfl
theorem nm62 : (Tryz.f62.name == "runtime.NumGoroutine") = false := by kernel_rfl
def v64_0 : List VI := [.op (some 2) none (.box (.t 0)), .op (some 3) none (.box (.t 1)), .op (some 4) none (.new [.int .u64 (nl 0), .int .u64 (nl 0), .int .u64 (nl 0), .int .u64 (nl 0)]), .op (some 5) none (.p (.mov (.c (.int .u64 (nl 0)))))]
def v64_1 : List VI := [.op (some 6) none (.new [.int .u64 (nl 0), .int .u64 (nl 0), .int .u64 (nl 0), .int .u64 (nl 0)])]
def v64_2 : List VI := [.op (some 7) none (.p (.mov (.c (.int .u64 (nl 0)))))]
def v64_3 : List VI := [.op (some 9) none (.p (.mov (.c (.int .i64 0))))]
def v64_4 : List VI := [.op (some 10) none (.p (.bin .lss (.t 9) (.c (.int .i64 4))))]
def v64_5 : List VI := [.op (some 11) none (.p (.mov (.t 9))), .op (some 8) none (.p (.mov (.t 11)))]
def v64_6 : List DS := [.mk 0 true (.op (some 13) none (.p (.mov (.t 8)))) [] [], .mk 1 true (.op (some 14) none (.p (.mov (.t 8)))) [] [], .mk 2 true (.op (some 15) none (.p (.ixa 4 1 (.t 2) (.t 14)))) [] [], .mk 3 true (.op (some 16) none (.ld false 1 (.t 15))) [] [], .mk 4 true (.op (some 17) none (.p (.mov (.t 8)))) [] [], .mk 5 true (.op (some 18) none (.p (.ixa 4 1 (.t 3) (.t 17)))) [] [], .mk 6 true (.op (some 19) none (.ld false 1 (.t 18))) [] [], .mk 7 true (.op (some 20) none (.p (.mov (.t 7)))) [] [], .mk 8 false (.call (some 21) none (.fn 85) [.t 16, .t 19, .t 20]) [] [], .mk 9 true (.op (some 12) none (.p (.mov (.t 21)))) [] [], .mk 10 true (.op (some 22) none (.p (.ext (.t 12) 0))) [] [], .mk 11 true (.op (some 23) none (.p (.ext (.t 12) 1))) [] [], .mk 12 true (.op (some 24) none (.p (.ixa 4 1 (.t 6) (.t 13)))) [] [], .mk 13 false (.op none none (.st 1 (.t 24) (.t 22))) [] [], .mk 14 false (.op (some 7) none (.p (.mov (.t 23)))) [] []]
def v64_7 : VC := .seq (.reg v64_5) (.drw v64_6)
def v64_8 : List VI := [.op (some 25) none (.p (.bin .add (.t 9) (.c (.int .i64 1)))), .op (some 9) none (.p (.mov (.t 25)))]
def v64_9 : VC := .seq (.reg v64_4) (.seq (.cond (.t 10) .skip (.exit 0)) (.seq (.block 1 v64_7) (.reg v64_8)))
def v64_10 : VC := .loop v64_9
def v64_11 : List VI := [.op (some 26) none (.ld true 4 (.t 6)), .op (some 27) none (.p (.mov (.t 7))), .op none none (.st 4 (.t 4) (.t 26)), .op (some 5) none (.p (.mov (.t 27)))]
def v64 : VC := .seq (.reg v64_0) (.seq (.reg v64_1) (.seq (.reg v64_2) (.seq (.seq (.reg v64_3) (.block 0 v64_10)) (.seq (.reg v64_11) .ret))))
def rr64 : List RV := [.m 4 true 4, .t 5]
theorem code64 : (Tryz.f64.body).bind (cCode Tryz.prog) = some v64 := by kernel_rfl
theorem res64 : cRVs Tryz.prog (Tryz.f64.results.toList) = some rr64 := by kernel_rfl
theorem nt64 : Tryz.f64.ntmps = 28 := by kernel_rfl
theorem nm64 : (Tryz.f64.name == "runtime.NumGoroutine") = false := by kernel_rfl
def v65_0 : List VI := [.op (some 2) none (.box (.t 0)), .op (some 3) none (.box (.t 1)), .op (some 4) none (.new [.int .u64 (nl 0), .int .u64 (nl 0), .int .u64 (nl 0), .int .u64 (nl 0)]), .op (some 5) none (.p (.mov (.c (.int .u64 (nl 0)))))]
def v65_1 : List VI := [.op (some 6) none (.new [.int .u64 (nl 0), .int .u64 (nl 0), .int .u64 (nl 0), .int .u64 (nl 0)])]
def v65_2 : List VI := [.op (some 7) none (.p (.mov (.c (.int .u64 (nl 0)))))]
def v65_3 : List VI := [.op (some 9) none (.p (.mov (.c (.int .i64 0))))]
def v65_4 : List VI := [.op (some 10) none (.p (.bin .lss (.t 9) (.c (.int .i64 4))))]
def v65_5 : List VI := [.op (some 11) none (.p (.mov (.t 9))), .op (some 8) none (.p (.mov (.t 11)))]
def v65_6 : List DS := [.mk 0 true (.op (some 13) none (.p (.mov (.t 8)))) [] [], .mk 1 true (.op (some 14) none (.p (.mov (.t 8)))) [] [], .mk 2 true (.op (some 15) none (.p (.ixa 4 1 (.t 2) (.t 14)))) [] [], .mk 3 true (.op (some 16) none (.ld false 1 (.t 15))) [] [], .mk 4 true (.op (some 17) none (.p (.mov (.t 8)))) [] [], .mk 5 true (.op (some 18) none (.p (.ixa 4 1 (.t 3) (.t 17)))) [] [], .mk 6 true (.op (some 19) none (.ld false 1 (.t 18))) [] [], .mk 7 true (.op (some 20) none (.p (.mov (.t 7)))) [] [], .mk 8 false (.call (some 21) none (.fn 63) [.t 16, .t 19, .t 20]) [] [], .mk 9 true (.op (some 12) none (.p (.mov (.t 21)))) [] [], .mk 10 true (.op (some 22) none (.p (.ext (.t 12) 0))) [] [], .mk 11 true (.op (some 23) none (.p (.ext (.t 12) 1))) [] [], .mk 12 true (.op (some 24) none (.p (.ixa 4 1 (.t 6) (.t 13)))) [] [], .mk 13 false (.op none none (.st 1 (.t 24) (.t 22))) [] [], .mk 14 false (.op (some 7) none (.p (.mov (.t 23)))) [] []]
def v65_7 : VC := .seq (.reg v65_5) (.drw v65_6)
def v65_8 : List VI := [.op (some 25) none (.p (.bin .add (.t 9) (.c (.int .i64 1)))), .op (some 9) none (.p (.mov (.t 25)))]
def v65_9 : VC := .seq (.reg v65_4) (.seq (.cond (.t 10) .skip (.exit 0)) (.seq (.block 1 v65_7) (.reg v65_8)))
def v65_10 : VC := .loop v65_9
def v65_11 : List VI := [.op (some 26) none (.ld true 4 (.t 6)), .op (some 27) none (.p (.mov (.t 7))), .op none none (.st 4 (.t 4) (.t 26)), .op (some 5) none (.p (.mov (.t 27)))]
def v65 : VC := .seq (.reg v65_0) (.seq (.reg v65_1) (.seq (.reg v65_2) (.seq (.seq (.reg v65_3) (.block 0 v65_10)) (.seq (.reg v65_11) .ret))))
def rr65 : List RV := [.m 4 true 4, .t 5]
theorem code65 : (Tryz.f65.body).bind (cCode Tryz.prog) = some v65 := by kernel_rfl
theorem res65 : cRVs Tryz.prog (Tryz.f65.results.toList) = some rr65 := by kernel_rfl
theorem nt65 : Tryz.f65.ntmps = 28 := by kernel_rfl
theorem nm65 : (Tryz.f65.name == "runtime.NumGoroutine") = false := by kernel_rfl
def v66_0 : List VI := [.op (some 1) none (.box (.t 0)), .op (some 2) none (.new [.int .u64 (nl 0), .int .u64 (nl 0), .int .u64 (nl 0), .int .u64 (nl 0)])]
def v66_1 : List VI := [.op (some 6) none (.ld true 4 (.t 1)), .op (some 7) none (.p (.ixa 4 4 (.g 0) (.c (.int .i64 0)))), .op (some 8) none (.ld true 4 (.t 7)), .call (some 9) none (.fn 64) [.t 6, .t 8], .op (some 5) none (.p (.mov (.t 9))), .op (some 10) none (.p (.ext (.t 5) 0)), .op (some 11) none (.p (.ext (.t 5) 1)), .op (some 3) none (.new [.int .u64 (nl 0), .int .u64 (nl 0), .int .u64 (nl 0), .int .u64 (nl 0)]), .op none none (.st 4 (.t 3) (.t 10)), .op (some 4) none (.p (.mov (.t 11)))]
def v66_2 : List VI := [.op (some 12) none (.p (.mov (.t 4))), .op (some 13) none (.p (.un .neg (.t 12))), .op (some 14) none (.ld true 4 (.t 1)), .op (some 15) none (.ld true 4 (.t 3)), .call (some 16) none (.fn 67) [.t 13, .t 14, .t 15], .op none none (.st 4 (.t 2) (.t 16))]
def v66 : VC := .seq (.reg v66_0) (.seq (.reg v66_1) (.seq (.reg v66_2) .ret))
def rr66 : List RV := [.m 2 true 4]
theorem code66 : (Tryz.f66.body).bind (cCode Tryz.prog) = some v66 := by kernel_rfl
theorem res66 : cRVs Tryz.prog (Tryz.f66.results.toList) = some rr66 := by kernel_rfl
theorem nt66 : Tryz.f66.ntmps = 17 := by kernel_rfl
theorem nm66 : (Tryz.f66.name == "runtime.NumGoroutine") = false := by kernel_rfl
def v67_0 : List VI := [.op (some 4) none (.box (.t 1)), .op (some 5) none (.box (.t 2)), .op (some 6) none (.new [.int .u64 (nl 0), .int .u64 (nl 0), .int .u64 (nl 0), .int .u64 (nl 0)])]
def v67_1 : List VI := [.op (some 8) none (.p (.mov (.c (.int .i64 0))))]
def v67_2 : List VI := [.op (some 9) none (.p (.bin .lss (.t 8) (.c (.int .i64 4))))]
def v67_3 : List VI := [.op (some 10) none (.p (.mov (.t 8))), .op (some 7) none (.p (.mov (.t 10)))]
def v67_4 : List DS := [.mk 0 true (.op (some 11) none (.p (.mov (.t 7)))) [] [], .mk 1 true (.op (some 12) none (.p (.mov (.t 7)))) [] [], .mk 2 true (.op (some 13) none (.p (.ixa 4 1 (.t 4) (.t 12)))) [] [], .mk 3 true (.op (some 14) none (.ld false 1 (.t 13))) [] [], .mk 4 true (.op (some 15) none (.p (.mov (.t 0)))) [] [], .mk 5 true (.op (some 16) none (.p (.bin .and (.t 14) (.t 15)))) [] [], .mk 6 true (.op (some 17) none (.p (.mov (.t 7)))) [] [], .mk 7 true (.op (some 18) none (.p (.ixa 4 1 (.t 5) (.t 17)))) [] [], .mk 8 true (.op (some 19) none (.ld false 1 (.t 18))) [] [], .mk 9 true (.op (some 20) none (.p (.mov (.t 0)))) [] [], .mk 10 true (.op (some 21) none (.p (.bin .andNot (.t 19) (.t 20)))) [] [], .mk 11 true (.op (some 22) none (.p (.bin .or (.t 16) (.t 21)))) [] [], .mk 12 true (.op (some 23) none (.p (.ixa 4 1 (.t 4) (.t 11)))) [] [], .mk 13 false (.op none none (.st 1 (.t 23) (.t 22))) [] []]
def v67_5 : VC := .seq (.reg v67_3) (.drw v67_4)
def v67_6 : List VI := [.op (some 24) none (.p (.bin .add (.t 8) (.c (.int .i64 1)))), .op (some 8) none (.p (.mov (.t 24)))]
def v67_7 : VC := .seq (.reg v67_2) (.seq (.cond (.t 9) .skip (.exit 0)) (.seq (.block 1 v67_5) (.reg v67_6)))
def v67_8 : VC := .loop v67_7
def v67_9 : List VI := [.op (some 25) none (.ld true 4 (.t 4)), .op none none (.st 4 (.t 6) (.t 25))]
def v67 : VC := .seq (.reg v67_0) (.seq (.seq (.reg v67_1) (.block 0 v67_8)) (.seq (.reg v67_9) .ret))
def rr67 : List RV := [.m 6 true 4]
theorem code67 : (Tryz.f67.body).bind (cCode Tryz.prog) = some v67 := by kernel_rfl
theorem res67 : cRVs Tryz.prog (Tryz.f67.results.toList) = some rr67 := by kernel_rfl
theorem nt67 : Tryz.f67.ntmps = 26 := by kernel_rfl
theorem nm67 : (Tryz.f67.name == "runtime.NumGoroutine") = false := by kernel_rfl
def v68_0 : List VI := [.op (some 3) none (.box (.t 0)), .op (some 4) none (.box (.t 1)), .op (some 6) none (.new [.int .u64 (nl 0), .int .u64 (nl 0), .int .u64 (nl 0), .int .u64 (nl 0)])]
def v68_1 : List DS := [.mk 0 true (.op (some 11) none (.ld true 4 (.t 3))) [] [], .mk 2 true (.op (some 13) none (.p (.ixa 4 4 (.g 0) (.c (.int .i64 2))))) [] [], .mk 3 true (.op (some 14) none (.ld true 4 (.t 13))) [] [], .mk 5 true (.op (some 7) none (.new [.int .u64 (nl 0), .int .u64 (nl 0), .int .u64 (nl 0), .int .u64 (nl 0)])) [] [], .mk 1 false (.call (some 12) none (.fn 42) [.t 11]) [13] [7], .mk 4 false (.call (some 15) none (.fn 69) [.t 12, .t 14]) [] [7], .mk 6 false (.op none none (.st 4 (.t 7) (.t 15))) [] []]
def v68_2 : List VI := [.op (some 16) none (.p (.ixa 4 4 (.g 0) (.c (.int .i64 1)))), .op (some 17) none (.ld true 4 (.t 16)), .op (some 8) none (.new [.int .u64 (nl 0), .int .u64 (nl 0), .int .u64 (nl 0), .int .u64 (nl 0)]), .op none none (.st 4 (.t 8) (.t 17))]
def v68_3 : List VI := [.op (some 9) none (.p (.mov (.c (.bool false))))]
def v68_4 : List VI := [.op (some 18) none (.p (.mov (.t 2))), .op (some 19) none (.p (.bin .sub (.t 18) (.c (.int .i64 1)))), .op (some 10) none (.p (.mov (.t 19)))]
def v68_5 : List VI := [.op (some 20) none (.p (.mov (.t 10))), .op (some 21) none (.p (.bin .geq (.t 20) (.c (.int .i64 0))))]
def v68_6 : List VI := [.op (some 24) none (.p (.mov (.t 9)))]
def v68_7 : List VI := [.op (some 25) none (.ld true 4 (.t 8)), .op (some 26) none (.ld true 4 (.t 8)), .call (some 27) none (.fn 69) [.t 25, .t 26], .op none none (.st 4 (.t 8) (.t 27))]
def v68_8 : List VI := [.op (some 28) none (.p (.mov (.t 10))), .op (some 29) none (.p (.bin .quo (.t 28) (.c (.int .i64 64)))), .op (some 30) none (.p (.ixa 4 1 (.t 4) (.t 29))), .op (some 31) none (.ld false 1 (.t 30)), .op (some 32) none (.p (.mov (.t 10))), .op (some 33) none (.p (.bin .rem (.t 32) (.c (.int .i64 64)))), .op (some 34) none (.p (.bin .shr (.t 31) (.t 33))), .op (some 35) none (.p (.bin .and (.t 34) (.c (.int .u64 (nl 1))))), .op (some 36) none (.p (.eq false .i (.t 35) (.c (.int .u64 (nl 1)))))]
def v68_9 : List VI := [.op (some 37) none (.ld true 4 (.t 8)), .op (some 38) none (.ld true 4 (.t 7)), .call (some 39) none (.fn 69) [.t 37, .t 38], .op none none (.st 4 (.t 8) (.t 39))]
def v68_10 : List VI := [.op (some 9) none (.p (.mov (.c (.bool true))))]
def v68_11 : VC := .seq (.seq (.reg v68_6) (.cond (.t 24) (.reg v68_7) .skip)) (.seq (.reg v68_8) (.cond (.t 36) (.seq (.reg v68_9) (.reg v68_10)) .skip))
def v68_12 : List VI := [.op (some 22) none (.p (.mov (.t 10))), .op (some 23) none (.p (.bin .sub (.t 22) (.c (.int .i64 1)))), .op (some 10) none (.p (.mov (.t 23)))]
def v68_13 : VC := .seq (.seq (.reg v68_5) (.cond (.t 21) .skip (.exit 0))) (.seq (.block 1 v68_11) (.reg v68_12))
def v68_14 : VC := .loop v68_13
def v68_15 : List VI := [.op (some 40) none (.ld true 4 (.t 8)), .op (some 41) none (.p (.bld [.int .u64 (nl 0), .int .u64 (nl 0), .int .u64 (nl 0), .int .u64 (nl 0)] [(0, 1, .c (.int .u64 (nl 1)))])), .call (some 42) none (.fn 69) [.t 40, .t 41], .op none none (.st 4 (.t 6) (.t 42))]
def v68 : VC := .seq (.reg v68_0) (.seq (.drw v68_1) (.seq (.reg v68_2) (.seq (.reg v68_3) (.seq (.seq (.reg v68_4) (.block 0 v68_14)) (.seq (.reg v68_15) .ret)))))
def rr68 : List RV := [.m 6 true 4]
theorem code68 : (Tryz.f68.body).bind (cCode Tryz.prog) = some v68 := by kernel_rfl
theorem res68 : cRVs Tryz.prog (Tryz.f68.results.toList) = some rr68 := by kernel_rfl
theorem nt68 : Tryz.f68.ntmps = 43 := by kernel_rfl
theorem nm68 : (Tryz.f68.name == "runtime.NumGoroutine") = false := by kernel_rfl
def v69_0 : List VI := [.op (some 2) none (.box (.t 0)), .op (some 3) none (.box (.t 1)), .op (some 4) none (.new [.int .u64 (nl 0), .int .u64 (nl 0), .int .u64 (nl 0), .int .u64 (nl 0)])]
def v69_1 : List VI := [.op (some 5) none (.new [.int .u64 (nl 0), .int .u64 (nl 0), .int .u64 (nl 0), .int .u64 (nl 0), .int .u64 (nl 0)])]
def v69_2 : List VI := [.op (some 13) none (.p (.mov (.c (.int .i64 0))))]
def v69_3 : List VI := [.op (some 14) none (.p (.bin .lss (.t 13) (.c (.int .i64 4))))]
def v69_4 : List VI := [.op (some 15) none (.p (.mov (.t 13))), .op (some 6) none (.p (.mov (.t 15)))]
def v69_5 : List VI := [.op (some 7) none (.p (.mov (.c (.int .u64 (nl 0))))), .op (some 8) none (.p (.mov (.c (.int .u64 (nl 0)))))]
def v69_6 : List VI := [.op (some 16) none (.p (.mov (.c (.int .i64 0))))]
def v69_7 : List VI := [.op (some 17) none (.p (.bin .lss (.t 16) (.c (.int .i64 4))))]
def v69_8 : List VI := [.op (some 18) none (.p (.mov (.t 16))), .op (some 9) none (.p (.mov (.t 18)))]
def v69_9 : List DS := [.mk 0 true (.op (some 20) none (.p (.mov (.t 9)))) [] [], .mk 1 true (.op (some 21) none (.p (.mov (.t 9)))) [] [], .mk 2 true (.op (some 22) none (.p (.ixa 4 1 (.t 2) (.t 21)))) [] [], .mk 3 true (.op (some 23) none (.ld false 1 (.t 22))) [] [], .mk 4 true (.op (some 24) none (.p (.mov (.t 6)))) [] [], .mk 5 true (.op (some 25) none (.p (.ixa 4 1 (.t 3) (.t 24)))) [] [], .mk 6 true (.op (some 26) none (.ld false 1 (.t 25))) [] [], .mk 7 true (.op (some 27) none (.p (.mov (.t 9)))) [] [], .mk 8 true (.op (some 28) none (.p (.ixa 5 1 (.t 5) (.t 27)))) [] [], .mk 9 true (.op (some 29) none (.ld false 1 (.t 28))) [] [], .mk 10 true (.op (some 30) none (.p (.mov (.t 7)))) [] [], .mk 11 false (.call (some 31) none (.fn 86) [.t 23, .t 26, .t 29, .t 30]) [] [], .mk 12 true (.op (some 19) none (.p (.mov (.t 31)))) [] [], .mk 13 true (.op (some 32) none (.p (.ext (.t 19) 0))) [] [], .mk 14 true (.op (some 33) none (.p (.ext (.t 19) 1))) [] [], .mk 15 true (.op (some 34) none (.p (.ixa 5 1 (.t 5) (.t 20)))) [] [], .mk 16 false (.op none none (.st 1 (.t 34) (.t 32))) [] [], .mk 17 false (.op (some 7) none (.p (.mov (.t 33)))) [] []]
def v69_10 : VC := .seq (.reg v69_8) (.drw v69_9)
def v69_11 : List VI := [.op (some 35) none (.p (.bin .add (.t 16) (.c (.int .i64 1)))), .op (some 16) none (.p (.mov (.t 35)))]
def v69_12 : VC := .seq (.reg v69_7) (.seq (.cond (.t 17) .skip (.exit 2)) (.seq (.block 3 v69_10) (.reg v69_11)))
def v69_13 : VC := .loop v69_12
def v69_14 : List VI := [.op (some 37) none (.p (.ixa 5 1 (.t 5) (.c (.int .i64 4)))), .op (some 38) none (.ld false 1 (.t 37)), .op (some 39) none (.p (.mov (.t 7))), .call (some 40) none (.fn 63) [.t 38, .t 39, .c (.int .u64 (nl 0))], .op (some 36) none (.p (.mov (.t 40))), .op (some 41) none (.p (.ext (.t 36) 0)), .op (some 42) none (.p (.ext (.t 36) 1)), .op (some 43) none (.p (.ixa 5 1 (.t 5) (.c (.int .i64 4)))), .op none none (.st 1 (.t 43) (.t 41)), .op (some 8) none (.p (.mov (.t 42)))]
def v69_15 : List VI := [.op (some 44) none (.p (.mov (.t 8))), .op (some 10) none (.p (.mov (.t 44)))]
def v69_16 : List VI := [.op (some 45) none (.p (.ixa 5 1 (.t 5) (.c (.int .i64 0)))), .op (some 46) none (.ld false 1 (.t 45)), .op (some 47) none (.p (.bin .mul (.t 46) (.c (.int .u64 (nl 15183074304973897243))))), .op (some 11) none (.p (.mov (.t 47)))]
def v69_17 : List VI := [.op (some 49) none (.p (.mov (.t 11))), .op (some 50) none (.p (.ixa 4 4 (.g 0) (.c (.int .i64 0)))), .op (some 51) none (.p (.ixa 4 1 (.t 50) (.c (.int .i64 0)))), .op (some 52) none (.ld false 1 (.t 51)), .op (some 53) none (.p (.ixa 5 1 (.t 5) (.c (.int .i64 0)))), .op (some 54) none (.ld false 1 (.t 53)), .call (some 55) none (.fn 86) [.t 49, .t 52, .t 54, .c (.int .u64 (nl 0))], .op (some 48) none (.p (.mov (.t 55))), .op (some 56) none (.p (.ext (.t 48) 0)), .op (some 57) none (.p (.ext (.t 48) 1)), .op (some 7) none (.p (.mov (.t 57)))]
def v69_18 : List VI := [.op (some 12) none (.p (.mov (.c (.int .i64 1))))]
def v69_19 : List VI := [.op (some 58) none (.p (.mov (.t 12))), .op (some 59) none (.p (.bin .lss (.t 58) (.c (.int .i64 4))))]
def v69_20 : List DS := [.mk 0 true (.op (some 63) none (.p (.mov (.t 12)))) [] [], .mk 1 true (.op (some 64) none (.p (.bin .sub (.t 63) (.c (.int .i64 1))))) [] [], .mk 2 true (.op (some 65) none (.p (.mov (.t 11)))) [] [], .mk 3 true (.op (some 66) none (.p (.mov (.t 12)))) [] [], .mk 4 true (.op (some 67) none (.p (.ixa 4 4 (.g 0) (.c (.int .i64 0))))) [] [], .mk 5 true (.op (some 68) none (.p (.ixa 4 1 (.t 67) (.t 66)))) [] [], .mk 6 true (.op (some 69) none (.ld false 1 (.t 68))) [] [], .mk 7 true (.op (some 70) none (.p (.mov (.t 12)))) [] [], .mk 8 true (.op (some 71) none (.p (.ixa 5 1 (.t 5) (.t 70)))) [] [], .mk 9 true (.op (some 72) none (.ld false 1 (.t 71))) [] [], .mk 10 true (.op (some 73) none (.p (.mov (.t 7)))) [] [], .mk 11 false (.call (some 74) none (.fn 86) [.t 65, .t 69, .t 72, .t 73]) [] [], .mk 12 true (.op (some 62) none (.p (.mov (.t 74)))) [] [], .mk 13 true (.op (some 75) none (.p (.ext (.t 62) 0))) [] [], .mk 14 true (.op (some 76) none (.p (.ext (.t 62) 1))) [] [], .mk 15 true (.op (some 77) none (.p (.ixa 5 1 (.t 5) (.t 64)))) [] [], .mk 16 false (.op none none (.st 1 (.t 77) (.t 75))) [] [], .mk 17 false (.op (some 7) none (.p (.mov (.t 76)))) [] []]
def v69_21 : VC := .drw v69_20
def v69_22 : List VI := [.op (some 60) none (.p (.mov (.t 12))), .op (some 61) none (.p (.bin .add (.t 60) (.c (.int .i64 1)))), .op (some 12) none (.p (.mov (.t 61)))]
def v69_23 : VC := .seq (.seq (.reg v69_19) (.cond (.t 59) .skip (.exit 4))) (.seq (.block 5 v69_21) (.reg v69_22))
def v69_24 : VC := .loop v69_23
def v69_25 : List VI := [.op (some 79) none (.p (.ixa 5 1 (.t 5) (.c (.int .i64 4)))), .op (some 80) none (.ld false 1 (.t 79)), .op (some 81) none (.p (.mov (.t 7))), .call (some 82) none (.fn 63) [.t 80, .t 81, .c (.int .u64 (nl 0))], .op (some 78) none (.p (.mov (.t 82))), .op (some 83) none (.p (.ext (.t 78) 0)), .op (some 84) none (.p (.ext (.t 78) 1)), .op (some 85) none (.p (.ixa 5 1 (.t 5) (.c (.int .i64 3)))), .op none none (.st 1 (.t 85) (.t 83)), .op (some 8) none (.p (.mov (.t 84)))]
def v69_26 : List VI := [.op (some 86) none (.p (.mov (.t 10))), .op (some 87) none (.p (.mov (.t 8))), .op (some 88) none (.p (.bin .add (.t 86) (.t 87))), .op (some 89) none (.p (.ixa 5 1 (.t 5) (.c (.int .i64 4)))), .op none none (.st 1 (.t 89) (.t 88))]
def v69_27 : VC := .seq (.reg v69_4) (.seq (.reg v69_5) (.seq (.seq (.reg v69_6) (.block 2 v69_13)) (.seq (.reg v69_14) (.seq (.reg v69_15) (.seq (.reg v69_16) (.seq (.reg v69_17) (.seq (.seq (.reg v69_18) (.block 4 v69_24)) (.seq (.reg v69_25) (.reg v69_26)))))))))
def v69_28 : List VI := [.op (some 90) none (.p (.bin .add (.t 13) (.c (.int .i64 1)))), .op (some 13) none (.p (.mov (.t 90)))]
def v69_29 : VC := .seq (.reg v69_3) (.seq (.cond (.t 14) .skip (.exit 0)) (.seq (.block 1 v69_27) (.reg v69_28)))
def v69_30 : VC := .loop v69_29
def v69_31 : List VI := [.op (some 91) none (.p (.ixa 5 1 (.t 5) (.c (.int .i64 0)))), .op (some 92) none (.ld false 1 (.t 91)), .op (some 93) none (.p (.ixa 5 1 (.t 5) (.c (.int .i64 1)))), .op (some 94) none (.ld false 1 (.t 93)), .op (some 95) none (.p (.ixa 5 1 (.t 5) (.c (.int .i64 2)))), .op (some 96) none (.ld false 1 (.t 95)), .op (some 97) none (.p (.ixa 5 1 (.t 5) (.c (.int .i64 3)))), .op (some 98) none (.ld false 1 (.t 97)), .op (some 99) none (.p (.bld [.int .u64 (nl 0), .int .u64 (nl 0), .int .u64 (nl 0), .int .u64 (nl 0)] [(0, 1, .t 92), (1, 1, .t 94), (2, 1, .t 96), (3, 1, .t 98)])), .call (some 100) none (.fn 66) [.t 99], .op none none (.st 4 (.t 4) (.t 100))]
def v69 : VC := .seq (.reg v69_0) (.seq (.reg v69_1) (.seq (.seq (.reg v69_2) (.block 0 v69_30)) (.seq (.reg v69_31) .ret)))
def rr69 : List RV := [.m 4 true 4]
theorem code69 : (Tryz.f69.body).bind (cCode Tryz.prog) = some v69 := by kernel_rfl
theorem res69 : cRVs Tryz.prog (Tryz.f69.results.toList) = some rr69 := by kernel_rfl
theorem nt69 : Tryz.f69.ntmps = 101 := by kernel_rfl
theorem nm69 : (Tryz.f69.name == "runtime.NumGoroutine") = false := by kernel_rfl
def v70_0 : List VI := [.op (some 2) none (.p (.mov (.c .nils))), .op (some 3) none (.p (.mov (.c .nils)))]
def v70_1 : List VI := [.op (some 5) none (.p (.mov (.t 0))), .op (some 6) none (.p (.len false (.t 5))), .op (some 7) none (.p (.bin .quo (.t 6) (.c (.int .i64 2)))), .op (some 4) none (.p (.mov (.t 7)))]
def v70_2 : List DS := [.mk 0 true (.op (some 8) none (.p (.mov (.t 0)))) [] [], .mk 1 true (.op (some 9) none (.p (.mov (.t 4)))) [] [], .mk 2 true (.op (some 10) none (.p (.mov (.t 4)))) [] [], .mk 3 true (.op (some 11) none (.slx 4 (.t 8) none (some (.t 9)) (some (.t 10)))) [] [], .mk 4 true (.op (some 12) none (.p (.mov (.t 0)))) [] [], .mk 5 true (.op (some 13) none (.p (.mov (.t 4)))) [] [], .mk 6 true (.op (some 14) none (.p (.mov (.t 0)))) [] [], .mk 7 true (.op (some 15) none (.p (.len false (.t 14)))) [] [], .mk 8 true (.op (some 16) none (.p (.mov (.t 0)))) [] [], .mk 9 true (.op (some 17) none (.p (.len false (.t 16)))) [] [], .mk 10 true (.op (some 18) none (.slx 4 (.t 12) (some (.t 13)) (some (.t 15)) (some (.t 17)))) [] [], .mk 11 false (.op (some 2) none (.p (.mov (.t 11)))) [12] [], .mk 12 false (.op (some 3) none (.p (.mov (.t 18)))) [] []]
def v70 : VC := .seq (.reg v70_0) (.seq (.reg v70_1) (.seq (.drw v70_2) .ret))
def rr70 : List RV := [.t 2, .t 3]
theorem code70 : (Tryz.f70.body).bind (cCode Tryz.prog) = some v70 := by kernel_rfl
theorem res70 : cRVs Tryz.prog (Tryz.f70.results.toList) = some rr70 := by kernel_rfl
theorem nt70 : Tryz.f70.ntmps = 19 := by kernel_rfl
theorem nm70 : (Tryz.f70.name == "runtime.NumGoroutine") = false := by kernel_rfl
def v76_0 : List VI := [.op (some 1) none (.box (.t 0)), .op (some 2) none (.new [.int .u64 (nl 0), .int .u64 (nl 0), .int .u64 (nl 0), .int .u64 (nl 0)])]
def v76_1 : List VI := [.op (some 8) none (.ld true 4 (.t 1)), .call (some 9) none (.fn 33) [.t 8]]
def v76_2 : List VI := [.op (some 10) none (.ld true 4 (.t 1)), .op none none (.st 4 (.t 2) (.t 10))]
def v76_3 : List VI := [.op (some 11) none (.ld true 4 (.t 1)), .op (some 3) none (.new [.int .u64 (nl 0), .int .u64 (nl 0), .int .u64 (nl 0), .int .u64 (nl 0)]), .op none none (.st 4 (.t 3) (.t 11))]
def v76_4 : List VI := [.call (some 12) none (.fn 58) [], .op (some 4) none (.new [.int .u64 (nl 0), .int .u64 (nl 0), .int .u64 (nl 0), .int .u64 (nl 0)]), .op none none (.st 4 (.t 4) (.t 12))]
def v76_5 : List VI := [.call (some 13) none (.fn 82) [.c (.int .u64 (nl 1))], .op (some 5) none (.new [.int .u64 (nl 0), .int .u64 (nl 0), .int .u64 (nl 0), .int .u64 (nl 0)]), .op none none (.st 4 (.t 5) (.t 13))]
def v76_6 : List VI := [.op (some 14) none (.p (.bld [.int .u64 (nl 0), .int .u64 (nl 0), .int .u64 (nl 0), .int .u64 (nl 0)] [])), .op (some 6) none (.new [.int .u64 (nl 0), .int .u64 (nl 0), .int .u64 (nl 0), .int .u64 (nl 0)]), .op none none (.st 4 (.t 6) (.t 14))]
def v76_7 : List VI := [.call (some 15) none (.fn 82) [.c (.int .u64 (nl 1))], .op (some 7) none (.new [.int .u64 (nl 0), .int .u64 (nl 0), .int .u64 (nl 0), .int .u64 (nl 0)]), .op none none (.st 4 (.t 7) (.t 15))]
def v76_8 : List VI := [.op (some 16) none (.ld true 4 (.t 3)), .op (some 17) none (.ld true 4 (.t 7)), .op (some 18) none (.p (.eqa true [.i, .i, .i, .i] (.t 16) (.t 17))), .op (some 19) none (.p (.mov (.t 18))), .op (some 20) (some (19, true)) (.ld true 4 (.t 4)), .op (some 21) (some (19, true)) (.ld true 4 (.t 7)), .op (some 22) (some (19, true)) (.p (.eqa true [.i, .i, .i, .i] (.t 20) (.t 21))), .op (some 23) none (.p (.pick (.t 19) (.t 22) (.c (.bool false))))]
def v76_9 : List VI := [.op (some 24) none (.p (.ixa 4 1 (.t 3) (.c (.int .i64 0)))), .op (some 25) none (.ld false 1 (.t 24)), .op (some 26) none (.p (.bin .and (.t 25) (.c (.int .u64 (nl 1))))), .op (some 27) none (.p (.eq false .i (.t 26) (.c (.int .u64 (nl 0)))))]
def v76_10 : List VI := [.op (some 28) none (.ld true 4 (.t 3)), .call (some 29) none (.fn 98) [.t 28], .op none none (.st 4 (.t 3) (.t 29))]
def v76_11 : List VI := [.op (some 30) none (.ld true 4 (.t 5)), .call (some 31) none (.fn 98) [.t 30], .op none none (.st 4 (.t 5) (.t 31))]
def v76_12 : VC := .seq (.reg v76_10) (.reg v76_11)
def v76_13 : VC := .seq (.seq (.reg v76_9) (.cond (.t 27) .skip (.exit 2))) (.block 3 v76_12)
def v76_14 : VC := .loop v76_13
def v76_15 : List VI := [.op (some 32) none (.p (.ixa 4 1 (.t 4) (.c (.int .i64 0)))), .op (some 33) none (.ld false 1 (.t 32)), .op (some 34) none (.p (.bin .and (.t 33) (.c (.int .u64 (nl 1))))), .op (some 35) none (.p (.eq false .i (.t 34) (.c (.int .u64 (nl 0)))))]
def v76_16 : List VI := [.op (some 36) none (.ld true 4 (.t 4)), .call (some 37) none (.fn 98) [.t 36], .op none none (.st 4 (.t 4) (.t 37))]
def v76_17 : List VI := [.op (some 38) none (.ld true 4 (.t 6)), .call (some 39) none (.fn 98) [.t 38], .op none none (.st 4 (.t 6) (.t 39))]
def v76_18 : VC := .seq (.reg v76_16) (.reg v76_17)
def v76_19 : VC := .seq (.seq (.reg v76_15) (.cond (.t 35) .skip (.exit 4))) (.block 5 v76_18)
def v76_20 : VC := .loop v76_19
def v76_21 : List VI := [.op (some 40) none (.ld true 4 (.t 3)), .op (some 41) none (.ld true 4 (.t 4)), .call (some 42) none (.fn 61) [.t 40, .t 41]]
def v76_22 : List VI := [.op (some 44) none (.ld true 4 (.t 4)), .op (some 45) none (.ld true 4 (.t 3)), .call (some 46) none (.fn 59) [.t 44, .t 45], .op (some 43) none (.p (.mov (.t 46))), .op (some 47) none (.p (.ext (.t 43) 0)), .op (some 48) none (.p (.ext (.t 43) 1)), .op none none (.st 4 (.t 4) (.t 47))]
def v76_23 : List VI := [.op (some 49) none (.ld true 4 (.t 6)), .op (some 50) none (.ld true 4 (.t 5)), .call (some 51) none (.fn 99) [.t 49, .t 50], .op none none (.st 4 (.t 6) (.t 51))]
def v76_24 : List VI := [.op (some 53) none (.ld true 4 (.t 3)), .op (some 54) none (.ld true 4 (.t 4)), .call (some 55) none (.fn 59) [.t 53, .t 54], .op (some 52) none (.p (.mov (.t 55))), .op (some 56) none (.p (.ext (.t 52) 0)), .op (some 57) none (.p (.ext (.t 52) 1)), .op none none (.st 4 (.t 3) (.t 56))]
def v76_25 : List VI := [.op (some 58) none (.ld true 4 (.t 5)), .op (some 59) none (.ld true 4 (.t 6)), .call (some 60) none (.fn 99) [.t 58, .t 59], .op none none (.st 4 (.t 5) (.t 60))]
def v76_26 : VC := .seq (.block 2 v76_14) (.seq (.block 4 v76_20) (.seq (.reg v76_21) (.cond (.t 42) (.seq (.reg v76_22) (.reg v76_23)) (.seq (.reg v76_24) (.reg v76_25)))))
def v76_27 : VC := .seq (.seq (.reg v76_8) (.cond (.t 23) .skip (.exit 0))) (.block 1 v76_26)
def v76_28 : VC := .loop v76_27
def v76_29 : List VI := [.op (some 61) none (.ld true 4 (.t 3)), .op (some 62) none (.ld true 4 (.t 7)), .op (some 63) none (.p (.eqa false [.i, .i, .i, .i] (.t 61) (.t 62)))]
def v76_30 : List VI := [.op (some 64) none (.ld true 4 (.t 5)), .op none none (.st 4 (.t 2) (.t 64))]
def v76_31 : List VI := [.op (some 65) none (.ld true 4 (.t 6)), .op none none (.st 4 (.t 2) (.t 65))]
def v76 : VC := .seq (.reg v76_0) (.seq (.seq (.reg v76_1) (.cond (.t 9) (.seq (.reg v76_2) .ret) .skip)) (.seq (.reg v76_3) (.seq (.reg v76_4) (.seq (.reg v76_5) (.seq (.reg v76_6) (.seq (.reg v76_7) (.seq (.block 0 v76_28) (.seq (.seq (.reg v76_29) (.cond (.t 63) (.seq (.reg v76_30) .ret) .skip)) (.seq (.reg v76_31) .ret)))))))))
def rr76 : List RV := [.m 2 true 4]
theorem code76 : (Tryz.f76.body).bind (cCode Tryz.prog) = some v76 := by kernel_rfl
theorem res76 : cRVs Tryz.prog (Tryz.f76.results.toList) = some rr76 := by kernel_rfl
theorem nt76 : Tryz.f76.ntmps = 66 := by kernel_rfl
theorem nm76 : (Tryz.f76.name == "runtime.NumGoroutine") = false := by kernel_rfl
def v77_0 : List VI := [.op (some 4) none (.box (.t 0)), .op (some 6) none (.box (.t 2)), .op (some 8) none (.p (.mov (.c .nils)))]
def v77_1 : List VI := [.op (some 9) none (.p (.mov (.c .nils)))]
def v77_2 : List VI := [.op (some 10) none (.p (.mov (.c (.int .i64 0))))]
def v77_3 : List VI := [.op (some 11) none (.p (.mov (.t 10))), .op (some 12) none (.p (.mov (.t 1))), .op (some 13) none (.p (.len false (.t 12))), .op (some 14) none (.p (.bin .lss (.t 11) (.t 13)))]
def v77_4 : List DS := [.mk 0 true (.op (some 17) none (.p (.mov (.t 9)))) [] [], .mk 1 true (.op (some 18) none (.p (.mov (.t 1)))) [] [], .mk 2 true (.op (some 19) none (.p (.mov (.t 10)))) [] [], .mk 3 true (.op (some 20) none (.p (.ixs 26 (.t 18) (.t 19)))) [] [], .mk 4 true (.op (some 21) none (.ld true 26 (.t 20))) [] [], .mk 5 true (.op (some 22) none (.ld true 4 (.t 4))) [] [], .mk 7 true (.op (some 24) none (.p (.mov (.t 3)))) [] [], .mk 8 true (.op (some 25) none (.p (.mov (.t 10)))) [] [], .mk 9 true (.op (some 26) none (.p (.ixs 26 (.t 24) (.t 25)))) [] [], .mk 10 true (.op (some 27) none (.ld true 26 (.t 26))) [] [], .mk 11 true (.op (some 28) none (.ld true 4 (.t 6))) [] [], .mk 6 false (.call (some 23) none (.fn 35) [.t 21, .t 22]) [26, 6] [], .mk 12 false (.call (some 29) none (.fn 35) [.t 27, .t 28]) [] [], .mk 13 false (.call (some 30) none (.fn 36) [.t 23, .t 29]) [] [], .mk 14 true (.op (some 31) none (.bsl 1 [.int .i64 0, .int .i64 0, .int .i64 0, .int .i64 0, .int .i64 0, .int .i64 0, .int .i64 0, .int .i64 0, .int .i64 0, .int .i64 0, .int .i64 0, .int .i64 0, .int .i64 0, .int .i64 0, .int .i64 0, .int .i64 0, .int .i64 0, .int .i64 0, .int .i64 0, .int .i64 0, .int .i64 0, .int .u64 (nl 0), .int .u64 (nl 0), .int .u64 (nl 0), .int .u64 (nl 0), .nils] [(0, 26, .t 30)])) [] [], .mk 15 false (.op (some 32) none (.app 26 224 false (.t 17) (.t 31))) [] [], .mk 16 false (.op (some 9) none (.p (.mov (.t 32)))) [] []]
def v77_5 : VC := .drw v77_4
def v77_6 : List VI := [.op (some 15) none (.p (.mov (.t 10))), .op (some 16) none (.p (.bin .add (.t 15) (.c (.int .i64 1)))), .op (some 10) none (.p (.mov (.t 16)))]
def v77_7 : VC := .seq (.seq (.reg v77_3) (.cond (.t 14) .skip (.exit 0))) (.seq (.block 1 v77_5) (.reg v77_6))
def v77_8 : VC := .loop v77_7
def v77_9 : List VI := [.op (some 33) none (.p (.mov (.t 9))), .op (some 8) none (.p (.mov (.t 33)))]
def v77 : VC := .seq (.reg v77_0) (.seq (.reg v77_1) (.seq (.seq (.reg v77_2) (.block 0 v77_8)) (.seq (.reg v77_9) .ret)))
def rr77 : List RV := [.t 8]
theorem code77 : (Tryz.f77.body).bind (cCode Tryz.prog) = some v77 := by kernel_rfl
theorem res77 : cRVs Tryz.prog (Tryz.f77.results.toList) = some rr77 := by kernel_rfl
theorem nt77 : Tryz.f77.ntmps = 34 := by kernel_rfl
theorem nm77 : (Tryz.f77.name == "runtime.NumGoroutine") = false := by kernel_rfl
def v82_0 : List VI := [.op (some 2) none (.new [.int .u64 (nl 0), .int .u64 (nl 0), .int .u64 (nl 0), .int .u64 (nl 0)])]
def v82_1 : List VI := [.op (some 3) none (.p (.mov (.t 0))), .op (some 4) none (.p (.bld [.int .u64 (nl 0), .int .u64 (nl 0), .int .u64 (nl 0), .int .u64 (nl 0)] [(0, 1, .t 3), (1, 1, .c (.int .u64 (nl 0))), (2, 1, .c (.int .u64 (nl 0))), (3, 1, .c (.int .u64 (nl 0)))])), .op none none (.st 4 (.t 2) (.t 4))]
def v82 : VC := .seq (.reg v82_0) (.seq (.reg v82_1) .ret)
def rr82 : List RV := [.m 2 true 4]
theorem code82 : (Tryz.f82.body).bind (cCode Tryz.prog) = some v82 := by kernel_rfl
theorem res82 : cRVs Tryz.prog (Tryz.f82.results.toList) = some rr82 := by kernel_rfl
theorem nt82 : Tryz.f82.ntmps = 5 := by kernel_rfl
theorem nm82 : (Tryz.f82.name == "runtime.NumGoroutine") = false := by kernel_rfl
def v83_0 : List VI := [.op (some 1) none (.box (.t 0)), .op (some 2) none (.new [.int .u64 (nl 0), .int .u64 (nl 0), .int .u64 (nl 0), .int .u64 (nl 0)])]
def v83_1 : List VI := [.op (some 5) none (.ld true 4 (.t 1)), .call (some 6) none (.fn 33) [.t 5]]
def v83_2 : List VI := [.op (some 7) none (.ld true 4 (.t 1)), .op none none (.st 4 (.t 2) (.t 7))]
def v83_3 : List DS := [.mk 1 true (.op (some 10) none (.ld true 4 (.t 1))) [] [], .mk 6 true (.op (some 3) none (.new [.int .u64 (nl 0), .int .u64 (nl 0), .int .u64 (nl 0), .int .u64 (nl 0)])) [] [], .mk 0 false (.call (some 9) none (.fn 58) []) [1] [3], .mk 2 false (.call (some 11) none (.fn 59) [.t 9, .t 10]) [] [3], .mk 3 true (.op (some 8) none (.p (.mov (.t 11)))) [] [], .mk 4 true (.op (some 12) none (.p (.ext (.t 8) 0))) [] [], .mk 5 true (.op (some 13) none (.p (.ext (.t 8) 1))) [] [], .mk 7 false (.op none none (.st 4 (.t 3) (.t 12))) [] [], .mk 8 false (.op (some 4) none (.p (.mov (.t 13)))) [] []]
def v83_4 : List VI := [.op (some 14) none (.ld true 4 (.t 3)), .op none none (.st 4 (.t 2) (.t 14))]
def v83 : VC := .seq (.reg v83_0) (.seq (.seq (.reg v83_1) (.cond (.t 6) (.seq (.reg v83_2) .ret) .skip)) (.seq (.drw v83_3) (.seq (.reg v83_4) .ret)))
def rr83 : List RV := [.m 2 true 4]
theorem code83 : (Tryz.f83.body).bind (cCode Tryz.prog) = some v83 := by kernel_rfl
theorem res83 : cRVs Tryz.prog (Tryz.f83.results.toList) = some rr83 := by kernel_rfl
theorem nt83 : Tryz.f83.ntmps = 15 := by kernel_rfl
theorem nm83 : (Tryz.f83.name == "runtime.NumGoroutine") = false := by kernel_rfl
def v86_0 : List VI := [.op (some 8) none (.p (.mov (.c (.int .u64 (nl 0))))), .op (some 9) none (.p (.mov (.c (.int .u64 (nl 0)))))]
def v86_1 : List VI := [.op (some 14) none (.p (.mov (.t 0))), .op (some 15) none (.p (.mov (.t 1))), .call (some 16) none (.fn 62) [.t 14, .t 15], .op (some 13) none (.p (.mov (.t 16))), .op (some 17) none (.p (.ext (.t 13) 0)), .op (some 18) none (.p (.ext (.t 13) 1)), .op (some 10) none (.p (.mov (.t 17))), .op (some 11) none (.p (.mov (.t 18)))]
def v86_2 : List VI := [.op (some 20) none (.p (.mov (.t 11))), .op (some 21) none (.p (.mov (.t 2))), .call (some 22) none (.fn 63) [.t 20, .t 21, .c (.int .u64 (nl 0))], .op (some 19) none (.p (.mov (.t 22))), .op (some 23) none (.p (.ext (.t 19) 0)), .op (some 24) none (.p (.ext (.t 19) 1)), .op (some 11) none (.p (.mov (.t 23))), .op (some 12) none (.p (.mov (.t 24)))]
def v86_3 : List VI := [.op (some 25) none (.p (.mov (.t 10))), .op (some 26) none (.p (.mov (.t 12))), .op (some 27) none (.p (.bin .add (.t 25) (.t 26))), .op (some 10) none (.p (.mov (.t 27)))]
def v86_4 : List VI := [.op (some 29) none (.p (.mov (.t 11))), .op (some 30) none (.p (.mov (.t 3))), .call (some 31) none (.fn 63) [.t 29, .t 30, .c (.int .u64 (nl 0))], .op (some 28) none (.p (.mov (.t 31))), .op (some 32) none (.p (.ext (.t 28) 0)), .op (some 33) none (.p (.ext (.t 28) 1)), .op (some 11) none (.p (.mov (.t 32))), .op (some 12) none (.p (.mov (.t 33)))]
def v86_5 : List VI := [.op (some 34) none (.p (.mov (.t 11))), .op (some 35) none (.p (.mov (.t 10))), .op (some 36) none (.p (.mov (.t 12))), .op (some 37) none (.p (.bin .add (.t 35) (.t 36))), .op (some 8) none (.p (.mov (.t 34))), .op (some 9) none (.p (.mov (.t 37)))]
def v86 : VC := .seq (.reg v86_0) (.seq (.reg v86_1) (.seq (.reg v86_2) (.seq (.reg v86_3) (.seq (.reg v86_4) (.seq (.reg v86_5) .ret)))))
def rr86 : List RV := [.t 8, .t 9]
theorem code86 : (Tryz.f86.body).bind (cCode Tryz.prog) = some v86 := by kernel_rfl
theorem res86 : cRVs Tryz.prog (Tryz.f86.results.toList) = some rr86 := by kernel_rfl
theorem nt86 : Tryz.f86.ntmps = 38 := by kernel_rfl
theorem nm86 : (Tryz.f86.name == "runtime.NumGoroutine") = false := by kernel_rfl
def v98_0 : List VI := [.op (some 1) none (.box (.t 0)), .op (some 2) none (.new [.int .u64 (nl 0), .int .u64 (nl 0), .int .u64 (nl 0), .int .u64 (nl 0)])]
def v98_1 : List VI := [.op (some 6) none (.ld true 4 (.t 1)), .op (some 3) none (.new [.int .u64 (nl 0), .int .u64 (nl 0), .int .u64 (nl 0), .int .u64 (nl 0)]), .op none none (.st 4 (.t 3) (.t 6))]
def v98_2 : List VI := [.op (some 4) none (.p (.mov (.c (.int .u64 (nl 0)))))]
def v98_3 : List VI := [.op (some 7) none (.p (.ixa 4 1 (.t 3) (.c (.int .i64 0)))), .op (some 8) none (.ld false 1 (.t 7)), .op (some 9) none (.p (.bin .and (.t 8) (.c (.int .u64 (nl 1))))), .op (some 10) none (.p (.eq false .i (.t 9) (.c (.int .u64 (nl 1)))))]
def v98_4 : List DS := [.mk 0 true (.op (some 12) none (.ld true 4 (.t 3))) [] [], .mk 1 false (.call (some 13) none (.fn 58) []) [3] [], .mk 2 false (.call (some 14) none (.fn 60) [.t 12, .t 13]) [] [], .mk 3 true (.op (some 11) none (.p (.mov (.t 14)))) [] [], .mk 4 true (.op (some 15) none (.p (.ext (.t 11) 0))) [] [], .mk 5 true (.op (some 16) none (.p (.ext (.t 11) 1))) [] [], .mk 6 false (.op none none (.st 4 (.t 3) (.t 15))) [] [], .mk 7 false (.op (some 4) none (.p (.mov (.t 16)))) [] []]
def v98_5 : List VI := [.op (some 5) none (.p (.mov (.c (.int .i64 0))))]
def v98_6 : List VI := [.op (some 17) none (.p (.mov (.t 5))), .op (some 18) none (.p (.bin .lss (.t 17) (.c (.int .i64 3))))]
def v98_7 : List DS := [.mk 0 true (.op (some 21) none (.p (.mov (.t 5)))) [] [], .mk 1 true (.op (some 22) none (.p (.mov (.t 5)))) [] [], .mk 2 true (.op (some 23) none (.p (.ixa 4 1 (.t 3) (.t 22)))) [] [], .mk 3 true (.op (some 24) none (.ld false 1 (.t 23))) [] [], .mk 4 true (.op (some 25) none (.p (.bin .shr (.t 24) (.c (.int .u64 (nl 1)))))) [] [], .mk 5 true (.op (some 26) none (.p (.mov (.t 5)))) [] [], .mk 6 true (.op (some 27) none (.p (.bin .add (.t 26) (.c (.int .i64 1))))) [] [], .mk 7 true (.op (some 28) none (.p (.ixa 4 1 (.t 3) (.t 27)))) [] [], .mk 8 true (.op (some 29) none (.ld false 1 (.t 28))) [] [], .mk 9 true (.op (some 30) none (.p (.bin .shl (.t 29) (.c (.int .u64 (nl 63)))))) [] [], .mk 10 true (.op (some 31) none (.p (.bin .or (.t 25) (.t 30)))) [] [], .mk 11 true (.op (some 32) none (.p (.ixa 4 1 (.t 3) (.t 21)))) [] [], .mk 12 false (.op none none (.st 1 (.t 32) (.t 31))) [] []]
def v98_8 : VC := .drw v98_7
def v98_9 : List VI := [.op (some 19) none (.p (.mov (.t 5))), .op (some 20) none (.p (.bin .add (.t 19) (.c (.int .i64 1)))), .op (some 5) none (.p (.mov (.t 20)))]
def v98_10 : VC := .seq (.seq (.reg v98_6) (.cond (.t 18) .skip (.exit 0))) (.seq (.block 1 v98_8) (.reg v98_9))
def v98_11 : VC := .loop v98_10
def v98_12 : List VI := [.op (some 33) none (.p (.ixa 4 1 (.t 3) (.c (.int .i64 3)))), .op (some 34) none (.ld false 1 (.t 33)), .op (some 35) none (.p (.bin .shr (.t 34) (.c (.int .u64 (nl 1))))), .op (some 36) none (.p (.mov (.t 4))), .op (some 37) none (.p (.bin .shl (.t 36) (.c (.int .u64 (nl 63))))), .op (some 38) none (.p (.bin .or (.t 35) (.t 37))), .op (some 39) none (.p (.ixa 4 1 (.t 3) (.c (.int .i64 3)))), .op none none (.st 1 (.t 39) (.t 38))]
def v98_13 : List VI := [.op (some 40) none (.ld true 4 (.t 3)), .op none none (.st 4 (.t 2) (.t 40))]
def v98 : VC := .seq (.reg v98_0) (.seq (.reg v98_1) (.seq (.reg v98_2) (.seq (.seq (.reg v98_3) (.cond (.t 10) (.drw v98_4) .skip)) (.seq (.seq (.reg v98_5) (.block 0 v98_11)) (.seq (.reg v98_12) (.seq (.reg v98_13) .ret))))))
def rr98 : List RV := [.m 2 true 4]
theorem code98 : (Tryz.f98.body).bind (cCode Tryz.prog) = some v98 := by kernel_rfl
theorem res98 : cRVs Tryz.prog (Tryz.f98.results.toList) = some rr98 := by kernel_rfl
theorem nt98 : Tryz.f98.ntmps = 41 := by kernel_rfl
theorem nm98 : (Tryz.f98.name == "runtime.NumGoroutine") = false := by kernel_rfl
def v99_0 : List VI := [.op (some 2) none (.box (.t 0)), .op (some 3) none (.box (.t 1)), .op (some 4) none (.new [.int .u64 (nl 0), .int .u64 (nl 0), .int .u64 (nl 0), .int .u64 (nl 0)])]
def v99_1 : List DS := [.mk 0 true (.op (some 5) none (.ld true 4 (.t 2))) [] [], .mk 1 true (.op (some 6) none (.ld true 4 (.t 3))) [] [], .mk 2 false (.call (some 7) none (.fn 83) [.t 6]) [2] [], .mk 3 false (.call (some 8) none (.fn 53) [.t 5, .t 7]) [] [], .mk 4 false (.op none none (.st 4 (.t 4) (.t 8))) [] []]
def v99 : VC := .seq (.reg v99_0) (.seq (.drw v99_1) .ret)
def rr99 : List RV := [.m 4 true 4]
theorem code99 : (Tryz.f99.body).bind (cCode Tryz.prog) = some v99 := by kernel_rfl
theorem res99 : cRVs Tryz.prog (Tryz.f99.results.toList) = some rr99 := by kernel_rfl
theorem nt99 : Tryz.f99.ntmps = 9 := by kernel_rfl
theorem nm99 : (Tryz.f99.name == "runtime.NumGoroutine") = false := by kernel_rfl
def v156_0 : List VI := [.op (some 2) none (.box (.t 0)), .op (some 3) none (.box (.t 1)), .op (some 4) none (.new [.int .u64 (nl 0), .int .u64 (nl 0), .int .u64 (nl 0), .int .u64 (nl 0)])]
def v156_1 : List DS := [.mk 0 true (.op (some 8) none (.ld true 4 (.t 2))) [] [], .mk 2 true (.op (some 10) none (.ld true 4 (.t 3))) [] [], .mk 8 true (.op (some 5) none (.new [.int .u64 (nl 0), .int .u64 (nl 0), .int .u64 (nl 0), .int .u64 (nl 0)])) [] [], .mk 1 false (.call (some 9) none (.fn 42) [.t 8]) [3] [5], .mk 3 false (.call (some 11) none (.fn 42) [.t 10]) [] [5], .mk 4 false (.call (some 12) none (.fn 65) [.t 9, .t 11]) [] [5], .mk 5 true (.op (some 7) none (.p (.mov (.t 12)))) [] [], .mk 6 true (.op (some 13) none (.p (.ext (.t 7) 0))) [] [], .mk 7 true (.op (some 14) none (.p (.ext (.t 7) 1))) [] [], .mk 9 false (.op none none (.st 4 (.t 5) (.t 13))) [] [], .mk 10 false (.op (some 6) none (.p (.mov (.t 14)))) [] []]
def v156_2 : List VI := [.op (some 15) none (.ld true 4 (.t 5)), .call (some 16) none (.fn 66) [.t 15], .op none none (.st 4 (.t 4) (.t 16))]
def v156 : VC := .seq (.reg v156_0) (.seq (.drw v156_1) (.seq (.reg v156_2) .ret))
def rr156 : List RV := [.m 4 true 4]
theorem code156 : (Tryz.f156.body).bind (cCode Tryz.prog) = some v156 := by kernel_rfl
theorem res156 : cRVs Tryz.prog (Tryz.f156.results.toList) = some rr156 := by kernel_rfl
theorem nt156 : Tryz.f156.ntmps = 17 := by kernel_rfl
theorem nm156 : (Tryz.f156.name == "runtime.NumGoroutine") = false := by kernel_rfl
def v157_0 : List VI := [.op (some 2) none (.box (.t 0)), .op (some 3) none (.box (.t 1)), .op (some 4) none (.p (.mov (.c (.bool false))))]
def v157_1 : List DS := [.mk 0 true (.op (some 5) none (.ld true 4 (.t 2))) [] [], .mk 2 true (.op (some 7) none (.ld true 4 (.t 3))) [] [], .mk 1 false (.call (some 6) none (.fn 42) [.t 5]) [3] [], .mk 3 false (.call (some 8) none (.fn 42) [.t 7]) [] [], .mk 4 true (.op (some 9) none (.p (.eqa false [.i, .i, .i, .i] (.t 6) (.t 8)))) [] [], .mk 5 false (.op (some 4) none (.p (.mov (.t 9)))) [] []]
def v157 : VC := .seq (.reg v157_0) (.seq (.drw v157_1) .ret)
def rr157 : List RV := [.t 4]
theorem code157 : (Tryz.f157.body).bind (cCode Tryz.prog) = some v157 := by kernel_rfl
theorem res157 : cRVs Tryz.prog (Tryz.f157.results.toList) = some rr157 := by kernel_rfl
theorem nt157 : Tryz.f157.ntmps = 10 := by kernel_rfl
theorem nm157 : (Tryz.f157.name == "runtime.NumGoroutine") = false := by kernel_rfl
def v158_0 : List VI := [.op (some 2) none (.box (.t 0)), .op (some 3) none (.box (.t 1)), .op (some 4) none (.new [.int .u64 (nl 0), .int .u64 (nl 0), .int .u64 (nl 0), .int .u64 (nl 0)])]
def v158_1 : List VI := [.op (some 5) none (.p (.fda 0 (.t 2))), .op (some 6) none (.ld true 4 (.t 5)), .op (some 7) none (.p (.fda 0 (.t 3))), .op (some 8) none (.ld true 4 (.t 7)), .call (some 9) none (.fn 156) [.t 6, .t 8], .op (some 10) none (.p (.bld [.int .u64 (nl 0), .int .u64 (nl 0), .int .u64 (nl 0), .int .u64 (nl 0)] [(0, 4, .t 9)])), .op none none (.st 4 (.t 4) (.t 10))]
def v158 : VC := .seq (.reg v158_0) (.seq (.reg v158_1) .ret)
def rr158 : List RV := [.m 4 true 4]
theorem code158 : (Tryz.f158.body).bind (cCode Tryz.prog) = some v158 := by kernel_rfl
theorem res158 : cRVs Tryz.prog (Tryz.f158.results.toList) = some rr158 := by kernel_rfl
theorem nt158 : Tryz.f158.ntmps = 11 := by kernel_rfl
theorem nm158 : (Tryz.f158.name == "runtime.NumGoroutine") = false := by kernel_rfl
def v160_0 : List VI := [.op (some 2) none (.box (.t 0)), .op (some 3) none (.box (.t 1)), .op (some 4) none (.p (.mov (.c (.bool false))))]
def v160_1 : List VI := [.op (some 5) none (.p (.fda 0 (.t 2))), .op (some 6) none (.ld true 4 (.t 5)), .op (some 7) none (.p (.fda 0 (.t 3))), .op (some 8) none (.ld true 4 (.t 7)), .call (some 9) none (.fn 157) [.t 6, .t 8], .op (some 4) none (.p (.mov (.t 9)))]
def v160 : VC := .seq (.reg v160_0) (.seq (.reg v160_1) .ret)
def rr160 : List RV := [.t 4]
theorem code160 : (Tryz.f160.body).bind (cCode Tryz.prog) = some v160 := by kernel_rfl
theorem res160 : cRVs Tryz.prog (Tryz.f160.results.toList) = some rr160 := by kernel_rfl
theorem nt160 : Tryz.f160.ntmps = 10 := by kernel_rfl
theorem nm160 : (Tryz.f160.name == "runtime.NumGoroutine") = false := by kernel_rfl
def v161_0 : List VI := [.op (some 2) none (.box (.t 0)), .op (some 3) none (.box (.t 1)), .op (some 4) none (.new [.int .u64 (nl 0), .int .u64 (nl 0), .int .u64 (nl 0), .int .u64 (nl 0)])]
def v161_1 : List VI := [.op (some 5) none (.p (.fda 0 (.t 2))), .op (some 6) none (.ld true 4 (.t 5)), .op (some 7) none (.ld true 4 (.t 3)), .call (some 8) none (.fn 44) [.t 6, .t 7], .op (some 9) none (.p (.bld [.int .u64 (nl 0), .int .u64 (nl 0), .int .u64 (nl 0), .int .u64 (nl 0)] [(0, 4, .t 8)])), .op none none (.st 4 (.t 4) (.t 9))]
def v161 : VC := .seq (.reg v161_0) (.seq (.reg v161_1) .ret)
def rr161 : List RV := [.m 4 true 4]
theorem code161 : (Tryz.f161.body).bind (cCode Tryz.prog) = some v161 := by kernel_rfl
theorem res161 : cRVs Tryz.prog (Tryz.f161.results.toList) = some rr161 := by kernel_rfl
theorem nt161 : Tryz.f161.ntmps = 10 := by kernel_rfl
theorem nm161 : (Tryz.f161.name == "runtime.NumGoroutine") = false := by kernel_rfl
end Go.Vs.Tryz

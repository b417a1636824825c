/- Text 3 of 7 of this claim: a machine of plain values beside the model, what the functions of the program and of the reference answer over it, and last the row and its card. -/
import Derived.Test.YtebekndmhgmfbaaDoorK2
import Derived.Test.YtebekndmhgmfbaaDoorProg
import Derived.KernelRfl
set_option linter.unusedVariables false
set_option linter.unusedSimpArgs false
set_option maxRecDepth 1000000
namespace Go.Vs.Tryd
open Go.Proofs
def v3_0 : List VI := [.op (some 1) none (.box (.t 0)), .op (some 2) none (.p (.mov (.c (.bool false))))]
def v3_1 : List VI := [.op (some 14) none (.ld true 26 (.t 1)), .call (some 15) none (.fn 7) [.t 14], .op (some 13) none (.p (.mov (.t 15))), .op (some 16) none (.p (.ext (.t 13) 0)), .op (some 17) none (.p (.ext (.t 13) 1)), .op (some 3) none (.new [.int .u64 (nl 0), .int .u64 (nl 0), .int .u64 (nl 0), .int .u64 (nl 0), .int .u64 (nl 0), .int .u64 (nl 0), .int .u64 (nl 0), .int .u64 (nl 0), .nils, .nils]), .op (some 4) none (.new [.int .i64 0, .int .i64 0, .int .i64 0, .int .i64 0, .int .i64 0, .int .i64 0, .int .i64 0, .int .i64 0, .int .i64 0, .int .i64 0, .int .i64 0, .int .i64 0, .int .i64 0, .int .i64 0, .int .i64 0, .int .i64 0, .int .i64 0, .int .i64 0, .int .i64 0, .int .i64 0, .int .i64 0, .int .u64 (nl 0), .int .u64 (nl 0), .int .u64 (nl 0), .int .u64 (nl 0), .nils, .int .i64 0, .int .i64 0, .int .i64 0, .int .i64 0, .int .i64 0, .int .i64 0, .int .i64 0, .int .i64 0, .int .i64 0, .int .i64 0, .int .i64 0, .int .i64 0, .int .i64 0, .int .i64 0, .int .i64 0, .int .i64 0, .int .i64 0, .int .i64 0, .int .i64 0, .int .i64 0, .int .i64 0, .int .u64 (nl 0), .int .u64 (nl 0), .int .u64 (nl 0), .int .u64 (nl 0), .nils, .nils, .nils]), .op none none (.st 10 (.t 3) (.t 16)), .op none none (.st 54 (.t 4) (.t 17))]
def v3_2 : List VI := [.op (some 19) none (.ld true 26 (.t 1)), .call (some 20) none (.fn 8) [.t 19], .op (some 18) none (.p (.mov (.t 20))), .op (some 21) none (.p (.ext (.t 18) 0)), .op (some 22) none (.p (.ext (.t 18) 1)), .op (some 5) none (.new [.nils, .nils, .int .u64 (nl 0), .int .u64 (nl 0), .int .u64 (nl 0), .int .u64 (nl 0), .int .u64 (nl 0), .int .u64 (nl 0), .int .u64 (nl 0), .int .u64 (nl 0)]), .op (some 6) none (.new [.nils, .nils, .int .u64 (nl 0), .int .u64 (nl 0), .int .u64 (nl 0), .int .u64 (nl 0), .int .u64 (nl 0), .int .u64 (nl 0), .int .u64 (nl 0), .int .u64 (nl 0)]), .op none none (.st 10 (.t 5) (.t 21)), .op none none (.st 10 (.t 6) (.t 22))]
def v3_3 : List DS := [.mk 0 true (.op (some 24) none (.ld true 10 (.t 3))) [] [], .mk 1 true (.op (some 25) none (.ld true 10 (.t 5))) [] [], .mk 2 true (.op (some 26) none (.p (.fda 23 (.t 1)))) [] [], .mk 3 true (.op (some 27) none (.ld false 1 (.t 26))) [] [], .mk 4 false (.call (some 28) none (.fn 10) [.t 27]) [3, 5] [], .mk 5 false (.call (some 29) none (.fn 9) [.t 24, .t 25, .t 28]) [] [], .mk 6 true (.op (some 23) none (.p (.mov (.t 29)))) [] [], .mk 7 true (.op (some 30) none (.p (.ext (.t 23) 0))) [] [], .mk 8 true (.op (some 31) none (.p (.ext (.t 23) 1))) [] [], .mk 9 false (.op (some 7) none (.p (.mov (.t 30)))) [] [], .mk 10 false (.op (some 8) none (.p (.mov (.t 31)))) [] []]
def v3_4 : List VI := [.op (some 32) none (.p (.fda 23 (.t 1))), .op (some 33) none (.ld false 1 (.t 32)), .call (some 34) none (.fn 11) [.t 33], .op (some 9) none (.p (.mov (.t 34)))]
def v3_5 : List VI := [.op (some 35) none (.ld true 54 (.t 4)), .op (some 36) none (.ld true 10 (.t 6)), .op (some 37) none (.p (.mov (.t 9))), .call (some 38) none (.fn 12) [.t 35, .t 36, .t 37], .op (some 10) none (.p (.mov (.t 38)))]
def v3_6 : List VI := [.op (some 39) none (.p (.mov (.t 8))), .op (some 40) none (.p (.mov (.t 10))), .op (some 41) none (.p (.eq true .i (.t 39) (.t 40)))]
def v3_7 : List VI := [.op (some 2) none (.p (.mov (.c (.bool false))))]
def v3_8 : List VI := [.op (some 42) none (.p (.mov (.t 8))), .op (some 43) none (.p (.eq true .i (.t 42) (.c (.int .i64 0))))]
def v3_9 : List VI := [.op (some 44) none (.p (.mov (.t 7))), .op (some 45) none (.p (.len false (.t 44))), .op (some 46) none (.p (.eq false .i (.t 45) (.c (.int .i64 0)))), .op (some 2) none (.p (.mov (.t 46)))]
def v3_10 : List VI := [.op (some 47) none (.p (.mov (.t 7))), .op (some 48) none (.p (.len false (.t 47))), .op (some 49) none (.p (.fda 52 (.t 4))), .op (some 50) none (.ld false 1 (.t 49)), .op (some 51) none (.p (.len false (.t 50))), .op (some 52) none (.p (.bin .mul (.c (.int .i64 2)) (.t 51))), .op (some 53) none (.p (.mov (.t 9))), .op (some 54) none (.p (.len false (.t 53))), .op (some 55) none (.p (.bin .mul (.c (.int .i64 2)) (.t 54))), .op (some 56) none (.p (.bin .add (.t 52) (.t 55))), .op (some 57) none (.p (.bin .add (.t 56) (.c (.int .i64 2)))), .op (some 58) none (.p (.bin .gtr (.t 48) (.t 57)))]
def v3_11 : List VI := [.op (some 2) none (.p (.mov (.c (.bool false))))]
def v3_12 : List VI := [.op (some 59) none (.p (.bld [.int .u64 (nl 0), .int .u64 (nl 0), .int .u64 (nl 0), .int .u64 (nl 0)] [])), .op (some 11) none (.new [.int .u64 (nl 0), .int .u64 (nl 0), .int .u64 (nl 0), .int .u64 (nl 0)]), .op none none (.st 4 (.t 11) (.t 59))]
def v3_13 : List VI := [.op (some 12) none (.p (.mov (.c (.int .i64 0))))]
def v3_14 : List VI := [.op (some 60) none (.p (.mov (.t 12))), .op (some 61) none (.p (.mov (.t 7))), .op (some 62) none (.p (.len false (.t 61))), .op (some 63) none (.p (.bin .lss (.t 60) (.t 62)))]
def v3_15 : List DS := [.mk 0 true (.op (some 66) none (.ld true 4 (.t 11))) [] [], .mk 1 true (.op (some 67) none (.p (.mov (.t 7)))) [] [], .mk 2 true (.op (some 68) none (.p (.mov (.t 12)))) [] [], .mk 3 true (.op (some 69) none (.p (.ixs 8 (.t 67) (.t 68)))) [] [], .mk 4 true (.op (some 70) none (.p (.fda 0 (.t 69)))) [] [], .mk 5 true (.op (some 71) none (.ld true 4 (.t 70))) [] [], .mk 7 true (.op (some 73) none (.p (.mov (.t 7)))) [] [], .mk 8 true (.op (some 74) none (.p (.mov (.t 12)))) [] [], .mk 9 true (.op (some 75) none (.p (.ixs 8 (.t 73) (.t 74)))) [] [], .mk 10 true (.op (some 76) none (.p (.fda 4 (.t 75)))) [] [], .mk 11 true (.op (some 77) none (.p (.fda 0 (.t 76)))) [] [], .mk 12 true (.op (some 78) none (.ld true 4 (.t 77))) [] [], .mk 6 false (.call (some 72) none (.fn 14) [.t 71]) [11, 77] [], .mk 13 false (.call (some 79) none (.fn 14) [.t 78]) [11] [], .mk 14 false (.call (some 80) none (.fn 15) [.t 72, .t 79]) [11] [], .mk 15 false (.call (some 81) none (.fn 13) [.t 66, .t 80]) [] [], .mk 16 false (.op none none (.st 4 (.t 11) (.t 81))) [] []]
def v3_16 : VC := .drw v3_15
def v3_17 : List VI := [.op (some 64) none (.p (.mov (.t 12))), .op (some 65) none (.p (.bin .add (.t 64) (.c (.int .i64 1)))), .op (some 12) none (.p (.mov (.t 65)))]
def v3_18 : VC := .seq (.seq (.reg v3_14) (.cond (.t 63) .skip (.exit 0))) (.seq (.block 1 v3_16) (.reg v3_17))
def v3_19 : VC := .loop v3_18
def v3_20 : List DS := [.mk 0 true (.op (some 82) none (.ld true 4 (.t 11))) [] [], .mk 2 true (.op (some 84) none (.ld true 54 (.t 4))) [] [], .mk 3 true (.op (some 85) none (.ld true 10 (.t 6))) [] [], .mk 4 true (.op (some 86) none (.p (.mov (.t 9)))) [] [], .mk 1 false (.call (some 83) none (.fn 16) [.t 82]) [4, 6] [], .mk 5 false (.call (some 87) none (.fn 18) [.t 84, .t 85, .t 86]) [] [], .mk 6 false (.call (some 88) none (.fn 17) [.t 83, .t 87]) [] [], .mk 7 false (.op (some 2) none (.p (.mov (.t 88)))) [] []]
def v3 : VC := .seq (.reg v3_0) (.seq (.reg v3_1) (.seq (.reg v3_2) (.seq (.drw v3_3) (.seq (.reg v3_4) (.seq (.reg v3_5) (.seq (.seq (.reg v3_6) (.cond (.t 41) (.seq (.reg v3_7) .ret) .skip)) (.seq (.seq (.reg v3_8) (.cond (.t 43) (.seq (.reg v3_9) .ret) .skip)) (.seq (.seq (.reg v3_10) (.cond (.t 58) (.seq (.reg v3_11) .ret) .skip)) (.seq (.reg v3_12) (.seq (.seq (.reg v3_13) (.block 0 v3_19)) (.seq (.drw v3_20) .ret)))))))))))
def rr3 : List RV := [.t 2]
theorem code3 : (Tryd.f3.body).bind (cCode Tryd.prog) = some v3 := by kernel_rfl
theorem res3 : cRVs Tryd.prog (Tryd.f3.results.toList) = some rr3 := by kernel_rfl
theorem nt3 : Tryd.f3.ntmps = 89 := by kernel_rfl
theorem nm3 : (Tryd.f3.name == "runtime.NumGoroutine") = false := by kernel_rfl
def v6_0 : List VI := [.op (some 1) none (.box (.t 0)), .op (some 2) none (.p (.mov (.c (.bool false))))]
def v6_1 : List VI := [.op (some 24) none (.p (.fda 8 (.t 1))), .op (some 25) none (.ld false 1 (.t 24)), .op (some 26) none (.p (.len false (.t 25))), .call (some 27) none (.fn 32) [.t 26, .c (.int .i64 8)], .op (some 3) none (.p (.mov (.t 27)))]
def v6_2 : List VI := [.op (some 28) none (.p (.mov (.t 3))), .op (some 29) none (.p (.bin .lss (.t 28) (.c (.int .i64 2))))]
def v6_3 : List VI := [.op (some 3) none (.p (.mov (.c (.int .i64 2))))]
def v6_4 : List VI := [.op (some 30) none (.p (.fda 8 (.t 1))), .op (some 31) none (.ld false 1 (.t 30)), .op (some 32) none (.p (.mov (.t 3))), .call (some 33) none (.fn 25) [.t 31, .t 32], .call (some 34) none (.fn 26) [.t 33], .op (some 4) none (.p (.mov (.t 34)))]
def v6_5 : List VI := [.op (some 35) none (.p (.fda 9 (.t 1))), .op (some 36) none (.ld false 1 (.t 35)), .op (some 37) none (.p (.mov (.t 3))), .call (some 38) none (.fn 25) [.t 36, .t 37], .call (some 39) none (.fn 26) [.t 38], .op (some 5) none (.p (.mov (.t 39)))]
def v6_6 : List DS := [.mk 0 true (.op (some 40) none (.p (.fda 4 (.t 1)))) [] [], .mk 1 true (.op (some 41) none (.ld true 4 (.t 40))) [] [], .mk 3 true (.op (some 43) none (.p (.fda 0 (.t 1)))) [] [], .mk 4 true (.op (some 44) none (.ld true 4 (.t 43))) [] [], .mk 6 true (.op (some 46) none (.p (.mov (.t 4)))) [] [], .mk 7 true (.op (some 47) none (.p (.mov (.t 5)))) [] [], .mk 9 true (.op (some 6) none (.new [.int .u64 (nl 0), .int .u64 (nl 0), .int .u64 (nl 0), .int .u64 (nl 0), .int .u64 (nl 0), .int .u64 (nl 0), .int .u64 (nl 0), .int .u64 (nl 0), .nils, .nils])) [] [], .mk 2 false (.call (some 42) none (.fn 22) [.t 41]) [43] [6], .mk 5 false (.call (some 45) none (.fn 22) [.t 44]) [] [6], .mk 8 true (.op (some 48) none (.p (.bld [.int .u64 (nl 0), .int .u64 (nl 0), .int .u64 (nl 0), .int .u64 (nl 0), .int .u64 (nl 0), .int .u64 (nl 0), .int .u64 (nl 0), .int .u64 (nl 0), .nils, .nils] [(0, 4, .t 42), (4, 4, .t 45), (8, 1, .t 46), (9, 1, .t 47)]))) [] [], .mk 10 false (.op none none (.st 10 (.t 6) (.t 48))) [] []]
def v6_7 : List VI := [.op (some 49) none (.p (.fda 12 (.t 1))), .op (some 50) none (.ld false 1 (.t 49)), .call (some 51) none (.fn 25) [.t 50, .c (.int .i64 1)], .call (some 52) none (.fn 26) [.t 51], .op (some 53) none (.p (.ixs 4 (.t 52) (.c (.int .i64 0)))), .op (some 54) none (.ld true 4 (.t 53)), .op (some 7) none (.new [.int .u64 (nl 0), .int .u64 (nl 0), .int .u64 (nl 0), .int .u64 (nl 0)]), .op none none (.st 4 (.t 7) (.t 54))]
def v6_8 : List VI := [.op (some 55) none (.p (.fda 13 (.t 1))), .op (some 56) none (.ld false 1 (.t 55)), .call (some 57) none (.fn 25) [.t 56, .c (.int .i64 1)], .call (some 58) none (.fn 26) [.t 57], .op (some 59) none (.p (.ixs 4 (.t 58) (.c (.int .i64 0)))), .op (some 60) none (.ld true 4 (.t 59)), .op (some 8) none (.new [.int .u64 (nl 0), .int .u64 (nl 0), .int .u64 (nl 0), .int .u64 (nl 0)]), .op none none (.st 4 (.t 8) (.t 60))]
def v6_9 : List VI := [.op (some 61) none (.p (.fda 23 (.t 1))), .op (some 62) none (.ld false 1 (.t 61)), .call (some 63) none (.fn 33) [.t 62], .op (some 9) none (.p (.mov (.t 63)))]
def v6_10 : List VI := [.op (some 10) none (.p (.mov (.c .nils)))]
def v6_11 : List VI := [.op (some 11) none (.p (.mov (.c (.int .i64 0))))]
def v6_12 : List VI := [.op (some 64) none (.p (.mov (.t 11))), .op (some 65) none (.p (.bin .lss (.t 64) (.c (.int .i64 4))))]
def v6_13 : List VI := [.op (some 68) none (.p (.fda 10 (.t 1))), .op (some 69) none (.ld false 1 (.t 68)), .op (some 70) none (.p (.mov (.t 3))), .call (some 71) none (.fn 25) [.t 69, .t 70], .op (some 12) none (.p (.mov (.t 71)))]
def v6_14 : List DS := [.mk 0 true (.op (some 73) none (.ld true 10 (.t 6))) [] [], .mk 1 true (.op (some 74) none (.ld true 4 (.t 7))) [] [], .mk 2 true (.op (some 75) none (.ld true 4 (.t 8))) [] [], .mk 3 true (.op (some 76) none (.p (.mov (.t 9)))) [] [], .mk 4 true (.op (some 77) none (.p (.mov (.t 11)))) [] [], .mk 5 true (.op (some 78) none (.p (.ixs 4 (.t 76) (.t 77)))) [] [], .mk 6 true (.op (some 79) none (.ld true 4 (.t 78))) [] [], .mk 7 true (.op (some 80) none (.p (.mov (.t 12)))) [] [], .mk 8 true (.op (some 81) none (.p (.mov (.t 3)))) [] [], .mk 9 true (.op (some 82) none (.p (.bin .quo (.t 81) (.c (.int .i64 2))))) [] [], .mk 10 true (.op (some 83) none (.slx 4 (.t 80) none (some (.t 82)) none)) [] [], .mk 11 true (.op (some 84) none (.p (.fda 11 (.t 1)))) [] [], .mk 12 true (.op (some 85) none (.ld false 1 (.t 84))) [] [], .mk 13 true (.op (some 86) none (.p (.mov (.t 3)))) [] [], .mk 15 true (.op (some 88) none (.p (.mov (.t 3)))) [] [], .mk 16 true (.op (some 89) none (.p (.bin .quo (.t 88) (.c (.int .i64 2))))) [] [], .mk 22 true (.op (some 13) none (.new [.int .u64 (nl 0), .int .u64 (nl 0), .int .u64 (nl 0), .int .u64 (nl 0), .nils, .nils])) [] [], .mk 14 false (.call (some 87) none (.fn 25) [.t 85, .t 86]) [6, 7, 8, 78, 80] [13], .mk 17 true (.op (some 90) none (.slx 4 (.t 87) (some (.t 89)) none none)) [] [], .mk 18 false (.call (some 91) none (.fn 34) [.t 73, .t 74, .t 75, .t 79, .t 83, .t 90]) [] [13], .mk 19 true (.op (some 72) none (.p (.mov (.t 91)))) [] [], .mk 20 true (.op (some 92) none (.p (.ext (.t 72) 0))) [] [], .mk 21 true (.op (some 93) none (.p (.ext (.t 72) 1))) [] [], .mk 23 false (.op none none (.st 6 (.t 13) (.t 92))) [] [], .mk 24 false (.op (some 14) none (.p (.mov (.t 93)))) [] []]
def v6_15 : List VI := [.op (some 94) none (.p (.mov (.t 14))), .op (some 95) none (.p (.un .not (.t 94)))]
def v6_16 : List VI := [.op (some 2) none (.p (.mov (.c (.bool true))))]
def v6_17 : List VI := [.op (some 96) none (.p (.mov (.t 10))), .op (some 97) none (.ld true 6 (.t 13)), .op (some 98) none (.bsl 1 [.int .u64 (nl 0), .int .u64 (nl 0), .int .u64 (nl 0), .int .u64 (nl 0), .nils, .nils] [(0, 6, .t 97)]), .op (some 99) none (.app 6 80 false (.t 96) (.t 98)), .op (some 10) none (.p (.mov (.t 99)))]
def v6_18 : VC := .seq (.reg v6_13) (.seq (.drw v6_14) (.seq (.seq (.reg v6_15) (.cond (.t 95) (.seq (.reg v6_16) .ret) .skip)) (.reg v6_17)))
def v6_19 : List VI := [.op (some 66) none (.p (.mov (.t 11))), .op (some 67) none (.p (.bin .add (.t 66) (.c (.int .i64 1)))), .op (some 11) none (.p (.mov (.t 67)))]
def v6_20 : VC := .seq (.seq (.reg v6_12) (.cond (.t 65) .skip (.exit 0))) (.seq (.block 1 v6_18) (.reg v6_19))
def v6_21 : VC := .loop v6_20
def v6_22 : List VI := [.op (some 101) none (.ld true 10 (.t 6)), .op (some 102) none (.ld true 4 (.t 7)), .op (some 103) none (.ld true 4 (.t 8)), .op (some 104) none (.p (.mov (.t 10))), .call (some 105) none (.fn 35) [.t 101, .t 102, .t 103, .t 104], .op (some 100) none (.p (.mov (.t 105))), .op (some 106) none (.p (.ext (.t 100) 0)), .op (some 107) none (.p (.ext (.t 100) 1)), .op (some 108) none (.p (.ext (.t 100) 2)), .op (some 109) none (.p (.ext (.t 100) 3)), .op (some 15) none (.p (.mov (.t 106))), .op (some 16) none (.p (.mov (.t 107))), .op (some 17) none (.p (.mov (.t 108))), .op (some 18) none (.p (.mov (.t 109)))]
def v6_23 : List VI := [.op (some 110) none (.p (.mov (.t 18))), .op (some 111) none (.p (.eq true .i (.t 110) (.c (.int .i64 0))))]
def v6_24 : List VI := [.op (some 2) none (.p (.mov (.c (.bool false))))]
def v6_25 : List VI := [.op (some 112) none (.p (.mov (.t 17))), .op (some 113) none (.p (.len false (.t 112))), .op (some 114) none (.p (.eq false .i (.t 113) (.c (.int .i64 0))))]
def v6_26 : List VI := [.op (some 116) none (.p (.fda 4 (.t 6))), .op (some 117) none (.ld true 4 (.t 116)), .op (some 118) none (.p (.mov (.t 4))), .op (some 119) none (.p (.mov (.t 5))), .op (some 120) none (.p (.mov (.t 15))), .op (some 121) none (.p (.mov (.t 16))), .call (some 122) none (.fn 36) [.t 117, .t 118, .t 119, .t 120, .t 121], .op (some 115) none (.p (.mov (.t 122))), .op (some 123) none (.p (.ext (.t 115) 0)), .op (some 124) none (.p (.ext (.t 115) 1)), .op (some 19) none (.new [.int .u64 (nl 0), .int .u64 (nl 0), .int .u64 (nl 0), .int .u64 (nl 0)]), .op none none (.st 4 (.t 19) (.t 123)), .op (some 20) none (.p (.mov (.t 124)))]
def v6_27 : List VI := [.op (some 125) none (.p (.mov (.t 20))), .op (some 126) none (.p (.eq false .i (.t 125) (.c (.int .i64 0)))), .op (some 127) none (.p (.mov (.t 126))), .op (some 128) (some (127, true)) (.ld true 4 (.t 19)), .op (some 129) (some (127, true)) (.p (.fda 0 (.t 6))), .op (some 130) (some (127, true)) (.ld true 4 (.t 129)), .call (some 131) (some (127, true)) (.fn 37) [.t 128, .t 130], .op (some 132) none (.p (.pick (.t 127) (.t 131) (.c (.bool false)))), .op (some 2) none (.p (.mov (.t 132)))]
def v6_28 : List VI := [.op (some 133) none (.p (.mov (.t 15))), .op (some 134) none (.p (.len false (.t 133))), .op (some 135) none (.p (.eq true .i (.t 134) (.c (.int .i64 0)))), .op (some 136) none (.p (.mov (.t 135))), .op (some 137) (some (136, false)) (.p (.mov (.t 16))), .op (some 138) (some (136, false)) (.p (.len false (.t 137))), .op (some 139) (some (136, false)) (.p (.eq true .i (.t 138) (.c (.int .i64 0)))), .op (some 140) none (.p (.pick (.t 136) (.c (.bool true)) (.t 139))), .op (some 141) none (.p (.mov (.t 140))), .op (some 142) (some (141, false)) (.p (.mov (.t 17))), .op (some 143) (some (141, false)) (.p (.len false (.t 142))), .op (some 144) (some (141, false)) (.p (.mov (.t 3))), .op (some 145) (some (141, false)) (.p (.bin .mul (.c (.int .i64 2)) (.t 144))), .op (some 146) (some (141, false)) (.p (.bin .add (.c (.int .i64 1)) (.t 145))), .op (some 147) (some (141, false)) (.p (.eq true .i (.t 143) (.t 146))), .op (some 148) none (.p (.pick (.t 141) (.c (.bool true)) (.t 147)))]
def v6_29 : List VI := [.op (some 2) none (.p (.mov (.c (.bool false))))]
def v6_30 : List DS := [.mk 0 true (.op (some 149) none (.p (.fda 4 (.t 6)))) [] [], .mk 1 true (.op (some 150) none (.p (.fda 0 (.t 149)))) [] [], .mk 2 true (.op (some 151) none (.ld true 4 (.t 150))) [] [], .mk 3 true (.op (some 152) none (.p (.mov (.t 17)))) [] [], .mk 4 true (.op (some 153) none (.p (.ixs 4 (.t 152) (.c (.int .i64 0))))) [] [], .mk 5 true (.op (some 154) none (.ld true 4 (.t 153))) [] [], .mk 7 true (.op (some 21) none (.new [.int .u64 (nl 0), .int .u64 (nl 0), .int .u64 (nl 0), .int .u64 (nl 0)])) [] [], .mk 6 false (.call (some 155) none (.fn 29) [.t 151, .t 154]) [] [21], .mk 8 false (.op none none (.st 4 (.t 21) (.t 155))) [] []]
def v6_31 : List VI := [.op (some 156) none (.p (.mov (.t 17))), .op (some 157) none (.p (.ixs 4 (.t 156) (.c (.int .i64 0)))), .op (some 158) none (.ld true 4 (.t 157)), .call (some 159) none (.fn 24) [.t 158], .op (some 160) none (.p (.un .not (.t 159))), .op (some 22) none (.p (.mov (.t 160)))]
def v6_32 : List VI := [.op (some 23) none (.p (.mov (.c (.int .i64 0))))]
def v6_33 : List VI := [.op (some 161) none (.p (.mov (.t 23))), .op (some 162) none (.p (.mov (.t 3))), .op (some 163) none (.p (.bin .lss (.t 161) (.t 162)))]
def v6_34 : List DS := [.mk 0 true (.op (some 166) none (.ld true 4 (.t 21))) [] [], .mk 1 true (.op (some 167) none (.p (.mov (.t 4)))) [] [], .mk 2 true (.op (some 168) none (.p (.mov (.t 23)))) [] [], .mk 3 true (.op (some 169) none (.p (.ixs 4 (.t 167) (.t 168)))) [] [], .mk 4 true (.op (some 170) none (.p (.fda 0 (.t 169)))) [] [], .mk 5 true (.op (some 171) none (.ld true 4 (.t 170))) [] [], .mk 6 true (.op (some 172) none (.p (.mov (.t 17)))) [] [], .mk 7 true (.op (some 173) none (.p (.mov (.t 23)))) [] [], .mk 8 true (.op (some 174) none (.p (.bin .add (.c (.int .i64 1)) (.t 173)))) [] [], .mk 9 true (.op (some 175) none (.p (.ixs 4 (.t 172) (.t 174)))) [] [], .mk 10 true (.op (some 176) none (.ld true 4 (.t 175))) [] [], .mk 13 true (.op (some 179) none (.p (.mov (.t 5)))) [] [], .mk 14 true (.op (some 180) none (.p (.mov (.t 23)))) [] [], .mk 15 true (.op (some 181) none (.p (.ixs 4 (.t 179) (.t 180)))) [] [], .mk 16 true (.op (some 182) none (.p (.fda 0 (.t 181)))) [] [], .mk 17 true (.op (some 183) none (.ld true 4 (.t 182))) [] [], .mk 18 true (.op (some 184) none (.p (.mov (.t 17)))) [] [], .mk 19 true (.op (some 185) none (.p (.mov (.t 3)))) [] [], .mk 20 true (.op (some 186) none (.p (.bin .add (.c (.int .i64 1)) (.t 185)))) [] [], .mk 21 true (.op (some 187) none (.p (.mov (.t 23)))) [] [], .mk 22 true (.op (some 188) none (.p (.bin .add (.t 186) (.t 187)))) [] [], .mk 23 true (.op (some 189) none (.p (.ixs 4 (.t 184) (.t 188)))) [] [], .mk 24 true (.op (some 190) none (.ld true 4 (.t 189))) [] [], .mk 11 false (.call (some 177) none (.fn 29) [.t 171, .t 176]) [21, 182, 189] [], .mk 12 false (.call (some 178) none (.fn 28) [.t 166, .t 177]) [182, 189] [], .mk 25 false (.call (some 191) none (.fn 29) [.t 183, .t 190]) [] [], .mk 26 false (.call (some 192) none (.fn 28) [.t 178, .t 191]) [] [], .mk 27 false (.op none none (.st 4 (.t 21) (.t 192))) [] []]
def v6_35 : List VI := [.op (some 193) none (.p (.mov (.t 22))), .op (some 194) none (.p (.mov (.t 193))), .op (some 195) (some (194, false)) (.p (.mov (.t 17))), .op (some 196) (some (194, false)) (.p (.mov (.t 23))), .op (some 197) (some (194, false)) (.p (.bin .add (.c (.int .i64 1)) (.t 196))), .op (some 198) (some (194, false)) (.p (.ixs 4 (.t 195) (.t 197))), .op (some 199) (some (194, false)) (.ld true 4 (.t 198)), .call (some 200) (some (194, false)) (.fn 24) [.t 199], .op (some 201) (some (194, false)) (.p (.un .not (.t 200))), .op (some 202) none (.p (.pick (.t 194) (.c (.bool true)) (.t 201))), .op (some 203) none (.p (.mov (.t 202))), .op (some 204) (some (203, false)) (.p (.mov (.t 17))), .op (some 205) (some (203, false)) (.p (.mov (.t 3))), .op (some 206) (some (203, false)) (.p (.bin .add (.c (.int .i64 1)) (.t 205))), .op (some 207) (some (203, false)) (.p (.mov (.t 23))), .op (some 208) (some (203, false)) (.p (.bin .add (.t 206) (.t 207))), .op (some 209) (some (203, false)) (.p (.ixs 4 (.t 204) (.t 208))), .op (some 210) (some (203, false)) (.ld true 4 (.t 209)), .call (some 211) (some (203, false)) (.fn 24) [.t 210], .op (some 212) (some (203, false)) (.p (.un .not (.t 211))), .op (some 213) none (.p (.pick (.t 203) (.c (.bool true)) (.t 212))), .op (some 22) none (.p (.mov (.t 213)))]
def v6_36 : VC := .seq (.drw v6_34) (.reg v6_35)
def v6_37 : List VI := [.op (some 164) none (.p (.mov (.t 23))), .op (some 165) none (.p (.bin .add (.t 164) (.c (.int .i64 1)))), .op (some 23) none (.p (.mov (.t 165)))]
def v6_38 : VC := .seq (.seq (.reg v6_33) (.cond (.t 163) .skip (.exit 2))) (.seq (.block 3 v6_36) (.reg v6_37))
def v6_39 : VC := .loop v6_38
def v6_40 : List VI := [.op (some 214) none (.p (.mov (.t 22))), .op (some 215) none (.p (.mov (.t 214))), .op (some 216) (some (215, true)) (.ld true 4 (.t 21)), .call (some 217) (some (215, true)) (.fn 24) [.t 216], .op (some 218) none (.p (.pick (.t 215) (.t 217) (.c (.bool false)))), .op (some 2) none (.p (.mov (.t 218)))]
def v6 : VC := .seq (.reg v6_0) (.seq (.reg v6_1) (.seq (.seq (.reg v6_2) (.cond (.t 29) (.reg v6_3) .skip)) (.seq (.reg v6_4) (.seq (.reg v6_5) (.seq (.drw v6_6) (.seq (.reg v6_7) (.seq (.reg v6_8) (.seq (.reg v6_9) (.seq (.reg v6_10) (.seq (.seq (.reg v6_11) (.block 0 v6_21)) (.seq (.reg v6_22) (.seq (.seq (.reg v6_23) (.cond (.t 111) (.seq (.reg v6_24) .ret) .skip)) (.seq (.seq (.reg v6_25) (.cond (.t 114) (.seq (.reg v6_26) (.seq (.reg v6_27) .ret)) .skip)) (.seq (.seq (.reg v6_28) (.cond (.t 148) (.seq (.reg v6_29) .ret) .skip)) (.seq (.drw v6_30) (.seq (.reg v6_31) (.seq (.seq (.reg v6_32) (.block 2 v6_39)) (.seq (.reg v6_40) .ret))))))))))))))))))
def rr6 : List RV := [.t 2]
theorem code6 : (Tryd.f6.body).bind (cCode Tryd.prog) = some v6 := by kernel_rfl
theorem res6 : cRVs Tryd.prog (Tryd.f6.results.toList) = some rr6 := by kernel_rfl
theorem nt6 : Tryd.f6.ntmps = 219 := by kernel_rfl
theorem nm6 : (Tryd.f6.name == "runtime.NumGoroutine") = false := by kernel_rfl
def v7_0 : List VI := [.op (some 1) none (.box (.t 0)), .op (some 2) none (.new [.int .u64 (nl 0), .int .u64 (nl 0), .int .u64 (nl 0), .int .u64 (nl 0), .int .u64 (nl 0), .int .u64 (nl 0), .int .u64 (nl 0), .int .u64 (nl 0), .nils, .nils]), .op (some 3) none (.new [.int .i64 0, .int .i64 0, .int .i64 0, .int .i64 0, .int .i64 0, .int .i64 0, .int .i64 0, .int .i64 0, .int .i64 0, .int .i64 0, .int .i64 0, .int .i64 0, .int .i64 0, .int .i64 0, .int .i64 0, .int .i64 0, .int .i64 0, .int .i64 0, .int .i64 0, .int .i64 0, .int .i64 0, .int .u64 (nl 0), .int .u64 (nl 0), .int .u64 (nl 0), .int .u64 (nl 0), .nils, .int .i64 0, .int .i64 0, .int .i64 0, .int .i64 0, .int .i64 0, .int .i64 0, .int .i64 0, .int .i64 0, .int .i64 0, .int .i64 0, .int .i64 0, .int .i64 0, .int .i64 0, .int .i64 0, .int .i64 0, .int .i64 0, .int .i64 0, .int .i64 0, .int .i64 0, .int .i64 0, .int .i64 0, .int .u64 (nl 0), .int .u64 (nl 0), .int .u64 (nl 0), .int .u64 (nl 0), .nils, .nils, .nils])]
def v7_1 : List DS := [.mk 0 true (.op (some 4) none (.p (.fda 4 (.t 1)))) [] [], .mk 1 true (.op (some 5) none (.ld true 4 (.t 4))) [] [], .mk 3 true (.op (some 7) none (.p (.fda 0 (.t 1)))) [] [], .mk 4 true (.op (some 8) none (.ld true 4 (.t 7))) [] [], .mk 6 true (.op (some 10) none (.p (.fda 8 (.t 1)))) [] [], .mk 7 true (.op (some 11) none (.ld false 1 (.t 10))) [] [], .mk 9 true (.op (some 13) none (.p (.fda 9 (.t 1)))) [] [], .mk 10 true (.op (some 14) none (.ld false 1 (.t 13))) [] [], .mk 13 true (.op (some 17) none (.p (.fda 4 (.t 1)))) [] [], .mk 14 true (.op (some 18) none (.ld true 4 (.t 17))) [] [], .mk 16 true (.op (some 20) none (.p (.fda 0 (.t 1)))) [] [], .mk 17 true (.op (some 21) none (.ld true 4 (.t 20))) [] [], .mk 19 true (.op (some 23) none (.p (.fda 8 (.t 1)))) [] [], .mk 20 true (.op (some 24) none (.ld false 1 (.t 23))) [] [], .mk 22 true (.op (some 26) none (.p (.fda 9 (.t 1)))) [] [], .mk 23 true (.op (some 27) none (.ld false 1 (.t 26))) [] [], .mk 2 false (.call (some 6) none (.fn 22) [.t 5]) [7, 10, 13, 17, 20, 23, 26] [], .mk 5 false (.call (some 9) none (.fn 22) [.t 8]) [10, 13, 17, 20, 23, 26] [], .mk 8 false (.call (some 12) none (.fn 38) [.t 11]) [13, 17, 20, 23, 26] [], .mk 11 false (.call (some 15) none (.fn 38) [.t 14]) [17, 20, 23, 26] [], .mk 12 true (.op (some 16) none (.p (.bld [.int .u64 (nl 0), .int .u64 (nl 0), .int .u64 (nl 0), .int .u64 (nl 0), .int .u64 (nl 0), .int .u64 (nl 0), .int .u64 (nl 0), .int .u64 (nl 0), .nils, .nils] [(0, 4, .t 6), (4, 4, .t 9), (8, 1, .t 12), (9, 1, .t 15)]))) [] [], .mk 15 false (.call (some 19) none (.fn 39) [.t 18]) [20, 23, 26] [], .mk 18 false (.call (some 22) none (.fn 39) [.t 21]) [23, 26] [], .mk 21 false (.call (some 25) none (.fn 40) [.t 24]) [26] [], .mk 24 false (.call (some 28) none (.fn 40) [.t 27]) [] [], .mk 25 true (.op (some 29) none (.p (.bld [.int .i64 0, .int .i64 0, .int .i64 0, .int .i64 0, .int .i64 0, .int .i64 0, .int .i64 0, .int .i64 0, .int .i64 0, .int .i64 0, .int .i64 0, .int .i64 0, .int .i64 0, .int .i64 0, .int .i64 0, .int .i64 0, .int .i64 0, .int .i64 0, .int .i64 0, .int .i64 0, .int .i64 0, .int .u64 (nl 0), .int .u64 (nl 0), .int .u64 (nl 0), .int .u64 (nl 0), .nils, .int .i64 0, .int .i64 0, .int .i64 0, .int .i64 0, .int .i64 0, .int .i64 0, .int .i64 0, .int .i64 0, .int .i64 0, .int .i64 0, .int .i64 0, .int .i64 0, .int .i64 0, .int .i64 0, .int .i64 0, .int .i64 0, .int .i64 0, .int .i64 0, .int .i64 0, .int .i64 0, .int .i64 0, .int .u64 (nl 0), .int .u64 (nl 0), .int .u64 (nl 0), .int .u64 (nl 0), .nils, .nils, .nils] [(0, 26, .t 19), (26, 26, .t 22), (52, 1, .t 25), (53, 1, .t 28)]))) [] [], .mk 26 false (.op none none (.st 10 (.t 2) (.t 16))) [] [], .mk 27 false (.op none none (.st 54 (.t 3) (.t 29))) [] []]
def v7 : VC := .seq (.reg v7_0) (.seq (.drw v7_1) .ret)
def rr7 : List RV := [.m 2 true 10, .m 3 true 54]
theorem code7 : (Tryd.f7.body).bind (cCode Tryd.prog) = some v7 := by kernel_rfl
theorem res7 : cRVs Tryd.prog (Tryd.f7.results.toList) = some rr7 := by kernel_rfl
theorem nt7 : Tryd.f7.ntmps = 30 := by kernel_rfl
theorem nm7 : (Tryd.f7.name == "runtime.NumGoroutine") = false := by kernel_rfl
def v8_0 : List VI := [.op (some 1) none (.box (.t 0)), .op (some 2) none (.new [.nils, .nils, .int .u64 (nl 0), .int .u64 (nl 0), .int .u64 (nl 0), .int .u64 (nl 0), .int .u64 (nl 0), .int .u64 (nl 0), .int .u64 (nl 0), .int .u64 (nl 0)]), .op (some 3) none (.new [.nils, .nils, .int .u64 (nl 0), .int .u64 (nl 0), .int .u64 (nl 0), .int .u64 (nl 0), .int .u64 (nl 0), .int .u64 (nl 0), .int .u64 (nl 0), .int .u64 (nl 0)])]
def v8_1 : List DS := [.mk 0 true (.op (some 4) none (.p (.fda 12 (.t 1)))) [] [], .mk 1 true (.op (some 5) none (.ld false 1 (.t 4))) [] [], .mk 3 true (.op (some 7) none (.p (.fda 13 (.t 1)))) [] [], .mk 4 true (.op (some 8) none (.ld false 1 (.t 7))) [] [], .mk 6 true (.op (some 10) none (.p (.fda 14 (.t 1)))) [] [], .mk 7 true (.op (some 11) none (.ld true 4 (.t 10))) [] [], .mk 8 true (.op (some 12) none (.p (.fda 18 (.t 1)))) [] [], .mk 9 true (.op (some 13) none (.ld true 4 (.t 12))) [] [], .mk 11 true (.op (some 15) none (.p (.fda 12 (.t 1)))) [] [], .mk 12 true (.op (some 16) none (.ld false 1 (.t 15))) [] [], .mk 14 true (.op (some 18) none (.p (.fda 13 (.t 1)))) [] [], .mk 15 true (.op (some 19) none (.ld false 1 (.t 18))) [] [], .mk 17 true (.op (some 21) none (.p (.fda 14 (.t 1)))) [] [], .mk 18 true (.op (some 22) none (.ld true 4 (.t 21))) [] [], .mk 20 true (.op (some 24) none (.p (.fda 18 (.t 1)))) [] [], .mk 21 true (.op (some 25) none (.ld true 4 (.t 24))) [] [], .mk 2 false (.call (some 6) none (.fn 38) [.t 5]) [7, 10, 12, 15, 18, 21, 24] [], .mk 5 false (.call (some 9) none (.fn 38) [.t 8]) [10, 12, 15, 18, 21, 24] [], .mk 10 true (.op (some 14) none (.p (.bld [.nils, .nils, .int .u64 (nl 0), .int .u64 (nl 0), .int .u64 (nl 0), .int .u64 (nl 0), .int .u64 (nl 0), .int .u64 (nl 0), .int .u64 (nl 0), .int .u64 (nl 0)] [(0, 1, .t 6), (1, 1, .t 9), (2, 4, .t 11), (6, 4, .t 13)]))) [] [], .mk 13 false (.call (some 17) none (.fn 40) [.t 16]) [10, 12, 18, 21, 24] [], .mk 16 false (.call (some 20) none (.fn 40) [.t 19]) [10, 12, 21, 24] [], .mk 19 false (.call (some 23) none (.fn 14) [.t 22]) [10, 12, 24] [], .mk 22 false (.call (some 26) none (.fn 14) [.t 25]) [10, 12] [], .mk 23 true (.op (some 27) none (.p (.bld [.nils, .nils, .int .u64 (nl 0), .int .u64 (nl 0), .int .u64 (nl 0), .int .u64 (nl 0), .int .u64 (nl 0), .int .u64 (nl 0), .int .u64 (nl 0), .int .u64 (nl 0)] [(0, 1, .t 17), (1, 1, .t 20), (2, 4, .t 23), (6, 4, .t 26)]))) [] [], .mk 24 false (.op none none (.st 10 (.t 2) (.t 14))) [] [], .mk 25 false (.op none none (.st 10 (.t 3) (.t 27))) [] []]
def v8 : VC := .seq (.reg v8_0) (.seq (.drw v8_1) .ret)
def rr8 : List RV := [.m 2 true 10, .m 3 true 10]
theorem code8 : (Tryd.f8.body).bind (cCode Tryd.prog) = some v8 := by kernel_rfl
theorem res8 : cRVs Tryd.prog (Tryd.f8.results.toList) = some rr8 := by kernel_rfl
theorem nt8 : Tryd.f8.ntmps = 28 := by kernel_rfl
theorem nm8 : (Tryd.f8.name == "runtime.NumGoroutine") = false := by kernel_rfl
def v9_0 : List VI := [.op (some 3) none (.box (.t 0)), .op (some 4) none (.box (.t 1)), .op (some 6) none (.p (.mov (.c .nils))), .op (some 7) none (.p (.mov (.c (.int .i64 0))))]
def v9_1 : List VI := [.op (some 20) none (.ld true 10 (.t 3)), .op (some 21) none (.ld true 10 (.t 4)), .op (some 22) none (.p (.mov (.t 2))), .call (some 23) none (.fn 41) [.t 20, .t 21, .t 22], .op (some 8) none (.p (.mov (.t 23)))]
def v9_2 : List VI := [.op (some 24) none (.p (.mov (.t 8))), .op (some 25) none (.p (.eq true .i (.t 24) (.c (.int .i64 0))))]
def v9_3 : List VI := [.op (some 26) none (.p (.mov (.t 8))), .op (some 6) none (.p (.mov (.c .nils))), .op (some 7) none (.p (.mov (.t 26)))]
def v9_4 : List VI := [.op (some 28) none (.p (.mov (.t 2))), .call (some 29) none (.fn 27) [.t 28], .op (some 27) none (.p (.mov (.t 29))), .op (some 30) none (.p (.ext (.t 27) 0)), .op (some 31) none (.p (.ext (.t 27) 1)), .op (some 9) none (.p (.mov (.t 30))), .op (some 10) none (.p (.mov (.t 31)))]
def v9_5 : List VI := [.op (some 32) none (.p (.mov (.t 9))), .call (some 33) none (.fn 42) [.t 32], .op (some 11) none (.p (.mov (.t 33)))]
def v9_6 : List DS := [.mk 0 true (.op (some 34) none (.p (.fda 2 (.t 4)))) [] [], .mk 1 true (.op (some 35) none (.ld true 4 (.t 34))) [] [], .mk 3 true (.op (some 37) none (.p (.fda 6 (.t 4)))) [] [], .mk 4 true (.op (some 38) none (.ld true 4 (.t 37))) [] [], .mk 6 true (.op (some 12) none (.new [.int .u64 (nl 0), .int .u64 (nl 0), .int .u64 (nl 0), .int .u64 (nl 0)])) [] [], .mk 7 true (.op (some 13) none (.new [.int .u64 (nl 0), .int .u64 (nl 0), .int .u64 (nl 0), .int .u64 (nl 0)])) [] [], .mk 2 false (.call (some 36) none (.fn 43) [.t 35]) [37] [12, 13], .mk 5 false (.call (some 39) none (.fn 43) [.t 38]) [] [12, 13], .mk 8 false (.op none none (.st 4 (.t 12) (.t 36))) [] [], .mk 9 false (.op none none (.st 4 (.t 13) (.t 39))) [] []]
def v9_7 : List DS := [.mk 1 true (.op (some 41) none (.p (.fda 0 (.t 3)))) [] [], .mk 2 true (.op (some 42) none (.ld true 4 (.t 41))) [] [], .mk 4 true (.op (some 44) none (.ld true 4 (.t 12))) [] [], .mk 5 true (.op (some 45) none (.p (.fda 6 (.t 4)))) [] [], .mk 6 true (.op (some 46) none (.ld true 4 (.t 45))) [] [], .mk 8 true (.op (some 48) none (.p (.fda 4 (.t 3)))) [] [], .mk 9 true (.op (some 49) none (.ld true 4 (.t 48))) [] [], .mk 0 false (.call (some 40) none (.fn 44) [.c (.int .u64 (nl 1))]) [41, 12, 45, 48] [], .mk 3 true (.op (some 43) none (.p (.bld [.int .u64 (nl 0), .int .u64 (nl 0), .int .u64 (nl 0), .int .u64 (nl 0), .int .u64 (nl 0), .int .u64 (nl 0), .int .u64 (nl 0), .int .u64 (nl 0)] [(0, 4, .t 40), (4, 4, .t 42)]))) [] [], .mk 7 false (.call (some 47) none (.fn 29) [.t 44, .t 46]) [41, 48] [], .mk 10 true (.op (some 50) none (.p (.bld [.int .u64 (nl 0), .int .u64 (nl 0), .int .u64 (nl 0), .int .u64 (nl 0), .int .u64 (nl 0), .int .u64 (nl 0), .int .u64 (nl 0), .int .u64 (nl 0)] [(0, 4, .t 47), (4, 4, .t 49)]))) [] [], .mk 11 true (.op (some 51) none (.bsl 2 [.int .u64 (nl 0), .int .u64 (nl 0), .int .u64 (nl 0), .int .u64 (nl 0), .int .u64 (nl 0), .int .u64 (nl 0), .int .u64 (nl 0), .int .u64 (nl 0), .int .u64 (nl 0), .int .u64 (nl 0), .int .u64 (nl 0), .int .u64 (nl 0), .int .u64 (nl 0), .int .u64 (nl 0), .int .u64 (nl 0), .int .u64 (nl 0)] [(0, 8, .t 43), (8, 8, .t 50)])) [] [], .mk 12 false (.op (some 14) none (.p (.mov (.t 51)))) [] []]
def v9_8 : List VI := [.op (some 52) none (.p (.mov (.t 9))), .op (some 53) none (.p (.len false (.t 52))), .op (some 54) none (.p (.mov (.c (.int .i64 0))))]
def v9_9 : List VI := [.op (some 55) none (.p (.bin .lss (.t 54) (.t 53)))]
def v9_10 : List VI := [.op (some 56) none (.p (.mov (.t 54))), .op (some 57) none (.p (.ixs 4 (.t 52) (.t 54))), .op (some 58) none (.ld true 4 (.t 57)), .op (some 16) none (.new [.int .u64 (nl 0), .int .u64 (nl 0), .int .u64 (nl 0), .int .u64 (nl 0)]), .op (some 15) none (.p (.mov (.t 56))), .op none none (.st 4 (.t 16) (.t 58))]
def v9_11 : List DS := [.mk 0 true (.op (some 59) none (.p (.mov (.t 14)))) [] [], .mk 1 true (.op (some 60) none (.ld true 4 (.t 12))) [] [], .mk 2 true (.op (some 61) none (.ld true 4 (.t 16))) [] [], .mk 4 true (.op (some 63) none (.p (.fda 8 (.t 3)))) [] [], .mk 5 true (.op (some 64) none (.ld false 1 (.t 63))) [] [], .mk 6 true (.op (some 65) none (.p (.mov (.t 15)))) [] [], .mk 7 true (.op (some 66) none (.p (.ixs 4 (.t 64) (.t 65)))) [] [], .mk 8 true (.op (some 67) none (.ld true 4 (.t 66))) [] [], .mk 10 true (.op (some 69) none (.ld true 4 (.t 13))) [] [], .mk 11 true (.op (some 70) none (.p (.mov (.t 11)))) [] [], .mk 12 true (.op (some 71) none (.p (.mov (.t 15)))) [] [], .mk 13 true (.op (some 72) none (.p (.ixs 4 (.t 70) (.t 71)))) [] [], .mk 14 true (.op (some 73) none (.ld true 4 (.t 72))) [] [], .mk 16 true (.op (some 75) none (.p (.fda 9 (.t 3)))) [] [], .mk 17 true (.op (some 76) none (.ld false 1 (.t 75))) [] [], .mk 18 true (.op (some 77) none (.p (.mov (.t 15)))) [] [], .mk 19 true (.op (some 78) none (.p (.ixs 4 (.t 76) (.t 77)))) [] [], .mk 20 true (.op (some 79) none (.ld true 4 (.t 78))) [] [], .mk 3 false (.call (some 62) none (.fn 29) [.t 60, .t 61]) [63, 66, 13, 72, 75, 78] [], .mk 9 true (.op (some 68) none (.p (.bld [.int .u64 (nl 0), .int .u64 (nl 0), .int .u64 (nl 0), .int .u64 (nl 0), .int .u64 (nl 0), .int .u64 (nl 0), .int .u64 (nl 0), .int .u64 (nl 0)] [(0, 4, .t 62), (4, 4, .t 67)]))) [] [], .mk 15 false (.call (some 74) none (.fn 29) [.t 69, .t 73]) [63, 66, 75, 78] [], .mk 21 true (.op (some 80) none (.p (.bld [.int .u64 (nl 0), .int .u64 (nl 0), .int .u64 (nl 0), .int .u64 (nl 0), .int .u64 (nl 0), .int .u64 (nl 0), .int .u64 (nl 0), .int .u64 (nl 0)] [(0, 4, .t 74), (4, 4, .t 79)]))) [] [], .mk 22 true (.op (some 81) none (.bsl 2 [.int .u64 (nl 0), .int .u64 (nl 0), .int .u64 (nl 0), .int .u64 (nl 0), .int .u64 (nl 0), .int .u64 (nl 0), .int .u64 (nl 0), .int .u64 (nl 0), .int .u64 (nl 0), .int .u64 (nl 0), .int .u64 (nl 0), .int .u64 (nl 0), .int .u64 (nl 0), .int .u64 (nl 0), .int .u64 (nl 0), .int .u64 (nl 0)] [(0, 8, .t 68), (8, 8, .t 80)])) [] [], .mk 23 false (.op (some 82) none (.app 8 64 false (.t 59) (.t 81))) [] [], .mk 24 false (.op (some 14) none (.p (.mov (.t 82)))) [] []]
def v9_12 : VC := .seq (.reg v9_10) (.drw v9_11)
def v9_13 : List VI := [.op (some 83) none (.p (.bin .add (.t 54) (.c (.int .i64 1)))), .op (some 54) none (.p (.mov (.t 83)))]
def v9_14 : VC := .seq (.reg v9_9) (.seq (.cond (.t 55) .skip (.exit 0)) (.seq (.block 1 v9_12) (.reg v9_13)))
def v9_15 : VC := .loop v9_14
def v9_16 : List VI := [.op (some 84) none (.p (.mov (.t 2))), .call (some 85) none (.fn 42) [.t 84], .op (some 17) none (.p (.mov (.t 85)))]
def v9_17 : List VI := [.op (some 86) none (.p (.mov (.t 2))), .op (some 87) none (.p (.len false (.t 86))), .op (some 88) none (.p (.mov (.c (.int .i64 0))))]
def v9_18 : List VI := [.op (some 89) none (.p (.bin .lss (.t 88) (.t 87)))]
def v9_19 : List VI := [.op (some 90) none (.p (.mov (.t 88))), .op (some 91) none (.p (.ixs 4 (.t 86) (.t 88))), .op (some 92) none (.ld true 4 (.t 91)), .op (some 19) none (.new [.int .u64 (nl 0), .int .u64 (nl 0), .int .u64 (nl 0), .int .u64 (nl 0)]), .op (some 18) none (.p (.mov (.t 90))), .op none none (.st 4 (.t 19) (.t 92))]
def v9_20 : List DS := [.mk 0 true (.op (some 93) none (.p (.mov (.t 14)))) [] [], .mk 1 true (.op (some 94) none (.ld true 4 (.t 19))) [] [], .mk 2 true (.op (some 95) none (.ld true 4 (.t 19))) [] [], .mk 4 true (.op (some 97) none (.p (.fda 0 (.t 4)))) [] [], .mk 5 true (.op (some 98) none (.ld false 1 (.t 97))) [] [], .mk 6 true (.op (some 99) none (.p (.mov (.t 18)))) [] [], .mk 7 true (.op (some 100) none (.p (.ixs 4 (.t 98) (.t 99)))) [] [], .mk 8 true (.op (some 101) none (.ld true 4 (.t 100))) [] [], .mk 10 true (.op (some 103) none (.p (.mov (.t 17)))) [] [], .mk 11 true (.op (some 104) none (.p (.mov (.t 18)))) [] [], .mk 12 true (.op (some 105) none (.p (.ixs 4 (.t 103) (.t 104)))) [] [], .mk 13 true (.op (some 106) none (.ld true 4 (.t 105))) [] [], .mk 14 true (.op (some 107) none (.p (.mov (.t 17)))) [] [], .mk 15 true (.op (some 108) none (.p (.mov (.t 18)))) [] [], .mk 16 true (.op (some 109) none (.p (.ixs 4 (.t 107) (.t 108)))) [] [], .mk 17 true (.op (some 110) none (.ld true 4 (.t 109))) [] [], .mk 19 true (.op (some 112) none (.p (.fda 1 (.t 4)))) [] [], .mk 20 true (.op (some 113) none (.ld false 1 (.t 112))) [] [], .mk 21 true (.op (some 114) none (.p (.mov (.t 18)))) [] [], .mk 22 true (.op (some 115) none (.p (.ixs 4 (.t 113) (.t 114)))) [] [], .mk 23 true (.op (some 116) none (.ld true 4 (.t 115))) [] [], .mk 3 false (.call (some 96) none (.fn 29) [.t 94, .t 95]) [97, 100, 105, 109, 112, 115] [], .mk 9 true (.op (some 102) none (.p (.bld [.int .u64 (nl 0), .int .u64 (nl 0), .int .u64 (nl 0), .int .u64 (nl 0), .int .u64 (nl 0), .int .u64 (nl 0), .int .u64 (nl 0), .int .u64 (nl 0)] [(0, 4, .t 96), (4, 4, .t 101)]))) [] [], .mk 18 false (.call (some 111) none (.fn 29) [.t 106, .t 110]) [97, 100, 112, 115] [], .mk 24 true (.op (some 117) none (.p (.bld [.int .u64 (nl 0), .int .u64 (nl 0), .int .u64 (nl 0), .int .u64 (nl 0), .int .u64 (nl 0), .int .u64 (nl 0), .int .u64 (nl 0), .int .u64 (nl 0)] [(0, 4, .t 111), (4, 4, .t 116)]))) [] [], .mk 25 true (.op (some 118) none (.bsl 2 [.int .u64 (nl 0), .int .u64 (nl 0), .int .u64 (nl 0), .int .u64 (nl 0), .int .u64 (nl 0), .int .u64 (nl 0), .int .u64 (nl 0), .int .u64 (nl 0), .int .u64 (nl 0), .int .u64 (nl 0), .int .u64 (nl 0), .int .u64 (nl 0), .int .u64 (nl 0), .int .u64 (nl 0), .int .u64 (nl 0), .int .u64 (nl 0)] [(0, 8, .t 102), (8, 8, .t 117)])) [] [], .mk 26 false (.op (some 119) none (.app 8 64 false (.t 93) (.t 118))) [] [], .mk 27 false (.op (some 14) none (.p (.mov (.t 119)))) [] []]
def v9_21 : VC := .seq (.reg v9_19) (.drw v9_20)
def v9_22 : List VI := [.op (some 120) none (.p (.bin .add (.t 88) (.c (.int .i64 1)))), .op (some 88) none (.p (.mov (.t 120)))]
def v9_23 : VC := .seq (.reg v9_18) (.seq (.cond (.t 89) .skip (.exit 2)) (.seq (.block 3 v9_21) (.reg v9_22)))
def v9_24 : VC := .loop v9_23
def v9_25 : List VI := [.op (some 121) none (.p (.mov (.t 14))), .op (some 6) none (.p (.mov (.t 121))), .op (some 7) none (.p (.mov (.c (.int .i64 0))))]
def v9 : VC := .seq (.reg v9_0) (.seq (.seq (.reg v9_1) (.seq (.reg v9_2) (.cond (.t 25) (.seq (.reg v9_3) .ret) .skip))) (.seq (.reg v9_4) (.seq (.reg v9_5) (.seq (.drw v9_6) (.seq (.drw v9_7) (.seq (.seq (.reg v9_8) (.block 0 v9_15)) (.seq (.reg v9_16) (.seq (.seq (.reg v9_17) (.block 2 v9_24)) (.seq (.reg v9_25) .ret)))))))))
def rr9 : List RV := [.t 6, .t 7]
theorem code9 : (Tryd.f9.body).bind (cCode Tryd.prog) = some v9 := by kernel_rfl
theorem res9 : cRVs Tryd.prog (Tryd.f9.results.toList) = some rr9 := by kernel_rfl
theorem nt9 : Tryd.f9.ntmps = 122 := by kernel_rfl
theorem nm9 : (Tryd.f9.name == "runtime.NumGoroutine") = false := by kernel_rfl
def v10_0 : List VI := [.op (some 2) none (.p (.mov (.c .nils)))]
def v10_1 : List VI := [.op (some 5) none (.p (.mov (.t 0))), .call (some 6) none (.fn 45) [.t 5], .op (some 0) none (.p (.mov (.t 6)))]
def v10_2 : List VI := [.op (some 7) none (.p (.mov (.t 0))), .op (some 8) none (.p (.len false (.t 7))), .op (some 9) none (.p (.bin .add (.t 8) (.c (.int .i64 1)))), .op (some 10) none (.mks 4 32 [.int .u64 (nl 0), .int .u64 (nl 0), .int .u64 (nl 0), .int .u64 (nl 0)] (.t 9) (.t 9)), .op (some 3) none (.p (.mov (.t 10)))]
def v10_3 : List VI := [.op (some 4) none (.p (.mov (.c (.int .i64 0))))]
def v10_4 : List VI := [.op (some 11) none (.p (.mov (.t 4))), .op (some 12) none (.p (.mov (.t 0))), .op (some 13) none (.p (.len false (.t 12))), .op (some 14) none (.p (.bin .lss (.t 11) (.t 13)))]
def v10_5 : List VI := [.op (some 17) none (.p (.mov (.t 3))), .op (some 18) none (.p (.mov (.t 4))), .op (some 19) none (.p (.mov (.t 0))), .op (some 20) none (.p (.mov (.t 4))), .op (some 21) none (.p (.ixs 4 (.t 19) (.t 20))), .op (some 22) none (.ld true 4 (.t 21)), .op (some 23) none (.p (.ixs 4 (.t 17) (.t 18))), .op none none (.st 4 (.t 23) (.t 22))]
def v10_6 : VC := .reg v10_5
def v10_7 : List VI := [.op (some 15) none (.p (.mov (.t 4))), .op (some 16) none (.p (.bin .add (.t 15) (.c (.int .i64 1)))), .op (some 4) none (.p (.mov (.t 16)))]
def v10_8 : VC := .seq (.seq (.reg v10_4) (.cond (.t 14) .skip (.exit 0))) (.seq (.block 1 v10_6) (.reg v10_7))
def v10_9 : VC := .loop v10_8
def v10_10 : List VI := [.op (some 24) none (.p (.mov (.t 3))), .op (some 25) none (.p (.mov (.t 0))), .op (some 26) none (.p (.len false (.t 25))), .op (some 27) none (.p (.bld [.int .u64 (nl 0), .int .u64 (nl 0), .int .u64 (nl 0), .int .u64 (nl 0)] [(0, 1, .c (.int .u64 (nl 78)))])), .op (some 28) none (.p (.ixs 4 (.t 24) (.t 26))), .op none none (.st 4 (.t 28) (.t 27))]
def v10_11 : List VI := [.op (some 29) none (.p (.mov (.t 3))), .op (some 30) none (.p (.mov (.t 0))), .op (some 31) none (.p (.len false (.t 30))), .op (some 32) none (.slx 4 (.t 29) none (some (.t 31)) none), .op (some 2) none (.p (.mov (.t 32)))]
def v10 : VC := .seq (.reg v10_0) (.seq (.reg v10_1) (.seq (.reg v10_2) (.seq (.seq (.reg v10_3) (.block 0 v10_9)) (.seq (.reg v10_10) (.seq (.reg v10_11) .ret)))))
def rr10 : List RV := [.t 2]
theorem code10 : (Tryd.f10.body).bind (cCode Tryd.prog) = some v10 := by kernel_rfl
theorem res10 : cRVs Tryd.prog (Tryd.f10.results.toList) = some rr10 := by kernel_rfl
theorem nt10 : Tryd.f10.ntmps = 33 := by kernel_rfl
theorem nm10 : (Tryd.f10.name == "runtime.NumGoroutine") = false := by kernel_rfl
def v11_0 : List VI := [.op (some 2) none (.p (.mov (.c .nils)))]
def v11_1 : List VI := [.op (some 5) none (.p (.mov (.t 0))), .call (some 6) none (.fn 45) [.t 5], .op (some 0) none (.p (.mov (.t 6)))]
def v11_2 : List VI := [.op (some 3) none (.p (.mov (.c .nils)))]
def v11_3 : List VI := [.op (some 4) none (.p (.mov (.c (.int .i64 0))))]
def v11_4 : List VI := [.op (some 7) none (.p (.mov (.t 4))), .op (some 8) none (.p (.mov (.t 0))), .op (some 9) none (.p (.len false (.t 8))), .op (some 10) none (.p (.bin .lss (.t 7) (.t 9)))]
def v11_5 : List VI := [.op (some 13) none (.p (.mov (.t 3))), .op (some 14) none (.p (.mov (.t 0))), .op (some 15) none (.p (.mov (.t 4))), .op (some 16) none (.p (.ixs 4 (.t 14) (.t 15))), .op (some 17) none (.ld true 4 (.t 16)), .call (some 18) none (.fn 14) [.t 17], .op (some 19) none (.bsl 1 [.int .u64 (nl 0), .int .u64 (nl 0), .int .u64 (nl 0), .int .u64 (nl 0)] [(0, 4, .t 18)]), .op (some 20) none (.app 4 32 false (.t 13) (.t 19)), .op (some 3) none (.p (.mov (.t 20)))]
def v11_6 : VC := .reg v11_5
def v11_7 : List VI := [.op (some 11) none (.p (.mov (.t 4))), .op (some 12) none (.p (.bin .add (.t 11) (.c (.int .i64 1)))), .op (some 4) none (.p (.mov (.t 12)))]
def v11_8 : VC := .seq (.seq (.reg v11_4) (.cond (.t 10) .skip (.exit 0))) (.seq (.block 1 v11_6) (.reg v11_7))
def v11_9 : VC := .loop v11_8
def v11_10 : List VI := [.op (some 21) none (.p (.mov (.t 3))), .op (some 2) none (.p (.mov (.t 21)))]
def v11 : VC := .seq (.reg v11_0) (.seq (.reg v11_1) (.seq (.reg v11_2) (.seq (.seq (.reg v11_3) (.block 0 v11_9)) (.seq (.reg v11_10) .ret))))
def rr11 : List RV := [.t 2]
theorem code11 : (Tryd.f11.body).bind (cCode Tryd.prog) = some v11 := by kernel_rfl
theorem res11 : cRVs Tryd.prog (Tryd.f11.results.toList) = some rr11 := by kernel_rfl
theorem nt11 : Tryd.f11.ntmps = 22 := by kernel_rfl
theorem nm11 : (Tryd.f11.name == "runtime.NumGoroutine") = false := by kernel_rfl
def v12_0 : List VI := [.op (some 3) none (.box (.t 0)), .op (some 4) none (.box (.t 1)), .op (some 6) none (.p (.mov (.c (.int .i64 0))))]
def v12_1 : List VI := [.op (some 9) none (.p (.fda 52 (.t 3))), .op (some 10) none (.ld false 1 (.t 9)), .op (some 11) none (.p (.len false (.t 10))), .call (some 12) none (.fn 46) [.t 11], .op (some 7) none (.p (.mov (.t 12)))]
def v12_2 : List VI := [.op (some 13) none (.p (.fda 52 (.t 3))), .op (some 14) none (.ld false 1 (.t 13)), .op (some 15) none (.p (.len false (.t 14))), .op (some 16) none (.p (.fda 53 (.t 3))), .op (some 17) none (.ld false 1 (.t 16)), .op (some 18) none (.p (.len false (.t 17))), .op (some 19) none (.p (.eq true .i (.t 15) (.t 18))), .op (some 20) none (.p (.mov (.t 19))), .op (some 21) (some (20, false)) (.p (.mov (.t 7))), .op (some 22) (some (20, false)) (.p (.bin .lss (.t 21) (.c (.int .i64 0)))), .op (some 23) none (.p (.pick (.t 20) (.c (.bool true)) (.t 22))), .op (some 24) none (.p (.mov (.t 23))), .op (some 25) (some (24, false)) (.p (.fda 0 (.t 4))), .op (some 26) (some (24, false)) (.ld false 1 (.t 25)), .op (some 27) (some (24, false)) (.p (.len false (.t 26))), .op (some 28) (some (24, false)) (.p (.mov (.t 7))), .op (some 29) (some (24, false)) (.p (.eq true .i (.t 27) (.t 28))), .op (some 30) none (.p (.pick (.t 24) (.c (.bool true)) (.t 29))), .op (some 31) none (.p (.mov (.t 30))), .op (some 32) (some (31, false)) (.p (.fda 1 (.t 4))), .op (some 33) (some (31, false)) (.ld false 1 (.t 32)), .op (some 34) (some (31, false)) (.p (.len false (.t 33))), .op (some 35) (some (31, false)) (.p (.mov (.t 7))), .op (some 36) (some (31, false)) (.p (.eq true .i (.t 34) (.t 35))), .op (some 37) none (.p (.pick (.t 31) (.c (.bool true)) (.t 36))), .op (some 38) none (.p (.mov (.t 37))), .op (some 39) (some (38, false)) (.p (.mov (.t 2))), .op (some 40) (some (38, false)) (.p (.len false (.t 39))), .op (some 41) (some (38, false)) (.p (.mov (.t 7))), .op (some 42) (some (38, false)) (.p (.eq true .i (.t 40) (.t 41))), .op (some 43) none (.p (.pick (.t 38) (.c (.bool true)) (.t 42)))]
def v12_3 : List VI := [.op (some 6) none (.p (.mov (.c (.int .i64 2))))]
def v12_4 : List VI := [.op (some 8) none (.p (.mov (.c (.int .i64 0))))]
def v12_5 : List VI := [.op (some 44) none (.p (.mov (.t 8))), .op (some 45) none (.p (.mov (.t 7))), .op (some 46) none (.p (.bin .lss (.t 44) (.t 45)))]
def v12_6 : List VI := [.op (some 49) none (.p (.mov (.t 2))), .op (some 50) none (.p (.mov (.t 8))), .op (some 51) none (.p (.ixs 4 (.t 49) (.t 50))), .op (some 52) none (.ld true 4 (.t 51)), .call (some 53) none (.fn 47) [.t 52]]
def v12_7 : List VI := [.op (some 6) none (.p (.mov (.c (.int .i64 4))))]
def v12_8 : VC := .seq (.reg v12_6) (.cond (.t 53) (.seq (.reg v12_7) .ret) .skip)
def v12_9 : List VI := [.op (some 47) none (.p (.mov (.t 8))), .op (some 48) none (.p (.bin .add (.t 47) (.c (.int .i64 1)))), .op (some 8) none (.p (.mov (.t 48)))]
def v12_10 : VC := .seq (.seq (.reg v12_5) (.cond (.t 46) .skip (.exit 0))) (.seq (.block 1 v12_8) (.reg v12_9))
def v12_11 : VC := .loop v12_10
def v12_12 : List VI := [.op (some 6) none (.p (.mov (.c (.int .i64 0))))]
def v12 : VC := .seq (.reg v12_0) (.seq (.reg v12_1) (.seq (.seq (.reg v12_2) (.cond (.t 43) (.seq (.reg v12_3) .ret) .skip)) (.seq (.seq (.reg v12_4) (.block 0 v12_11)) (.seq (.reg v12_12) .ret))))
def rr12 : List RV := [.t 6]
theorem code12 : (Tryd.f12.body).bind (cCode Tryd.prog) = some v12 := by kernel_rfl
theorem res12 : cRVs Tryd.prog (Tryd.f12.results.toList) = some rr12 := by kernel_rfl
theorem nt12 : Tryd.f12.ntmps = 54 := by kernel_rfl
theorem nm12 : (Tryd.f12.name == "runtime.NumGoroutine") = false := by kernel_rfl
def v13_0 : List VI := [.op (some 2) none (.box (.t 0)), .op (some 3) none (.box (.t 1)), .op (some 4) none (.new [.int .u64 (nl 0), .int .u64 (nl 0), .int .u64 (nl 0), .int .u64 (nl 0)])]
def v13_1 : List VI := [.op (some 8) none (.ld true 4 (.t 2)), .op (some 9) none (.ld true 4 (.t 3)), .call (some 10) none (.fn 48) [.t 8, .t 9], .op (some 7) none (.p (.mov (.t 10))), .op (some 11) none (.p (.ext (.t 7) 0)), .op (some 12) none (.p (.ext (.t 7) 1)), .op (some 5) none (.new [.int .u64 (nl 0), .int .u64 (nl 0), .int .u64 (nl 0), .int .u64 (nl 0)]), .op none none (.st 4 (.t 5) (.t 11)), .op (some 6) none (.p (.mov (.t 12)))]
def v13_2 : List DS := [.mk 0 true (.op (some 13) none (.ld true 4 (.t 5))) [] [], .mk 1 false (.call (some 14) none (.fn 50) []) [5] [], .mk 2 false (.call (some 15) none (.fn 49) [.t 13, .t 14]) [] [], .mk 3 true (.op (some 16) none (.p (.un .not (.t 15)))) [] []]
def v13_3 : List DS := [.mk 0 true (.op (some 18) none (.ld true 4 (.t 5))) [] [], .mk 1 false (.call (some 19) none (.fn 50) []) [5] [], .mk 2 false (.call (some 20) none (.fn 51) [.t 18, .t 19]) [] [], .mk 3 true (.op (some 17) none (.p (.mov (.t 20)))) [] [], .mk 4 true (.op (some 21) none (.p (.ext (.t 17) 0))) [] [], .mk 5 true (.op (some 22) none (.p (.ext (.t 17) 1))) [] [], .mk 6 false (.op none none (.st 4 (.t 5) (.t 21))) [] []]
def v13_4 : List VI := [.op (some 23) none (.ld true 4 (.t 5)), .op none none (.st 4 (.t 4) (.t 23))]
def v13 : VC := .seq (.reg v13_0) (.seq (.reg v13_1) (.seq (.seq (.drw v13_2) (.cond (.t 16) (.drw v13_3) .skip)) (.seq (.reg v13_4) .ret)))
def rr13 : List RV := [.m 4 true 4]
theorem code13 : (Tryd.f13.body).bind (cCode Tryd.prog) = some v13 := by kernel_rfl
theorem res13 : cRVs Tryd.prog (Tryd.f13.results.toList) = some rr13 := by kernel_rfl
theorem nt13 : Tryd.f13.ntmps = 24 := by kernel_rfl
theorem nm13 : (Tryd.f13.name == "runtime.NumGoroutine") = false := by kernel_rfl
def v14_0 : List VI := [.op (some 1) none (.box (.t 0)), .op (some 2) none (.new [.int .u64 (nl 0), .int .u64 (nl 0), .int .u64 (nl 0), .int .u64 (nl 0)])]
def v14_1 : List VI := [.op (some 3) none (.p (.mov (.c .nils)))]
def v14_2 : List VI := [.op (some 4) none (.p (.mov (.c (.int .i64 0))))]
def v14_3 : List VI := [.op (some 5) none (.p (.mov (.t 4))), .op (some 6) none (.p (.bin .lss (.t 5) (.c (.int .i64 4))))]
def v14_4 : List DS := [.mk 0 true (.op (some 9) none (.p (.mov (.t 3)))) [] [], .mk 1 true (.op (some 10) none (.p (.mov (.t 4)))) [] [], .mk 2 true (.op (some 11) none (.p (.ixa 4 1 (.t 1) (.t 10)))) [] [], .mk 3 true (.op (some 12) none (.ld false 1 (.t 11))) [] [], .mk 4 true (.op (some 13) none (.p (.bin .and (.t 12) (.c (.int .u64 (nl 65535)))))) [] [], .mk 5 true (.op (some 14) none (.p (.mov (.t 4)))) [] [], .mk 6 true (.op (some 15) none (.p (.ixa 4 1 (.t 1) (.t 14)))) [] [], .mk 7 true (.op (some 16) none (.ld false 1 (.t 15))) [] [], .mk 8 true (.op (some 17) none (.p (.bin .shr (.t 16) (.c (.int .u64 (nl 16)))))) [] [], .mk 9 true (.op (some 18) none (.p (.bin .and (.t 17) (.c (.int .u64 (nl 65535)))))) [] [], .mk 10 true (.op (some 19) none (.p (.mov (.t 4)))) [] [], .mk 11 true (.op (some 20) none (.p (.ixa 4 1 (.t 1) (.t 19)))) [] [], .mk 12 true (.op (some 21) none (.ld false 1 (.t 20))) [] [], .mk 13 true (.op (some 22) none (.p (.bin .shr (.t 21) (.c (.int .u64 (nl 32)))))) [] [], .mk 14 true (.op (some 23) none (.p (.bin .and (.t 22) (.c (.int .u64 (nl 65535)))))) [] [], .mk 15 true (.op (some 24) none (.p (.mov (.t 4)))) [] [], .mk 16 true (.op (some 25) none (.p (.ixa 4 1 (.t 1) (.t 24)))) [] [], .mk 17 true (.op (some 26) none (.ld false 1 (.t 25))) [] [], .mk 18 true (.op (some 27) none (.p (.bin .shr (.t 26) (.c (.int .u64 (nl 48)))))) [] [], .mk 19 true (.op (some 28) none (.bsl 4 [.int .u64 (nl 0), .int .u64 (nl 0), .int .u64 (nl 0), .int .u64 (nl 0)] [(0, 1, .t 13), (1, 1, .t 18), (2, 1, .t 23), (3, 1, .t 27)])) [] [], .mk 20 false (.op (some 29) none (.app 1 8 false (.t 9) (.t 28))) [] [], .mk 21 false (.op (some 3) none (.p (.mov (.t 29)))) [] []]
def v14_5 : VC := .drw v14_4
def v14_6 : List VI := [.op (some 7) none (.p (.mov (.t 4))), .op (some 8) none (.p (.bin .add (.t 7) (.c (.int .i64 1)))), .op (some 4) none (.p (.mov (.t 8)))]
def v14_7 : VC := .seq (.seq (.reg v14_3) (.cond (.t 6) .skip (.exit 0))) (.seq (.block 1 v14_5) (.reg v14_6))
def v14_8 : VC := .loop v14_7
def v14_9 : List VI := [.op (some 30) none (.p (.mov (.t 3))), .call (some 31) none (.fn 52) [.t 30], .op none none (.st 4 (.t 2) (.t 31))]
def v14 : VC := .seq (.reg v14_0) (.seq (.reg v14_1) (.seq (.seq (.reg v14_2) (.block 0 v14_8)) (.seq (.reg v14_9) .ret)))
def rr14 : List RV := [.m 2 true 4]
theorem code14 : (Tryd.f14.body).bind (cCode Tryd.prog) = some v14 := by kernel_rfl
theorem res14 : cRVs Tryd.prog (Tryd.f14.results.toList) = some rr14 := by kernel_rfl
theorem nt14 : Tryd.f14.ntmps = 32 := by kernel_rfl
theorem nm14 : (Tryd.f14.name == "runtime.NumGoroutine") = false := by kernel_rfl
def v15_0 : List VI := [.op (some 2) none (.box (.t 0)), .op (some 3) none (.box (.t 1)), .op (some 4) none (.new [.int .u64 (nl 0), .int .u64 (nl 0), .int .u64 (nl 0), .int .u64 (nl 0)])]
def v15_1 : List VI := [.op (some 14) none (.ld true 4 (.t 2)), .call (some 15) none (.fn 53) [.t 14], .op (some 5) none (.new [.int .u64 (nl 0), .int .u64 (nl 0), .int .u64 (nl 0), .int .u64 (nl 0), .int .u64 (nl 0), .int .u64 (nl 0), .int .u64 (nl 0), .int .u64 (nl 0)]), .op none none (.st 8 (.t 5) (.t 15))]
def v15_2 : List VI := [.op (some 16) none (.ld true 4 (.t 3)), .call (some 17) none (.fn 53) [.t 16], .op (some 6) none (.new [.int .u64 (nl 0), .int .u64 (nl 0), .int .u64 (nl 0), .int .u64 (nl 0), .int .u64 (nl 0), .int .u64 (nl 0), .int .u64 (nl 0), .int .u64 (nl 0)]), .op none none (.st 8 (.t 6) (.t 17))]
def v15_3 : List VI := [.op (some 7) none (.new [.int .u64 (nl 0), .int .u64 (nl 0), .int .u64 (nl 0), .int .u64 (nl 0), .int .u64 (nl 0), .int .u64 (nl 0), .int .u64 (nl 0), .int .u64 (nl 0), .int .u64 (nl 0), .int .u64 (nl 0), .int .u64 (nl 0), .int .u64 (nl 0), .int .u64 (nl 0), .int .u64 (nl 0), .int .u64 (nl 0), .int .u64 (nl 0)])]
def v15_4 : List VI := [.op (some 8) none (.p (.mov (.c (.int .i64 0))))]
def v15_5 : List VI := [.op (some 18) none (.p (.mov (.t 8))), .op (some 19) none (.p (.bin .lss (.t 18) (.c (.int .i64 8))))]
def v15_6 : List VI := [.op (some 9) none (.p (.mov (.c (.int .u64 (nl 0)))))]
def v15_7 : List VI := [.op (some 10) none (.p (.mov (.c (.int .i64 0))))]
def v15_8 : List VI := [.op (some 22) none (.p (.mov (.t 10))), .op (some 23) none (.p (.bin .lss (.t 22) (.c (.int .i64 8))))]
def v15_9 : List DS := [.mk 0 true (.op (some 26) none (.p (.mov (.t 8)))) [] [], .mk 1 true (.op (some 27) none (.p (.ixa 8 1 (.t 5) (.t 26)))) [] [], .mk 2 true (.op (some 28) none (.ld false 1 (.t 27))) [] [], .mk 3 true (.op (some 29) none (.p (.mov (.t 10)))) [] [], .mk 4 true (.op (some 30) none (.p (.ixa 8 1 (.t 6) (.t 29)))) [] [], .mk 5 true (.op (some 31) none (.ld false 1 (.t 30))) [] [], .mk 6 true (.op (some 32) none (.p (.bin .mul (.t 28) (.t 31)))) [] [], .mk 7 true (.op (some 33) none (.p (.mov (.t 8)))) [] [], .mk 8 true (.op (some 34) none (.p (.mov (.t 10)))) [] [], .mk 9 true (.op (some 35) none (.p (.bin .add (.t 33) (.t 34)))) [] [], .mk 10 true (.op (some 36) none (.p (.ixa 16 1 (.t 7) (.t 35)))) [] [], .mk 11 true (.op (some 37) none (.ld false 1 (.t 36))) [] [], .mk 12 true (.op (some 38) none (.p (.bin .add (.t 32) (.t 37)))) [] [], .mk 13 true (.op (some 39) none (.p (.mov (.t 9)))) [] [], .mk 14 true (.op (some 40) none (.p (.bin .add (.t 38) (.t 39)))) [] [], .mk 15 false (.op (some 11) none (.p (.mov (.t 40)))) [] []]
def v15_10 : List VI := [.op (some 41) none (.p (.mov (.t 8))), .op (some 42) none (.p (.mov (.t 10))), .op (some 43) none (.p (.bin .add (.t 41) (.t 42))), .op (some 44) none (.p (.mov (.t 11))), .op (some 45) none (.p (.bin .and (.t 44) (.c (.int .u64 (nl 4294967295))))), .op (some 46) none (.p (.ixa 16 1 (.t 7) (.t 43))), .op none none (.st 1 (.t 46) (.t 45))]
def v15_11 : List VI := [.op (some 47) none (.p (.mov (.t 11))), .op (some 48) none (.p (.bin .shr (.t 47) (.c (.int .u64 (nl 32))))), .op (some 9) none (.p (.mov (.t 48)))]
def v15_12 : VC := .seq (.drw v15_9) (.seq (.reg v15_10) (.reg v15_11))
def v15_13 : List VI := [.op (some 24) none (.p (.mov (.t 10))), .op (some 25) none (.p (.bin .add (.t 24) (.c (.int .i64 1)))), .op (some 10) none (.p (.mov (.t 25)))]
def v15_14 : VC := .seq (.seq (.reg v15_8) (.cond (.t 23) .skip (.exit 2))) (.seq (.block 3 v15_12) (.reg v15_13))
def v15_15 : VC := .loop v15_14
def v15_16 : List VI := [.op (some 49) none (.p (.mov (.t 8))), .op (some 50) none (.p (.bin .add (.t 49) (.c (.int .i64 8)))), .op (some 51) none (.p (.mov (.t 9))), .op (some 52) none (.p (.ixa 16 1 (.t 7) (.t 50))), .op none none (.st 1 (.t 52) (.t 51))]
def v15_17 : VC := .seq (.reg v15_6) (.seq (.seq (.reg v15_7) (.block 2 v15_15)) (.reg v15_16))
def v15_18 : List VI := [.op (some 20) none (.p (.mov (.t 8))), .op (some 21) none (.p (.bin .add (.t 20) (.c (.int .i64 1)))), .op (some 8) none (.p (.mov (.t 21)))]
def v15_19 : VC := .seq (.seq (.reg v15_5) (.cond (.t 19) .skip (.exit 0))) (.seq (.block 1 v15_17) (.reg v15_18))
def v15_20 : VC := .loop v15_19
def v15_21 : List VI := [.op (some 12) none (.new [.int .u64 (nl 0), .int .u64 (nl 0), .int .u64 (nl 0), .int .u64 (nl 0)])]
def v15_22 : List VI := [.op (some 13) none (.p (.mov (.c (.int .i64 15))))]
def v15_23 : List VI := [.op (some 53) none (.p (.mov (.t 13))), .op (some 54) none (.p (.bin .geq (.t 53) (.c (.int .i64 0))))]
def v15_24 : List DS := [.mk 0 true (.op (some 57) none (.ld true 4 (.t 12))) [] [], .mk 1 true (.op (some 58) none (.p (.mov (.t 13)))) [] [], .mk 2 true (.op (some 59) none (.p (.ixa 16 1 (.t 7) (.t 58)))) [] [], .mk 3 true (.op (some 60) none (.ld false 1 (.t 59))) [] [], .mk 4 true (.op (some 61) none (.p (.bin .shr (.t 60) (.c (.int .u64 (nl 16)))))) [] [], .mk 5 false (.call (some 62) none (.fn 54) [.t 57, .t 61]) [] [], .mk 6 false (.op none none (.st 4 (.t 12) (.t 62))) [] []]
def v15_25 : List DS := [.mk 0 true (.op (some 63) none (.ld true 4 (.t 12))) [] [], .mk 1 true (.op (some 64) none (.p (.mov (.t 13)))) [] [], .mk 2 true (.op (some 65) none (.p (.ixa 16 1 (.t 7) (.t 64)))) [] [], .mk 3 true (.op (some 66) none (.ld false 1 (.t 65))) [] [], .mk 4 true (.op (some 67) none (.p (.bin .and (.t 66) (.c (.int .u64 (nl 65535)))))) [] [], .mk 5 false (.call (some 68) none (.fn 54) [.t 63, .t 67]) [] [], .mk 6 false (.op none none (.st 4 (.t 12) (.t 68))) [] []]
def v15_26 : VC := .seq (.drw v15_24) (.drw v15_25)
def v15_27 : List VI := [.op (some 55) none (.p (.mov (.t 13))), .op (some 56) none (.p (.bin .sub (.t 55) (.c (.int .i64 1)))), .op (some 13) none (.p (.mov (.t 56)))]
def v15_28 : VC := .seq (.seq (.reg v15_23) (.cond (.t 54) .skip (.exit 4))) (.seq (.block 5 v15_26) (.reg v15_27))
def v15_29 : VC := .loop v15_28
def v15_30 : List VI := [.op (some 69) none (.ld true 4 (.t 12)), .op none none (.st 4 (.t 4) (.t 69))]
def v15 : VC := .seq (.reg v15_0) (.seq (.reg v15_1) (.seq (.reg v15_2) (.seq (.reg v15_3) (.seq (.seq (.reg v15_4) (.block 0 v15_20)) (.seq (.reg v15_21) (.seq (.seq (.reg v15_22) (.block 4 v15_29)) (.seq (.reg v15_30) .ret)))))))
def rr15 : List RV := [.m 4 true 4]
theorem code15 : (Tryd.f15.body).bind (cCode Tryd.prog) = some v15 := by kernel_rfl
theorem res15 : cRVs Tryd.prog (Tryd.f15.results.toList) = some rr15 := by kernel_rfl
theorem nt15 : Tryd.f15.ntmps = 70 := by kernel_rfl
theorem nm15 : (Tryd.f15.name == "runtime.NumGoroutine") = false := by kernel_rfl
def v16_0 : List VI := [.op (some 1) none (.box (.t 0)), .op (some 2) none (.new [.int .i64 0, .int .i64 0, .int .i64 0, .int .i64 0, .int .i64 0, .int .i64 0, .int .i64 0, .int .i64 0, .int .i64 0, .int .i64 0, .int .i64 0, .int .i64 0, .int .i64 0, .int .i64 0, .int .i64 0, .int .i64 0, .int .i64 0, .int .i64 0, .int .i64 0, .int .i64 0, .int .i64 0, .int .u64 (nl 0), .int .u64 (nl 0), .int .u64 (nl 0), .int .u64 (nl 0), .nils])]
def v16_1 : List VI := [.op (some 3) none (.ld true 4 (.t 1)), .op (some 4) none (.p (.bld [.int .i64 0, .int .i64 0, .int .i64 0, .int .i64 0, .int .i64 0, .int .i64 0, .int .i64 0, .int .i64 0, .int .i64 0, .int .i64 0, .int .i64 0, .int .i64 0, .int .i64 0, .int .i64 0, .int .i64 0, .int .i64 0, .int .i64 0, .int .i64 0, .int .i64 0, .int .i64 0, .int .i64 0, .int .u64 (nl 0), .int .u64 (nl 0), .int .u64 (nl 0), .int .u64 (nl 0), .nils] [(0, 1, .c (.int .i64 2)), (21, 4, .t 3)])), .op none none (.st 26 (.t 2) (.t 4))]
def v16 : VC := .seq (.reg v16_0) (.seq (.reg v16_1) .ret)
def rr16 : List RV := [.m 2 true 26]
theorem code16 : (Tryd.f16.body).bind (cCode Tryd.prog) = some v16 := by kernel_rfl
theorem res16 : cRVs Tryd.prog (Tryd.f16.results.toList) = some rr16 := by kernel_rfl
theorem nt16 : Tryd.f16.ntmps = 5 := by kernel_rfl
theorem nm16 : (Tryd.f16.name == "runtime.NumGoroutine") = false := by kernel_rfl
def v17_0 : List VI := [.op (some 2) none (.box (.t 0)), .op (some 3) none (.box (.t 1)), .op (some 4) none (.p (.mov (.c (.bool false))))]
def v17_1 : List VI := [.op (some 6) none (.p (.fda 0 (.t 2))), .op (some 7) none (.ld false 1 (.t 6)), .op (some 8) none (.p (.fda 0 (.t 3))), .op (some 9) none (.ld false 1 (.t 8)), .op (some 10) none (.p (.eq true .i (.t 7) (.t 9)))]
def v17_2 : List VI := [.op (some 4) none (.p (.mov (.c (.bool false))))]
def v17_3 : List VI := [.op (some 11) none (.p (.fda 0 (.t 2))), .op (some 12) none (.ld false 1 (.t 11))]
def v17_4 : List VI := [.op (some 14) none (.p (.eq false .i (.t 12) (.c (.int .i64 1)))), .op (some 13) none (.p (.mov (.t 14)))]
def v17_5 : List VI := [.op (some 15) none (.p (.fda 1 (.t 2))), .op (some 16) none (.ld true 20 (.t 15)), .op (some 17) none (.p (.fda 1 (.t 3))), .op (some 18) none (.ld true 20 (.t 17)), .call (some 19) none (.fn 55) [.t 16, .t 18], .op (some 4) none (.p (.mov (.t 19)))]
def v17_6 : List VI := [.op (some 21) none (.p (.eq false .i (.t 12) (.c (.int .i64 2)))), .op (some 20) none (.p (.mov (.t 21)))]
def v17_7 : List VI := [.op (some 22) none (.p (.fda 21 (.t 2))), .op (some 23) none (.ld true 4 (.t 22)), .op (some 24) none (.p (.fda 21 (.t 3))), .op (some 25) none (.ld true 4 (.t 24)), .op (some 26) none (.p (.eqa false [.i, .i, .i, .i] (.t 23) (.t 25))), .op (some 4) none (.p (.mov (.t 26)))]
def v17_8 : VC := .seq (.reg v17_4) (.cond (.t 13) (.seq (.reg v17_5) .ret) (.seq (.reg v17_6) (.cond (.t 20) (.seq (.reg v17_7) .ret) .skip)))
def v17_9 : List VI := [.op (some 27) none (.p (.fda 25 (.t 2))), .op (some 28) none (.ld false 1 (.t 27)), .op (some 29) none (.p (.len false (.t 28))), .op (some 30) none (.p (.fda 25 (.t 3))), .op (some 31) none (.ld false 1 (.t 30)), .op (some 32) none (.p (.len false (.t 31))), .op (some 33) none (.p (.eq true .i (.t 29) (.t 32)))]
def v17_10 : List VI := [.op (some 4) none (.p (.mov (.c (.bool false))))]
def v17_11 : List VI := [.op (some 5) none (.p (.mov (.c (.int .i64 0))))]
def v17_12 : List VI := [.op (some 34) none (.p (.mov (.t 5))), .op (some 35) none (.p (.fda 25 (.t 2))), .op (some 36) none (.ld false 1 (.t 35)), .op (some 37) none (.p (.len false (.t 36))), .op (some 38) none (.p (.bin .lss (.t 34) (.t 37)))]
def v17_13 : List DS := [.mk 0 true (.op (some 41) none (.p (.fda 25 (.t 2)))) [] [], .mk 1 true (.op (some 42) none (.ld false 1 (.t 41))) [] [], .mk 2 true (.op (some 43) none (.p (.mov (.t 5)))) [] [], .mk 3 true (.op (some 44) none (.p (.ixs 4 (.t 42) (.t 43)))) [] [], .mk 4 true (.op (some 45) none (.ld true 4 (.t 44))) [] [], .mk 5 true (.op (some 46) none (.p (.fda 25 (.t 3)))) [] [], .mk 6 true (.op (some 47) none (.ld false 1 (.t 46))) [] [], .mk 7 true (.op (some 48) none (.p (.mov (.t 5)))) [] [], .mk 8 true (.op (some 49) none (.p (.ixs 4 (.t 47) (.t 48)))) [] [], .mk 9 true (.op (some 50) none (.ld true 4 (.t 49))) [] [], .mk 10 true (.op (some 51) none (.p (.eqa true [.i, .i, .i, .i] (.t 45) (.t 50)))) [] []]
def v17_14 : List VI := [.op (some 4) none (.p (.mov (.c (.bool false))))]
def v17_15 : VC := .seq (.drw v17_13) (.cond (.t 51) (.seq (.reg v17_14) .ret) .skip)
def v17_16 : List VI := [.op (some 39) none (.p (.mov (.t 5))), .op (some 40) none (.p (.bin .add (.t 39) (.c (.int .i64 1)))), .op (some 5) none (.p (.mov (.t 40)))]
def v17_17 : VC := .seq (.seq (.reg v17_12) (.cond (.t 38) .skip (.exit 1))) (.seq (.block 2 v17_15) (.reg v17_16))
def v17_18 : VC := .loop v17_17
def v17_19 : List VI := [.op (some 4) none (.p (.mov (.c (.bool true))))]
def v17 : VC := .seq (.reg v17_0) (.seq (.seq (.reg v17_1) (.cond (.t 10) (.seq (.reg v17_2) .ret) .skip)) (.seq (.seq (.reg v17_3) (.block 0 v17_8)) (.seq (.seq (.reg v17_9) (.cond (.t 33) (.seq (.reg v17_10) .ret) .skip)) (.seq (.seq (.reg v17_11) (.block 1 v17_18)) (.seq (.reg v17_19) .ret)))))
def rr17 : List RV := [.t 4]
theorem code17 : (Tryd.f17.body).bind (cCode Tryd.prog) = some v17 := by kernel_rfl
theorem res17 : cRVs Tryd.prog (Tryd.f17.results.toList) = some rr17 := by kernel_rfl
theorem nt17 : Tryd.f17.ntmps = 52 := by kernel_rfl
theorem nm17 : (Tryd.f17.name == "runtime.NumGoroutine") = false := by kernel_rfl
def v18_0 : List VI := [.op (some 3) none (.box (.t 0)), .op (some 4) none (.box (.t 1)), .op (some 6) none (.new [.int .i64 0, .int .i64 0, .int .i64 0, .int .i64 0, .int .i64 0, .int .i64 0, .int .i64 0, .int .i64 0, .int .i64 0, .int .i64 0, .int .i64 0, .int .i64 0, .int .i64 0, .int .i64 0, .int .i64 0, .int .i64 0, .int .i64 0, .int .i64 0, .int .i64 0, .int .i64 0, .int .i64 0, .int .u64 (nl 0), .int .u64 (nl 0), .int .u64 (nl 0), .int .u64 (nl 0), .nils])]
def v18_1 : List VI := [.op (some 10) none (.ld true 54 (.t 3)), .op (some 11) none (.ld true 10 (.t 4)), .op (some 12) none (.p (.mov (.t 2))), .call (some 13) none (.fn 19) [.t 10, .t 11, .t 12], .op (some 7) none (.p (.mov (.t 13)))]
def v18_2 : List VI := [.op (some 14) none (.p (.mov (.t 7))), .op (some 15) none (.p (.mov (.t 7))), .op (some 16) none (.p (.len false (.t 15))), .op (some 17) none (.p (.bin .sub (.t 16) (.c (.int .i64 1)))), .op (some 18) none (.p (.ixs 54 (.t 14) (.t 17))), .op (some 19) none (.ld true 54 (.t 18)), .op (some 8) none (.new [.int .i64 0, .int .i64 0, .int .i64 0, .int .i64 0, .int .i64 0, .int .i64 0, .int .i64 0, .int .i64 0, .int .i64 0, .int .i64 0, .int .i64 0, .int .i64 0, .int .i64 0, .int .i64 0, .int .i64 0, .int .i64 0, .int .i64 0, .int .i64 0, .int .i64 0, .int .i64 0, .int .i64 0, .int .u64 (nl 0), .int .u64 (nl 0), .int .u64 (nl 0), .int .u64 (nl 0), .nils, .int .i64 0, .int .i64 0, .int .i64 0, .int .i64 0, .int .i64 0, .int .i64 0, .int .i64 0, .int .i64 0, .int .i64 0, .int .i64 0, .int .i64 0, .int .i64 0, .int .i64 0, .int .i64 0, .int .i64 0, .int .i64 0, .int .i64 0, .int .i64 0, .int .i64 0, .int .i64 0, .int .i64 0, .int .u64 (nl 0), .int .u64 (nl 0), .int .u64 (nl 0), .int .u64 (nl 0), .nils, .nils, .nils]), .op none none (.st 54 (.t 8) (.t 19))]
def v18_3 : List DS := [.mk 0 true (.op (some 20) none (.p (.fda 52 (.t 8)))) [] [], .mk 1 true (.op (some 21) none (.ld false 1 (.t 20))) [] [], .mk 2 true (.op (some 22) none (.p (.ixs 26 (.t 21) (.c (.int .i64 0))))) [] [], .mk 3 true (.op (some 23) none (.ld true 26 (.t 22))) [] [], .mk 4 true (.op (some 24) none (.p (.fda 2 (.t 4)))) [] [], .mk 5 true (.op (some 25) none (.ld true 4 (.t 24))) [] [], .mk 7 true (.op (some 27) none (.p (.fda 53 (.t 8)))) [] [], .mk 8 true (.op (some 28) none (.ld false 1 (.t 27))) [] [], .mk 9 true (.op (some 29) none (.p (.ixs 26 (.t 28) (.c (.int .i64 0))))) [] [], .mk 10 true (.op (some 30) none (.ld true 26 (.t 29))) [] [], .mk 11 true (.op (some 31) none (.p (.fda 6 (.t 4)))) [] [], .mk 12 true (.op (some 32) none (.ld true 4 (.t 31))) [] [], .mk 15 true (.op (some 35) none (.p (.fda 26 (.t 8)))) [] [], .mk 16 true (.op (some 36) none (.ld true 26 (.t 35))) [] [], .mk 17 true (.op (some 37) none (.p (.fda 2 (.t 4)))) [] [], .mk 18 true (.op (some 38) none (.ld true 4 (.t 37))) [] [], .mk 19 true (.op (some 39) none (.p (.fda 6 (.t 4)))) [] [], .mk 20 true (.op (some 40) none (.ld true 4 (.t 39))) [] [], .mk 24 true (.op (some 9) none (.new [.int .i64 0, .int .i64 0, .int .i64 0, .int .i64 0, .int .i64 0, .int .i64 0, .int .i64 0, .int .i64 0, .int .i64 0, .int .i64 0, .int .i64 0, .int .i64 0, .int .i64 0, .int .i64 0, .int .i64 0, .int .i64 0, .int .i64 0, .int .i64 0, .int .i64 0, .int .i64 0, .int .i64 0, .int .u64 (nl 0), .int .u64 (nl 0), .int .u64 (nl 0), .int .u64 (nl 0), .nils])) [] [], .mk 6 false (.call (some 26) none (.fn 56) [.t 23, .t 25]) [27, 29, 31, 35, 37, 39] [9], .mk 13 false (.call (some 33) none (.fn 56) [.t 30, .t 32]) [35, 37, 39] [9], .mk 14 false (.call (some 34) none (.fn 57) [.t 26, .t 33]) [35, 37, 39] [9], .mk 21 false (.call (some 41) none (.fn 15) [.t 38, .t 40]) [35] [9], .mk 22 false (.call (some 42) none (.fn 56) [.t 36, .t 41]) [] [9], .mk 23 false (.call (some 43) none (.fn 57) [.t 34, .t 42]) [] [9], .mk 25 false (.op none none (.st 26 (.t 9) (.t 43))) [] []]
def v18_4 : List VI := [.op (some 44) none (.p (.fda 0 (.t 8))), .op (some 45) none (.ld true 26 (.t 44)), .op (some 46) none (.ld true 26 (.t 9)), .call (some 47) none (.fn 58) [.t 45, .t 46], .op none none (.st 26 (.t 6) (.t 47))]
def v18 : VC := .seq (.reg v18_0) (.seq (.reg v18_1) (.seq (.reg v18_2) (.seq (.drw v18_3) (.seq (.reg v18_4) .ret))))
def rr18 : List RV := [.m 6 true 26]
theorem code18 : (Tryd.f18.body).bind (cCode Tryd.prog) = some v18 := by kernel_rfl
theorem res18 : cRVs Tryd.prog (Tryd.f18.results.toList) = some rr18 := by kernel_rfl
theorem nt18 : Tryd.f18.ntmps = 48 := by kernel_rfl
theorem nm18 : (Tryd.f18.name == "runtime.NumGoroutine") = false := by kernel_rfl
def v19_0 : List VI := [.op (some 3) none (.box (.t 0)), .op (some 4) none (.box (.t 1)), .op (some 6) none (.p (.mov (.c .nils)))]
def v19_1 : List VI := [.op (some 9) none (.ld true 54 (.t 3)), .op (some 10) none (.ld true 10 (.t 4)), .op (some 11) none (.p (.mov (.t 2))), .call (some 12) none (.fn 12) [.t 9, .t 10, .t 11], .op (some 13) none (.p (.eq true .i (.t 12) (.c (.int .i64 0))))]
def v19_2 : List VI := [.op (some 6) none (.p (.mov (.c .nils)))]
def v19_3 : List VI := [.op (some 14) none (.ld true 54 (.t 3)), .op (some 15) none (.bsl 1 [.int .i64 0, .int .i64 0, .int .i64 0, .int .i64 0, .int .i64 0, .int .i64 0, .int .i64 0, .int .i64 0, .int .i64 0, .int .i64 0, .int .i64 0, .int .i64 0, .int .i64 0, .int .i64 0, .int .i64 0, .int .i64 0, .int .i64 0, .int .i64 0, .int .i64 0, .int .i64 0, .int .i64 0, .int .u64 (nl 0), .int .u64 (nl 0), .int .u64 (nl 0), .int .u64 (nl 0), .nils, .int .i64 0, .int .i64 0, .int .i64 0, .int .i64 0, .int .i64 0, .int .i64 0, .int .i64 0, .int .i64 0, .int .i64 0, .int .i64 0, .int .i64 0, .int .i64 0, .int .i64 0, .int .i64 0, .int .i64 0, .int .i64 0, .int .i64 0, .int .i64 0, .int .i64 0, .int .i64 0, .int .i64 0, .int .u64 (nl 0), .int .u64 (nl 0), .int .u64 (nl 0), .int .u64 (nl 0), .nils, .nils, .nils] [(0, 54, .t 14)]), .op (some 7) none (.p (.mov (.t 15)))]
def v19_4 : List VI := [.op (some 8) none (.p (.mov (.c (.int .i64 0))))]
def v19_5 : List VI := [.op (some 16) none (.p (.mov (.t 8))), .op (some 17) none (.p (.mov (.t 2))), .op (some 18) none (.p (.len false (.t 17))), .op (some 19) none (.p (.bin .lss (.t 16) (.t 18)))]
def v19_6 : List DS := [.mk 0 true (.op (some 22) none (.ld true 54 (.t 3))) [] [], .mk 1 true (.op (some 23) none (.p (.fda 0 (.t 4)))) [] [], .mk 2 true (.op (some 24) none (.ld false 1 (.t 23))) [] [], .mk 3 true (.op (some 25) none (.p (.mov (.t 8)))) [] [], .mk 4 true (.op (some 26) none (.p (.ixs 26 (.t 24) (.t 25)))) [] [], .mk 5 true (.op (some 27) none (.ld true 26 (.t 26))) [] [], .mk 6 true (.op (some 28) none (.p (.fda 1 (.t 4)))) [] [], .mk 7 true (.op (some 29) none (.ld false 1 (.t 28))) [] [], .mk 8 true (.op (some 30) none (.p (.mov (.t 8)))) [] [], .mk 9 true (.op (some 31) none (.p (.ixs 26 (.t 29) (.t 30)))) [] [], .mk 10 true (.op (some 32) none (.ld true 26 (.t 31))) [] [], .mk 11 true (.op (some 33) none (.p (.mov (.t 2)))) [] [], .mk 12 true (.op (some 34) none (.p (.mov (.t 8)))) [] [], .mk 13 true (.op (some 35) none (.p (.ixs 4 (.t 33) (.t 34)))) [] [], .mk 14 true (.op (some 36) none (.ld true 4 (.t 35))) [] [], .mk 15 false (.call (some 37) none (.fn 59) [.t 22, .t 27, .t 32, .t 36]) [] [], .mk 16 false (.op none none (.st 54 (.t 3) (.t 37))) [] []]
def v19_7 : List VI := [.op (some 38) none (.p (.mov (.t 7))), .op (some 39) none (.ld true 54 (.t 3)), .op (some 40) none (.bsl 1 [.int .i64 0, .int .i64 0, .int .i64 0, .int .i64 0, .int .i64 0, .int .i64 0, .int .i64 0, .int .i64 0, .int .i64 0, .int .i64 0, .int .i64 0, .int .i64 0, .int .i64 0, .int .i64 0, .int .i64 0, .int .i64 0, .int .i64 0, .int .i64 0, .int .i64 0, .int .i64 0, .int .i64 0, .int .u64 (nl 0), .int .u64 (nl 0), .int .u64 (nl 0), .int .u64 (nl 0), .nils, .int .i64 0, .int .i64 0, .int .i64 0, .int .i64 0, .int .i64 0, .int .i64 0, .int .i64 0, .int .i64 0, .int .i64 0, .int .i64 0, .int .i64 0, .int .i64 0, .int .i64 0, .int .i64 0, .int .i64 0, .int .i64 0, .int .i64 0, .int .i64 0, .int .i64 0, .int .i64 0, .int .i64 0, .int .u64 (nl 0), .int .u64 (nl 0), .int .u64 (nl 0), .int .u64 (nl 0), .nils, .nils, .nils] [(0, 54, .t 39)]), .op (some 41) none (.app 54 496 false (.t 38) (.t 40)), .op (some 7) none (.p (.mov (.t 41)))]
def v19_8 : VC := .seq (.drw v19_6) (.reg v19_7)
def v19_9 : List VI := [.op (some 20) none (.p (.mov (.t 8))), .op (some 21) none (.p (.bin .add (.t 20) (.c (.int .i64 1)))), .op (some 8) none (.p (.mov (.t 21)))]
def v19_10 : VC := .seq (.seq (.reg v19_5) (.cond (.t 19) .skip (.exit 0))) (.seq (.block 1 v19_8) (.reg v19_9))
def v19_11 : VC := .loop v19_10
def v19_12 : List VI := [.op (some 42) none (.p (.mov (.t 7))), .op (some 6) none (.p (.mov (.t 42)))]
def v19 : VC := .seq (.reg v19_0) (.seq (.seq (.reg v19_1) (.cond (.t 13) (.seq (.reg v19_2) .ret) .skip)) (.seq (.reg v19_3) (.seq (.seq (.reg v19_4) (.block 0 v19_11)) (.seq (.reg v19_12) .ret))))
def rr19 : List RV := [.t 6]
theorem code19 : (Tryd.f19.body).bind (cCode Tryd.prog) = some v19 := by kernel_rfl
theorem res19 : cRVs Tryd.prog (Tryd.f19.results.toList) = some rr19 := by kernel_rfl
theorem nt19 : Tryd.f19.ntmps = 43 := by kernel_rfl
theorem nm19 : (Tryd.f19.name == "runtime.NumGoroutine") = false := by kernel_rfl
def v22_0 : List VI := [.op (some 1) none (.box (.t 0)), .op (some 2) none (.new [.int .u64 (nl 0), .int .u64 (nl 0), .int .u64 (nl 0), .int .u64 (nl 0)])]
def v22_1 : List VI := [.op (some 3) none (.ld true 4 (.t 1)), .op (some 4) none (.p (.bld [.int .u64 (nl 0), .int .u64 (nl 0), .int .u64 (nl 0), .int .u64 (nl 0)] [(0, 4, .t 3)])), .op none none (.st 4 (.t 2) (.t 4))]
def v22 : VC := .seq (.reg v22_0) (.seq (.reg v22_1) .ret)
def rr22 : List RV := [.m 2 true 4]
theorem code22 : (Tryd.f22.body).bind (cCode Tryd.prog) = some v22 := by kernel_rfl
theorem res22 : cRVs Tryd.prog (Tryd.f22.results.toList) = some rr22 := by kernel_rfl
theorem nt22 : Tryd.f22.ntmps = 5 := by kernel_rfl
theorem nm22 : (Tryd.f22.name == "runtime.NumGoroutine") = false := by kernel_rfl
def v24_0 : List VI := [.op (some 1) none (.box (.t 0)), .op (some 2) none (.p (.mov (.c (.bool false))))]
def v24_1 : List VI := [.op (some 3) none (.ld true 4 (.t 1)), .call (some 4) none (.fn 64) [.t 3], .op (some 5) none (.p (.bld [.int .u64 (nl 0), .int .u64 (nl 0), .int .u64 (nl 0), .int .u64 (nl 0)] [])), .op (some 6) none (.p (.eqa false [.i, .i, .i, .i] (.t 4) (.t 5))), .op (some 2) none (.p (.mov (.t 6)))]
def v24 : VC := .seq (.reg v24_0) (.seq (.reg v24_1) .ret)
def rr24 : List RV := [.t 2]
theorem code24 : (Tryd.f24.body).bind (cCode Tryd.prog) = some v24 := by kernel_rfl
theorem res24 : cRVs Tryd.prog (Tryd.f24.results.toList) = some rr24 := by kernel_rfl
theorem nt24 : Tryd.f24.ntmps = 7 := by kernel_rfl
theorem nm24 : (Tryd.f24.name == "runtime.NumGoroutine") = false := by kernel_rfl
def v27_0 : List VI := [.op (some 2) none (.p (.mov (.c .nils))), .op (some 3) none (.p (.mov (.c (.int .i64 0))))]
def v27_1 : List VI := [.op (some 13) none (.p (.mov (.t 0))), .op (some 14) none (.p (.len false (.t 13))), .op (some 15) none (.p (.bin .gtr (.t 14) (.c (.int .i64 10))))]
def v27_2 : List VI := [.op (some 2) none (.p (.mov (.c .nils))), .op (some 3) none (.p (.mov (.c (.int .i64 2))))]
def v27_3 : List VI := [.op (some 16) none (.p (.mov (.t 0))), .op (some 17) none (.p (.len false (.t 16))), .op (some 18) none (.p (.mov (.c (.int .i64 0))))]
def v27_4 : List VI := [.op (some 19) none (.p (.bin .lss (.t 18) (.t 17)))]
def v27_5 : List VI := [.op (some 20) none (.p (.ixs 4 (.t 16) (.t 18))), .op (some 21) none (.ld true 4 (.t 20)), .op (some 5) none (.new [.int .u64 (nl 0), .int .u64 (nl 0), .int .u64 (nl 0), .int .u64 (nl 0)]), .op none none (.st 4 (.t 5) (.t 21))]
def v27_6 : List VI := [.op (some 22) none (.ld true 4 (.t 5)), .call (some 23) none (.fn 24) [.t 22]]
def v27_7 : List VI := [.op (some 2) none (.p (.mov (.c .nils))), .op (some 3) none (.p (.mov (.c (.int .i64 4))))]
def v27_8 : VC := .seq (.reg v27_5) (.seq (.reg v27_6) (.cond (.t 23) (.seq (.reg v27_7) .ret) .skip))
def v27_9 : List VI := [.op (some 24) none (.p (.bin .add (.t 18) (.c (.int .i64 1)))), .op (some 18) none (.p (.mov (.t 24)))]
def v27_10 : VC := .seq (.reg v27_4) (.seq (.cond (.t 19) .skip (.exit 0)) (.seq (.block 1 v27_8) (.reg v27_9)))
def v27_11 : VC := .loop v27_10
def v27_12 : List VI := [.op (some 25) none (.p (.mov (.t 0))), .call (some 26) none (.fn 42) [.t 25], .op (some 6) none (.p (.mov (.t 26)))]
def v27_13 : List VI := [.call (some 27) none (.fn 44) [.c (.int .u64 (nl 1))], .op (some 28) none (.bsl 1 [.int .u64 (nl 0), .int .u64 (nl 0), .int .u64 (nl 0), .int .u64 (nl 0)] [(0, 4, .t 27)]), .op (some 7) none (.p (.mov (.t 28)))]
def v27_14 : List VI := [.op (some 29) none (.p (.mov (.t 0))), .op (some 30) none (.p (.len false (.t 29))), .op (some 31) none (.p (.mov (.c (.int .i64 0))))]
def v27_15 : List VI := [.op (some 32) none (.p (.bin .lss (.t 31) (.t 30)))]
def v27_16 : List VI := [.op (some 33) none (.p (.mov (.t 31))), .op (some 34) none (.p (.ixs 4 (.t 29) (.t 31))), .op (some 35) none (.ld true 4 (.t 34)), .op (some 9) none (.new [.int .u64 (nl 0), .int .u64 (nl 0), .int .u64 (nl 0), .int .u64 (nl 0)]), .op (some 8) none (.p (.mov (.t 33))), .op none none (.st 4 (.t 9) (.t 35))]
def v27_17 : List VI := [.op (some 36) none (.p (.mov (.t 7))), .op (some 37) none (.p (.len false (.t 36))), .op (some 38) none (.p (.bin .mul (.c (.int .i64 2)) (.t 37))), .op (some 39) none (.mks 4 32 [.int .u64 (nl 0), .int .u64 (nl 0), .int .u64 (nl 0), .int .u64 (nl 0)] (.c (.int .i64 0)) (.t 38)), .op (some 10) none (.p (.mov (.t 39)))]
def v27_18 : List VI := [.op (some 40) none (.p (.mov (.t 7))), .op (some 41) none (.p (.len false (.t 40))), .op (some 42) none (.p (.mov (.c (.int .i64 0))))]
def v27_19 : List VI := [.op (some 43) none (.p (.bin .lss (.t 42) (.t 41)))]
def v27_20 : List VI := [.op (some 44) none (.p (.ixs 4 (.t 40) (.t 42))), .op (some 45) none (.ld true 4 (.t 44)), .op (some 12) none (.new [.int .u64 (nl 0), .int .u64 (nl 0), .int .u64 (nl 0), .int .u64 (nl 0)]), .op none none (.st 4 (.t 12) (.t 45))]
def v27_21 : List DS := [.mk 0 true (.op (some 46) none (.p (.mov (.t 10)))) [] [], .mk 1 true (.op (some 47) none (.ld true 4 (.t 12))) [] [], .mk 2 true (.op (some 48) none (.p (.mov (.t 6)))) [] [], .mk 3 true (.op (some 49) none (.p (.mov (.t 8)))) [] [], .mk 4 true (.op (some 50) none (.p (.ixs 4 (.t 48) (.t 49)))) [] [], .mk 5 true (.op (some 51) none (.ld true 4 (.t 50))) [] [], .mk 7 true (.op (some 53) none (.ld true 4 (.t 12))) [] [], .mk 8 true (.op (some 54) none (.ld true 4 (.t 9))) [] [], .mk 6 false (.call (some 52) none (.fn 29) [.t 47, .t 51]) [12, 9] [], .mk 9 false (.call (some 55) none (.fn 29) [.t 53, .t 54]) [] [], .mk 10 true (.op (some 56) none (.bsl 2 [.int .u64 (nl 0), .int .u64 (nl 0), .int .u64 (nl 0), .int .u64 (nl 0), .int .u64 (nl 0), .int .u64 (nl 0), .int .u64 (nl 0), .int .u64 (nl 0)] [(0, 4, .t 52), (4, 4, .t 55)])) [] [], .mk 11 false (.op (some 57) none (.app 4 32 false (.t 46) (.t 56))) [] [], .mk 12 false (.op (some 10) none (.p (.mov (.t 57)))) [] []]
def v27_22 : VC := .seq (.reg v27_20) (.drw v27_21)
def v27_23 : List VI := [.op (some 58) none (.p (.bin .add (.t 42) (.c (.int .i64 1)))), .op (some 42) none (.p (.mov (.t 58)))]
def v27_24 : VC := .seq (.reg v27_19) (.seq (.cond (.t 43) .skip (.exit 4)) (.seq (.block 5 v27_22) (.reg v27_23)))
def v27_25 : VC := .loop v27_24
def v27_26 : List VI := [.op (some 59) none (.p (.mov (.t 10))), .op (some 7) none (.p (.mov (.t 59)))]
def v27_27 : VC := .seq (.reg v27_16) (.seq (.reg v27_17) (.seq (.seq (.reg v27_18) (.block 4 v27_25)) (.reg v27_26)))
def v27_28 : List VI := [.op (some 60) none (.p (.bin .add (.t 31) (.c (.int .i64 1)))), .op (some 31) none (.p (.mov (.t 60)))]
def v27_29 : VC := .seq (.reg v27_15) (.seq (.cond (.t 32) .skip (.exit 2)) (.seq (.block 3 v27_27) (.reg v27_28)))
def v27_30 : VC := .loop v27_29
def v27_31 : List VI := [.op (some 61) none (.p (.mov (.t 7))), .op (some 2) none (.p (.mov (.t 61))), .op (some 3) none (.p (.mov (.c (.int .i64 0))))]
def v27 : VC := .seq (.reg v27_0) (.seq (.seq (.reg v27_1) (.cond (.t 15) (.seq (.reg v27_2) .ret) .skip)) (.seq (.seq (.reg v27_3) (.block 0 v27_11)) (.seq (.reg v27_12) (.seq (.reg v27_13) (.seq (.seq (.reg v27_14) (.block 2 v27_30)) (.seq (.reg v27_31) .ret))))))
def rr27 : List RV := [.t 2, .t 3]
theorem code27 : (Tryd.f27.body).bind (cCode Tryd.prog) = some v27 := by kernel_rfl
theorem res27 : cRVs Tryd.prog (Tryd.f27.results.toList) = some rr27 := by kernel_rfl
theorem nt27 : Tryd.f27.ntmps = 62 := by kernel_rfl
theorem nm27 : (Tryd.f27.name == "runtime.NumGoroutine") = false := by kernel_rfl
def v28_0 : List VI := [.op (some 2) none (.box (.t 0)), .op (some 3) none (.box (.t 1)), .op (some 4) none (.new [.int .u64 (nl 0), .int .u64 (nl 0), .int .u64 (nl 0), .int .u64 (nl 0)])]
def v28_1 : List DS := [.mk 0 true (.op (some 8) none (.ld true 4 (.t 2))) [] [], .mk 2 true (.op (some 10) none (.ld true 4 (.t 3))) [] [], .mk 8 true (.op (some 5) none (.new [.int .u64 (nl 0), .int .u64 (nl 0), .int .u64 (nl 0), .int .u64 (nl 0)])) [] [], .mk 1 false (.call (some 9) none (.fn 64) [.t 8]) [3] [5], .mk 3 false (.call (some 11) none (.fn 64) [.t 10]) [] [5], .mk 4 false (.call (some 12) none (.fn 65) [.t 9, .t 11]) [] [5], .mk 5 true (.op (some 7) none (.p (.mov (.t 12)))) [] [], .mk 6 true (.op (some 13) none (.p (.ext (.t 7) 0))) [] [], .mk 7 true (.op (some 14) none (.p (.ext (.t 7) 1))) [] [], .mk 9 false (.op none none (.st 4 (.t 5) (.t 13))) [] [], .mk 10 false (.op (some 6) none (.p (.mov (.t 14)))) [] []]
def v28_2 : List VI := [.op (some 15) none (.ld true 4 (.t 5)), .call (some 16) none (.fn 66) [.t 15], .op none none (.st 4 (.t 4) (.t 16))]
def v28 : VC := .seq (.reg v28_0) (.seq (.drw v28_1) (.seq (.reg v28_2) .ret))
def rr28 : List RV := [.m 4 true 4]
theorem code28 : (Tryd.f28.body).bind (cCode Tryd.prog) = some v28 := by kernel_rfl
theorem res28 : cRVs Tryd.prog (Tryd.f28.results.toList) = some rr28 := by kernel_rfl
theorem nt28 : Tryd.f28.ntmps = 17 := by kernel_rfl
theorem nm28 : (Tryd.f28.name == "runtime.NumGoroutine") = false := by kernel_rfl
def v29_0 : List VI := [.op (some 2) none (.box (.t 0)), .op (some 3) none (.box (.t 1)), .op (some 4) none (.new [.int .u64 (nl 0), .int .u64 (nl 0), .int .u64 (nl 0), .int .u64 (nl 0)])]
def v29_1 : List DS := [.mk 0 true (.op (some 5) none (.ld true 4 (.t 2))) [] [], .mk 2 true (.op (some 7) none (.ld true 4 (.t 3))) [] [], .mk 5 true (.op (some 10) none (.p (.ixa 4 4 (.g 0) (.c (.int .i64 2))))) [] [], .mk 6 true (.op (some 11) none (.ld true 4 (.t 10))) [] [], .mk 1 false (.call (some 6) none (.fn 64) [.t 5]) [3, 10] [], .mk 3 false (.call (some 8) none (.fn 64) [.t 7]) [10] [], .mk 4 false (.call (some 9) none (.fn 67) [.t 6, .t 8]) [10] [], .mk 7 false (.call (some 12) none (.fn 67) [.t 9, .t 11]) [] [], .mk 8 false (.op none none (.st 4 (.t 4) (.t 12))) [] []]
def v29 : VC := .seq (.reg v29_0) (.seq (.drw v29_1) .ret)
def rr29 : List RV := [.m 4 true 4]
theorem code29 : (Tryd.f29.body).bind (cCode Tryd.prog) = some v29 := by kernel_rfl
theorem res29 : cRVs Tryd.prog (Tryd.f29.results.toList) = some rr29 := by kernel_rfl
theorem nt29 : Tryd.f29.ntmps = 13 := by kernel_rfl
theorem nm29 : (Tryd.f29.name == "runtime.NumGoroutine") = false := by kernel_rfl
def v30_0 : List VI := [.op (some 1) none (.box (.t 0)), .op (some 2) none (.new [.int .u64 (nl 0), .int .u64 (nl 0), .int .u64 (nl 0), .int .u64 (nl 0)])]
def v30_1 : List VI := [.op (some 3) none (.ld true 4 (.t 1)), .op (some 4) none (.p (.ixa 4 4 (.g 0) (.c (.int .i64 3)))), .op (some 5) none (.ld true 4 (.t 4)), .call (some 6) none (.fn 68) [.t 3, .t 5, .c (.int .i64 253)], .op none none (.st 4 (.t 2) (.t 6))]
def v30 : VC := .seq (.reg v30_0) (.seq (.reg v30_1) .ret)
def rr30 : List RV := [.m 2 true 4]
theorem code30 : (Tryd.f30.body).bind (cCode Tryd.prog) = some v30 := by kernel_rfl
theorem res30 : cRVs Tryd.prog (Tryd.f30.results.toList) = some rr30 := by kernel_rfl
theorem nt30 : Tryd.f30.ntmps = 7 := by kernel_rfl
theorem nm30 : (Tryd.f30.name == "runtime.NumGoroutine") = false := by kernel_rfl
def v38_0 : List VI := [.op (some 2) none (.p (.mov (.c .nils)))]
def v38_1 : List VI := [.op (some 5) none (.p (.mov (.t 0))), .call (some 6) none (.fn 45) [.t 5], .op (some 0) none (.p (.mov (.t 6)))]
def v38_2 : List VI := [.op (some 7) none (.p (.mov (.t 0))), .op (some 8) none (.p (.len false (.t 7))), .op (some 9) none (.p (.bin .add (.t 8) (.c (.int .i64 1)))), .op (some 10) none (.mks 4 32 [.int .u64 (nl 0), .int .u64 (nl 0), .int .u64 (nl 0), .int .u64 (nl 0)] (.t 9) (.t 9)), .op (some 3) none (.p (.mov (.t 10)))]
def v38_3 : List VI := [.op (some 4) none (.p (.mov (.c (.int .i64 0))))]
def v38_4 : List VI := [.op (some 11) none (.p (.mov (.t 4))), .op (some 12) none (.p (.mov (.t 0))), .op (some 13) none (.p (.len false (.t 12))), .op (some 14) none (.p (.bin .lss (.t 11) (.t 13)))]
def v38_5 : List VI := [.op (some 17) none (.p (.mov (.t 3))), .op (some 18) none (.p (.mov (.t 4))), .op (some 19) none (.p (.mov (.t 0))), .op (some 20) none (.p (.mov (.t 4))), .op (some 21) none (.p (.ixs 4 (.t 19) (.t 20))), .op (some 22) none (.ld true 4 (.t 21)), .call (some 23) none (.fn 22) [.t 22], .op (some 24) none (.p (.ixs 4 (.t 17) (.t 18))), .op none none (.st 4 (.t 24) (.t 23))]
def v38_6 : VC := .reg v38_5
def v38_7 : List VI := [.op (some 15) none (.p (.mov (.t 4))), .op (some 16) none (.p (.bin .add (.t 15) (.c (.int .i64 1)))), .op (some 4) none (.p (.mov (.t 16)))]
def v38_8 : VC := .seq (.seq (.reg v38_4) (.cond (.t 14) .skip (.exit 0))) (.seq (.block 1 v38_6) (.reg v38_7))
def v38_9 : VC := .loop v38_8
def v38_10 : List VI := [.op (some 25) none (.p (.mov (.t 3))), .op (some 26) none (.p (.mov (.t 0))), .op (some 27) none (.p (.len false (.t 26))), .op (some 28) none (.p (.bld [.int .u64 (nl 0), .int .u64 (nl 0), .int .u64 (nl 0), .int .u64 (nl 0)] [(0, 1, .c (.int .u64 (nl 77)))])), .call (some 29) none (.fn 22) [.t 28], .op (some 30) none (.p (.ixs 4 (.t 25) (.t 27))), .op none none (.st 4 (.t 30) (.t 29))]
def v38_11 : List VI := [.op (some 31) none (.p (.mov (.t 3))), .op (some 32) none (.p (.mov (.t 0))), .op (some 33) none (.p (.len false (.t 32))), .op (some 34) none (.slx 4 (.t 31) none (some (.t 33)) none), .op (some 2) none (.p (.mov (.t 34)))]
def v38 : VC := .seq (.reg v38_0) (.seq (.reg v38_1) (.seq (.reg v38_2) (.seq (.seq (.reg v38_3) (.block 0 v38_9)) (.seq (.reg v38_10) (.seq (.reg v38_11) .ret)))))
def rr38 : List RV := [.t 2]
theorem code38 : (Tryd.f38.body).bind (cCode Tryd.prog) = some v38 := by kernel_rfl
theorem res38 : cRVs Tryd.prog (Tryd.f38.results.toList) = some rr38 := by kernel_rfl
theorem nt38 : Tryd.f38.ntmps = 35 := by kernel_rfl
theorem nm38 : (Tryd.f38.name == "runtime.NumGoroutine") = false := by kernel_rfl
def v39_0 : List VI := [.op (some 1) none (.box (.t 0)), .op (some 2) none (.new [.int .i64 0, .int .i64 0, .int .i64 0, .int .i64 0, .int .i64 0, .int .i64 0, .int .i64 0, .int .i64 0, .int .i64 0, .int .i64 0, .int .i64 0, .int .i64 0, .int .i64 0, .int .i64 0, .int .i64 0, .int .i64 0, .int .i64 0, .int .i64 0, .int .i64 0, .int .i64 0, .int .i64 0, .int .u64 (nl 0), .int .u64 (nl 0), .int .u64 (nl 0), .int .u64 (nl 0), .nils])]
def v39_1 : List VI := [.op (some 3) none (.ld true 4 (.t 1)), .call (some 4) none (.fn 14) [.t 3], .call (some 5) none (.fn 16) [.t 4], .op none none (.st 26 (.t 2) (.t 5))]
def v39 : VC := .seq (.reg v39_0) (.seq (.reg v39_1) .ret)
def rr39 : List RV := [.m 2 true 26]
theorem code39 : (Tryd.f39.body).bind (cCode Tryd.prog) = some v39 := by kernel_rfl
theorem res39 : cRVs Tryd.prog (Tryd.f39.results.toList) = some rr39 := by kernel_rfl
theorem nt39 : Tryd.f39.ntmps = 6 := by kernel_rfl
theorem nm39 : (Tryd.f39.name == "runtime.NumGoroutine") = false := by kernel_rfl
def v40_0 : List VI := [.op (some 2) none (.p (.mov (.c .nils)))]
def v40_1 : List VI := [.op (some 5) none (.p (.mov (.t 0))), .call (some 6) none (.fn 45) [.t 5], .op (some 0) none (.p (.mov (.t 6)))]
def v40_2 : List VI := [.op (some 3) none (.p (.mov (.c .nils)))]
def v40_3 : List VI := [.op (some 4) none (.p (.mov (.c (.int .i64 0))))]
def v40_4 : List VI := [.op (some 7) none (.p (.mov (.t 4))), .op (some 8) none (.p (.mov (.t 0))), .op (some 9) none (.p (.len false (.t 8))), .op (some 10) none (.p (.bin .lss (.t 7) (.t 9)))]
def v40_5 : List VI := [.op (some 13) none (.p (.mov (.t 3))), .op (some 14) none (.p (.mov (.t 0))), .op (some 15) none (.p (.mov (.t 4))), .op (some 16) none (.p (.ixs 4 (.t 14) (.t 15))), .op (some 17) none (.ld true 4 (.t 16)), .call (some 18) none (.fn 39) [.t 17], .op (some 19) none (.bsl 1 [.int .i64 0, .int .i64 0, .int .i64 0, .int .i64 0, .int .i64 0, .int .i64 0, .int .i64 0, .int .i64 0, .int .i64 0, .int .i64 0, .int .i64 0, .int .i64 0, .int .i64 0, .int .i64 0, .int .i64 0, .int .i64 0, .int .i64 0, .int .i64 0, .int .i64 0, .int .i64 0, .int .i64 0, .int .u64 (nl 0), .int .u64 (nl 0), .int .u64 (nl 0), .int .u64 (nl 0), .nils] [(0, 26, .t 18)]), .op (some 20) none (.app 26 224 false (.t 13) (.t 19)), .op (some 3) none (.p (.mov (.t 20)))]
def v40_6 : VC := .reg v40_5
def v40_7 : List VI := [.op (some 11) none (.p (.mov (.t 4))), .op (some 12) none (.p (.bin .add (.t 11) (.c (.int .i64 1)))), .op (some 4) none (.p (.mov (.t 12)))]
def v40_8 : VC := .seq (.seq (.reg v40_4) (.cond (.t 10) .skip (.exit 0))) (.seq (.block 1 v40_6) (.reg v40_7))
def v40_9 : VC := .loop v40_8
def v40_10 : List VI := [.op (some 21) none (.p (.mov (.t 3))), .op (some 2) none (.p (.mov (.t 21)))]
def v40 : VC := .seq (.reg v40_0) (.seq (.reg v40_1) (.seq (.reg v40_2) (.seq (.seq (.reg v40_3) (.block 0 v40_9)) (.seq (.reg v40_10) .ret))))
def rr40 : List RV := [.t 2]
theorem code40 : (Tryd.f40.body).bind (cCode Tryd.prog) = some v40 := by kernel_rfl
theorem res40 : cRVs Tryd.prog (Tryd.f40.results.toList) = some rr40 := by kernel_rfl
theorem nt40 : Tryd.f40.ntmps = 22 := by kernel_rfl
theorem nm40 : (Tryd.f40.name == "runtime.NumGoroutine") = false := by kernel_rfl
def v41_0 : List VI := [.op (some 3) none (.box (.t 0)), .op (some 4) none (.box (.t 1)), .op (some 6) none (.p (.mov (.c (.int .i64 0))))]
def v41_1 : List VI := [.op (some 12) none (.p (.fda 8 (.t 3))), .op (some 13) none (.ld false 1 (.t 12)), .op (some 14) none (.p (.len false (.t 13))), .call (some 15) none (.fn 77) [.t 14], .op (some 11) none (.p (.mov (.t 15))), .op (some 16) none (.p (.ext (.t 11) 0)), .op (some 17) none (.p (.ext (.t 11) 1)), .op (some 7) none (.p (.mov (.t 16))), .op (some 8) none (.p (.mov (.t 17)))]
def v41_2 : List VI := [.op (some 18) none (.p (.mov (.t 8))), .op (some 19) none (.p (.un .not (.t 18))), .op (some 20) none (.p (.mov (.t 19))), .op (some 21) (some (20, false)) (.p (.fda 9 (.t 3))), .op (some 22) (some (20, false)) (.ld false 1 (.t 21)), .op (some 23) (some (20, false)) (.p (.len false (.t 22))), .op (some 24) (some (20, false)) (.p (.fda 8 (.t 3))), .op (some 25) (some (20, false)) (.ld false 1 (.t 24)), .op (some 26) (some (20, false)) (.p (.len false (.t 25))), .op (some 27) (some (20, false)) (.p (.eq true .i (.t 23) (.t 26))), .op (some 28) none (.p (.pick (.t 20) (.c (.bool true)) (.t 27))), .op (some 29) none (.p (.mov (.t 28))), .op (some 30) (some (29, false)) (.p (.fda 0 (.t 4))), .op (some 31) (some (29, false)) (.ld false 1 (.t 30)), .op (some 32) (some (29, false)) (.p (.len false (.t 31))), .op (some 33) (some (29, false)) (.p (.mov (.t 7))), .op (some 34) (some (29, false)) (.p (.eq true .i (.t 32) (.t 33))), .op (some 35) none (.p (.pick (.t 29) (.c (.bool true)) (.t 34))), .op (some 36) none (.p (.mov (.t 35))), .op (some 37) (some (36, false)) (.p (.fda 1 (.t 4))), .op (some 38) (some (36, false)) (.ld false 1 (.t 37)), .op (some 39) (some (36, false)) (.p (.len false (.t 38))), .op (some 40) (some (36, false)) (.p (.mov (.t 7))), .op (some 41) (some (36, false)) (.p (.eq true .i (.t 39) (.t 40))), .op (some 42) none (.p (.pick (.t 36) (.c (.bool true)) (.t 41))), .op (some 43) none (.p (.mov (.t 42))), .op (some 44) (some (43, false)) (.p (.mov (.t 2))), .op (some 45) (some (43, false)) (.p (.len false (.t 44))), .op (some 46) (some (43, false)) (.p (.mov (.t 7))), .op (some 47) (some (43, false)) (.p (.eq true .i (.t 45) (.t 46))), .op (some 48) none (.p (.pick (.t 43) (.c (.bool true)) (.t 47)))]
def v41_3 : List VI := [.op (some 6) none (.p (.mov (.c (.int .i64 2))))]
def v41_4 : List VI := [.op (some 49) none (.p (.mov (.t 2))), .op (some 50) none (.p (.len false (.t 49))), .op (some 51) none (.p (.mov (.c (.int .i64 0))))]
def v41_5 : List VI := [.op (some 52) none (.p (.bin .lss (.t 51) (.t 50)))]
def v41_6 : List VI := [.op (some 53) none (.p (.ixs 4 (.t 49) (.t 51))), .op (some 54) none (.ld true 4 (.t 53)), .op (some 10) none (.new [.int .u64 (nl 0), .int .u64 (nl 0), .int .u64 (nl 0), .int .u64 (nl 0)]), .op none none (.st 4 (.t 10) (.t 54))]
def v41_7 : List VI := [.op (some 55) none (.ld true 4 (.t 10)), .call (some 56) none (.fn 24) [.t 55]]
def v41_8 : List VI := [.op (some 6) none (.p (.mov (.c (.int .i64 4))))]
def v41_9 : VC := .seq (.reg v41_6) (.seq (.reg v41_7) (.cond (.t 56) (.seq (.reg v41_8) .ret) .skip))
def v41_10 : List VI := [.op (some 57) none (.p (.bin .add (.t 51) (.c (.int .i64 1)))), .op (some 51) none (.p (.mov (.t 57)))]
def v41_11 : VC := .seq (.reg v41_5) (.seq (.cond (.t 52) .skip (.exit 0)) (.seq (.block 1 v41_9) (.reg v41_10)))
def v41_12 : VC := .loop v41_11
def v41_13 : List VI := [.op (some 6) none (.p (.mov (.c (.int .i64 0))))]
def v41 : VC := .seq (.reg v41_0) (.seq (.reg v41_1) (.seq (.seq (.reg v41_2) (.cond (.t 48) (.seq (.reg v41_3) .ret) .skip)) (.seq (.seq (.reg v41_4) (.block 0 v41_12)) (.seq (.reg v41_13) .ret))))
def rr41 : List RV := [.t 6]
theorem code41 : (Tryd.f41.body).bind (cCode Tryd.prog) = some v41 := by kernel_rfl
theorem res41 : cRVs Tryd.prog (Tryd.f41.results.toList) = some rr41 := by kernel_rfl
theorem nt41 : Tryd.f41.ntmps = 58 := by kernel_rfl
theorem nm41 : (Tryd.f41.name == "runtime.NumGoroutine") = false := by kernel_rfl
def v42_0 : List VI := [.op (some 2) none (.p (.mov (.c .nils)))]
def v42_1 : List VI := [.op (some 10) none (.p (.mov (.t 0))), .op (some 11) none (.p (.len false (.t 10))), .op (some 12) none (.p (.eq false .i (.t 11) (.c (.int .i64 0))))]
def v42_2 : List VI := [.op (some 2) none (.p (.mov (.c .nils)))]
def v42_3 : List VI := [.op (some 13) none (.p (.mov (.t 0))), .op (some 14) none (.p (.len false (.t 13))), .op (some 15) none (.mks 4 32 [.int .u64 (nl 0), .int .u64 (nl 0), .int .u64 (nl 0), .int .u64 (nl 0)] (.t 14) (.t 14)), .op (some 3) none (.p (.mov (.t 15)))]
def v42_4 : List VI := [.op (some 16) none (.p (.mov (.t 0))), .op (some 17) none (.p (.ixs 4 (.t 16) (.c (.int .i64 0)))), .op (some 18) none (.ld true 4 (.t 17)), .op (some 19) none (.p (.mkI 27 (.t 18))), .call (some 20) none (.inv (.t 19) "One") [], .op (some 4) none (.new [.int .u64 (nl 0), .int .u64 (nl 0), .int .u64 (nl 0), .int .u64 (nl 0)]), .op none none (.st 4 (.t 4) (.t 20))]
def v42_5 : List VI := [.op (some 21) none (.p (.mov (.t 0))), .op (some 22) none (.p (.len false (.t 21))), .op (some 23) none (.p (.mov (.c (.int .i64 0))))]
def v42_6 : List VI := [.op (some 24) none (.p (.bin .lss (.t 23) (.t 22)))]
def v42_7 : List VI := [.op (some 25) none (.p (.mov (.t 23))), .op (some 26) none (.p (.ixs 4 (.t 21) (.t 23))), .op (some 27) none (.ld true 4 (.t 26)), .op (some 6) none (.new [.int .u64 (nl 0), .int .u64 (nl 0), .int .u64 (nl 0), .int .u64 (nl 0)]), .op (some 5) none (.p (.mov (.t 25))), .op none none (.st 4 (.t 6) (.t 27))]
def v42_8 : List VI := [.op (some 28) none (.p (.mov (.t 3))), .op (some 29) none (.p (.mov (.t 5))), .op (some 30) none (.ld true 4 (.t 4)), .op (some 31) none (.p (.ixs 4 (.t 28) (.t 29))), .op none none (.st 4 (.t 31) (.t 30))]
def v42_9 : List VI := [.op (some 32) none (.ld true 4 (.t 6)), .op (some 33) none (.p (.mkI 27 (.t 32))), .call (some 34) none (.inv (.t 33) "IsZero") [], .op (some 35) none (.p (.un .not (.t 34)))]
def v42_10 : List VI := [.op (some 36) none (.ld true 4 (.t 4)), .op (some 37) none (.p (.mkI 27 (.t 36))), .op (some 38) none (.ld true 4 (.t 6)), .call (some 39) none (.inv (.t 37) "Mul") [.t 38], .op none none (.st 4 (.t 4) (.t 39))]
def v42_11 : VC := .seq (.reg v42_7) (.seq (.reg v42_8) (.seq (.reg v42_9) (.cond (.t 35) (.reg v42_10) .skip)))
def v42_12 : List VI := [.op (some 40) none (.p (.bin .add (.t 23) (.c (.int .i64 1)))), .op (some 23) none (.p (.mov (.t 40)))]
def v42_13 : VC := .seq (.reg v42_6) (.seq (.cond (.t 24) .skip (.exit 0)) (.seq (.block 1 v42_11) (.reg v42_12)))
def v42_14 : VC := .loop v42_13
def v42_15 : List VI := [.op (some 41) none (.ld true 4 (.t 4)), .op (some 42) none (.p (.mkI 27 (.t 41))), .call (some 43) none (.inv (.t 42) "Invert") [], .op (some 7) none (.new [.int .u64 (nl 0), .int .u64 (nl 0), .int .u64 (nl 0), .int .u64 (nl 0)]), .op none none (.st 4 (.t 7) (.t 43))]
def v42_16 : List VI := [.op (some 44) none (.p (.mov (.t 0))), .op (some 45) none (.p (.len false (.t 44))), .op (some 46) none (.p (.bin .sub (.t 45) (.c (.int .i64 1)))), .op (some 8) none (.p (.mov (.t 46)))]
def v42_17 : List VI := [.op (some 47) none (.p (.mov (.t 8))), .op (some 48) none (.p (.bin .geq (.t 47) (.c (.int .i64 0))))]
def v42_18 : List VI := [.op (some 51) none (.p (.mov (.t 0))), .op (some 52) none (.p (.mov (.t 8))), .op (some 53) none (.p (.ixs 4 (.t 51) (.t 52))), .op (some 54) none (.ld true 4 (.t 53)), .op (some 55) none (.p (.mkI 27 (.t 54))), .call (some 56) none (.inv (.t 55) "IsZero") []]
def v42_19 : List VI := [.op (some 9) none (.new [.int .u64 (nl 0), .int .u64 (nl 0), .int .u64 (nl 0), .int .u64 (nl 0)])]
def v42_20 : List VI := [.op (some 57) none (.p (.mov (.t 3))), .op (some 58) none (.p (.mov (.t 8))), .op (some 59) none (.ld true 4 (.t 9)), .op (some 60) none (.p (.ixs 4 (.t 57) (.t 58))), .op none none (.st 4 (.t 60) (.t 59))]
def v42_21 : List DS := [.mk 0 true (.op (some 61) none (.p (.mov (.t 3)))) [] [], .mk 1 true (.op (some 62) none (.p (.mov (.t 8)))) [] [], .mk 2 true (.op (some 63) none (.p (.mov (.t 3)))) [] [], .mk 3 true (.op (some 64) none (.p (.mov (.t 8)))) [] [], .mk 4 true (.op (some 65) none (.p (.ixs 4 (.t 63) (.t 64)))) [] [], .mk 5 true (.op (some 66) none (.ld true 4 (.t 65))) [] [], .mk 6 true (.op (some 67) none (.p (.mkI 27 (.t 66)))) [] [], .mk 7 true (.op (some 68) none (.ld true 4 (.t 7))) [] [], .mk 8 false (.call (some 69) none (.inv (.t 67) "Mul") [.t 68]) [] [], .mk 9 true (.op (some 70) none (.p (.ixs 4 (.t 61) (.t 62)))) [] [], .mk 10 false (.op none none (.st 4 (.t 70) (.t 69))) [] []]
def v42_22 : List DS := [.mk 0 true (.op (some 71) none (.ld true 4 (.t 7))) [] [], .mk 1 true (.op (some 72) none (.p (.mkI 27 (.t 71)))) [] [], .mk 2 true (.op (some 73) none (.p (.mov (.t 0)))) [] [], .mk 3 true (.op (some 74) none (.p (.mov (.t 8)))) [] [], .mk 4 true (.op (some 75) none (.p (.ixs 4 (.t 73) (.t 74)))) [] [], .mk 5 true (.op (some 76) none (.ld true 4 (.t 75))) [] [], .mk 6 false (.call (some 77) none (.inv (.t 72) "Mul") [.t 76]) [] [], .mk 7 false (.op none none (.st 4 (.t 7) (.t 77))) [] []]
def v42_23 : VC := .seq (.seq (.reg v42_18) (.cond (.t 56) (.seq (.reg v42_19) (.seq (.reg v42_20) (.exit 3))) .skip)) (.seq (.drw v42_21) (.drw v42_22))
def v42_24 : List VI := [.op (some 49) none (.p (.mov (.t 8))), .op (some 50) none (.p (.bin .sub (.t 49) (.c (.int .i64 1)))), .op (some 8) none (.p (.mov (.t 50)))]
def v42_25 : VC := .seq (.seq (.reg v42_17) (.cond (.t 48) .skip (.exit 2))) (.seq (.block 3 v42_23) (.reg v42_24))
def v42_26 : VC := .loop v42_25
def v42_27 : List VI := [.op (some 78) none (.p (.mov (.t 3))), .op (some 2) none (.p (.mov (.t 78)))]
def v42 : VC := .seq (.reg v42_0) (.seq (.seq (.reg v42_1) (.cond (.t 12) (.seq (.reg v42_2) .ret) .skip)) (.seq (.reg v42_3) (.seq (.reg v42_4) (.seq (.seq (.reg v42_5) (.block 0 v42_14)) (.seq (.reg v42_15) (.seq (.seq (.reg v42_16) (.block 2 v42_26)) (.seq (.reg v42_27) .ret)))))))
def rr42 : List RV := [.t 2]
theorem code42 : (Tryd.f42.body).bind (cCode Tryd.prog) = some v42 := by kernel_rfl
theorem res42 : cRVs Tryd.prog (Tryd.f42.results.toList) = some rr42 := by kernel_rfl
theorem nt42 : Tryd.f42.ntmps = 79 := by kernel_rfl
theorem nm42 : (Tryd.f42.name == "runtime.NumGoroutine") = false := by kernel_rfl
def v43_0 : List VI := [.op (some 1) none (.box (.t 0)), .op (some 2) none (.new [.int .u64 (nl 0), .int .u64 (nl 0), .int .u64 (nl 0), .int .u64 (nl 0)])]
def v43_1 : List VI := [.op (some 3) none (.p (.bld [.int .u64 (nl 0), .int .u64 (nl 0), .int .u64 (nl 0), .int .u64 (nl 0)] [])), .op (some 4) none (.ld true 4 (.t 1)), .call (some 5) none (.fn 69) [.t 3, .t 4], .op none none (.st 4 (.t 2) (.t 5))]
def v43 : VC := .seq (.reg v43_0) (.seq (.reg v43_1) .ret)
def rr43 : List RV := [.m 2 true 4]
theorem code43 : (Tryd.f43.body).bind (cCode Tryd.prog) = some v43 := by kernel_rfl
theorem res43 : cRVs Tryd.prog (Tryd.f43.results.toList) = some rr43 := by kernel_rfl
theorem nt43 : Tryd.f43.ntmps = 6 := by kernel_rfl
theorem nm43 : (Tryd.f43.name == "runtime.NumGoroutine") = false := by kernel_rfl
def v44_0 : List VI := [.op (some 2) none (.new [.int .u64 (nl 0), .int .u64 (nl 0), .int .u64 (nl 0), .int .u64 (nl 0)])]
def v44_1 : List VI := [.op (some 3) none (.p (.mov (.t 0))), .op (some 4) none (.p (.bld [.int .u64 (nl 0), .int .u64 (nl 0), .int .u64 (nl 0), .int .u64 (nl 0)] [(0, 1, .t 3)])), .op none none (.st 4 (.t 2) (.t 4))]
def v44 : VC := .seq (.reg v44_0) (.seq (.reg v44_1) .ret)
def rr44 : List RV := [.m 2 true 4]
theorem code44 : (Tryd.f44.body).bind (cCode Tryd.prog) = some v44 := by kernel_rfl
theorem res44 : cRVs Tryd.prog (Tryd.f44.results.toList) = some rr44 := by kernel_rfl
theorem nt44 : Tryd.f44.ntmps = 5 := by kernel_rfl
theorem nm44 : (Tryd.f44.name == "runtime.NumGoroutine") = false := by kernel_rfl
def v45_0 : List VI := [.op (some 2) none (.p (.mov (.c .nils)))]
def v45_1 : List VI := [.op (some 3) none (.p (.mov (.t 0))), .op (some 4) none (.p (.len false (.t 3))), .op (some 5) none (.p (.bin .gtr (.t 4) (.c (.int .i64 2100))))]
def v45_2 : List VI := [.op (some 6) none (.p (.mov (.t 0))), .op (some 7) none (.slx 4 (.t 6) none (some (.c (.int .i64 2100))) none), .op (some 2) none (.p (.mov (.t 7)))]
def v45_3 : List VI := [.op (some 8) none (.p (.mov (.t 0))), .op (some 2) none (.p (.mov (.t 8)))]
def v45 : VC := .seq (.reg v45_0) (.seq (.seq (.reg v45_1) (.cond (.t 5) (.seq (.reg v45_2) .ret) .skip)) (.seq (.reg v45_3) .ret))
def rr45 : List RV := [.t 2]
theorem code45 : (Tryd.f45.body).bind (cCode Tryd.prog) = some v45 := by kernel_rfl
theorem res45 : cRVs Tryd.prog (Tryd.f45.results.toList) = some rr45 := by kernel_rfl
theorem nt45 : Tryd.f45.ntmps = 9 := by kernel_rfl
theorem nm45 : (Tryd.f45.name == "runtime.NumGoroutine") = false := by kernel_rfl
def v46_0 : List VI := [.op (some 2) none (.p (.mov (.c (.int .i64 0))))]
def v46_1 : List VI := [.op (some 3) none (.p (.mov (.c (.int .i64 0))))]
def v46_2 : List VI := [.op (some 4) none (.p (.mov (.t 3))), .op (some 5) none (.p (.bin .leq (.t 4) (.c (.int .i64 10))))]
def v46_3 : List VI := [.op (some 8) none (.p (.mov (.t 3))), .op (some 9) none (.p (.bin .shl (.c (.int .i64 1)) (.t 8))), .op (some 10) none (.p (.mov (.t 0))), .op (some 11) none (.p (.eq false .i (.t 9) (.t 10)))]
def v46_4 : List VI := [.op (some 12) none (.p (.mov (.t 3))), .op (some 2) none (.p (.mov (.t 12)))]
def v46_5 : VC := .seq (.reg v46_3) (.cond (.t 11) (.seq (.reg v46_4) .ret) .skip)
def v46_6 : List VI := [.op (some 6) none (.p (.mov (.t 3))), .op (some 7) none (.p (.bin .add (.t 6) (.c (.int .i64 1)))), .op (some 3) none (.p (.mov (.t 7)))]
def v46_7 : VC := .seq (.seq (.reg v46_2) (.cond (.t 5) .skip (.exit 0))) (.seq (.block 1 v46_5) (.reg v46_6))
def v46_8 : VC := .loop v46_7
def v46_9 : List VI := [.op (some 2) none (.p (.mov (.c (.int .i64 (-1)))))]
def v46 : VC := .seq (.reg v46_0) (.seq (.seq (.reg v46_1) (.block 0 v46_8)) (.seq (.reg v46_9) .ret))
def rr46 : List RV := [.t 2]
theorem code46 : (Tryd.f46.body).bind (cCode Tryd.prog) = some v46 := by kernel_rfl
theorem res46 : cRVs Tryd.prog (Tryd.f46.results.toList) = some rr46 := by kernel_rfl
theorem nt46 : Tryd.f46.ntmps = 13 := by kernel_rfl
theorem nm46 : (Tryd.f46.name == "runtime.NumGoroutine") = false := by kernel_rfl
def v47_0 : List VI := [.op (some 1) none (.box (.t 0)), .op (some 2) none (.p (.mov (.c (.bool false))))]
def v47_1 : List VI := [.op (some 3) none (.ld true 4 (.t 1)), .op (some 4) none (.p (.bld [.int .u64 (nl 0), .int .u64 (nl 0), .int .u64 (nl 0), .int .u64 (nl 0)] [])), .op (some 5) none (.p (.eqa false [.i, .i, .i, .i] (.t 3) (.t 4))), .op (some 2) none (.p (.mov (.t 5)))]
def v47 : VC := .seq (.reg v47_0) (.seq (.reg v47_1) .ret)
def rr47 : List RV := [.t 2]
theorem code47 : (Tryd.f47.body).bind (cCode Tryd.prog) = some v47 := by kernel_rfl
theorem res47 : cRVs Tryd.prog (Tryd.f47.results.toList) = some rr47 := by kernel_rfl
theorem nt47 : Tryd.f47.ntmps = 6 := by kernel_rfl
theorem nm47 : (Tryd.f47.name == "runtime.NumGoroutine") = false := by kernel_rfl
def v48_0 : List VI := [.op (some 2) none (.box (.t 0)), .op (some 3) none (.box (.t 1)), .op (some 4) none (.new [.int .u64 (nl 0), .int .u64 (nl 0), .int .u64 (nl 0), .int .u64 (nl 0)]), .op (some 5) none (.p (.mov (.c (.int .u64 (nl 0)))))]
def v48_1 : List VI := [.op (some 6) none (.new [.int .u64 (nl 0), .int .u64 (nl 0), .int .u64 (nl 0), .int .u64 (nl 0)])]
def v48_2 : List VI := [.op (some 7) none (.p (.mov (.c (.int .u64 (nl 0)))))]
def v48_3 : List VI := [.op (some 8) none (.p (.mov (.c (.int .i64 0))))]
def v48_4 : List VI := [.op (some 12) none (.p (.mov (.t 8))), .op (some 13) none (.p (.bin .lss (.t 12) (.c (.int .i64 4))))]
def v48_5 : List DS := [.mk 0 true (.op (some 16) none (.p (.mov (.t 8)))) [] [], .mk 1 true (.op (some 17) none (.p (.ixa 4 1 (.t 2) (.t 16)))) [] [], .mk 2 true (.op (some 18) none (.ld false 1 (.t 17))) [] [], .mk 3 true (.op (some 19) none (.p (.mov (.t 8)))) [] [], .mk 4 true (.op (some 20) none (.p (.ixa 4 1 (.t 3) (.t 19)))) [] [], .mk 5 true (.op (some 21) none (.ld false 1 (.t 20))) [] [], .mk 6 true (.op (some 22) none (.p (.bin .add (.t 18) (.t 21)))) [] [], .mk 7 false (.op (some 9) none (.p (.mov (.t 22)))) [] []]
def v48_6 : List VI := [.op (some 10) none (.p (.mov (.c (.int .u64 (nl 0)))))]
def v48_7 : List VI := [.op (some 23) none (.p (.mov (.t 9))), .op (some 24) none (.p (.mov (.t 8))), .op (some 25) none (.p (.ixa 4 1 (.t 2) (.t 24))), .op (some 26) none (.ld false 1 (.t 25)), .op (some 27) none (.p (.bin .lss (.t 23) (.t 26)))]
def v48_8 : List VI := [.op (some 10) none (.p (.mov (.c (.int .u64 (nl 1)))))]
def v48_9 : List VI := [.op (some 28) none (.p (.mov (.t 9))), .op (some 29) none (.p (.mov (.t 7))), .op (some 30) none (.p (.bin .add (.t 28) (.t 29))), .op (some 11) none (.p (.mov (.t 30)))]
def v48_10 : List VI := [.op (some 31) none (.p (.mov (.t 11))), .op (some 32) none (.p (.mov (.t 9))), .op (some 33) none (.p (.bin .lss (.t 31) (.t 32)))]
def v48_11 : List VI := [.op (some 10) none (.p (.mov (.c (.int .u64 (nl 1)))))]
def v48_12 : List VI := [.op (some 34) none (.p (.mov (.t 8))), .op (some 35) none (.p (.mov (.t 11))), .op (some 36) none (.p (.ixa 4 1 (.t 6) (.t 34))), .op none none (.st 1 (.t 36) (.t 35))]
def v48_13 : List VI := [.op (some 37) none (.p (.mov (.t 10))), .op (some 7) none (.p (.mov (.t 37)))]
def v48_14 : VC := .seq (.drw v48_5) (.seq (.reg v48_6) (.seq (.seq (.reg v48_7) (.cond (.t 27) (.reg v48_8) .skip)) (.seq (.reg v48_9) (.seq (.seq (.reg v48_10) (.cond (.t 33) (.reg v48_11) .skip)) (.seq (.reg v48_12) (.reg v48_13))))))
def v48_15 : List VI := [.op (some 14) none (.p (.mov (.t 8))), .op (some 15) none (.p (.bin .add (.t 14) (.c (.int .i64 1)))), .op (some 8) none (.p (.mov (.t 15)))]
def v48_16 : VC := .seq (.seq (.reg v48_4) (.cond (.t 13) .skip (.exit 0))) (.seq (.block 1 v48_14) (.reg v48_15))
def v48_17 : VC := .loop v48_16
def v48_18 : List VI := [.op (some 38) none (.ld true 4 (.t 6)), .op (some 39) none (.p (.mov (.t 7))), .op none none (.st 4 (.t 4) (.t 38)), .op (some 5) none (.p (.mov (.t 39)))]
def v48 : VC := .seq (.reg v48_0) (.seq (.reg v48_1) (.seq (.reg v48_2) (.seq (.seq (.reg v48_3) (.block 0 v48_17)) (.seq (.reg v48_18) .ret))))
def rr48 : List RV := [.m 4 true 4, .t 5]
theorem code48 : (Tryd.f48.body).bind (cCode Tryd.prog) = some v48 := by kernel_rfl
theorem res48 : cRVs Tryd.prog (Tryd.f48.results.toList) = some rr48 := by kernel_rfl
theorem nt48 : Tryd.f48.ntmps = 40 := by kernel_rfl
theorem nm48 : (Tryd.f48.name == "runtime.NumGoroutine") = false := by kernel_rfl
def v49_0 : List VI := [.op (some 2) none (.box (.t 0)), .op (some 3) none (.box (.t 1)), .op (some 4) none (.p (.mov (.c (.bool false))))]
def v49_1 : List VI := [.op (some 5) none (.p (.mov (.c (.int .i64 3))))]
def v49_2 : List VI := [.op (some 6) none (.p (.mov (.t 5))), .op (some 7) none (.p (.bin .geq (.t 6) (.c (.int .i64 0))))]
def v49_3 : List DS := [.mk 0 true (.op (some 10) none (.p (.mov (.t 5)))) [] [], .mk 1 true (.op (some 11) none (.p (.ixa 4 1 (.t 2) (.t 10)))) [] [], .mk 2 true (.op (some 12) none (.ld false 1 (.t 11))) [] [], .mk 3 true (.op (some 13) none (.p (.mov (.t 5)))) [] [], .mk 4 true (.op (some 14) none (.p (.ixa 4 1 (.t 3) (.t 13)))) [] [], .mk 5 true (.op (some 15) none (.ld false 1 (.t 14))) [] [], .mk 6 true (.op (some 16) none (.p (.eq true .i (.t 12) (.t 15)))) [] []]
def v49_4 : List DS := [.mk 0 true (.op (some 17) none (.p (.mov (.t 5)))) [] [], .mk 1 true (.op (some 18) none (.p (.ixa 4 1 (.t 2) (.t 17)))) [] [], .mk 2 true (.op (some 19) none (.ld false 1 (.t 18))) [] [], .mk 3 true (.op (some 20) none (.p (.mov (.t 5)))) [] [], .mk 4 true (.op (some 21) none (.p (.ixa 4 1 (.t 3) (.t 20)))) [] [], .mk 5 true (.op (some 22) none (.ld false 1 (.t 21))) [] [], .mk 6 true (.op (some 23) none (.p (.bin .lss (.t 19) (.t 22)))) [] [], .mk 7 false (.op (some 4) none (.p (.mov (.t 23)))) [] []]
def v49_5 : VC := .seq (.drw v49_3) (.cond (.t 16) (.seq (.drw v49_4) .ret) .skip)
def v49_6 : List VI := [.op (some 8) none (.p (.mov (.t 5))), .op (some 9) none (.p (.bin .sub (.t 8) (.c (.int .i64 1)))), .op (some 5) none (.p (.mov (.t 9)))]
def v49_7 : VC := .seq (.seq (.reg v49_2) (.cond (.t 7) .skip (.exit 0))) (.seq (.block 1 v49_5) (.reg v49_6))
def v49_8 : VC := .loop v49_7
def v49_9 : List VI := [.op (some 4) none (.p (.mov (.c (.bool false))))]
def v49 : VC := .seq (.reg v49_0) (.seq (.seq (.reg v49_1) (.block 0 v49_8)) (.seq (.reg v49_9) .ret))
def rr49 : List RV := [.t 4]
theorem code49 : (Tryd.f49.body).bind (cCode Tryd.prog) = some v49 := by kernel_rfl
theorem res49 : cRVs Tryd.prog (Tryd.f49.results.toList) = some rr49 := by kernel_rfl
theorem nt49 : Tryd.f49.ntmps = 24 := by kernel_rfl
theorem nm49 : (Tryd.f49.name == "runtime.NumGoroutine") = false := by kernel_rfl
def v50_0 : List VI := [.op (some 0) none (.new [.int .u64 (nl 0), .int .u64 (nl 0), .int .u64 (nl 0), .int .u64 (nl 0)])]
def v50_1 : List VI := [.op (some 1) none (.p (.bld [.int .u64 (nl 0), .int .u64 (nl 0), .int .u64 (nl 0), .int .u64 (nl 0)] [(0, 1, .c (.int .u64 (nl 6346243789798364141))), (1, 1, .c (.int .u64 (nl 1503914060200516822))), (2, 1, .c (.int .u64 (nl 0))), (3, 1, .c (.int .u64 (nl 1152921504606846976)))])), .op none none (.st 4 (.t 0) (.t 1))]
def v50 : VC := .seq (.reg v50_0) (.seq (.reg v50_1) .ret)
def rr50 : List RV := [.m 0 true 4]
theorem code50 : (Tryd.f50.body).bind (cCode Tryd.prog) = some v50 := by kernel_rfl
theorem res50 : cRVs Tryd.prog (Tryd.f50.results.toList) = some rr50 := by kernel_rfl
theorem nt50 : Tryd.f50.ntmps = 2 := by kernel_rfl
theorem nm50 : (Tryd.f50.name == "runtime.NumGoroutine") = false := by kernel_rfl
def v51_0 : List VI := [.op (some 2) none (.box (.t 0)), .op (some 3) none (.box (.t 1)), .op (some 4) none (.new [.int .u64 (nl 0), .int .u64 (nl 0), .int .u64 (nl 0), .int .u64 (nl 0)]), .op (some 5) none (.p (.mov (.c (.int .u64 (nl 0)))))]
def v51_1 : List VI := [.op (some 6) none (.new [.int .u64 (nl 0), .int .u64 (nl 0), .int .u64 (nl 0), .int .u64 (nl 0)])]
def v51_2 : List VI := [.op (some 7) none (.p (.mov (.c (.int .u64 (nl 0)))))]
def v51_3 : List VI := [.op (some 8) none (.p (.mov (.c (.int .i64 0))))]
def v51_4 : List VI := [.op (some 12) none (.p (.mov (.t 8))), .op (some 13) none (.p (.bin .lss (.t 12) (.c (.int .i64 4))))]
def v51_5 : List DS := [.mk 0 true (.op (some 16) none (.p (.mov (.t 8)))) [] [], .mk 1 true (.op (some 17) none (.p (.ixa 4 1 (.t 2) (.t 16)))) [] [], .mk 2 true (.op (some 18) none (.ld false 1 (.t 17))) [] [], .mk 3 true (.op (some 19) none (.p (.mov (.t 8)))) [] [], .mk 4 true (.op (some 20) none (.p (.ixa 4 1 (.t 3) (.t 19)))) [] [], .mk 5 true (.op (some 21) none (.ld false 1 (.t 20))) [] [], .mk 6 true (.op (some 22) none (.p (.bin .sub (.t 18) (.t 21)))) [] [], .mk 7 false (.op (some 9) none (.p (.mov (.t 22)))) [] []]
def v51_6 : List VI := [.op (some 10) none (.p (.mov (.c (.int .u64 (nl 0)))))]
def v51_7 : List DS := [.mk 0 true (.op (some 23) none (.p (.mov (.t 8)))) [] [], .mk 1 true (.op (some 24) none (.p (.ixa 4 1 (.t 2) (.t 23)))) [] [], .mk 2 true (.op (some 25) none (.ld false 1 (.t 24))) [] [], .mk 3 true (.op (some 26) none (.p (.mov (.t 8)))) [] [], .mk 4 true (.op (some 27) none (.p (.ixa 4 1 (.t 3) (.t 26)))) [] [], .mk 5 true (.op (some 28) none (.ld false 1 (.t 27))) [] [], .mk 6 true (.op (some 29) none (.p (.bin .lss (.t 25) (.t 28)))) [] []]
def v51_8 : List VI := [.op (some 10) none (.p (.mov (.c (.int .u64 (nl 1)))))]
def v51_9 : List VI := [.op (some 30) none (.p (.mov (.t 9))), .op (some 31) none (.p (.mov (.t 7))), .op (some 32) none (.p (.bin .sub (.t 30) (.t 31))), .op (some 11) none (.p (.mov (.t 32)))]
def v51_10 : List VI := [.op (some 33) none (.p (.mov (.t 9))), .op (some 34) none (.p (.mov (.t 7))), .op (some 35) none (.p (.bin .lss (.t 33) (.t 34)))]
def v51_11 : List VI := [.op (some 10) none (.p (.mov (.c (.int .u64 (nl 1)))))]
def v51_12 : List VI := [.op (some 36) none (.p (.mov (.t 8))), .op (some 37) none (.p (.mov (.t 11))), .op (some 38) none (.p (.ixa 4 1 (.t 6) (.t 36))), .op none none (.st 1 (.t 38) (.t 37))]
def v51_13 : List VI := [.op (some 39) none (.p (.mov (.t 10))), .op (some 7) none (.p (.mov (.t 39)))]
def v51_14 : VC := .seq (.drw v51_5) (.seq (.reg v51_6) (.seq (.seq (.drw v51_7) (.cond (.t 29) (.reg v51_8) .skip)) (.seq (.reg v51_9) (.seq (.seq (.reg v51_10) (.cond (.t 35) (.reg v51_11) .skip)) (.seq (.reg v51_12) (.reg v51_13))))))
def v51_15 : List VI := [.op (some 14) none (.p (.mov (.t 8))), .op (some 15) none (.p (.bin .add (.t 14) (.c (.int .i64 1)))), .op (some 8) none (.p (.mov (.t 15)))]
def v51_16 : VC := .seq (.seq (.reg v51_4) (.cond (.t 13) .skip (.exit 0))) (.seq (.block 1 v51_14) (.reg v51_15))
def v51_17 : VC := .loop v51_16
def v51_18 : List VI := [.op (some 40) none (.ld true 4 (.t 6)), .op (some 41) none (.p (.mov (.t 7))), .op none none (.st 4 (.t 4) (.t 40)), .op (some 5) none (.p (.mov (.t 41)))]
def v51 : VC := .seq (.reg v51_0) (.seq (.reg v51_1) (.seq (.reg v51_2) (.seq (.seq (.reg v51_3) (.block 0 v51_17)) (.seq (.reg v51_18) .ret))))
def rr51 : List RV := [.m 4 true 4, .t 5]
theorem code51 : (Tryd.f51.body).bind (cCode Tryd.prog) = some v51 := by kernel_rfl
theorem res51 : cRVs Tryd.prog (Tryd.f51.results.toList) = some rr51 := by kernel_rfl
theorem nt51 : Tryd.f51.ntmps = 42 := by kernel_rfl
theorem nm51 : (Tryd.f51.name == "runtime.NumGoroutine") = false := by kernel_rfl
def v52_0 : List VI := [.op (some 2) none (.new [.int .u64 (nl 0), .int .u64 (nl 0), .int .u64 (nl 0), .int .u64 (nl 0)])]
def v52_1 : List VI := [.op (some 3) none (.new [.int .u64 (nl 0), .int .u64 (nl 0), .int .u64 (nl 0), .int .u64 (nl 0)])]
def v52_2 : List VI := [.op (some 5) none (.p (.mov (.t 0))), .op (some 6) none (.p (.len false (.t 5))), .op (some 7) none (.p (.bin .sub (.t 6) (.c (.int .i64 1)))), .op (some 4) none (.p (.mov (.t 7)))]
def v52_3 : List VI := [.op (some 8) none (.p (.mov (.t 4))), .op (some 9) none (.p (.bin .geq (.t 8) (.c (.int .i64 0))))]
def v52_4 : List DS := [.mk 0 true (.op (some 12) none (.ld true 4 (.t 3))) [] [], .mk 1 true (.op (some 13) none (.p (.mov (.t 0)))) [] [], .mk 2 true (.op (some 14) none (.p (.mov (.t 4)))) [] [], .mk 3 true (.op (some 15) none (.p (.ixs 1 (.t 13) (.t 14)))) [] [], .mk 4 true (.op (some 16) none (.ld false 1 (.t 15))) [] [], .mk 5 false (.call (some 17) none (.fn 54) [.t 12, .t 16]) [] [], .mk 6 false (.op none none (.st 4 (.t 3) (.t 17))) [] []]
def v52_5 : VC := .drw v52_4
def v52_6 : List VI := [.op (some 10) none (.p (.mov (.t 4))), .op (some 11) none (.p (.bin .sub (.t 10) (.c (.int .i64 1)))), .op (some 4) none (.p (.mov (.t 11)))]
def v52_7 : VC := .seq (.seq (.reg v52_3) (.cond (.t 9) .skip (.exit 0))) (.seq (.block 1 v52_5) (.reg v52_6))
def v52_8 : VC := .loop v52_7
def v52_9 : List VI := [.op (some 18) none (.ld true 4 (.t 3)), .op none none (.st 4 (.t 2) (.t 18))]
def v52 : VC := .seq (.reg v52_0) (.seq (.reg v52_1) (.seq (.seq (.reg v52_2) (.block 0 v52_8)) (.seq (.reg v52_9) .ret)))
def rr52 : List RV := [.m 2 true 4]
theorem code52 : (Tryd.f52.body).bind (cCode Tryd.prog) = some v52 := by kernel_rfl
theorem res52 : cRVs Tryd.prog (Tryd.f52.results.toList) = some rr52 := by kernel_rfl
theorem nt52 : Tryd.f52.ntmps = 19 := by kernel_rfl
theorem nm52 : (Tryd.f52.name == "runtime.NumGoroutine") = false := by kernel_rfl
def v53_0 : List VI := [.op (some 1) none (.box (.t 0)), .op (some 2) none (.new [.int .u64 (nl 0), .int .u64 (nl 0), .int .u64 (nl 0), .int .u64 (nl 0), .int .u64 (nl 0), .int .u64 (nl 0), .int .u64 (nl 0), .int .u64 (nl 0)])]
def v53_1 : List VI := [.op (some 3) none (.new [.int .u64 (nl 0), .int .u64 (nl 0), .int .u64 (nl 0), .int .u64 (nl 0), .int .u64 (nl 0), .int .u64 (nl 0), .int .u64 (nl 0), .int .u64 (nl 0)])]
def v53_2 : List VI := [.op (some 4) none (.p (.mov (.c (.int .i64 0))))]
def v53_3 : List VI := [.op (some 5) none (.p (.mov (.t 4))), .op (some 6) none (.p (.bin .lss (.t 5) (.c (.int .i64 4))))]
def v53_4 : List VI := [.op (some 9) none (.p (.mov (.t 4))), .op (some 10) none (.p (.bin .mul (.c (.int .i64 2)) (.t 9))), .op (some 11) none (.p (.mov (.t 4))), .op (some 12) none (.p (.ixa 4 1 (.t 1) (.t 11))), .op (some 13) none (.ld false 1 (.t 12)), .op (some 14) none (.p (.bin .and (.t 13) (.c (.int .u64 (nl 4294967295))))), .op (some 15) none (.p (.ixa 8 1 (.t 3) (.t 10))), .op none none (.st 1 (.t 15) (.t 14))]
def v53_5 : List VI := [.op (some 16) none (.p (.mov (.t 4))), .op (some 17) none (.p (.bin .mul (.c (.int .i64 2)) (.t 16))), .op (some 18) none (.p (.bin .add (.t 17) (.c (.int .i64 1)))), .op (some 19) none (.p (.mov (.t 4))), .op (some 20) none (.p (.ixa 4 1 (.t 1) (.t 19))), .op (some 21) none (.ld false 1 (.t 20)), .op (some 22) none (.p (.bin .shr (.t 21) (.c (.int .u64 (nl 32))))), .op (some 23) none (.p (.ixa 8 1 (.t 3) (.t 18))), .op none none (.st 1 (.t 23) (.t 22))]
def v53_6 : VC := .seq (.reg v53_4) (.reg v53_5)
def v53_7 : List VI := [.op (some 7) none (.p (.mov (.t 4))), .op (some 8) none (.p (.bin .add (.t 7) (.c (.int .i64 1)))), .op (some 4) none (.p (.mov (.t 8)))]
def v53_8 : VC := .seq (.seq (.reg v53_3) (.cond (.t 6) .skip (.exit 0))) (.seq (.block 1 v53_6) (.reg v53_7))
def v53_9 : VC := .loop v53_8
def v53_10 : List VI := [.op (some 24) none (.ld true 8 (.t 3)), .op none none (.st 8 (.t 2) (.t 24))]
def v53 : VC := .seq (.reg v53_0) (.seq (.reg v53_1) (.seq (.seq (.reg v53_2) (.block 0 v53_9)) (.seq (.reg v53_10) .ret)))
def rr53 : List RV := [.m 2 true 8]
theorem code53 : (Tryd.f53.body).bind (cCode Tryd.prog) = some v53 := by kernel_rfl
theorem res53 : cRVs Tryd.prog (Tryd.f53.results.toList) = some rr53 := by kernel_rfl
theorem nt53 : Tryd.f53.ntmps = 25 := by kernel_rfl
theorem nm53 : (Tryd.f53.name == "runtime.NumGoroutine") = false := by kernel_rfl
def v54_0 : List VI := [.op (some 2) none (.box (.t 0)), .op (some 4) none (.new [.int .u64 (nl 0), .int .u64 (nl 0), .int .u64 (nl 0), .int .u64 (nl 0)])]
def v54_1 : List VI := [.op (some 16) none (.p (.ixa 4 1 (.t 2) (.c (.int .i64 3)))), .op (some 17) none (.ld false 1 (.t 16)), .op (some 18) none (.p (.bin .shr (.t 17) (.c (.int .u64 (nl 44))))), .op (some 5) none (.p (.mov (.t 18)))]
def v54_2 : List VI := [.op (some 6) none (.new [.int .u64 (nl 0), .int .u64 (nl 0), .int .u64 (nl 0), .int .u64 (nl 0)])]
def v54_3 : List VI := [.op (some 19) none (.p (.ixa 4 1 (.t 2) (.c (.int .i64 0)))), .op (some 20) none (.ld false 1 (.t 19)), .op (some 21) none (.p (.bin .shl (.t 20) (.c (.int .u64 (nl 16))))), .op (some 22) none (.p (.mov (.t 1))), .op (some 23) none (.p (.bin .or (.t 21) (.t 22))), .op (some 24) none (.p (.ixa 4 1 (.t 6) (.c (.int .i64 0)))), .op none none (.st 1 (.t 24) (.t 23))]
def v54_4 : List VI := [.op (some 7) none (.p (.mov (.c (.int .i64 1))))]
def v54_5 : List VI := [.op (some 25) none (.p (.mov (.t 7))), .op (some 26) none (.p (.bin .lss (.t 25) (.c (.int .i64 4))))]
def v54_6 : List DS := [.mk 0 true (.op (some 29) none (.p (.mov (.t 7)))) [] [], .mk 1 true (.op (some 30) none (.p (.mov (.t 7)))) [] [], .mk 2 true (.op (some 31) none (.p (.ixa 4 1 (.t 2) (.t 30)))) [] [], .mk 3 true (.op (some 32) none (.ld false 1 (.t 31))) [] [], .mk 4 true (.op (some 33) none (.p (.bin .shl (.t 32) (.c (.int .u64 (nl 16)))))) [] [], .mk 5 true (.op (some 34) none (.p (.mov (.t 7)))) [] [], .mk 6 true (.op (some 35) none (.p (.bin .sub (.t 34) (.c (.int .i64 1))))) [] [], .mk 7 true (.op (some 36) none (.p (.ixa 4 1 (.t 2) (.t 35)))) [] [], .mk 8 true (.op (some 37) none (.ld false 1 (.t 36))) [] [], .mk 9 true (.op (some 38) none (.p (.bin .shr (.t 37) (.c (.int .u64 (nl 48)))))) [] [], .mk 10 true (.op (some 39) none (.p (.bin .or (.t 33) (.t 38)))) [] [], .mk 11 true (.op (some 40) none (.p (.ixa 4 1 (.t 6) (.t 29)))) [] [], .mk 12 false (.op none none (.st 1 (.t 40) (.t 39))) [] []]
def v54_7 : VC := .drw v54_6
def v54_8 : List VI := [.op (some 27) none (.p (.mov (.t 7))), .op (some 28) none (.p (.bin .add (.t 27) (.c (.int .i64 1)))), .op (some 7) none (.p (.mov (.t 28)))]
def v54_9 : VC := .seq (.seq (.reg v54_5) (.cond (.t 26) .skip (.exit 0))) (.seq (.block 1 v54_7) (.reg v54_8))
def v54_10 : VC := .loop v54_9
def v54_11 : List VI := [.op (some 41) none (.p (.ixa 4 1 (.t 6) (.c (.int .i64 3)))), .op (some 42) none (.ld false 1 (.t 41)), .op (some 43) none (.p (.bin .and (.t 42) (.c (.int .u64 (nl 1152921504606846975))))), .op (some 44) none (.p (.ixa 4 1 (.t 6) (.c (.int .i64 3)))), .op none none (.st 1 (.t 44) (.t 43))]
def v54_12 : List VI := [.call (some 45) none (.fn 50) [], .op (some 8) none (.new [.int .u64 (nl 0), .int .u64 (nl 0), .int .u64 (nl 0), .int .u64 (nl 0)]), .op none none (.st 4 (.t 8) (.t 45))]
def v54_13 : List VI := [.op (some 46) none (.p (.ixa 4 1 (.t 8) (.c (.int .i64 0)))), .op (some 47) none (.ld false 1 (.t 46)), .op (some 48) none (.p (.bin .and (.t 47) (.c (.int .u64 (nl 4294967295))))), .op (some 49) none (.p (.ixa 4 1 (.t 8) (.c (.int .i64 0)))), .op (some 50) none (.ld false 1 (.t 49)), .op (some 51) none (.p (.bin .shr (.t 50) (.c (.int .u64 (nl 32))))), .op (some 52) none (.p (.ixa 4 1 (.t 8) (.c (.int .i64 1)))), .op (some 53) none (.ld false 1 (.t 52)), .op (some 54) none (.p (.bin .and (.t 53) (.c (.int .u64 (nl 4294967295))))), .op (some 55) none (.p (.ixa 4 1 (.t 8) (.c (.int .i64 1)))), .op (some 56) none (.ld false 1 (.t 55)), .op (some 57) none (.p (.bin .shr (.t 56) (.c (.int .u64 (nl 32))))), .op (some 58) none (.p (.bld [.int .u64 (nl 0), .int .u64 (nl 0), .int .u64 (nl 0), .int .u64 (nl 0)] [(0, 1, .t 48), (1, 1, .t 51), (2, 1, .t 54), (3, 1, .t 57)])), .op (some 9) none (.new [.int .u64 (nl 0), .int .u64 (nl 0), .int .u64 (nl 0), .int .u64 (nl 0)]), .op none none (.st 4 (.t 9) (.t 58))]
def v54_14 : List VI := [.op (some 10) none (.p (.mov (.c (.int .u64 (nl 0)))))]
def v54_15 : List VI := [.op (some 11) none (.p (.mov (.c (.int .i64 0))))]
def v54_16 : List VI := [.op (some 59) none (.p (.mov (.t 11))), .op (some 60) none (.p (.bin .lss (.t 59) (.c (.int .i64 4))))]
def v54_17 : List VI := [.op (some 63) none (.p (.mov (.t 11))), .op (some 64) none (.p (.ixa 4 1 (.t 9) (.t 63))), .op (some 65) none (.ld false 1 (.t 64)), .op (some 66) none (.p (.mov (.t 5))), .op (some 67) none (.p (.bin .mul (.t 65) (.t 66))), .op (some 68) none (.p (.mov (.t 10))), .op (some 69) none (.p (.bin .add (.t 67) (.t 68))), .op (some 12) none (.p (.mov (.t 69)))]
def v54_18 : List VI := [.op (some 70) none (.p (.mov (.t 11))), .op (some 71) none (.p (.mov (.t 12))), .op (some 72) none (.p (.bin .and (.t 71) (.c (.int .u64 (nl 4294967295))))), .op (some 73) none (.p (.ixa 4 1 (.t 9) (.t 70))), .op none none (.st 1 (.t 73) (.t 72))]
def v54_19 : List VI := [.op (some 74) none (.p (.mov (.t 12))), .op (some 75) none (.p (.bin .shr (.t 74) (.c (.int .u64 (nl 32))))), .op (some 10) none (.p (.mov (.t 75)))]
def v54_20 : VC := .seq (.reg v54_17) (.seq (.reg v54_18) (.reg v54_19))
def v54_21 : List VI := [.op (some 61) none (.p (.mov (.t 11))), .op (some 62) none (.p (.bin .add (.t 61) (.c (.int .i64 1)))), .op (some 11) none (.p (.mov (.t 62)))]
def v54_22 : VC := .seq (.seq (.reg v54_16) (.cond (.t 60) .skip (.exit 2))) (.seq (.block 3 v54_20) (.reg v54_21))
def v54_23 : VC := .loop v54_22
def v54_24 : List VI := [.op (some 76) none (.p (.ixa 4 1 (.t 9) (.c (.int .i64 0)))), .op (some 77) none (.ld false 1 (.t 76)), .op (some 78) none (.p (.ixa 4 1 (.t 9) (.c (.int .i64 1)))), .op (some 79) none (.ld false 1 (.t 78)), .op (some 80) none (.p (.bin .shl (.t 79) (.c (.int .u64 (nl 32))))), .op (some 81) none (.p (.bin .or (.t 77) (.t 80))), .op (some 82) none (.p (.ixa 4 1 (.t 9) (.c (.int .i64 2)))), .op (some 83) none (.ld false 1 (.t 82)), .op (some 84) none (.p (.ixa 4 1 (.t 9) (.c (.int .i64 3)))), .op (some 85) none (.ld false 1 (.t 84)), .op (some 86) none (.p (.bin .shl (.t 85) (.c (.int .u64 (nl 32))))), .op (some 87) none (.p (.bin .or (.t 83) (.t 86))), .op (some 88) none (.p (.mov (.t 10))), .op (some 89) none (.p (.bld [.int .u64 (nl 0), .int .u64 (nl 0), .int .u64 (nl 0), .int .u64 (nl 0)] [(0, 1, .t 81), (1, 1, .t 87), (2, 1, .t 88), (3, 1, .c (.int .u64 (nl 0)))])), .op (some 13) none (.new [.int .u64 (nl 0), .int .u64 (nl 0), .int .u64 (nl 0), .int .u64 (nl 0)]), .op none none (.st 4 (.t 13) (.t 89))]
def v54_25 : List VI := [.op (some 91) none (.ld true 4 (.t 6)), .op (some 92) none (.ld true 4 (.t 13)), .call (some 93) none (.fn 51) [.t 91, .t 92], .op (some 90) none (.p (.mov (.t 93))), .op (some 94) none (.p (.ext (.t 90) 0)), .op (some 95) none (.p (.ext (.t 90) 1)), .op (some 14) none (.new [.int .u64 (nl 0), .int .u64 (nl 0), .int .u64 (nl 0), .int .u64 (nl 0)]), .op none none (.st 4 (.t 14) (.t 94)), .op (some 15) none (.p (.mov (.t 95)))]
def v54_26 : List VI := [.op (some 96) none (.p (.mov (.t 15))), .op (some 97) none (.p (.eq false .i (.t 96) (.c (.int .u64 (nl 1)))))]
def v54_27 : List VI := [.op (some 99) none (.ld true 4 (.t 14)), .op (some 100) none (.ld true 4 (.t 8)), .call (some 101) none (.fn 48) [.t 99, .t 100], .op (some 98) none (.p (.mov (.t 101))), .op (some 102) none (.p (.ext (.t 98) 0)), .op (some 103) none (.p (.ext (.t 98) 1)), .op none none (.st 4 (.t 14) (.t 102))]
def v54_28 : List VI := [.op (some 104) none (.ld true 4 (.t 14)), .op (some 105) none (.ld true 4 (.t 8)), .call (some 106) none (.fn 49) [.t 104, .t 105], .op (some 107) none (.p (.un .not (.t 106)))]
def v54_29 : List VI := [.op (some 109) none (.ld true 4 (.t 14)), .op (some 110) none (.ld true 4 (.t 8)), .call (some 111) none (.fn 51) [.t 109, .t 110], .op (some 108) none (.p (.mov (.t 111))), .op (some 112) none (.p (.ext (.t 108) 0)), .op (some 113) none (.p (.ext (.t 108) 1)), .op none none (.st 4 (.t 14) (.t 112))]
def v54_30 : List VI := [.op (some 114) none (.ld true 4 (.t 14)), .op none none (.st 4 (.t 4) (.t 114))]
def v54 : VC := .seq (.reg v54_0) (.seq (.reg v54_1) (.seq (.reg v54_2) (.seq (.reg v54_3) (.seq (.seq (.reg v54_4) (.block 0 v54_10)) (.seq (.reg v54_11) (.seq (.reg v54_12) (.seq (.reg v54_13) (.seq (.reg v54_14) (.seq (.seq (.reg v54_15) (.block 2 v54_23)) (.seq (.reg v54_24) (.seq (.reg v54_25) (.seq (.seq (.reg v54_26) (.cond (.t 97) (.reg v54_27) .skip)) (.seq (.seq (.reg v54_28) (.cond (.t 107) (.reg v54_29) .skip)) (.seq (.reg v54_30) .ret))))))))))))))
def rr54 : List RV := [.m 4 true 4]
theorem code54 : (Tryd.f54.body).bind (cCode Tryd.prog) = some v54 := by kernel_rfl
theorem res54 : cRVs Tryd.prog (Tryd.f54.results.toList) = some rr54 := by kernel_rfl
theorem nt54 : Tryd.f54.ntmps = 115 := by kernel_rfl
theorem nm54 : (Tryd.f54.name == "runtime.NumGoroutine") = false := by kernel_rfl
def v56_0 : List VI := [.op (some 2) none (.box (.t 0)), .op (some 3) none (.box (.t 1)), .op (some 4) none (.new [.int .i64 0, .int .i64 0, .int .i64 0, .int .i64 0, .int .i64 0, .int .i64 0, .int .i64 0, .int .i64 0, .int .i64 0, .int .i64 0, .int .i64 0, .int .i64 0, .int .i64 0, .int .i64 0, .int .i64 0, .int .i64 0, .int .i64 0, .int .i64 0, .int .i64 0, .int .i64 0, .int .i64 0, .int .u64 (nl 0), .int .u64 (nl 0), .int .u64 (nl 0), .int .u64 (nl 0), .nils])]
def v56_1 : List VI := [.op (some 7) none (.p (.fda 0 (.t 2))), .op (some 8) none (.ld false 1 (.t 7))]
def v56_2 : List VI := [.op (some 10) none (.p (.eq false .i (.t 8) (.c (.int .i64 1)))), .op (some 9) none (.p (.mov (.t 10)))]
def v56_3 : List VI := [.op (some 11) none (.p (.fda 1 (.t 2))), .op (some 12) none (.ld true 20 (.t 11)), .op (some 13) none (.ld true 4 (.t 3)), .call (some 14) none (.fn 81) [.t 12, .t 13], .call (some 15) none (.fn 80) [.t 14], .op none none (.st 26 (.t 4) (.t 15))]
def v56_4 : List VI := [.op (some 17) none (.p (.eq false .i (.t 8) (.c (.int .i64 2)))), .op (some 16) none (.p (.mov (.t 17)))]
def v56_5 : List VI := [.op (some 18) none (.p (.fda 21 (.t 2))), .op (some 19) none (.ld true 4 (.t 18)), .op (some 20) none (.ld true 4 (.t 3)), .call (some 21) none (.fn 15) [.t 19, .t 20], .call (some 22) none (.fn 16) [.t 21], .op none none (.st 26 (.t 4) (.t 22))]
def v56_6 : VC := .seq (.reg v56_2) (.cond (.t 9) (.seq (.reg v56_3) .ret) (.seq (.reg v56_4) (.cond (.t 16) (.seq (.reg v56_5) .ret) .skip)))
def v56_7 : List VI := [.op (some 5) none (.p (.mov (.c .nils)))]
def v56_8 : List VI := [.op (some 6) none (.p (.mov (.c (.int .i64 0))))]
def v56_9 : List VI := [.op (some 23) none (.p (.mov (.t 6))), .op (some 24) none (.p (.fda 25 (.t 2))), .op (some 25) none (.ld false 1 (.t 24)), .op (some 26) none (.p (.len false (.t 25))), .op (some 27) none (.p (.bin .lss (.t 23) (.t 26)))]
def v56_10 : List DS := [.mk 0 true (.op (some 30) none (.p (.mov (.t 5)))) [] [], .mk 1 true (.op (some 31) none (.p (.fda 25 (.t 2)))) [] [], .mk 2 true (.op (some 32) none (.ld false 1 (.t 31))) [] [], .mk 3 true (.op (some 33) none (.p (.mov (.t 6)))) [] [], .mk 4 true (.op (some 34) none (.p (.ixs 4 (.t 32) (.t 33)))) [] [], .mk 5 true (.op (some 35) none (.ld true 4 (.t 34))) [] [], .mk 6 true (.op (some 36) none (.ld true 4 (.t 3))) [] [], .mk 7 false (.call (some 37) none (.fn 15) [.t 35, .t 36]) [] [], .mk 8 true (.op (some 38) none (.bsl 1 [.int .u64 (nl 0), .int .u64 (nl 0), .int .u64 (nl 0), .int .u64 (nl 0)] [(0, 4, .t 37)])) [] [], .mk 9 false (.op (some 39) none (.app 4 32 false (.t 30) (.t 38))) [] [], .mk 10 false (.op (some 5) none (.p (.mov (.t 39)))) [] []]
def v56_11 : VC := .drw v56_10
def v56_12 : List VI := [.op (some 28) none (.p (.mov (.t 6))), .op (some 29) none (.p (.bin .add (.t 28) (.c (.int .i64 1)))), .op (some 6) none (.p (.mov (.t 29)))]
def v56_13 : VC := .seq (.seq (.reg v56_9) (.cond (.t 27) .skip (.exit 1))) (.seq (.block 2 v56_11) (.reg v56_12))
def v56_14 : VC := .loop v56_13
def v56_15 : List VI := [.op (some 40) none (.p (.mov (.t 5))), .call (some 41) none (.fn 82) [.t 40], .op none none (.st 26 (.t 4) (.t 41))]
def v56 : VC := .seq (.reg v56_0) (.seq (.seq (.reg v56_1) (.block 0 v56_6)) (.seq (.reg v56_7) (.seq (.seq (.reg v56_8) (.block 1 v56_14)) (.seq (.reg v56_15) .ret))))
def rr56 : List RV := [.m 4 true 26]
theorem code56 : (Tryd.f56.body).bind (cCode Tryd.prog) = some v56 := by kernel_rfl
theorem res56 : cRVs Tryd.prog (Tryd.f56.results.toList) = some rr56 := by kernel_rfl
theorem nt56 : Tryd.f56.ntmps = 42 := by kernel_rfl
theorem nm56 : (Tryd.f56.name == "runtime.NumGoroutine") = false := by kernel_rfl
def v57_0 : List VI := [.op (some 2) none (.box (.t 0)), .op (some 3) none (.box (.t 1)), .op (some 4) none (.new [.int .i64 0, .int .i64 0, .int .i64 0, .int .i64 0, .int .i64 0, .int .i64 0, .int .i64 0, .int .i64 0, .int .i64 0, .int .i64 0, .int .i64 0, .int .i64 0, .int .i64 0, .int .i64 0, .int .i64 0, .int .i64 0, .int .i64 0, .int .i64 0, .int .i64 0, .int .i64 0, .int .i64 0, .int .u64 (nl 0), .int .u64 (nl 0), .int .u64 (nl 0), .int .u64 (nl 0), .nils])]
def v57_1 : List VI := [.op (some 9) none (.p (.fda 0 (.t 2))), .op (some 10) none (.ld false 1 (.t 9))]
def v57_2 : List VI := [.op (some 12) none (.p (.eq false .i (.t 10) (.c (.int .i64 1)))), .op (some 11) none (.p (.mov (.t 12)))]
def v57_3 : List VI := [.op (some 13) none (.p (.fda 1 (.t 2))), .op (some 14) none (.ld true 20 (.t 13)), .op (some 15) none (.p (.fda 1 (.t 3))), .op (some 16) none (.ld true 20 (.t 15)), .call (some 17) none (.fn 83) [.t 14, .t 16], .call (some 18) none (.fn 80) [.t 17], .op none none (.st 26 (.t 4) (.t 18))]
def v57_4 : List VI := [.op (some 20) none (.p (.eq false .i (.t 10) (.c (.int .i64 2)))), .op (some 19) none (.p (.mov (.t 20)))]
def v57_5 : List VI := [.op (some 21) none (.p (.fda 21 (.t 2))), .op (some 22) none (.ld true 4 (.t 21)), .op (some 23) none (.p (.fda 21 (.t 3))), .op (some 24) none (.ld true 4 (.t 23)), .call (some 25) none (.fn 13) [.t 22, .t 24], .call (some 26) none (.fn 16) [.t 25], .op none none (.st 26 (.t 4) (.t 26))]
def v57_6 : VC := .seq (.reg v57_2) (.cond (.t 11) (.seq (.reg v57_3) .ret) (.seq (.reg v57_4) (.cond (.t 19) (.seq (.reg v57_5) .ret) .skip)))
def v57_7 : List VI := [.op (some 27) none (.p (.fda 25 (.t 2))), .op (some 28) none (.ld false 1 (.t 27)), .op (some 29) none (.p (.len false (.t 28))), .op (some 5) none (.p (.mov (.t 29)))]
def v57_8 : List VI := [.op (some 30) none (.p (.fda 25 (.t 3))), .op (some 31) none (.ld false 1 (.t 30)), .op (some 32) none (.p (.len false (.t 31))), .op (some 33) none (.p (.mov (.t 5))), .op (some 34) none (.p (.bin .gtr (.t 32) (.t 33)))]
def v57_9 : List VI := [.op (some 35) none (.p (.fda 25 (.t 3))), .op (some 36) none (.ld false 1 (.t 35)), .op (some 37) none (.p (.len false (.t 36))), .op (some 5) none (.p (.mov (.t 37)))]
def v57_10 : List VI := [.op (some 6) none (.p (.mov (.c .nils)))]
def v57_11 : List VI := [.op (some 7) none (.p (.mov (.c (.int .i64 0))))]
def v57_12 : List VI := [.op (some 38) none (.p (.mov (.t 7))), .op (some 39) none (.p (.mov (.t 5))), .op (some 40) none (.p (.bin .lss (.t 38) (.t 39)))]
def v57_13 : List VI := [.op (some 43) none (.p (.fda 25 (.t 2))), .op (some 44) none (.ld false 1 (.t 43)), .op (some 45) none (.p (.mov (.t 7))), .call (some 46) none (.fn 84) [.t 44, .t 45], .op (some 8) none (.new [.int .u64 (nl 0), .int .u64 (nl 0), .int .u64 (nl 0), .int .u64 (nl 0)]), .op none none (.st 4 (.t 8) (.t 46))]
def v57_14 : List DS := [.mk 0 true (.op (some 47) none (.p (.mov (.t 6)))) [] [], .mk 1 true (.op (some 48) none (.ld true 4 (.t 8))) [] [], .mk 2 true (.op (some 49) none (.p (.fda 25 (.t 3)))) [] [], .mk 3 true (.op (some 50) none (.ld false 1 (.t 49))) [] [], .mk 4 true (.op (some 51) none (.p (.mov (.t 7)))) [] [], .mk 5 false (.call (some 52) none (.fn 84) [.t 50, .t 51]) [8] [], .mk 6 false (.call (some 53) none (.fn 13) [.t 48, .t 52]) [] [], .mk 7 true (.op (some 54) none (.bsl 1 [.int .u64 (nl 0), .int .u64 (nl 0), .int .u64 (nl 0), .int .u64 (nl 0)] [(0, 4, .t 53)])) [] [], .mk 8 false (.op (some 55) none (.app 4 32 false (.t 47) (.t 54))) [] [], .mk 9 false (.op (some 6) none (.p (.mov (.t 55)))) [] []]
def v57_15 : VC := .seq (.reg v57_13) (.drw v57_14)
def v57_16 : List VI := [.op (some 41) none (.p (.mov (.t 7))), .op (some 42) none (.p (.bin .add (.t 41) (.c (.int .i64 1)))), .op (some 7) none (.p (.mov (.t 42)))]
def v57_17 : VC := .seq (.seq (.reg v57_12) (.cond (.t 40) .skip (.exit 1))) (.seq (.block 2 v57_15) (.reg v57_16))
def v57_18 : VC := .loop v57_17
def v57_19 : List VI := [.op (some 56) none (.p (.mov (.t 6))), .call (some 57) none (.fn 82) [.t 56], .op none none (.st 26 (.t 4) (.t 57))]
def v57 : VC := .seq (.reg v57_0) (.seq (.seq (.reg v57_1) (.block 0 v57_6)) (.seq (.reg v57_7) (.seq (.seq (.reg v57_8) (.cond (.t 34) (.reg v57_9) .skip)) (.seq (.reg v57_10) (.seq (.seq (.reg v57_11) (.block 1 v57_18)) (.seq (.reg v57_19) .ret))))))
def rr57 : List RV := [.m 4 true 26]
theorem code57 : (Tryd.f57.body).bind (cCode Tryd.prog) = some v57 := by kernel_rfl
theorem res57 : cRVs Tryd.prog (Tryd.f57.results.toList) = some rr57 := by kernel_rfl
theorem nt57 : Tryd.f57.ntmps = 58 := by kernel_rfl
theorem nm57 : (Tryd.f57.name == "runtime.NumGoroutine") = false := by kernel_rfl
def v58_0 : List VI := [.op (some 2) none (.box (.t 0)), .op (some 3) none (.box (.t 1)), .op (some 4) none (.new [.int .i64 0, .int .i64 0, .int .i64 0, .int .i64 0, .int .i64 0, .int .i64 0, .int .i64 0, .int .i64 0, .int .i64 0, .int .i64 0, .int .i64 0, .int .i64 0, .int .i64 0, .int .i64 0, .int .i64 0, .int .i64 0, .int .i64 0, .int .i64 0, .int .i64 0, .int .i64 0, .int .i64 0, .int .u64 (nl 0), .int .u64 (nl 0), .int .u64 (nl 0), .int .u64 (nl 0), .nils])]
def v58_1 : List DS := [.mk 0 true (.op (some 5) none (.ld true 26 (.t 2))) [] [], .mk 1 true (.op (some 6) none (.ld true 26 (.t 3))) [] [], .mk 2 false (.call (some 7) none (.fn 85) [.t 6]) [2] [], .mk 3 false (.call (some 8) none (.fn 57) [.t 5, .t 7]) [] [], .mk 4 false (.op none none (.st 26 (.t 4) (.t 8))) [] []]
def v58 : VC := .seq (.reg v58_0) (.seq (.drw v58_1) .ret)
def rr58 : List RV := [.m 4 true 26]
theorem code58 : (Tryd.f58.body).bind (cCode Tryd.prog) = some v58 := by kernel_rfl
theorem res58 : cRVs Tryd.prog (Tryd.f58.results.toList) = some rr58 := by kernel_rfl
theorem nt58 : Tryd.f58.ntmps = 9 := by kernel_rfl
theorem nm58 : (Tryd.f58.name == "runtime.NumGoroutine") = false := by kernel_rfl
def v59_0 : List VI := [.op (some 4) none (.box (.t 0)), .op (some 5) none (.box (.t 1)), .op (some 6) none (.box (.t 2)), .op (some 7) none (.box (.t 3)), .op (some 8) none (.new [.int .i64 0, .int .i64 0, .int .i64 0, .int .i64 0, .int .i64 0, .int .i64 0, .int .i64 0, .int .i64 0, .int .i64 0, .int .i64 0, .int .i64 0, .int .i64 0, .int .i64 0, .int .i64 0, .int .i64 0, .int .i64 0, .int .i64 0, .int .i64 0, .int .i64 0, .int .i64 0, .int .i64 0, .int .u64 (nl 0), .int .u64 (nl 0), .int .u64 (nl 0), .int .u64 (nl 0), .nils, .int .i64 0, .int .i64 0, .int .i64 0, .int .i64 0, .int .i64 0, .int .i64 0, .int .i64 0, .int .i64 0, .int .i64 0, .int .i64 0, .int .i64 0, .int .i64 0, .int .i64 0, .int .i64 0, .int .i64 0, .int .i64 0, .int .i64 0, .int .i64 0, .int .i64 0, .int .i64 0, .int .i64 0, .int .u64 (nl 0), .int .u64 (nl 0), .int .u64 (nl 0), .int .u64 (nl 0), .nils, .nils, .nils])]
def v59_1 : List VI := [.op (some 11) none (.ld true 4 (.t 7)), .call (some 12) none (.fn 86) [.t 11], .op (some 9) none (.new [.int .u64 (nl 0), .int .u64 (nl 0), .int .u64 (nl 0), .int .u64 (nl 0)]), .op none none (.st 4 (.t 9) (.t 12))]
def v59_2 : List VI := [.op (some 13) none (.p (.fda 52 (.t 4))), .op (some 14) none (.ld false 1 (.t 13)), .op (some 15) none (.p (.len false (.t 14))), .op (some 16) none (.p (.bin .quo (.t 15) (.c (.int .i64 2)))), .op (some 10) none (.p (.mov (.t 16)))]
def v59_3 : List DS := [.mk 0 true (.op (some 17) none (.ld true 26 (.t 5))) [] [], .mk 1 true (.op (some 18) none (.ld true 4 (.t 7))) [] [], .mk 2 true (.op (some 19) none (.ld true 4 (.t 7))) [] [], .mk 5 true (.op (some 22) none (.p (.fda 0 (.t 4)))) [] [], .mk 6 true (.op (some 23) none (.ld true 26 (.t 22))) [] [], .mk 8 true (.op (some 25) none (.ld true 26 (.t 6))) [] [], .mk 9 true (.op (some 26) none (.ld true 4 (.t 9))) [] [], .mk 10 true (.op (some 27) none (.ld true 4 (.t 9))) [] [], .mk 14 true (.op (some 31) none (.p (.fda 26 (.t 4)))) [] [], .mk 15 true (.op (some 32) none (.ld true 26 (.t 31))) [] [], .mk 16 true (.op (some 33) none (.ld true 4 (.t 9))) [] [], .mk 17 true (.op (some 34) none (.p (.fda 52 (.t 4)))) [] [], .mk 18 true (.op (some 35) none (.ld false 1 (.t 34))) [] [], .mk 19 true (.op (some 36) none (.p (.mov (.t 10)))) [] [], .mk 20 true (.op (some 37) none (.slx 26 (.t 35) none (some (.t 36)) none)) [] [], .mk 21 true (.op (some 38) none (.ld true 4 (.t 7))) [] [], .mk 22 true (.op (some 39) none (.p (.fda 52 (.t 4)))) [] [], .mk 23 true (.op (some 40) none (.ld false 1 (.t 39))) [] [], .mk 24 true (.op (some 41) none (.p (.mov (.t 10)))) [] [], .mk 25 true (.op (some 42) none (.slx 26 (.t 40) (some (.t 41)) none none)) [] [], .mk 27 true (.op (some 44) none (.ld true 4 (.t 7))) [] [], .mk 28 true (.op (some 45) none (.p (.fda 53 (.t 4)))) [] [], .mk 29 true (.op (some 46) none (.ld false 1 (.t 45))) [] [], .mk 30 true (.op (some 47) none (.p (.mov (.t 10)))) [] [], .mk 31 true (.op (some 48) none (.slx 26 (.t 46) none (some (.t 47)) none)) [] [], .mk 32 true (.op (some 49) none (.ld true 4 (.t 9))) [] [], .mk 33 true (.op (some 50) none (.p (.fda 53 (.t 4)))) [] [], .mk 34 true (.op (some 51) none (.ld false 1 (.t 50))) [] [], .mk 35 true (.op (some 52) none (.p (.mov (.t 10)))) [] [], .mk 36 true (.op (some 53) none (.slx 26 (.t 51) (some (.t 52)) none none)) [] [], .mk 3 false (.call (some 20) none (.fn 15) [.t 18, .t 19]) [5, 22, 6, 9, 9, 31, 9, 34, 35, 7, 39, 40, 7, 45, 46, 9, 50, 51] [], .mk 4 false (.call (some 21) none (.fn 56) [.t 17, .t 20]) [22, 6, 9, 9, 31, 9, 34, 35, 7, 39, 40, 7, 45, 46, 9, 50, 51] [], .mk 7 false (.call (some 24) none (.fn 57) [.t 21, .t 23]) [6, 9, 9, 31, 9, 34, 35, 7, 39, 40, 7, 45, 46, 9, 50, 51] [], .mk 11 false (.call (some 28) none (.fn 15) [.t 26, .t 27]) [6, 31, 9, 34, 35, 7, 39, 40, 7, 45, 46, 9, 50, 51] [], .mk 12 false (.call (some 29) none (.fn 56) [.t 25, .t 28]) [31, 9, 34, 35, 7, 39, 40, 7, 45, 46, 9, 50, 51] [], .mk 13 false (.call (some 30) none (.fn 57) [.t 24, .t 29]) [31, 9, 34, 35, 7, 39, 40, 7, 45, 46, 9, 50, 51] [], .mk 26 false (.call (some 43) none (.fn 87) [.t 33, .t 37, .t 38, .t 42]) [31, 7, 45, 46, 9, 50, 51] [], .mk 37 false (.call (some 54) none (.fn 87) [.t 44, .t 48, .t 49, .t 53]) [31] [], .mk 38 true (.op (some 55) none (.p (.bld [.int .i64 0, .int .i64 0, .int .i64 0, .int .i64 0, .int .i64 0, .int .i64 0, .int .i64 0, .int .i64 0, .int .i64 0, .int .i64 0, .int .i64 0, .int .i64 0, .int .i64 0, .int .i64 0, .int .i64 0, .int .i64 0, .int .i64 0, .int .i64 0, .int .i64 0, .int .i64 0, .int .i64 0, .int .u64 (nl 0), .int .u64 (nl 0), .int .u64 (nl 0), .int .u64 (nl 0), .nils, .int .i64 0, .int .i64 0, .int .i64 0, .int .i64 0, .int .i64 0, .int .i64 0, .int .i64 0, .int .i64 0, .int .i64 0, .int .i64 0, .int .i64 0, .int .i64 0, .int .i64 0, .int .i64 0, .int .i64 0, .int .i64 0, .int .i64 0, .int .i64 0, .int .i64 0, .int .i64 0, .int .i64 0, .int .u64 (nl 0), .int .u64 (nl 0), .int .u64 (nl 0), .int .u64 (nl 0), .nils, .nils, .nils] [(0, 26, .t 30), (26, 26, .t 32), (52, 1, .t 43), (53, 1, .t 54)]))) [] [], .mk 39 false (.op none none (.st 54 (.t 8) (.t 55))) [] []]
def v59 : VC := .seq (.reg v59_0) (.seq (.reg v59_1) (.seq (.reg v59_2) (.seq (.drw v59_3) .ret)))
def rr59 : List RV := [.m 8 true 54]
theorem code59 : (Tryd.f59.body).bind (cCode Tryd.prog) = some v59 := by kernel_rfl
theorem res59 : cRVs Tryd.prog (Tryd.f59.results.toList) = some rr59 := by kernel_rfl
theorem nt59 : Tryd.f59.ntmps = 56 := by kernel_rfl
theorem nm59 : (Tryd.f59.name == "runtime.NumGoroutine") = false := by kernel_rfl
def v64_0 : List VI := [.op (some 1) none (.box (.t 0)), .op (some 2) none (.new [.int .u64 (nl 0), .int .u64 (nl 0), .int .u64 (nl 0), .int .u64 (nl 0)])]
def v64_1 : List VI := [.op (some 14) none (.p (.ixa 4 1 (.t 1) (.c (.int .i64 3)))), .op (some 15) none (.ld false 1 (.t 14)), .op (some 16) none (.p (.bin .lss (.t 15) (.c (.int .u64 (nl 1152921504606846976)))))]
def v64_2 : List VI := [.op (some 17) none (.ld true 4 (.t 1)), .op none none (.st 4 (.t 2) (.t 17))]
def v64_3 : List VI := [.op (some 18) none (.p (.ixa 4 1 (.t 1) (.c (.int .i64 3)))), .op (some 19) none (.ld false 1 (.t 18)), .op (some 20) none (.p (.bin .shr (.t 19) (.c (.int .u64 (nl 60))))), .op (some 3) none (.p (.mov (.t 20)))]
def v64_4 : List VI := [.op (some 21) none (.p (.ixa 4 1 (.t 1) (.c (.int .i64 3)))), .op (some 22) none (.ld false 1 (.t 21)), .op (some 23) none (.p (.bin .and (.t 22) (.c (.int .u64 (nl 1152921504606846975))))), .op (some 24) none (.p (.ixa 4 1 (.t 1) (.c (.int .i64 3)))), .op none none (.st 1 (.t 24) (.t 23))]
def v64_5 : List VI := [.op (some 4) none (.new [.int .u64 (nl 0), .int .u64 (nl 0), .int .u64 (nl 0), .int .u64 (nl 0)])]
def v64_6 : List VI := [.op (some 26) none (.p (.mov (.t 3))), .op (some 27) none (.p (.ixa 4 4 (.g 0) (.c (.int .i64 0)))), .op (some 28) none (.p (.ixa 4 1 (.t 27) (.c (.int .i64 0)))), .op (some 29) none (.ld false 1 (.t 28)), .call (some 30) none (.fn 89) [.t 26, .t 29], .op (some 25) none (.p (.mov (.t 30))), .op (some 31) none (.p (.ext (.t 25) 0)), .op (some 32) none (.p (.ext (.t 25) 1)), .op (some 5) none (.p (.mov (.t 31))), .op (some 6) none (.p (.mov (.t 32)))]
def v64_7 : List VI := [.op (some 33) none (.p (.mov (.t 6))), .op (some 34) none (.p (.ixa 4 1 (.t 4) (.c (.int .i64 0)))), .op none none (.st 1 (.t 34) (.t 33))]
def v64_8 : List VI := [.op (some 36) none (.p (.mov (.t 3))), .op (some 37) none (.p (.ixa 4 4 (.g 0) (.c (.int .i64 0)))), .op (some 38) none (.p (.ixa 4 1 (.t 37) (.c (.int .i64 1)))), .op (some 39) none (.ld false 1 (.t 38)), .call (some 40) none (.fn 89) [.t 36, .t 39], .op (some 35) none (.p (.mov (.t 40))), .op (some 41) none (.p (.ext (.t 35) 0)), .op (some 42) none (.p (.ext (.t 35) 1)), .op (some 7) none (.p (.mov (.t 41))), .op (some 8) none (.p (.mov (.t 42)))]
def v64_9 : List VI := [.op (some 9) none (.p (.mov (.c (.int .u64 (nl 0)))))]
def v64_10 : List VI := [.op (some 44) none (.p (.mov (.t 8))), .op (some 45) none (.p (.mov (.t 5))), .call (some 46) none (.fn 90) [.t 44, .t 45, .c (.int .u64 (nl 0))], .op (some 43) none (.p (.mov (.t 46))), .op (some 47) none (.p (.ext (.t 43) 0)), .op (some 48) none (.p (.ext (.t 43) 1)), .op (some 49) none (.p (.ixa 4 1 (.t 4) (.c (.int .i64 1)))), .op none none (.st 1 (.t 49) (.t 47)), .op (some 9) none (.p (.mov (.t 48)))]
def v64_11 : List VI := [.op (some 50) none (.p (.mov (.t 7))), .op (some 51) none (.p (.mov (.t 9))), .op (some 52) none (.p (.bin .add (.t 50) (.t 51))), .op (some 53) none (.p (.ixa 4 1 (.t 4) (.c (.int .i64 2)))), .op none none (.st 1 (.t 53) (.t 52))]
def v64_12 : List VI := [.op (some 55) none (.ld true 4 (.t 1)), .op (some 56) none (.ld true 4 (.t 4)), .call (some 57) none (.fn 91) [.t 55, .t 56], .op (some 54) none (.p (.mov (.t 57))), .op (some 58) none (.p (.ext (.t 54) 0)), .op (some 59) none (.p (.ext (.t 54) 1)), .op (some 10) none (.new [.int .u64 (nl 0), .int .u64 (nl 0), .int .u64 (nl 0), .int .u64 (nl 0)]), .op none none (.st 4 (.t 10) (.t 58)), .op (some 11) none (.p (.mov (.t 59)))]
def v64_13 : List VI := [.op (some 61) none (.ld true 4 (.t 10)), .op (some 62) none (.p (.ixa 4 4 (.g 0) (.c (.int .i64 0)))), .op (some 63) none (.ld true 4 (.t 62)), .call (some 64) none (.fn 65) [.t 61, .t 63], .op (some 60) none (.p (.mov (.t 64))), .op (some 65) none (.p (.ext (.t 60) 0)), .op (some 66) none (.p (.ext (.t 60) 1)), .op (some 12) none (.new [.int .u64 (nl 0), .int .u64 (nl 0), .int .u64 (nl 0), .int .u64 (nl 0)]), .op none none (.st 4 (.t 12) (.t 65)), .op (some 13) none (.p (.mov (.t 66)))]
def v64_14 : List VI := [.op (some 67) none (.p (.mov (.t 11))), .op (some 68) none (.p (.un .neg (.t 67))), .op (some 69) none (.ld true 4 (.t 12)), .op (some 70) none (.ld true 4 (.t 10)), .call (some 71) none (.fn 92) [.t 68, .t 69, .t 70], .call (some 72) none (.fn 66) [.t 71], .op none none (.st 4 (.t 2) (.t 72))]
def v64 : VC := .seq (.reg v64_0) (.seq (.seq (.reg v64_1) (.cond (.t 16) (.seq (.reg v64_2) .ret) .skip)) (.seq (.reg v64_3) (.seq (.reg v64_4) (.seq (.reg v64_5) (.seq (.reg v64_6) (.seq (.reg v64_7) (.seq (.reg v64_8) (.seq (.reg v64_9) (.seq (.reg v64_10) (.seq (.reg v64_11) (.seq (.reg v64_12) (.seq (.reg v64_13) (.seq (.reg v64_14) .ret)))))))))))))
def rr64 : List RV := [.m 2 true 4]
theorem code64 : (Tryd.f64.body).bind (cCode Tryd.prog) = some v64 := by kernel_rfl
theorem res64 : cRVs Tryd.prog (Tryd.f64.results.toList) = some rr64 := by kernel_rfl
theorem nt64 : Tryd.f64.ntmps = 73 := by kernel_rfl
theorem nm64 : (Tryd.f64.name == "runtime.NumGoroutine") = false := by kernel_rfl
def v65_0 : List VI := [.op (some 2) none (.box (.t 0)), .op (some 3) none (.box (.t 1)), .op (some 4) none (.new [.int .u64 (nl 0), .int .u64 (nl 0), .int .u64 (nl 0), .int .u64 (nl 0)]), .op (some 5) none (.p (.mov (.c (.int .u64 (nl 0)))))]
def v65_1 : List VI := [.op (some 6) none (.new [.int .u64 (nl 0), .int .u64 (nl 0), .int .u64 (nl 0), .int .u64 (nl 0)])]
def v65_2 : List VI := [.op (some 7) none (.p (.mov (.c (.int .u64 (nl 0)))))]
def v65_3 : List VI := [.op (some 9) none (.p (.mov (.c (.int .i64 0))))]
def v65_4 : List VI := [.op (some 10) none (.p (.bin .lss (.t 9) (.c (.int .i64 4))))]
def v65_5 : List VI := [.op (some 11) none (.p (.mov (.t 9))), .op (some 8) none (.p (.mov (.t 11)))]
def v65_6 : List DS := [.mk 0 true (.op (some 13) none (.p (.mov (.t 8)))) [] [], .mk 1 true (.op (some 14) none (.p (.mov (.t 8)))) [] [], .mk 2 true (.op (some 15) none (.p (.ixa 4 1 (.t 2) (.t 14)))) [] [], .mk 3 true (.op (some 16) none (.ld false 1 (.t 15))) [] [], .mk 4 true (.op (some 17) none (.p (.mov (.t 8)))) [] [], .mk 5 true (.op (some 18) none (.p (.ixa 4 1 (.t 3) (.t 17)))) [] [], .mk 6 true (.op (some 19) none (.ld false 1 (.t 18))) [] [], .mk 7 true (.op (some 20) none (.p (.mov (.t 7)))) [] [], .mk 8 false (.call (some 21) none (.fn 90) [.t 16, .t 19, .t 20]) [] [], .mk 9 true (.op (some 12) none (.p (.mov (.t 21)))) [] [], .mk 10 true (.op (some 22) none (.p (.ext (.t 12) 0))) [] [], .mk 11 true (.op (some 23) none (.p (.ext (.t 12) 1))) [] [], .mk 12 true (.op (some 24) none (.p (.ixa 4 1 (.t 6) (.t 13)))) [] [], .mk 13 false (.op none none (.st 1 (.t 24) (.t 22))) [] [], .mk 14 false (.op (some 7) none (.p (.mov (.t 23)))) [] []]
def v65_7 : VC := .seq (.reg v65_5) (.drw v65_6)
def v65_8 : List VI := [.op (some 25) none (.p (.bin .add (.t 9) (.c (.int .i64 1)))), .op (some 9) none (.p (.mov (.t 25)))]
def v65_9 : VC := .seq (.reg v65_4) (.seq (.cond (.t 10) .skip (.exit 0)) (.seq (.block 1 v65_7) (.reg v65_8)))
def v65_10 : VC := .loop v65_9
def v65_11 : List VI := [.op (some 26) none (.ld true 4 (.t 6)), .op (some 27) none (.p (.mov (.t 7))), .op none none (.st 4 (.t 4) (.t 26)), .op (some 5) none (.p (.mov (.t 27)))]
def v65 : VC := .seq (.reg v65_0) (.seq (.reg v65_1) (.seq (.reg v65_2) (.seq (.seq (.reg v65_3) (.block 0 v65_10)) (.seq (.reg v65_11) .ret))))
def rr65 : List RV := [.m 4 true 4, .t 5]
theorem code65 : (Tryd.f65.body).bind (cCode Tryd.prog) = some v65 := by kernel_rfl
theorem res65 : cRVs Tryd.prog (Tryd.f65.results.toList) = some rr65 := by kernel_rfl
theorem nt65 : Tryd.f65.ntmps = 28 := by kernel_rfl
theorem nm65 : (Tryd.f65.name == "runtime.NumGoroutine") = false := by kernel_rfl
def v66_0 : List VI := [.op (some 1) none (.box (.t 0)), .op (some 2) none (.new [.int .u64 (nl 0), .int .u64 (nl 0), .int .u64 (nl 0), .int .u64 (nl 0)])]
def v66_1 : List VI := [.op (some 6) none (.ld true 4 (.t 1)), .op (some 7) none (.p (.ixa 4 4 (.g 0) (.c (.int .i64 0)))), .op (some 8) none (.ld true 4 (.t 7)), .call (some 9) none (.fn 91) [.t 6, .t 8], .op (some 5) none (.p (.mov (.t 9))), .op (some 10) none (.p (.ext (.t 5) 0)), .op (some 11) none (.p (.ext (.t 5) 1)), .op (some 3) none (.new [.int .u64 (nl 0), .int .u64 (nl 0), .int .u64 (nl 0), .int .u64 (nl 0)]), .op none none (.st 4 (.t 3) (.t 10)), .op (some 4) none (.p (.mov (.t 11)))]
def v66_2 : List VI := [.op (some 12) none (.p (.mov (.t 4))), .op (some 13) none (.p (.un .neg (.t 12))), .op (some 14) none (.ld true 4 (.t 1)), .op (some 15) none (.ld true 4 (.t 3)), .call (some 16) none (.fn 92) [.t 13, .t 14, .t 15], .op none none (.st 4 (.t 2) (.t 16))]
def v66 : VC := .seq (.reg v66_0) (.seq (.reg v66_1) (.seq (.reg v66_2) .ret))
def rr66 : List RV := [.m 2 true 4]
theorem code66 : (Tryd.f66.body).bind (cCode Tryd.prog) = some v66 := by kernel_rfl
theorem res66 : cRVs Tryd.prog (Tryd.f66.results.toList) = some rr66 := by kernel_rfl
theorem nt66 : Tryd.f66.ntmps = 17 := by kernel_rfl
theorem nm66 : (Tryd.f66.name == "runtime.NumGoroutine") = false := by kernel_rfl
def v67_0 : List VI := [.op (some 2) none (.box (.t 0)), .op (some 3) none (.box (.t 1)), .op (some 4) none (.new [.int .u64 (nl 0), .int .u64 (nl 0), .int .u64 (nl 0), .int .u64 (nl 0)])]
def v67_1 : List VI := [.op (some 5) none (.new [.int .u64 (nl 0), .int .u64 (nl 0), .int .u64 (nl 0), .int .u64 (nl 0), .int .u64 (nl 0)])]
def v67_2 : List VI := [.op (some 13) none (.p (.mov (.c (.int .i64 0))))]
def v67_3 : List VI := [.op (some 14) none (.p (.bin .lss (.t 13) (.c (.int .i64 4))))]
def v67_4 : List VI := [.op (some 15) none (.p (.mov (.t 13))), .op (some 6) none (.p (.mov (.t 15)))]
def v67_5 : List VI := [.op (some 7) none (.p (.mov (.c (.int .u64 (nl 0))))), .op (some 8) none (.p (.mov (.c (.int .u64 (nl 0)))))]
def v67_6 : List VI := [.op (some 16) none (.p (.mov (.c (.int .i64 0))))]
def v67_7 : List VI := [.op (some 17) none (.p (.bin .lss (.t 16) (.c (.int .i64 4))))]
def v67_8 : List VI := [.op (some 18) none (.p (.mov (.t 16))), .op (some 9) none (.p (.mov (.t 18)))]
def v67_9 : List DS := [.mk 0 true (.op (some 20) none (.p (.mov (.t 9)))) [] [], .mk 1 true (.op (some 21) none (.p (.mov (.t 9)))) [] [], .mk 2 true (.op (some 22) none (.p (.ixa 4 1 (.t 2) (.t 21)))) [] [], .mk 3 true (.op (some 23) none (.ld false 1 (.t 22))) [] [], .mk 4 true (.op (some 24) none (.p (.mov (.t 6)))) [] [], .mk 5 true (.op (some 25) none (.p (.ixa 4 1 (.t 3) (.t 24)))) [] [], .mk 6 true (.op (some 26) none (.ld false 1 (.t 25))) [] [], .mk 7 true (.op (some 27) none (.p (.mov (.t 9)))) [] [], .mk 8 true (.op (some 28) none (.p (.ixa 5 1 (.t 5) (.t 27)))) [] [], .mk 9 true (.op (some 29) none (.ld false 1 (.t 28))) [] [], .mk 10 true (.op (some 30) none (.p (.mov (.t 7)))) [] [], .mk 11 false (.call (some 31) none (.fn 93) [.t 23, .t 26, .t 29, .t 30]) [] [], .mk 12 true (.op (some 19) none (.p (.mov (.t 31)))) [] [], .mk 13 true (.op (some 32) none (.p (.ext (.t 19) 0))) [] [], .mk 14 true (.op (some 33) none (.p (.ext (.t 19) 1))) [] [], .mk 15 true (.op (some 34) none (.p (.ixa 5 1 (.t 5) (.t 20)))) [] [], .mk 16 false (.op none none (.st 1 (.t 34) (.t 32))) [] [], .mk 17 false (.op (some 7) none (.p (.mov (.t 33)))) [] []]
def v67_10 : VC := .seq (.reg v67_8) (.drw v67_9)
def v67_11 : List VI := [.op (some 35) none (.p (.bin .add (.t 16) (.c (.int .i64 1)))), .op (some 16) none (.p (.mov (.t 35)))]
def v67_12 : VC := .seq (.reg v67_7) (.seq (.cond (.t 17) .skip (.exit 2)) (.seq (.block 3 v67_10) (.reg v67_11)))
def v67_13 : VC := .loop v67_12
def v67_14 : List VI := [.op (some 37) none (.p (.ixa 5 1 (.t 5) (.c (.int .i64 4)))), .op (some 38) none (.ld false 1 (.t 37)), .op (some 39) none (.p (.mov (.t 7))), .call (some 40) none (.fn 90) [.t 38, .t 39, .c (.int .u64 (nl 0))], .op (some 36) none (.p (.mov (.t 40))), .op (some 41) none (.p (.ext (.t 36) 0)), .op (some 42) none (.p (.ext (.t 36) 1)), .op (some 43) none (.p (.ixa 5 1 (.t 5) (.c (.int .i64 4)))), .op none none (.st 1 (.t 43) (.t 41)), .op (some 8) none (.p (.mov (.t 42)))]
def v67_15 : List VI := [.op (some 44) none (.p (.mov (.t 8))), .op (some 10) none (.p (.mov (.t 44)))]
def v67_16 : List VI := [.op (some 45) none (.p (.ixa 5 1 (.t 5) (.c (.int .i64 0)))), .op (some 46) none (.ld false 1 (.t 45)), .op (some 47) none (.p (.bin .mul (.t 46) (.c (.int .u64 (nl 15183074304973897243))))), .op (some 11) none (.p (.mov (.t 47)))]
def v67_17 : List VI := [.op (some 49) none (.p (.mov (.t 11))), .op (some 50) none (.p (.ixa 4 4 (.g 0) (.c (.int .i64 0)))), .op (some 51) none (.p (.ixa 4 1 (.t 50) (.c (.int .i64 0)))), .op (some 52) none (.ld false 1 (.t 51)), .op (some 53) none (.p (.ixa 5 1 (.t 5) (.c (.int .i64 0)))), .op (some 54) none (.ld false 1 (.t 53)), .call (some 55) none (.fn 93) [.t 49, .t 52, .t 54, .c (.int .u64 (nl 0))], .op (some 48) none (.p (.mov (.t 55))), .op (some 56) none (.p (.ext (.t 48) 0)), .op (some 57) none (.p (.ext (.t 48) 1)), .op (some 7) none (.p (.mov (.t 57)))]
def v67_18 : List VI := [.op (some 12) none (.p (.mov (.c (.int .i64 1))))]
def v67_19 : List VI := [.op (some 58) none (.p (.mov (.t 12))), .op (some 59) none (.p (.bin .lss (.t 58) (.c (.int .i64 4))))]
def v67_20 : List DS := [.mk 0 true (.op (some 63) none (.p (.mov (.t 12)))) [] [], .mk 1 true (.op (some 64) none (.p (.bin .sub (.t 63) (.c (.int .i64 1))))) [] [], .mk 2 true (.op (some 65) none (.p (.mov (.t 11)))) [] [], .mk 3 true (.op (some 66) none (.p (.mov (.t 12)))) [] [], .mk 4 true (.op (some 67) none (.p (.ixa 4 4 (.g 0) (.c (.int .i64 0))))) [] [], .mk 5 true (.op (some 68) none (.p (.ixa 4 1 (.t 67) (.t 66)))) [] [], .mk 6 true (.op (some 69) none (.ld false 1 (.t 68))) [] [], .mk 7 true (.op (some 70) none (.p (.mov (.t 12)))) [] [], .mk 8 true (.op (some 71) none (.p (.ixa 5 1 (.t 5) (.t 70)))) [] [], .mk 9 true (.op (some 72) none (.ld false 1 (.t 71))) [] [], .mk 10 true (.op (some 73) none (.p (.mov (.t 7)))) [] [], .mk 11 false (.call (some 74) none (.fn 93) [.t 65, .t 69, .t 72, .t 73]) [] [], .mk 12 true (.op (some 62) none (.p (.mov (.t 74)))) [] [], .mk 13 true (.op (some 75) none (.p (.ext (.t 62) 0))) [] [], .mk 14 true (.op (some 76) none (.p (.ext (.t 62) 1))) [] [], .mk 15 true (.op (some 77) none (.p (.ixa 5 1 (.t 5) (.t 64)))) [] [], .mk 16 false (.op none none (.st 1 (.t 77) (.t 75))) [] [], .mk 17 false (.op (some 7) none (.p (.mov (.t 76)))) [] []]
def v67_21 : VC := .drw v67_20
def v67_22 : List VI := [.op (some 60) none (.p (.mov (.t 12))), .op (some 61) none (.p (.bin .add (.t 60) (.c (.int .i64 1)))), .op (some 12) none (.p (.mov (.t 61)))]
def v67_23 : VC := .seq (.seq (.reg v67_19) (.cond (.t 59) .skip (.exit 4))) (.seq (.block 5 v67_21) (.reg v67_22))
def v67_24 : VC := .loop v67_23
def v67_25 : List VI := [.op (some 79) none (.p (.ixa 5 1 (.t 5) (.c (.int .i64 4)))), .op (some 80) none (.ld false 1 (.t 79)), .op (some 81) none (.p (.mov (.t 7))), .call (some 82) none (.fn 90) [.t 80, .t 81, .c (.int .u64 (nl 0))], .op (some 78) none (.p (.mov (.t 82))), .op (some 83) none (.p (.ext (.t 78) 0)), .op (some 84) none (.p (.ext (.t 78) 1)), .op (some 85) none (.p (.ixa 5 1 (.t 5) (.c (.int .i64 3)))), .op none none (.st 1 (.t 85) (.t 83)), .op (some 8) none (.p (.mov (.t 84)))]
def v67_26 : List VI := [.op (some 86) none (.p (.mov (.t 10))), .op (some 87) none (.p (.mov (.t 8))), .op (some 88) none (.p (.bin .add (.t 86) (.t 87))), .op (some 89) none (.p (.ixa 5 1 (.t 5) (.c (.int .i64 4)))), .op none none (.st 1 (.t 89) (.t 88))]
def v67_27 : VC := .seq (.reg v67_4) (.seq (.reg v67_5) (.seq (.seq (.reg v67_6) (.block 2 v67_13)) (.seq (.reg v67_14) (.seq (.reg v67_15) (.seq (.reg v67_16) (.seq (.reg v67_17) (.seq (.seq (.reg v67_18) (.block 4 v67_24)) (.seq (.reg v67_25) (.reg v67_26)))))))))
def v67_28 : List VI := [.op (some 90) none (.p (.bin .add (.t 13) (.c (.int .i64 1)))), .op (some 13) none (.p (.mov (.t 90)))]
def v67_29 : VC := .seq (.reg v67_3) (.seq (.cond (.t 14) .skip (.exit 0)) (.seq (.block 1 v67_27) (.reg v67_28)))
def v67_30 : VC := .loop v67_29
def v67_31 : List VI := [.op (some 91) none (.p (.ixa 5 1 (.t 5) (.c (.int .i64 0)))), .op (some 92) none (.ld false 1 (.t 91)), .op (some 93) none (.p (.ixa 5 1 (.t 5) (.c (.int .i64 1)))), .op (some 94) none (.ld false 1 (.t 93)), .op (some 95) none (.p (.ixa 5 1 (.t 5) (.c (.int .i64 2)))), .op (some 96) none (.ld false 1 (.t 95)), .op (some 97) none (.p (.ixa 5 1 (.t 5) (.c (.int .i64 3)))), .op (some 98) none (.ld false 1 (.t 97)), .op (some 99) none (.p (.bld [.int .u64 (nl 0), .int .u64 (nl 0), .int .u64 (nl 0), .int .u64 (nl 0)] [(0, 1, .t 92), (1, 1, .t 94), (2, 1, .t 96), (3, 1, .t 98)])), .call (some 100) none (.fn 66) [.t 99], .op none none (.st 4 (.t 4) (.t 100))]
def v67 : VC := .seq (.reg v67_0) (.seq (.reg v67_1) (.seq (.seq (.reg v67_2) (.block 0 v67_30)) (.seq (.reg v67_31) .ret)))
def rr67 : List RV := [.m 4 true 4]
theorem code67 : (Tryd.f67.body).bind (cCode Tryd.prog) = some v67 := by kernel_rfl
theorem res67 : cRVs Tryd.prog (Tryd.f67.results.toList) = some rr67 := by kernel_rfl
theorem nt67 : Tryd.f67.ntmps = 101 := by kernel_rfl
theorem nm67 : (Tryd.f67.name == "runtime.NumGoroutine") = false := by kernel_rfl
def v68_0 : List VI := [.op (some 3) none (.box (.t 0)), .op (some 4) none (.box (.t 1)), .op (some 6) none (.new [.int .u64 (nl 0), .int .u64 (nl 0), .int .u64 (nl 0), .int .u64 (nl 0)])]
def v68_1 : List DS := [.mk 0 true (.op (some 11) none (.ld true 4 (.t 3))) [] [], .mk 2 true (.op (some 13) none (.p (.ixa 4 4 (.g 0) (.c (.int .i64 2))))) [] [], .mk 3 true (.op (some 14) none (.ld true 4 (.t 13))) [] [], .mk 5 true (.op (some 7) none (.new [.int .u64 (nl 0), .int .u64 (nl 0), .int .u64 (nl 0), .int .u64 (nl 0)])) [] [], .mk 1 false (.call (some 12) none (.fn 64) [.t 11]) [13] [7], .mk 4 false (.call (some 15) none (.fn 67) [.t 12, .t 14]) [] [7], .mk 6 false (.op none none (.st 4 (.t 7) (.t 15))) [] []]
def v68_2 : List VI := [.op (some 16) none (.p (.ixa 4 4 (.g 0) (.c (.int .i64 1)))), .op (some 17) none (.ld true 4 (.t 16)), .op (some 8) none (.new [.int .u64 (nl 0), .int .u64 (nl 0), .int .u64 (nl 0), .int .u64 (nl 0)]), .op none none (.st 4 (.t 8) (.t 17))]
def v68_3 : List VI := [.op (some 9) none (.p (.mov (.c (.bool false))))]
def v68_4 : List VI := [.op (some 18) none (.p (.mov (.t 2))), .op (some 19) none (.p (.bin .sub (.t 18) (.c (.int .i64 1)))), .op (some 10) none (.p (.mov (.t 19)))]
def v68_5 : List VI := [.op (some 20) none (.p (.mov (.t 10))), .op (some 21) none (.p (.bin .geq (.t 20) (.c (.int .i64 0))))]
def v68_6 : List VI := [.op (some 24) none (.p (.mov (.t 9)))]
def v68_7 : List VI := [.op (some 25) none (.ld true 4 (.t 8)), .op (some 26) none (.ld true 4 (.t 8)), .call (some 27) none (.fn 67) [.t 25, .t 26], .op none none (.st 4 (.t 8) (.t 27))]
def v68_8 : List VI := [.op (some 28) none (.p (.mov (.t 10))), .op (some 29) none (.p (.bin .quo (.t 28) (.c (.int .i64 64)))), .op (some 30) none (.p (.ixa 4 1 (.t 4) (.t 29))), .op (some 31) none (.ld false 1 (.t 30)), .op (some 32) none (.p (.mov (.t 10))), .op (some 33) none (.p (.bin .rem (.t 32) (.c (.int .i64 64)))), .op (some 34) none (.p (.bin .shr (.t 31) (.t 33))), .op (some 35) none (.p (.bin .and (.t 34) (.c (.int .u64 (nl 1))))), .op (some 36) none (.p (.eq false .i (.t 35) (.c (.int .u64 (nl 1)))))]
def v68_9 : List VI := [.op (some 37) none (.ld true 4 (.t 8)), .op (some 38) none (.ld true 4 (.t 7)), .call (some 39) none (.fn 67) [.t 37, .t 38], .op none none (.st 4 (.t 8) (.t 39))]
def v68_10 : List VI := [.op (some 9) none (.p (.mov (.c (.bool true))))]
def v68_11 : VC := .seq (.seq (.reg v68_6) (.cond (.t 24) (.reg v68_7) .skip)) (.seq (.reg v68_8) (.cond (.t 36) (.seq (.reg v68_9) (.reg v68_10)) .skip))
def v68_12 : List VI := [.op (some 22) none (.p (.mov (.t 10))), .op (some 23) none (.p (.bin .sub (.t 22) (.c (.int .i64 1)))), .op (some 10) none (.p (.mov (.t 23)))]
def v68_13 : VC := .seq (.seq (.reg v68_5) (.cond (.t 21) .skip (.exit 0))) (.seq (.block 1 v68_11) (.reg v68_12))
def v68_14 : VC := .loop v68_13
def v68_15 : List VI := [.op (some 40) none (.ld true 4 (.t 8)), .op (some 41) none (.p (.bld [.int .u64 (nl 0), .int .u64 (nl 0), .int .u64 (nl 0), .int .u64 (nl 0)] [(0, 1, .c (.int .u64 (nl 1)))])), .call (some 42) none (.fn 67) [.t 40, .t 41], .op none none (.st 4 (.t 6) (.t 42))]
def v68 : VC := .seq (.reg v68_0) (.seq (.drw v68_1) (.seq (.reg v68_2) (.seq (.reg v68_3) (.seq (.seq (.reg v68_4) (.block 0 v68_14)) (.seq (.reg v68_15) .ret)))))
def rr68 : List RV := [.m 6 true 4]
theorem code68 : (Tryd.f68.body).bind (cCode Tryd.prog) = some v68 := by kernel_rfl
theorem res68 : cRVs Tryd.prog (Tryd.f68.results.toList) = some rr68 := by kernel_rfl
theorem nt68 : Tryd.f68.ntmps = 43 := by kernel_rfl
theorem nm68 : (Tryd.f68.name == "runtime.NumGoroutine") = false := by kernel_rfl
def v69_0 : List VI := [.op (some 2) none (.box (.t 0)), .op (some 3) none (.box (.t 1)), .op (some 4) none (.new [.int .u64 (nl 0), .int .u64 (nl 0), .int .u64 (nl 0), .int .u64 (nl 0)])]
def v69_1 : List DS := [.mk 0 true (.op (some 10) none (.ld true 4 (.t 2))) [] [], .mk 2 true (.op (some 12) none (.ld true 4 (.t 3))) [] [], .mk 8 true (.op (some 5) none (.new [.int .u64 (nl 0), .int .u64 (nl 0), .int .u64 (nl 0), .int .u64 (nl 0)])) [] [], .mk 1 false (.call (some 11) none (.fn 64) [.t 10]) [3] [5], .mk 3 false (.call (some 13) none (.fn 64) [.t 12]) [] [5], .mk 4 false (.call (some 14) none (.fn 91) [.t 11, .t 13]) [] [5], .mk 5 true (.op (some 9) none (.p (.mov (.t 14)))) [] [], .mk 6 true (.op (some 15) none (.p (.ext (.t 9) 0))) [] [], .mk 7 true (.op (some 16) none (.p (.ext (.t 9) 1))) [] [], .mk 9 false (.op none none (.st 4 (.t 5) (.t 15))) [] [], .mk 10 false (.op (some 6) none (.p (.mov (.t 16)))) [] []]
def v69_2 : List VI := [.op (some 18) none (.ld true 4 (.t 5)), .op (some 19) none (.p (.ixa 4 4 (.g 0) (.c (.int .i64 0)))), .op (some 20) none (.ld true 4 (.t 19)), .call (some 21) none (.fn 65) [.t 18, .t 20], .op (some 17) none (.p (.mov (.t 21))), .op (some 22) none (.p (.ext (.t 17) 0)), .op (some 23) none (.p (.ext (.t 17) 1)), .op (some 7) none (.new [.int .u64 (nl 0), .int .u64 (nl 0), .int .u64 (nl 0), .int .u64 (nl 0)]), .op none none (.st 4 (.t 7) (.t 22)), .op (some 8) none (.p (.mov (.t 23)))]
def v69_3 : List VI := [.op (some 24) none (.p (.mov (.t 6))), .op (some 25) none (.p (.un .neg (.t 24))), .op (some 26) none (.ld true 4 (.t 7)), .op (some 27) none (.ld true 4 (.t 5)), .call (some 28) none (.fn 92) [.t 25, .t 26, .t 27], .op none none (.st 4 (.t 4) (.t 28))]
def v69 : VC := .seq (.reg v69_0) (.seq (.drw v69_1) (.seq (.reg v69_2) (.seq (.reg v69_3) .ret)))
def rr69 : List RV := [.m 4 true 4]
theorem code69 : (Tryd.f69.body).bind (cCode Tryd.prog) = some v69 := by kernel_rfl
theorem res69 : cRVs Tryd.prog (Tryd.f69.results.toList) = some rr69 := by kernel_rfl
theorem nt69 : Tryd.f69.ntmps = 29 := by kernel_rfl
theorem nm69 : (Tryd.f69.name == "runtime.NumGoroutine") = false := by kernel_rfl
def v77_0 : List VI := [.op (some 2) none (.p (.mov (.c (.int .i64 0)))), .op (some 3) none (.p (.mov (.c (.bool false))))]
def v77_1 : List VI := [.op (some 5) none (.p (.mov (.t 0))), .op (some 6) none (.p (.bin .lss (.t 5) (.c (.int .i64 1)))), .op (some 7) none (.p (.mov (.t 6))), .op (some 8) (some (7, false)) (.p (.mov (.t 0))), .op (some 9) (some (7, false)) (.p (.bin .gtr (.t 8) (.c (.int .i64 1024)))), .op (some 10) none (.p (.pick (.t 7) (.c (.bool true)) (.t 9))), .op (some 11) none (.p (.mov (.t 10))), .op (some 12) (some (11, false)) (.p (.mov (.t 0))), .op (some 13) (some (11, false)) (.p (.mov (.t 0))), .op (some 14) (some (11, false)) (.p (.bin .sub (.t 13) (.c (.int .i64 1)))), .op (some 15) (some (11, false)) (.p (.bin .and (.t 12) (.t 14))), .op (some 16) (some (11, false)) (.p (.eq true .i (.t 15) (.c (.int .i64 0)))), .op (some 17) none (.p (.pick (.t 11) (.c (.bool true)) (.t 16)))]
def v77_2 : List VI := [.op (some 2) none (.p (.mov (.c (.int .i64 0)))), .op (some 3) none (.p (.mov (.c (.bool false))))]
def v77_3 : List VI := [.op (some 4) none (.p (.mov (.c (.int .i64 0))))]
def v77_4 : List VI := [.op (some 18) none (.p (.mov (.t 4))), .op (some 19) none (.p (.bin .shl (.c (.int .i64 1)) (.t 18))), .op (some 20) none (.p (.mov (.t 0))), .op (some 21) none (.p (.bin .lss (.t 19) (.t 20)))]
def v77_5 : List VI := [.op (some 22) none (.p (.mov (.t 4))), .op (some 23) none (.p (.bin .add (.t 22) (.c (.int .i64 1)))), .op (some 4) none (.p (.mov (.t 23)))]
def v77_6 : VC := .reg v77_5
def v77_7 : VC := .seq (.seq (.reg v77_4) (.cond (.t 21) .skip (.exit 0))) (.block 1 v77_6)
def v77_8 : VC := .loop v77_7
def v77_9 : List VI := [.op (some 24) none (.p (.mov (.t 4))), .op (some 2) none (.p (.mov (.t 24))), .op (some 3) none (.p (.mov (.c (.bool true))))]
def v77 : VC := .seq (.reg v77_0) (.seq (.seq (.reg v77_1) (.cond (.t 17) (.seq (.reg v77_2) .ret) .skip)) (.seq (.reg v77_3) (.seq (.block 0 v77_8) (.seq (.reg v77_9) .ret))))
def rr77 : List RV := [.t 2, .t 3]
theorem code77 : (Tryd.f77.body).bind (cCode Tryd.prog) = some v77 := by kernel_rfl
theorem res77 : cRVs Tryd.prog (Tryd.f77.results.toList) = some rr77 := by kernel_rfl
theorem nt77 : Tryd.f77.ntmps = 25 := by kernel_rfl
theorem nm77 : (Tryd.f77.name == "runtime.NumGoroutine") = false := by kernel_rfl
def v85_0 : List VI := [.op (some 1) none (.box (.t 0)), .op (some 2) none (.new [.int .i64 0, .int .i64 0, .int .i64 0, .int .i64 0, .int .i64 0, .int .i64 0, .int .i64 0, .int .i64 0, .int .i64 0, .int .i64 0, .int .i64 0, .int .i64 0, .int .i64 0, .int .i64 0, .int .i64 0, .int .i64 0, .int .i64 0, .int .i64 0, .int .i64 0, .int .i64 0, .int .i64 0, .int .u64 (nl 0), .int .u64 (nl 0), .int .u64 (nl 0), .int .u64 (nl 0), .nils])]
def v85_1 : List DS := [.mk 0 true (.op (some 3) none (.ld true 26 (.t 1))) [] [], .mk 1 false (.call (some 4) none (.fn 105) [.c (.int .u64 (nl 1))]) [1] [], .mk 2 false (.call (some 5) none (.fn 106) [.t 4]) [1] [], .mk 3 false (.call (some 6) none (.fn 56) [.t 3, .t 5]) [] [], .mk 4 false (.op none none (.st 26 (.t 2) (.t 6))) [] []]
def v85 : VC := .seq (.reg v85_0) (.seq (.drw v85_1) .ret)
def rr85 : List RV := [.m 2 true 26]
theorem code85 : (Tryd.f85.body).bind (cCode Tryd.prog) = some v85 := by kernel_rfl
theorem res85 : cRVs Tryd.prog (Tryd.f85.results.toList) = some rr85 := by kernel_rfl
theorem nt85 : Tryd.f85.ntmps = 7 := by kernel_rfl
theorem nm85 : (Tryd.f85.name == "runtime.NumGoroutine") = false := by kernel_rfl
def v86_0 : List VI := [.op (some 1) none (.box (.t 0)), .op (some 2) none (.new [.int .u64 (nl 0), .int .u64 (nl 0), .int .u64 (nl 0), .int .u64 (nl 0)])]
def v86_1 : List VI := [.op (some 8) none (.ld true 4 (.t 1)), .call (some 9) none (.fn 47) [.t 8]]
def v86_2 : List VI := [.op (some 10) none (.ld true 4 (.t 1)), .op none none (.st 4 (.t 2) (.t 10))]
def v86_3 : List VI := [.op (some 11) none (.ld true 4 (.t 1)), .op (some 3) none (.new [.int .u64 (nl 0), .int .u64 (nl 0), .int .u64 (nl 0), .int .u64 (nl 0)]), .op none none (.st 4 (.t 3) (.t 11))]
def v86_4 : List VI := [.call (some 12) none (.fn 50) [], .op (some 4) none (.new [.int .u64 (nl 0), .int .u64 (nl 0), .int .u64 (nl 0), .int .u64 (nl 0)]), .op none none (.st 4 (.t 4) (.t 12))]
def v86_5 : List VI := [.call (some 13) none (.fn 105) [.c (.int .u64 (nl 1))], .op (some 5) none (.new [.int .u64 (nl 0), .int .u64 (nl 0), .int .u64 (nl 0), .int .u64 (nl 0)]), .op none none (.st 4 (.t 5) (.t 13))]
def v86_6 : List VI := [.op (some 14) none (.p (.bld [.int .u64 (nl 0), .int .u64 (nl 0), .int .u64 (nl 0), .int .u64 (nl 0)] [])), .op (some 6) none (.new [.int .u64 (nl 0), .int .u64 (nl 0), .int .u64 (nl 0), .int .u64 (nl 0)]), .op none none (.st 4 (.t 6) (.t 14))]
def v86_7 : List VI := [.call (some 15) none (.fn 105) [.c (.int .u64 (nl 1))], .op (some 7) none (.new [.int .u64 (nl 0), .int .u64 (nl 0), .int .u64 (nl 0), .int .u64 (nl 0)]), .op none none (.st 4 (.t 7) (.t 15))]
def v86_8 : List VI := [.op (some 16) none (.ld true 4 (.t 3)), .op (some 17) none (.ld true 4 (.t 7)), .op (some 18) none (.p (.eqa true [.i, .i, .i, .i] (.t 16) (.t 17))), .op (some 19) none (.p (.mov (.t 18))), .op (some 20) (some (19, true)) (.ld true 4 (.t 4)), .op (some 21) (some (19, true)) (.ld true 4 (.t 7)), .op (some 22) (some (19, true)) (.p (.eqa true [.i, .i, .i, .i] (.t 20) (.t 21))), .op (some 23) none (.p (.pick (.t 19) (.t 22) (.c (.bool false))))]
def v86_9 : List VI := [.op (some 24) none (.p (.ixa 4 1 (.t 3) (.c (.int .i64 0)))), .op (some 25) none (.ld false 1 (.t 24)), .op (some 26) none (.p (.bin .and (.t 25) (.c (.int .u64 (nl 1))))), .op (some 27) none (.p (.eq false .i (.t 26) (.c (.int .u64 (nl 0)))))]
def v86_10 : List VI := [.op (some 28) none (.ld true 4 (.t 3)), .call (some 29) none (.fn 107) [.t 28], .op none none (.st 4 (.t 3) (.t 29))]
def v86_11 : List VI := [.op (some 30) none (.ld true 4 (.t 5)), .call (some 31) none (.fn 107) [.t 30], .op none none (.st 4 (.t 5) (.t 31))]
def v86_12 : VC := .seq (.reg v86_10) (.reg v86_11)
def v86_13 : VC := .seq (.seq (.reg v86_9) (.cond (.t 27) .skip (.exit 2))) (.block 3 v86_12)
def v86_14 : VC := .loop v86_13
def v86_15 : List VI := [.op (some 32) none (.p (.ixa 4 1 (.t 4) (.c (.int .i64 0)))), .op (some 33) none (.ld false 1 (.t 32)), .op (some 34) none (.p (.bin .and (.t 33) (.c (.int .u64 (nl 1))))), .op (some 35) none (.p (.eq false .i (.t 34) (.c (.int .u64 (nl 0)))))]
def v86_16 : List VI := [.op (some 36) none (.ld true 4 (.t 4)), .call (some 37) none (.fn 107) [.t 36], .op none none (.st 4 (.t 4) (.t 37))]
def v86_17 : List VI := [.op (some 38) none (.ld true 4 (.t 6)), .call (some 39) none (.fn 107) [.t 38], .op none none (.st 4 (.t 6) (.t 39))]
def v86_18 : VC := .seq (.reg v86_16) (.reg v86_17)
def v86_19 : VC := .seq (.seq (.reg v86_15) (.cond (.t 35) .skip (.exit 4))) (.block 5 v86_18)
def v86_20 : VC := .loop v86_19
def v86_21 : List VI := [.op (some 40) none (.ld true 4 (.t 3)), .op (some 41) none (.ld true 4 (.t 4)), .call (some 42) none (.fn 49) [.t 40, .t 41]]
def v86_22 : List VI := [.op (some 44) none (.ld true 4 (.t 4)), .op (some 45) none (.ld true 4 (.t 3)), .call (some 46) none (.fn 51) [.t 44, .t 45], .op (some 43) none (.p (.mov (.t 46))), .op (some 47) none (.p (.ext (.t 43) 0)), .op (some 48) none (.p (.ext (.t 43) 1)), .op none none (.st 4 (.t 4) (.t 47))]
def v86_23 : List VI := [.op (some 49) none (.ld true 4 (.t 6)), .op (some 50) none (.ld true 4 (.t 5)), .call (some 51) none (.fn 108) [.t 49, .t 50], .op none none (.st 4 (.t 6) (.t 51))]
def v86_24 : List VI := [.op (some 53) none (.ld true 4 (.t 3)), .op (some 54) none (.ld true 4 (.t 4)), .call (some 55) none (.fn 51) [.t 53, .t 54], .op (some 52) none (.p (.mov (.t 55))), .op (some 56) none (.p (.ext (.t 52) 0)), .op (some 57) none (.p (.ext (.t 52) 1)), .op none none (.st 4 (.t 3) (.t 56))]
def v86_25 : List VI := [.op (some 58) none (.ld true 4 (.t 5)), .op (some 59) none (.ld true 4 (.t 6)), .call (some 60) none (.fn 108) [.t 58, .t 59], .op none none (.st 4 (.t 5) (.t 60))]
def v86_26 : VC := .seq (.block 2 v86_14) (.seq (.block 4 v86_20) (.seq (.reg v86_21) (.cond (.t 42) (.seq (.reg v86_22) (.reg v86_23)) (.seq (.reg v86_24) (.reg v86_25)))))
def v86_27 : VC := .seq (.seq (.reg v86_8) (.cond (.t 23) .skip (.exit 0))) (.block 1 v86_26)
def v86_28 : VC := .loop v86_27
def v86_29 : List VI := [.op (some 61) none (.ld true 4 (.t 3)), .op (some 62) none (.ld true 4 (.t 7)), .op (some 63) none (.p (.eqa false [.i, .i, .i, .i] (.t 61) (.t 62)))]
def v86_30 : List VI := [.op (some 64) none (.ld true 4 (.t 5)), .op none none (.st 4 (.t 2) (.t 64))]
def v86_31 : List VI := [.op (some 65) none (.ld true 4 (.t 6)), .op none none (.st 4 (.t 2) (.t 65))]
def v86 : VC := .seq (.reg v86_0) (.seq (.seq (.reg v86_1) (.cond (.t 9) (.seq (.reg v86_2) .ret) .skip)) (.seq (.reg v86_3) (.seq (.reg v86_4) (.seq (.reg v86_5) (.seq (.reg v86_6) (.seq (.reg v86_7) (.seq (.block 0 v86_28) (.seq (.seq (.reg v86_29) (.cond (.t 63) (.seq (.reg v86_30) .ret) .skip)) (.seq (.reg v86_31) .ret)))))))))
def rr86 : List RV := [.m 2 true 4]
theorem code86 : (Tryd.f86.body).bind (cCode Tryd.prog) = some v86 := by kernel_rfl
theorem res86 : cRVs Tryd.prog (Tryd.f86.results.toList) = some rr86 := by kernel_rfl
theorem nt86 : Tryd.f86.ntmps = 66 := by kernel_rfl
theorem nm86 : (Tryd.f86.name == "runtime.NumGoroutine") = false := by kernel_rfl
def v87_0 : List VI := [.op (some 4) none (.box (.t 0)), .op (some 6) none (.box (.t 2)), .op (some 8) none (.p (.mov (.c .nils)))]
def v87_1 : List VI := [.op (some 9) none (.p (.mov (.c .nils)))]
def v87_2 : List VI := [.op (some 10) none (.p (.mov (.c (.int .i64 0))))]
def v87_3 : List VI := [.op (some 11) none (.p (.mov (.t 10))), .op (some 12) none (.p (.mov (.t 1))), .op (some 13) none (.p (.len false (.t 12))), .op (some 14) none (.p (.bin .lss (.t 11) (.t 13)))]
def v87_4 : List DS := [.mk 0 true (.op (some 17) none (.p (.mov (.t 9)))) [] [], .mk 1 true (.op (some 18) none (.p (.mov (.t 1)))) [] [], .mk 2 true (.op (some 19) none (.p (.mov (.t 10)))) [] [], .mk 3 true (.op (some 20) none (.p (.ixs 26 (.t 18) (.t 19)))) [] [], .mk 4 true (.op (some 21) none (.ld true 26 (.t 20))) [] [], .mk 5 true (.op (some 22) none (.ld true 4 (.t 4))) [] [], .mk 7 true (.op (some 24) none (.p (.mov (.t 3)))) [] [], .mk 8 true (.op (some 25) none (.p (.mov (.t 10)))) [] [], .mk 9 true (.op (some 26) none (.p (.ixs 26 (.t 24) (.t 25)))) [] [], .mk 10 true (.op (some 27) none (.ld true 26 (.t 26))) [] [], .mk 11 true (.op (some 28) none (.ld true 4 (.t 6))) [] [], .mk 6 false (.call (some 23) none (.fn 56) [.t 21, .t 22]) [26, 6] [], .mk 12 false (.call (some 29) none (.fn 56) [.t 27, .t 28]) [] [], .mk 13 false (.call (some 30) none (.fn 57) [.t 23, .t 29]) [] [], .mk 14 true (.op (some 31) none (.bsl 1 [.int .i64 0, .int .i64 0, .int .i64 0, .int .i64 0, .int .i64 0, .int .i64 0, .int .i64 0, .int .i64 0, .int .i64 0, .int .i64 0, .int .i64 0, .int .i64 0, .int .i64 0, .int .i64 0, .int .i64 0, .int .i64 0, .int .i64 0, .int .i64 0, .int .i64 0, .int .i64 0, .int .i64 0, .int .u64 (nl 0), .int .u64 (nl 0), .int .u64 (nl 0), .int .u64 (nl 0), .nils] [(0, 26, .t 30)])) [] [], .mk 15 false (.op (some 32) none (.app 26 224 false (.t 17) (.t 31))) [] [], .mk 16 false (.op (some 9) none (.p (.mov (.t 32)))) [] []]
def v87_5 : VC := .drw v87_4
def v87_6 : List VI := [.op (some 15) none (.p (.mov (.t 10))), .op (some 16) none (.p (.bin .add (.t 15) (.c (.int .i64 1)))), .op (some 10) none (.p (.mov (.t 16)))]
def v87_7 : VC := .seq (.seq (.reg v87_3) (.cond (.t 14) .skip (.exit 0))) (.seq (.block 1 v87_5) (.reg v87_6))
def v87_8 : VC := .loop v87_7
def v87_9 : List VI := [.op (some 33) none (.p (.mov (.t 9))), .op (some 8) none (.p (.mov (.t 33)))]
def v87 : VC := .seq (.reg v87_0) (.seq (.reg v87_1) (.seq (.seq (.reg v87_2) (.block 0 v87_8)) (.seq (.reg v87_9) .ret)))
def rr87 : List RV := [.t 8]
theorem code87 : (Tryd.f87.body).bind (cCode Tryd.prog) = some v87 := by kernel_rfl
theorem res87 : cRVs Tryd.prog (Tryd.f87.results.toList) = some rr87 := by kernel_rfl
theorem nt87 : Tryd.f87.ntmps = 34 := by kernel_rfl
theorem nm87 : (Tryd.f87.name == "runtime.NumGoroutine") = false := by kernel_rfl
def v89_0 : List VI := [.op (some 4) none (.p (.mov (.c (.int .u64 (nl 0))))), .op (some 5) none (.p (.mov (.c (.int .u64 (nl 0)))))]
def v89_1 : List VI := [.op (some 14) none (.p (.mov (.t 0))), .op (some 15) none (.p (.bin .and (.t 14) (.c (.int .u64 (nl 4294967295))))), .op (some 6) none (.p (.mov (.t 15)))]
def v89_2 : List VI := [.op (some 16) none (.p (.mov (.t 0))), .op (some 17) none (.p (.bin .shr (.t 16) (.c (.int .u64 (nl 32))))), .op (some 7) none (.p (.mov (.t 17)))]
def v89_3 : List VI := [.op (some 18) none (.p (.mov (.t 1))), .op (some 19) none (.p (.bin .and (.t 18) (.c (.int .u64 (nl 4294967295))))), .op (some 8) none (.p (.mov (.t 19)))]
def v89_4 : List VI := [.op (some 20) none (.p (.mov (.t 1))), .op (some 21) none (.p (.bin .shr (.t 20) (.c (.int .u64 (nl 32))))), .op (some 9) none (.p (.mov (.t 21)))]
def v89_5 : List VI := [.op (some 22) none (.p (.mov (.t 6))), .op (some 23) none (.p (.mov (.t 8))), .op (some 24) none (.p (.bin .mul (.t 22) (.t 23))), .op (some 10) none (.p (.mov (.t 24)))]
def v89_6 : List VI := [.op (some 25) none (.p (.mov (.t 7))), .op (some 26) none (.p (.mov (.t 8))), .op (some 27) none (.p (.bin .mul (.t 25) (.t 26))), .op (some 28) none (.p (.mov (.t 10))), .op (some 29) none (.p (.bin .shr (.t 28) (.c (.int .u64 (nl 32))))), .op (some 30) none (.p (.bin .add (.t 27) (.t 29))), .op (some 11) none (.p (.mov (.t 30)))]
def v89_7 : List VI := [.op (some 31) none (.p (.mov (.t 11))), .op (some 32) none (.p (.bin .and (.t 31) (.c (.int .u64 (nl 4294967295))))), .op (some 12) none (.p (.mov (.t 32)))]
def v89_8 : List VI := [.op (some 33) none (.p (.mov (.t 11))), .op (some 34) none (.p (.bin .shr (.t 33) (.c (.int .u64 (nl 32))))), .op (some 13) none (.p (.mov (.t 34)))]
def v89_9 : List VI := [.op (some 35) none (.p (.mov (.t 12))), .op (some 36) none (.p (.mov (.t 6))), .op (some 37) none (.p (.mov (.t 9))), .op (some 38) none (.p (.bin .mul (.t 36) (.t 37))), .op (some 39) none (.p (.bin .add (.t 35) (.t 38))), .op (some 12) none (.p (.mov (.t 39)))]
def v89_10 : List VI := [.op (some 40) none (.p (.mov (.t 7))), .op (some 41) none (.p (.mov (.t 9))), .op (some 42) none (.p (.bin .mul (.t 40) (.t 41))), .op (some 43) none (.p (.mov (.t 13))), .op (some 44) none (.p (.bin .add (.t 42) (.t 43))), .op (some 45) none (.p (.mov (.t 12))), .op (some 46) none (.p (.bin .shr (.t 45) (.c (.int .u64 (nl 32))))), .op (some 47) none (.p (.bin .add (.t 44) (.t 46))), .op (some 4) none (.p (.mov (.t 47)))]
def v89_11 : List VI := [.op (some 48) none (.p (.mov (.t 0))), .op (some 49) none (.p (.mov (.t 1))), .op (some 50) none (.p (.bin .mul (.t 48) (.t 49))), .op (some 5) none (.p (.mov (.t 50)))]
def v89 : VC := .seq (.reg v89_0) (.seq (.reg v89_1) (.seq (.reg v89_2) (.seq (.reg v89_3) (.seq (.reg v89_4) (.seq (.reg v89_5) (.seq (.reg v89_6) (.seq (.reg v89_7) (.seq (.reg v89_8) (.seq (.reg v89_9) (.seq (.reg v89_10) (.seq (.reg v89_11) .ret)))))))))))
def rr89 : List RV := [.t 4, .t 5]
theorem code89 : (Tryd.f89.body).bind (cCode Tryd.prog) = some v89 := by kernel_rfl
theorem res89 : cRVs Tryd.prog (Tryd.f89.results.toList) = some rr89 := by kernel_rfl
theorem nt89 : Tryd.f89.ntmps = 51 := by kernel_rfl
theorem nm89 : (Tryd.f89.name == "runtime.NumGoroutine") = false := by kernel_rfl
def v91_0 : List VI := [.op (some 2) none (.box (.t 0)), .op (some 3) none (.box (.t 1)), .op (some 4) none (.new [.int .u64 (nl 0), .int .u64 (nl 0), .int .u64 (nl 0), .int .u64 (nl 0)]), .op (some 5) none (.p (.mov (.c (.int .u64 (nl 0)))))]
def v91_1 : List VI := [.op (some 6) none (.new [.int .u64 (nl 0), .int .u64 (nl 0), .int .u64 (nl 0), .int .u64 (nl 0)])]
def v91_2 : List VI := [.op (some 7) none (.p (.mov (.c (.int .u64 (nl 0)))))]
def v91_3 : List VI := [.op (some 9) none (.p (.mov (.c (.int .i64 0))))]
def v91_4 : List VI := [.op (some 10) none (.p (.bin .lss (.t 9) (.c (.int .i64 4))))]
def v91_5 : List VI := [.op (some 11) none (.p (.mov (.t 9))), .op (some 8) none (.p (.mov (.t 11)))]
def v91_6 : List DS := [.mk 0 true (.op (some 13) none (.p (.mov (.t 8)))) [] [], .mk 1 true (.op (some 14) none (.p (.mov (.t 8)))) [] [], .mk 2 true (.op (some 15) none (.p (.ixa 4 1 (.t 2) (.t 14)))) [] [], .mk 3 true (.op (some 16) none (.ld false 1 (.t 15))) [] [], .mk 4 true (.op (some 17) none (.p (.mov (.t 8)))) [] [], .mk 5 true (.op (some 18) none (.p (.ixa 4 1 (.t 3) (.t 17)))) [] [], .mk 6 true (.op (some 19) none (.ld false 1 (.t 18))) [] [], .mk 7 true (.op (some 20) none (.p (.mov (.t 7)))) [] [], .mk 8 false (.call (some 21) none (.fn 110) [.t 16, .t 19, .t 20]) [] [], .mk 9 true (.op (some 12) none (.p (.mov (.t 21)))) [] [], .mk 10 true (.op (some 22) none (.p (.ext (.t 12) 0))) [] [], .mk 11 true (.op (some 23) none (.p (.ext (.t 12) 1))) [] [], .mk 12 true (.op (some 24) none (.p (.ixa 4 1 (.t 6) (.t 13)))) [] [], .mk 13 false (.op none none (.st 1 (.t 24) (.t 22))) [] [], .mk 14 false (.op (some 7) none (.p (.mov (.t 23)))) [] []]
def v91_7 : VC := .seq (.reg v91_5) (.drw v91_6)
def v91_8 : List VI := [.op (some 25) none (.p (.bin .add (.t 9) (.c (.int .i64 1)))), .op (some 9) none (.p (.mov (.t 25)))]
def v91_9 : VC := .seq (.reg v91_4) (.seq (.cond (.t 10) .skip (.exit 0)) (.seq (.block 1 v91_7) (.reg v91_8)))
def v91_10 : VC := .loop v91_9
def v91_11 : List VI := [.op (some 26) none (.ld true 4 (.t 6)), .op (some 27) none (.p (.mov (.t 7))), .op none none (.st 4 (.t 4) (.t 26)), .op (some 5) none (.p (.mov (.t 27)))]
def v91 : VC := .seq (.reg v91_0) (.seq (.reg v91_1) (.seq (.reg v91_2) (.seq (.seq (.reg v91_3) (.block 0 v91_10)) (.seq (.reg v91_11) .ret))))
def rr91 : List RV := [.m 4 true 4, .t 5]
theorem code91 : (Tryd.f91.body).bind (cCode Tryd.prog) = some v91 := by kernel_rfl
theorem res91 : cRVs Tryd.prog (Tryd.f91.results.toList) = some rr91 := by kernel_rfl
theorem nt91 : Tryd.f91.ntmps = 28 := by kernel_rfl
theorem nm91 : (Tryd.f91.name == "runtime.NumGoroutine") = false := by kernel_rfl
def v92_0 : List VI := [.op (some 4) none (.box (.t 1)), .op (some 5) none (.box (.t 2)), .op (some 6) none (.new [.int .u64 (nl 0), .int .u64 (nl 0), .int .u64 (nl 0), .int .u64 (nl 0)])]
def v92_1 : List VI := [.op (some 8) none (.p (.mov (.c (.int .i64 0))))]
def v92_2 : List VI := [.op (some 9) none (.p (.bin .lss (.t 8) (.c (.int .i64 4))))]
def v92_3 : List VI := [.op (some 10) none (.p (.mov (.t 8))), .op (some 7) none (.p (.mov (.t 10)))]
def v92_4 : List DS := [.mk 0 true (.op (some 11) none (.p (.mov (.t 7)))) [] [], .mk 1 true (.op (some 12) none (.p (.mov (.t 7)))) [] [], .mk 2 true (.op (some 13) none (.p (.ixa 4 1 (.t 4) (.t 12)))) [] [], .mk 3 true (.op (some 14) none (.ld false 1 (.t 13))) [] [], .mk 4 true (.op (some 15) none (.p (.mov (.t 0)))) [] [], .mk 5 true (.op (some 16) none (.p (.bin .and (.t 14) (.t 15)))) [] [], .mk 6 true (.op (some 17) none (.p (.mov (.t 7)))) [] [], .mk 7 true (.op (some 18) none (.p (.ixa 4 1 (.t 5) (.t 17)))) [] [], .mk 8 true (.op (some 19) none (.ld false 1 (.t 18))) [] [], .mk 9 true (.op (some 20) none (.p (.mov (.t 0)))) [] [], .mk 10 true (.op (some 21) none (.p (.bin .andNot (.t 19) (.t 20)))) [] [], .mk 11 true (.op (some 22) none (.p (.bin .or (.t 16) (.t 21)))) [] [], .mk 12 true (.op (some 23) none (.p (.ixa 4 1 (.t 4) (.t 11)))) [] [], .mk 13 false (.op none none (.st 1 (.t 23) (.t 22))) [] []]
def v92_5 : VC := .seq (.reg v92_3) (.drw v92_4)
def v92_6 : List VI := [.op (some 24) none (.p (.bin .add (.t 8) (.c (.int .i64 1)))), .op (some 8) none (.p (.mov (.t 24)))]
def v92_7 : VC := .seq (.reg v92_2) (.seq (.cond (.t 9) .skip (.exit 0)) (.seq (.block 1 v92_5) (.reg v92_6)))
def v92_8 : VC := .loop v92_7
def v92_9 : List VI := [.op (some 25) none (.ld true 4 (.t 4)), .op none none (.st 4 (.t 6) (.t 25))]
def v92 : VC := .seq (.reg v92_0) (.seq (.seq (.reg v92_1) (.block 0 v92_8)) (.seq (.reg v92_9) .ret))
def rr92 : List RV := [.m 6 true 4]
theorem code92 : (Tryd.f92.body).bind (cCode Tryd.prog) = some v92 := by kernel_rfl
theorem res92 : cRVs Tryd.prog (Tryd.f92.results.toList) = some rr92 := by kernel_rfl
theorem nt92 : Tryd.f92.ntmps = 26 := by kernel_rfl
theorem nm92 : (Tryd.f92.name == "runtime.NumGoroutine") = false := by kernel_rfl
def v93_0 : List VI := [.op (some 8) none (.p (.mov (.c (.int .u64 (nl 0))))), .op (some 9) none (.p (.mov (.c (.int .u64 (nl 0)))))]
def v93_1 : List VI := [.op (some 14) none (.p (.mov (.t 0))), .op (some 15) none (.p (.mov (.t 1))), .call (some 16) none (.fn 89) [.t 14, .t 15], .op (some 13) none (.p (.mov (.t 16))), .op (some 17) none (.p (.ext (.t 13) 0)), .op (some 18) none (.p (.ext (.t 13) 1)), .op (some 10) none (.p (.mov (.t 17))), .op (some 11) none (.p (.mov (.t 18)))]
def v93_2 : List VI := [.op (some 20) none (.p (.mov (.t 11))), .op (some 21) none (.p (.mov (.t 2))), .call (some 22) none (.fn 90) [.t 20, .t 21, .c (.int .u64 (nl 0))], .op (some 19) none (.p (.mov (.t 22))), .op (some 23) none (.p (.ext (.t 19) 0)), .op (some 24) none (.p (.ext (.t 19) 1)), .op (some 11) none (.p (.mov (.t 23))), .op (some 12) none (.p (.mov (.t 24)))]
def v93_3 : List VI := [.op (some 25) none (.p (.mov (.t 10))), .op (some 26) none (.p (.mov (.t 12))), .op (some 27) none (.p (.bin .add (.t 25) (.t 26))), .op (some 10) none (.p (.mov (.t 27)))]
def v93_4 : List VI := [.op (some 29) none (.p (.mov (.t 11))), .op (some 30) none (.p (.mov (.t 3))), .call (some 31) none (.fn 90) [.t 29, .t 30, .c (.int .u64 (nl 0))], .op (some 28) none (.p (.mov (.t 31))), .op (some 32) none (.p (.ext (.t 28) 0)), .op (some 33) none (.p (.ext (.t 28) 1)), .op (some 11) none (.p (.mov (.t 32))), .op (some 12) none (.p (.mov (.t 33)))]
def v93_5 : List VI := [.op (some 34) none (.p (.mov (.t 11))), .op (some 35) none (.p (.mov (.t 10))), .op (some 36) none (.p (.mov (.t 12))), .op (some 37) none (.p (.bin .add (.t 35) (.t 36))), .op (some 8) none (.p (.mov (.t 34))), .op (some 9) none (.p (.mov (.t 37)))]
def v93 : VC := .seq (.reg v93_0) (.seq (.reg v93_1) (.seq (.reg v93_2) (.seq (.reg v93_3) (.seq (.reg v93_4) (.seq (.reg v93_5) .ret)))))
def rr93 : List RV := [.t 8, .t 9]
theorem code93 : (Tryd.f93.body).bind (cCode Tryd.prog) = some v93 := by kernel_rfl
theorem res93 : cRVs Tryd.prog (Tryd.f93.results.toList) = some rr93 := by kernel_rfl
theorem nt93 : Tryd.f93.ntmps = 38 := by kernel_rfl
theorem nm93 : (Tryd.f93.name == "runtime.NumGoroutine") = false := by kernel_rfl
def v105_0 : List VI := [.op (some 2) none (.new [.int .u64 (nl 0), .int .u64 (nl 0), .int .u64 (nl 0), .int .u64 (nl 0)])]
def v105_1 : List VI := [.op (some 3) none (.p (.mov (.t 0))), .op (some 4) none (.p (.bld [.int .u64 (nl 0), .int .u64 (nl 0), .int .u64 (nl 0), .int .u64 (nl 0)] [(0, 1, .t 3), (1, 1, .c (.int .u64 (nl 0))), (2, 1, .c (.int .u64 (nl 0))), (3, 1, .c (.int .u64 (nl 0)))])), .op none none (.st 4 (.t 2) (.t 4))]
def v105 : VC := .seq (.reg v105_0) (.seq (.reg v105_1) .ret)
def rr105 : List RV := [.m 2 true 4]
theorem code105 : (Tryd.f105.body).bind (cCode Tryd.prog) = some v105 := by kernel_rfl
theorem res105 : cRVs Tryd.prog (Tryd.f105.results.toList) = some rr105 := by kernel_rfl
theorem nt105 : Tryd.f105.ntmps = 5 := by kernel_rfl
theorem nm105 : (Tryd.f105.name == "runtime.NumGoroutine") = false := by kernel_rfl
def v106_0 : List VI := [.op (some 1) none (.box (.t 0)), .op (some 2) none (.new [.int .u64 (nl 0), .int .u64 (nl 0), .int .u64 (nl 0), .int .u64 (nl 0)])]
def v106_1 : List VI := [.op (some 5) none (.ld true 4 (.t 1)), .call (some 6) none (.fn 47) [.t 5]]
def v106_2 : List VI := [.op (some 7) none (.ld true 4 (.t 1)), .op none none (.st 4 (.t 2) (.t 7))]
def v106_3 : List DS := [.mk 1 true (.op (some 10) none (.ld true 4 (.t 1))) [] [], .mk 6 true (.op (some 3) none (.new [.int .u64 (nl 0), .int .u64 (nl 0), .int .u64 (nl 0), .int .u64 (nl 0)])) [] [], .mk 0 false (.call (some 9) none (.fn 50) []) [1] [3], .mk 2 false (.call (some 11) none (.fn 51) [.t 9, .t 10]) [] [3], .mk 3 true (.op (some 8) none (.p (.mov (.t 11)))) [] [], .mk 4 true (.op (some 12) none (.p (.ext (.t 8) 0))) [] [], .mk 5 true (.op (some 13) none (.p (.ext (.t 8) 1))) [] [], .mk 7 false (.op none none (.st 4 (.t 3) (.t 12))) [] [], .mk 8 false (.op (some 4) none (.p (.mov (.t 13)))) [] []]
def v106_4 : List VI := [.op (some 14) none (.ld true 4 (.t 3)), .op none none (.st 4 (.t 2) (.t 14))]
def v106 : VC := .seq (.reg v106_0) (.seq (.seq (.reg v106_1) (.cond (.t 6) (.seq (.reg v106_2) .ret) .skip)) (.seq (.drw v106_3) (.seq (.reg v106_4) .ret)))
def rr106 : List RV := [.m 2 true 4]
theorem code106 : (Tryd.f106.body).bind (cCode Tryd.prog) = some v106 := by kernel_rfl
theorem res106 : cRVs Tryd.prog (Tryd.f106.results.toList) = some rr106 := by kernel_rfl
theorem nt106 : Tryd.f106.ntmps = 15 := by kernel_rfl
theorem nm106 : (Tryd.f106.name == "runtime.NumGoroutine") = false := by kernel_rfl
def v107_0 : List VI := [.op (some 1) none (.box (.t 0)), .op (some 2) none (.new [.int .u64 (nl 0), .int .u64 (nl 0), .int .u64 (nl 0), .int .u64 (nl 0)])]
def v107_1 : List VI := [.op (some 6) none (.ld true 4 (.t 1)), .op (some 3) none (.new [.int .u64 (nl 0), .int .u64 (nl 0), .int .u64 (nl 0), .int .u64 (nl 0)]), .op none none (.st 4 (.t 3) (.t 6))]
def v107_2 : List VI := [.op (some 4) none (.p (.mov (.c (.int .u64 (nl 0)))))]
def v107_3 : List VI := [.op (some 7) none (.p (.ixa 4 1 (.t 3) (.c (.int .i64 0)))), .op (some 8) none (.ld false 1 (.t 7)), .op (some 9) none (.p (.bin .and (.t 8) (.c (.int .u64 (nl 1))))), .op (some 10) none (.p (.eq false .i (.t 9) (.c (.int .u64 (nl 1)))))]
def v107_4 : List DS := [.mk 0 true (.op (some 12) none (.ld true 4 (.t 3))) [] [], .mk 1 false (.call (some 13) none (.fn 50) []) [3] [], .mk 2 false (.call (some 14) none (.fn 48) [.t 12, .t 13]) [] [], .mk 3 true (.op (some 11) none (.p (.mov (.t 14)))) [] [], .mk 4 true (.op (some 15) none (.p (.ext (.t 11) 0))) [] [], .mk 5 true (.op (some 16) none (.p (.ext (.t 11) 1))) [] [], .mk 6 false (.op none none (.st 4 (.t 3) (.t 15))) [] [], .mk 7 false (.op (some 4) none (.p (.mov (.t 16)))) [] []]
def v107_5 : List VI := [.op (some 5) none (.p (.mov (.c (.int .i64 0))))]
def v107_6 : List VI := [.op (some 17) none (.p (.mov (.t 5))), .op (some 18) none (.p (.bin .lss (.t 17) (.c (.int .i64 3))))]
def v107_7 : List DS := [.mk 0 true (.op (some 21) none (.p (.mov (.t 5)))) [] [], .mk 1 true (.op (some 22) none (.p (.mov (.t 5)))) [] [], .mk 2 true (.op (some 23) none (.p (.ixa 4 1 (.t 3) (.t 22)))) [] [], .mk 3 true (.op (some 24) none (.ld false 1 (.t 23))) [] [], .mk 4 true (.op (some 25) none (.p (.bin .shr (.t 24) (.c (.int .u64 (nl 1)))))) [] [], .mk 5 true (.op (some 26) none (.p (.mov (.t 5)))) [] [], .mk 6 true (.op (some 27) none (.p (.bin .add (.t 26) (.c (.int .i64 1))))) [] [], .mk 7 true (.op (some 28) none (.p (.ixa 4 1 (.t 3) (.t 27)))) [] [], .mk 8 true (.op (some 29) none (.ld false 1 (.t 28))) [] [], .mk 9 true (.op (some 30) none (.p (.bin .shl (.t 29) (.c (.int .u64 (nl 63)))))) [] [], .mk 10 true (.op (some 31) none (.p (.bin .or (.t 25) (.t 30)))) [] [], .mk 11 true (.op (some 32) none (.p (.ixa 4 1 (.t 3) (.t 21)))) [] [], .mk 12 false (.op none none (.st 1 (.t 32) (.t 31))) [] []]
def v107_8 : VC := .drw v107_7
def v107_9 : List VI := [.op (some 19) none (.p (.mov (.t 5))), .op (some 20) none (.p (.bin .add (.t 19) (.c (.int .i64 1)))), .op (some 5) none (.p (.mov (.t 20)))]
def v107_10 : VC := .seq (.seq (.reg v107_6) (.cond (.t 18) .skip (.exit 0))) (.seq (.block 1 v107_8) (.reg v107_9))
def v107_11 : VC := .loop v107_10
def v107_12 : List VI := [.op (some 33) none (.p (.ixa 4 1 (.t 3) (.c (.int .i64 3)))), .op (some 34) none (.ld false 1 (.t 33)), .op (some 35) none (.p (.bin .shr (.t 34) (.c (.int .u64 (nl 1))))), .op (some 36) none (.p (.mov (.t 4))), .op (some 37) none (.p (.bin .shl (.t 36) (.c (.int .u64 (nl 63))))), .op (some 38) none (.p (.bin .or (.t 35) (.t 37))), .op (some 39) none (.p (.ixa 4 1 (.t 3) (.c (.int .i64 3)))), .op none none (.st 1 (.t 39) (.t 38))]
def v107_13 : List VI := [.op (some 40) none (.ld true 4 (.t 3)), .op none none (.st 4 (.t 2) (.t 40))]
def v107 : VC := .seq (.reg v107_0) (.seq (.reg v107_1) (.seq (.reg v107_2) (.seq (.seq (.reg v107_3) (.cond (.t 10) (.drw v107_4) .skip)) (.seq (.seq (.reg v107_5) (.block 0 v107_11)) (.seq (.reg v107_12) (.seq (.reg v107_13) .ret))))))
def rr107 : List RV := [.m 2 true 4]
theorem code107 : (Tryd.f107.body).bind (cCode Tryd.prog) = some v107 := by kernel_rfl
theorem res107 : cRVs Tryd.prog (Tryd.f107.results.toList) = some rr107 := by kernel_rfl
theorem nt107 : Tryd.f107.ntmps = 41 := by kernel_rfl
theorem nm107 : (Tryd.f107.name == "runtime.NumGoroutine") = false := by kernel_rfl
def v108_0 : List VI := [.op (some 2) none (.box (.t 0)), .op (some 3) none (.box (.t 1)), .op (some 4) none (.new [.int .u64 (nl 0), .int .u64 (nl 0), .int .u64 (nl 0), .int .u64 (nl 0)])]
def v108_1 : List DS := [.mk 0 true (.op (some 5) none (.ld true 4 (.t 2))) [] [], .mk 1 true (.op (some 6) none (.ld true 4 (.t 3))) [] [], .mk 2 false (.call (some 7) none (.fn 106) [.t 6]) [2] [], .mk 3 false (.call (some 8) none (.fn 13) [.t 5, .t 7]) [] [], .mk 4 false (.op none none (.st 4 (.t 4) (.t 8))) [] []]
def v108 : VC := .seq (.reg v108_0) (.seq (.drw v108_1) .ret)
def rr108 : List RV := [.m 4 true 4]
theorem code108 : (Tryd.f108.body).bind (cCode Tryd.prog) = some v108 := by kernel_rfl
theorem res108 : cRVs Tryd.prog (Tryd.f108.results.toList) = some rr108 := by kernel_rfl
theorem nt108 : Tryd.f108.ntmps = 9 := by kernel_rfl
theorem nm108 : (Tryd.f108.name == "runtime.NumGoroutine") = false := by kernel_rfl
def v179_0 : List VI := [.op (some 1) none (.box (.t 0)), .op (some 2) none (.new [.int .u64 (nl 0), .int .u64 (nl 0), .int .u64 (nl 0), .int .u64 (nl 0)])]
def v179_1 : List VI := [.op (some 3) none (.p (.bld [.int .u64 (nl 0), .int .u64 (nl 0), .int .u64 (nl 0), .int .u64 (nl 0)] [(0, 1, .c (.int .u64 (nl 1)))])), .op none none (.st 4 (.t 2) (.t 3))]
def v179 : VC := .seq (.reg v179_0) (.seq (.reg v179_1) .ret)
def rr179 : List RV := [.m 2 true 4]
theorem code179 : (Tryd.f179.body).bind (cCode Tryd.prog) = some v179 := by kernel_rfl
theorem res179 : cRVs Tryd.prog (Tryd.f179.results.toList) = some rr179 := by kernel_rfl
theorem nt179 : Tryd.f179.ntmps = 4 := by kernel_rfl
theorem nm179 : (Tryd.f179.name == "runtime.NumGoroutine") = false := by kernel_rfl
end Go.Vs.Tryd
namespace Go.Vs
theorem a64_mask (x k : Nat) (hk : k ≤ 63) (hx : x < 18446744073709551616) (m : Nat) (hm : m = 2 ^ k - 1) : a64 x m = x % 2 ^ k := by
  subst hm
  have h1 : 2 ^ k ≤ 2 ^ 63 := Nat.pow_le_pow_right (by decide) hk
  have h2 : 0 < 2 ^ k := Nat.two_pow_pos k
  unfold a64
  rw [Nat.mod_eq_of_lt hx, Nat.mod_eq_of_lt (a := 2 ^ k - 1) (by omega), Nat.and_two_pow_sub_one_eq_mod]
theorem mul64_law (x y : Nat) (hx : x < 18446744073709551616) (hy : y < 18446744073709551616) :
    x * y = 18446744073709551616 * w64 (w64 (w64 (r64 x 32 * r64 y 32) + r64 (w64 (w64 (r64 x 32 * a64 y 4294967295) + r64 (w64 (a64 x 4294967295 * a64 y 4294967295)) 32)) 32) + r64 (w64 (a64 (w64 (w64 (r64 x 32 * a64 y 4294967295) + r64 (w64 (a64 x 4294967295 * a64 y 4294967295)) 32)) 4294967295 + w64 (a64 x 4294967295 * r64 y 32))) 32) + w64 (x * y) := by
  have ex : x = x % 4294967296 + 4294967296 * (x / 4294967296) := (Nat.mod_add_div _ _).symm
  have ey : y = y % 4294967296 + 4294967296 * (y / 4294967296) := (Nat.mod_add_div _ _).symm
  have r1 : r64 x 32 = x / 4294967296 := rfl
  have r2 : r64 y 32 = y / 4294967296 := rfl
  have m1 : a64 x 4294967295 = x % 4294967296 := a64_mask x 32 (by decide) hx _ rfl
  have m2 : a64 y 4294967295 = y % 4294967296 := a64_mask y 32 (by decide) hy _ rfl
  have m3 : ∀ t, a64 (w64 t) 4294967295 = w64 t % 4294967296 := fun t => a64_mask _ 32 (by decide) (Nat.mod_lt _ (by decide)) _ rfl
  have hx0 : x % 4294967296 < 4294967296 := Nat.mod_lt _ (by decide)
  have hy0 : y % 4294967296 < 4294967296 := Nat.mod_lt _ (by decide)
  have hx1 : x / 4294967296 < 4294967296 := by omega
  have hy1 : y / 4294967296 < 4294967296 := by omega
  rw [r1, r2, m1, m2, m3]
  generalize x % 4294967296 = x0 at *
  generalize y % 4294967296 = y0 at *
  generalize x / 4294967296 = x1 at *
  generalize y / 4294967296 = y1 at *
  have bound : ∀ a b : Nat, a < 4294967296 → b < 4294967296 → a * b ≤ 18446744065119617025 := fun a b ha hb => by
    have := Nat.mul_le_mul (Nat.le_of_lt_succ ha) (Nat.le_of_lt_succ hb)
    exact this
  have b00 := bound x0 y0 hx0 hy0
  have b01 := bound x0 y1 hx0 hy1
  have b10 := bound x1 y0 hx1 hy0
  have b11 := bound x1 y1 hx1 hy1
  have hp : x * y = x0 * y0 + 4294967296 * (x0 * y1) + 4294967296 * (x1 * y0) + 18446744073709551616 * (x1 * y1) := by
    rw [ex, ey]; grind
  rw [hp]
  generalize x0 * y0 = p00 at *
  generalize x0 * y1 = p01 at *
  generalize x1 * y0 = p10 at *
  generalize x1 * y1 = p11 at *
  have rr : ∀ t, r64 t 32 = t / 4294967296 := fun _ => rfl
  simp only [rr, w64]
  omega
end Go.Vs
namespace Go.Vs.Tryd
open Go.Proofs
variable {G : Nat → List V}
set_option linter.unusedSimpArgs false
attribute [local go_sem] lenO drive stepV exo expo evs fillV isNil nilKind eqV eqL optA optM sliceAtV ev kn V.known V.one ldc stc splice cellsOf asK asN asB asS asG asT appV srcV lenV setd wantV exitV rvs rv one List.length_cons List.length_nil List.cons_append List.nil_append List.append_nil List.replicate List.getD_cons_zero List.getD_cons_succ List.set_cons_zero List.set_cons_succ List.getElem?_cons_zero List.getElem?_cons_succ List.getElem?_nil List.take_succ_cons List.take_zero List.take_nil List.drop_succ_cons List.drop_zero List.drop_nil List.all_cons List.all_nil List.any_cons List.any_nil Bool.and_true Bool.true_and Bool.and_self Option.map_some Option.map_none Option.bind_some Option.some.injEq Nat.add_zero Nat.zero_add Int.toNat_zero Int.toNat_one Int.zero_add Int.add_zero if_true if_false ite_true ite_false and_true true_and and_self ne_eq not_false_eq_true not_true_eq_false decide_true decide_false Bool.false_eq_true Bool.not_true Bool.not_false beq_self_eq_true BEq.rfl Bool.not_eq_true Nat.le_refl Int.le_refl Nat.zero_le List.foldl List.map_cons List.map_nil Prod.mk.injEq Int.cast_ofNat_Int Int.zero_le_ofNat b_add_cc b_add_cl b_add_lc b_mul_cc b_mul_cl b_mul_lc b_sub_cc b_sub_cl b_sub_lc b_and_cc b_and_cl b_and_lc b_or_cc b_or_cl b_or_lc b_xor_cc b_xor_cl b_xor_lc b_andNot_cc b_andNot_cl b_andNot_lc b_shr_cc b_shr_cl b_shr_lc b_shl_cc b_shl_cl b_shl_lc b_lss b_leq b_gtr b_geq b_add_i b_sub_i b_mul_i beq_cc beq_cl beq_lc beq_ll b_quo_i b_rem_i neg_u64 wrap_i64 driveD stepD idsAt idOf maskH_nil restore_nil restore_mask List.filterMap_nil List.filterMap_cons VOp.looks VOp.makes exA
def u (n : Nat) : V := .int .u64 (n : Int)
def lc (n : Nat) : List V := [u (n % 18446744073709551616), u (n / 18446744073709551616 % 18446744073709551616), u (n / 340282366920938463463374607431768211456 % 18446744073709551616), u (n / 6277101735386680763835789423207666416102355444464034512896 % 18446744073709551616)]
def lw (n : Nat) : V := .agg (lc n)
noncomputable def sub64E : Array Value → Sem Value := (Extern.find Tryd.f110).getD fun _ => Pure.pure undef
theorem sub64E_run (P : Program) (x y b : Nat) (hb : b ≤ 1) (w : World) : (sub64E #[.int .u64 x, .int .u64 y, .int .u64 b]).run P w =
      .ok (.tuple #[.int .u64 (((x + 18446744073709551616 - y - b) % 18446744073709551616 : Nat) : Int), .int .u64 ((if x < y + b then 1 else 0 : Nat) : Int)]) w := by
  have : b = 0 ∨ b = 1 := by omega
  rcases this with rfl | rfl <;> rfl
theorem sub64 (x y c : Nat) (ci : Int) (hci : ci = (c : Int)) (hc : c ≤ 1) (hx : x < 18446744073709551616) (hy : y < 18446744073709551616) {h : Heap} {R : V → Heap → Prop} (hq : ∀ d b : Nat, d < 18446744073709551616 → b ≤ 1 → x + 18446744073709551616 * b = y + c + d → R (.tup [.int .u64 (d : Int), .int .u64 (b : Int)]) h) : VCall Tryd.prog G 110 [.int .u64 (x : Int), .int .u64 (y : Int), .int .u64 ci] h R := by
  subst hci
  refine vcall_plain (vcall_value (v := .tup [u ((x + 18446744073709551616 - y - c) % 18446744073709551616), u (if x < y + c then 1 else 0)]) [.int .u64 x, .int .u64 y, .int .u64 c] (.tuple #[.int .u64 ((x + 18446744073709551616 - y - c) % 18446744073709551616 : Nat), .int .u64 ((if x < y + c then 1 else 0 : Nat) : Int)]) (by simp only [concs, conc, Option.bind_some, Option.map_some]) (by simp only [u, concs, conc, Option.bind_some, Option.map_some]) fun w => ?_) (fun g => by simp only [rens, ren]) (fun v g hv => ?_) fun v hv => ?_
  · rw [run_callFunc_extern Tryd.func110 (by kernel_rfl) (by kernel_rfl) (by kernel_rfl) (e := sub64E) (by kernel_rfl)]
    rw [show (([.int .u64 x, .int .u64 y, .int .u64 c] : List Value).toArray) = #[.int .u64 (x : Int), .int .u64 (y : Int), .int .u64 (c : Int)] from rfl, sub64E_run _ x y c hc]
    rfl
  · subst hv; simp only [u, rens, ren]
  · subst hv
    refine hq _ _ (Nat.mod_lt _ (by decide)) (by split <;> omega) ?_
    split <;> omega
theorem lw_of {d0 d1 d2 d3 : Nat} (h0 : d0 < 18446744073709551616) (h1 : d1 < 18446744073709551616) (h2 : d2 < 18446744073709551616) (h3 : d3 < 18446744073709551616) :
    lw (d0 + 18446744073709551616 * d1 + 340282366920938463463374607431768211456 * d2 + 6277101735386680763835789423207666416102355444464034512896 * d3) = .agg [.int .u64 (d0 : Int), .int .u64 (d1 : Int), .int .u64 (d2 : Int), .int .u64 (d3 : Int)] := by
  have e0 : (d0 + 18446744073709551616 * d1 + 340282366920938463463374607431768211456 * d2 + 6277101735386680763835789423207666416102355444464034512896 * d3) % 18446744073709551616 = d0 := by omega
  have e1 : (d0 + 18446744073709551616 * d1 + 340282366920938463463374607431768211456 * d2 + 6277101735386680763835789423207666416102355444464034512896 * d3) / 18446744073709551616 % 18446744073709551616 = d1 := by omega
  have e2 : (d0 + 18446744073709551616 * d1 + 340282366920938463463374607431768211456 * d2 + 6277101735386680763835789423207666416102355444464034512896 * d3) / 340282366920938463463374607431768211456 % 18446744073709551616 = d2 := by omega
  have e3 : (d0 + 18446744073709551616 * d1 + 340282366920938463463374607431768211456 * d2 + 6277101735386680763835789423207666416102355444464034512896 * d3) / 6277101735386680763835789423207666416102355444464034512896 % 18446744073709551616 = d3 := by omega
  unfold lw lc u
  rw [e0, e1, e2, e3]
theorem limbs (A : Nat) : ∃ a0 a1 a2 a3 : Nat, a0 < 18446744073709551616 ∧ a1 < 18446744073709551616 ∧ a2 < 18446744073709551616 ∧ a3 < 18446744073709551616 ∧ lw A = .agg [.int .u64 (a0 : Int), .int .u64 (a1 : Int), .int .u64 (a2 : Int), .int .u64 (a3 : Int)] ∧
    (A < 115792089237316195423570985008687907853269984665640564039457584007913129639936 → A = a0 + 18446744073709551616 * a1 + 340282366920938463463374607431768211456 * a2 + 6277101735386680763835789423207666416102355444464034512896 * a3) := by
  refine ⟨_, _, _, _, Nat.mod_lt _ (by decide), Nat.mod_lt _ (by decide), Nat.mod_lt _ (by decide), Nat.mod_lt _ (by decide), rfl, fun h => ?_⟩
  omega
set_option maxHeartbeats 4000000
theorem minus (A B : Nat) (hA : A < 115792089237316195423570985008687907853269984665640564039457584007913129639936) (hB : B < 115792089237316195423570985008687907853269984665640564039457584007913129639936) (Q : V → Heap → Prop)
    (hQ : ∀ D b : Nat, D < 115792089237316195423570985008687907853269984665640564039457584007913129639936 → b ≤ 1 → A + 115792089237316195423570985008687907853269984665640564039457584007913129639936 * b = B + D → Q (.tup [lw D, u b]) []) : VCall Tryd.prog G 91 [lw A, lw B] [] Q := by
  refine vcall_body Tryd.func91 nm91 code91 nt91 ?_
  obtain ⟨a0, a1, a2, a3, ha0, ha1, ha2, ha3, ea, eA⟩ := limbs A
  obtain ⟨b0, b1, b2, b3, hb0, hb1, hb2, hb3, eb, eB⟩ := limbs B
  rw [ea, eb]
  refine run_drive 40 ?_
  simp only [go_sem, Nat.reduceAdd, Nat.reduceSub, Nat.reduceLeDiff, Nat.reduceMul, Nat.reduceLT, Nat.reduceEqDiff, Int.reduceLT, Int.reduceLE, Int.reduceAdd, Int.reduceSub, Int.reduceMul, Int.reduceToNat, reduceIte, reduceCtorEq, Nat.reduceBEq, v91, v91_0, v91_1, v91_2, v91_3, v91_10]
  refine run_loop ?_
  refine run_drive 40 ?_
  simp only [go_sem, Nat.reduceAdd, Nat.reduceSub, Nat.reduceLeDiff, Nat.reduceMul, Nat.reduceLT, Nat.reduceEqDiff, Int.reduceLT, Int.reduceLE, Int.reduceAdd, Int.reduceSub, Int.reduceMul, Int.reduceToNat, reduceIte, reduceCtorEq, Nat.reduceBEq, v91_9, v91_4, v91_5, v91_7]
  refine run_drw (by kernel_rfl) ?_
  refine drun_drive 20 (p := (_, _)) ?_
  simp only [go_sem, Nat.reduceAdd, Nat.reduceSub, Nat.reduceLeDiff, Nat.reduceMul, Nat.reduceLT, Nat.reduceEqDiff, Int.reduceLT, Int.reduceLE, Int.reduceAdd, Int.reduceSub, Int.reduceMul, Int.reduceToNat, reduceIte, reduceCtorEq, Nat.reduceBEq, v91_6]
  refine drun_call' ?_
  simp only [go_sem, Nat.reduceAdd, Nat.reduceSub, Nat.reduceLeDiff, Nat.reduceMul, Nat.reduceLT, Nat.reduceEqDiff, Int.reduceLT, Int.reduceLE, Int.reduceAdd, Int.reduceSub, Int.reduceMul, Int.reduceToNat, reduceIte, reduceCtorEq, Nat.reduceBEq, calV]
  refine sub64 _ _ _ _ (by first | exact Int.natCast_zero.symm | rfl) (by first | decide | assumption) (by assumption) (by assumption) ?_
  intro d0 c0 hd0 hc0 he0
  refine drun_drive 20 (p := (_, _)) ?_
  simp only [go_sem, Nat.reduceAdd, Nat.reduceSub, Nat.reduceLeDiff, Nat.reduceMul, Nat.reduceLT, Nat.reduceEqDiff, Int.reduceLT, Int.reduceLE, Int.reduceAdd, Int.reduceSub, Int.reduceMul, Int.reduceToNat, reduceIte, reduceCtorEq, Nat.reduceBEq]
  refine drun_end ?_
  refine run_drive 40 ?_
  simp only [go_sem, Nat.reduceAdd, Nat.reduceSub, Nat.reduceLeDiff, Nat.reduceMul, Nat.reduceLT, Nat.reduceEqDiff, Int.reduceLT, Int.reduceLE, Int.reduceAdd, Int.reduceSub, Int.reduceMul, Int.reduceToNat, reduceIte, reduceCtorEq, Nat.reduceBEq, v91_8]
  refine run_loop ?_
  refine run_drive 40 ?_
  simp only [go_sem, Nat.reduceAdd, Nat.reduceSub, Nat.reduceLeDiff, Nat.reduceMul, Nat.reduceLT, Nat.reduceEqDiff, Int.reduceLT, Int.reduceLE, Int.reduceAdd, Int.reduceSub, Int.reduceMul, Int.reduceToNat, reduceIte, reduceCtorEq, Nat.reduceBEq, v91_9, v91_4, v91_5, v91_7]
  refine run_drw (by kernel_rfl) ?_
  refine drun_drive 20 (p := (_, _)) ?_
  simp only [go_sem, Nat.reduceAdd, Nat.reduceSub, Nat.reduceLeDiff, Nat.reduceMul, Nat.reduceLT, Nat.reduceEqDiff, Int.reduceLT, Int.reduceLE, Int.reduceAdd, Int.reduceSub, Int.reduceMul, Int.reduceToNat, reduceIte, reduceCtorEq, Nat.reduceBEq, v91_6]
  refine drun_call' ?_
  simp only [go_sem, Nat.reduceAdd, Nat.reduceSub, Nat.reduceLeDiff, Nat.reduceMul, Nat.reduceLT, Nat.reduceEqDiff, Int.reduceLT, Int.reduceLE, Int.reduceAdd, Int.reduceSub, Int.reduceMul, Int.reduceToNat, reduceIte, reduceCtorEq, Nat.reduceBEq, calV]
  refine sub64 _ _ _ _ (by first | exact Int.natCast_zero.symm | rfl) (by first | decide | assumption) (by assumption) (by assumption) ?_
  intro d1 c1 hd1 hc1 he1
  refine drun_drive 20 (p := (_, _)) ?_
  simp only [go_sem, Nat.reduceAdd, Nat.reduceSub, Nat.reduceLeDiff, Nat.reduceMul, Nat.reduceLT, Nat.reduceEqDiff, Int.reduceLT, Int.reduceLE, Int.reduceAdd, Int.reduceSub, Int.reduceMul, Int.reduceToNat, reduceIte, reduceCtorEq, Nat.reduceBEq]
  refine drun_end ?_
  refine run_drive 40 ?_
  simp only [go_sem, Nat.reduceAdd, Nat.reduceSub, Nat.reduceLeDiff, Nat.reduceMul, Nat.reduceLT, Nat.reduceEqDiff, Int.reduceLT, Int.reduceLE, Int.reduceAdd, Int.reduceSub, Int.reduceMul, Int.reduceToNat, reduceIte, reduceCtorEq, Nat.reduceBEq, v91_8]
  refine run_loop ?_
  refine run_drive 40 ?_
  simp only [go_sem, Nat.reduceAdd, Nat.reduceSub, Nat.reduceLeDiff, Nat.reduceMul, Nat.reduceLT, Nat.reduceEqDiff, Int.reduceLT, Int.reduceLE, Int.reduceAdd, Int.reduceSub, Int.reduceMul, Int.reduceToNat, reduceIte, reduceCtorEq, Nat.reduceBEq, v91_9, v91_4, v91_5, v91_7]
  refine run_drw (by kernel_rfl) ?_
  refine drun_drive 20 (p := (_, _)) ?_
  simp only [go_sem, Nat.reduceAdd, Nat.reduceSub, Nat.reduceLeDiff, Nat.reduceMul, Nat.reduceLT, Nat.reduceEqDiff, Int.reduceLT, Int.reduceLE, Int.reduceAdd, Int.reduceSub, Int.reduceMul, Int.reduceToNat, reduceIte, reduceCtorEq, Nat.reduceBEq, v91_6]
  refine drun_call' ?_
  simp only [go_sem, Nat.reduceAdd, Nat.reduceSub, Nat.reduceLeDiff, Nat.reduceMul, Nat.reduceLT, Nat.reduceEqDiff, Int.reduceLT, Int.reduceLE, Int.reduceAdd, Int.reduceSub, Int.reduceMul, Int.reduceToNat, reduceIte, reduceCtorEq, Nat.reduceBEq, calV]
  refine sub64 _ _ _ _ (by first | exact Int.natCast_zero.symm | rfl) (by first | decide | assumption) (by assumption) (by assumption) ?_
  intro d2 c2 hd2 hc2 he2
  refine drun_drive 20 (p := (_, _)) ?_
  simp only [go_sem, Nat.reduceAdd, Nat.reduceSub, Nat.reduceLeDiff, Nat.reduceMul, Nat.reduceLT, Nat.reduceEqDiff, Int.reduceLT, Int.reduceLE, Int.reduceAdd, Int.reduceSub, Int.reduceMul, Int.reduceToNat, reduceIte, reduceCtorEq, Nat.reduceBEq]
  refine drun_end ?_
  refine run_drive 40 ?_
  simp only [go_sem, Nat.reduceAdd, Nat.reduceSub, Nat.reduceLeDiff, Nat.reduceMul, Nat.reduceLT, Nat.reduceEqDiff, Int.reduceLT, Int.reduceLE, Int.reduceAdd, Int.reduceSub, Int.reduceMul, Int.reduceToNat, reduceIte, reduceCtorEq, Nat.reduceBEq, v91_8]
  refine run_loop ?_
  refine run_drive 40 ?_
  simp only [go_sem, Nat.reduceAdd, Nat.reduceSub, Nat.reduceLeDiff, Nat.reduceMul, Nat.reduceLT, Nat.reduceEqDiff, Int.reduceLT, Int.reduceLE, Int.reduceAdd, Int.reduceSub, Int.reduceMul, Int.reduceToNat, reduceIte, reduceCtorEq, Nat.reduceBEq, v91_9, v91_4, v91_5, v91_7]
  refine run_drw (by kernel_rfl) ?_
  refine drun_drive 20 (p := (_, _)) ?_
  simp only [go_sem, Nat.reduceAdd, Nat.reduceSub, Nat.reduceLeDiff, Nat.reduceMul, Nat.reduceLT, Nat.reduceEqDiff, Int.reduceLT, Int.reduceLE, Int.reduceAdd, Int.reduceSub, Int.reduceMul, Int.reduceToNat, reduceIte, reduceCtorEq, Nat.reduceBEq, v91_6]
  refine drun_call' ?_
  simp only [go_sem, Nat.reduceAdd, Nat.reduceSub, Nat.reduceLeDiff, Nat.reduceMul, Nat.reduceLT, Nat.reduceEqDiff, Int.reduceLT, Int.reduceLE, Int.reduceAdd, Int.reduceSub, Int.reduceMul, Int.reduceToNat, reduceIte, reduceCtorEq, Nat.reduceBEq, calV]
  refine sub64 _ _ _ _ (by first | exact Int.natCast_zero.symm | rfl) (by first | decide | assumption) (by assumption) (by assumption) ?_
  intro d3 c3 hd3 hc3 he3
  refine drun_drive 20 (p := (_, _)) ?_
  simp only [go_sem, Nat.reduceAdd, Nat.reduceSub, Nat.reduceLeDiff, Nat.reduceMul, Nat.reduceLT, Nat.reduceEqDiff, Int.reduceLT, Int.reduceLE, Int.reduceAdd, Int.reduceSub, Int.reduceMul, Int.reduceToNat, reduceIte, reduceCtorEq, Nat.reduceBEq]
  refine drun_end ?_
  refine run_drive 40 ?_
  simp only [go_sem, Nat.reduceAdd, Nat.reduceSub, Nat.reduceLeDiff, Nat.reduceMul, Nat.reduceLT, Nat.reduceEqDiff, Int.reduceLT, Int.reduceLE, Int.reduceAdd, Int.reduceSub, Int.reduceMul, Int.reduceToNat, reduceIte, reduceCtorEq, Nat.reduceBEq, v91_8]
  refine run_loop ?_
  refine run_drive 40 ?_
  simp only [go_sem, Nat.reduceAdd, Nat.reduceSub, Nat.reduceLeDiff, Nat.reduceMul, Nat.reduceLT, Nat.reduceEqDiff, Int.reduceLT, Int.reduceLE, Int.reduceAdd, Int.reduceSub, Int.reduceMul, Int.reduceToNat, reduceIte, reduceCtorEq, Nat.reduceBEq, v91_9, v91_4, v91_11]
  refine run_ret_drop Tryd.func91 res91 [] (.tup [lw (d0 + 18446744073709551616 * d1 + 340282366920938463463374607431768211456 * d2 + 6277101735386680763835789423207666416102355444464034512896 * d3), u c3]) [] rfl (by simp) trivial (by simp [uniq]) ?_ (hQ _ _ ?_ hc3 ?_)
  · rw [lw_of hd0 hd1 hd2 hd3]
    simp only [go_sem, Nat.reduceAdd, Nat.reduceSub, Nat.reduceLeDiff, Nat.reduceMul, Nat.reduceLT, Nat.reduceEqDiff, Int.reduceLT, Int.reduceLE, Int.reduceAdd, Int.reduceSub, Int.reduceMul, Int.reduceToNat, reduceIte, reduceCtorEq, Nat.reduceBEq, rr91, ren, rens, u]
  · omega
  · rw [eA hA, eB hB]; omega
theorem mul64 (x y : Nat) (hx : x < 18446744073709551616) (hy : y < 18446744073709551616) {Q : V → Heap → Prop} (hQ : ∀ hi lo : Nat, hi < 18446744073709551616 → lo < 18446744073709551616 → x * y = 18446744073709551616 * hi + lo → Q (.tup [.int .u64 (hi : Int), .int .u64 (lo : Int)]) []) : VCall Tryd.prog G 89 [.int .u64 (x : Int), .int .u64 (y : Int)] [] Q := by
  refine vcall_body Tryd.func89 nm89 code89 nt89 ?_
  refine run_drive 100 ?_
  simp only [go_sem, Nat.reduceAdd, Nat.reduceSub, Nat.reduceLeDiff, Nat.reduceMul, Nat.reduceLT, Nat.reduceEqDiff, Int.reduceLT, Int.reduceLE, Int.reduceAdd, Int.reduceSub, Int.reduceMul, Int.reduceToNat, reduceIte, reduceCtorEq, Nat.reduceBEq, v89_0, v89_1, v89_2, v89_3, v89_4, v89_5, v89_6, v89_7, v89_8, v89_9, v89_10, v89_11, v89]
  refine run_ret' Tryd.func89 res89 ?_
  simp only [go_sem, Nat.reduceAdd, Nat.reduceSub, Nat.reduceLeDiff, Nat.reduceMul, Nat.reduceLT, Nat.reduceEqDiff, Int.reduceLT, Int.reduceLE, Int.reduceAdd, Int.reduceSub, Int.reduceMul, Int.reduceToNat, reduceIte, reduceCtorEq, Nat.reduceBEq, rr89]
  exact hQ _ _ (Nat.mod_lt _ (by decide)) (Nat.mod_lt _ (by decide)) (mul64_law x y hx hy)
noncomputable def add64E : Array Value → Sem Value := (Extern.find Tryd.f90).getD fun _ => Pure.pure undef
theorem add64E_run (P : Program) (x y b : Nat) (hb : b ≤ 1) (w : World) : (add64E #[.int .u64 x, .int .u64 y, .int .u64 b]).run P w =
      .ok (.tuple #[.int .u64 (((x + y + b) % 18446744073709551616 : Nat) : Int), .int .u64 (((x + y + b) / 18446744073709551616 : Nat) : Int)]) w := by
  have : b = 0 ∨ b = 1 := by omega
  rcases this with rfl | rfl <;> rfl
theorem add64 (x y c : Nat) (ci : Int) (hci : ci = (c : Int)) (hc : c ≤ 1) (hx : x < 18446744073709551616) (hy : y < 18446744073709551616) {h : Heap} {R : V → Heap → Prop} (hq : ∀ d b : Nat, d < 18446744073709551616 → b ≤ 1 → x + y + c = 18446744073709551616 * b + d → R (.tup [.int .u64 (d : Int), .int .u64 (b : Int)]) h) : VCall Tryd.prog G 90 [.int .u64 (x : Int), .int .u64 (y : Int), .int .u64 ci] h R := by
  subst hci
  refine vcall_plain (vcall_value (v := .tup [u ((x + y + c) % 18446744073709551616), u ((x + y + c) / 18446744073709551616)]) [.int .u64 x, .int .u64 y, .int .u64 c] (.tuple #[.int .u64 ((x + y + c) % 18446744073709551616 : Nat), .int .u64 (((x + y + c) / 18446744073709551616 : Nat) : Int)]) (by simp only [concs, conc, Option.bind_some, Option.map_some]) (by simp only [u, concs, conc, Option.bind_some, Option.map_some]) fun w => ?_) (fun g => by simp only [rens, ren]) (fun v g hv => ?_) fun v hv => ?_
  · rw [run_callFunc_extern Tryd.func90 (by kernel_rfl) (by kernel_rfl) (by kernel_rfl) (e := add64E) (by kernel_rfl)]
    rw [show (([.int .u64 x, .int .u64 y, .int .u64 c] : List Value).toArray) = #[.int .u64 (x : Int), .int .u64 (y : Int), .int .u64 (c : Int)] from rfl, add64E_run _ x y c hc]
    rfl
  · subst hv; simp only [u, rens, ren]
  · subst hv
    exact hq _ _ (Nat.mod_lt _ (by decide)) (by omega) (by omega)
theorem mul64' (x y : Nat) (hx : x < 18446744073709551616) (hy : y < 18446744073709551616) {h : Heap} {R : V → Heap → Prop} (hQ : ∀ hi lo : Nat, hi < 18446744073709551616 → lo < 18446744073709551616 → x * y = 18446744073709551616 * hi + lo → R (.tup [.int .u64 (hi : Int), .int .u64 (lo : Int)]) h) : VCall Tryd.prog G 89 [.int .u64 (x : Int), .int .u64 (y : Int)] h R := by
  refine vcall_plain (Q := fun v => ∃ hi lo : Nat, hi < 18446744073709551616 ∧ lo < 18446744073709551616 ∧ x * y = 18446744073709551616 * hi + lo ∧ v = .tup [.int .u64 (hi : Int), .int .u64 (lo : Int)]) (mul64 x y hx hy fun hi lo h1 h2 h3 => ⟨⟨hi, lo, h1, h2, h3, rfl⟩, rfl⟩) (fun g => by simp only [rens, ren]) ?_ ?_
  · rintro v g ⟨hi, lo, _, _, _, rfl⟩; simp only [rens, ren]
  · rintro v ⟨hi, lo, h1, h2, h3, rfl⟩; exact hQ hi lo h1 h2 h3
theorem into (x y z c : Nat) (hx : x < 18446744073709551616) (hy : y < 18446744073709551616) (hz : z < 18446744073709551616) (hc : c < 18446744073709551616) {Q : V → Heap → Prop} (hQ : ∀ lo hi : Nat, lo < 18446744073709551616 → hi < 18446744073709551616 → x * y + z + c = 18446744073709551616 * hi + lo → Q (.tup [.int .u64 (lo : Int), .int .u64 (hi : Int)]) []) :
    VCall Tryd.prog G 93 [.int .u64 (x : Int), .int .u64 (y : Int), .int .u64 (z : Int), .int .u64 (c : Int)] [] Q := by
  refine vcall_body Tryd.func93 nm93 code93 nt93 ?_
  refine run_drive 100 ?_
  simp only [go_sem, Nat.reduceAdd, Nat.reduceSub, Nat.reduceLeDiff, Nat.reduceMul, Nat.reduceLT, Nat.reduceEqDiff, Int.reduceLT, Int.reduceLE, Int.reduceAdd, Int.reduceSub, Int.reduceMul, Int.reduceToNat, reduceIte, reduceCtorEq, Nat.reduceBEq, v93_0, v93_1, v93_2, v93_3, v93_4, v93_5, v93]
  refine run_call' rfl ?_
  simp only [go_sem, Nat.reduceAdd, Nat.reduceSub, Nat.reduceLeDiff, Nat.reduceMul, Nat.reduceLT, Nat.reduceEqDiff, Int.reduceLT, Int.reduceLE, Int.reduceAdd, Int.reduceSub, Int.reduceMul, Int.reduceToNat, reduceIte, reduceCtorEq, Nat.reduceBEq, calV]
  refine mul64' _ _ hx hy ?_
  intro h1 l1 hh1 hl1 e1
  refine run_drive 100 ?_
  simp only [go_sem, Nat.reduceAdd, Nat.reduceSub, Nat.reduceLeDiff, Nat.reduceMul, Nat.reduceLT, Nat.reduceEqDiff, Int.reduceLT, Int.reduceLE, Int.reduceAdd, Int.reduceSub, Int.reduceMul, Int.reduceToNat, reduceIte, reduceCtorEq, Nat.reduceBEq]
  refine run_call' rfl ?_
  simp only [go_sem, Nat.reduceAdd, Nat.reduceSub, Nat.reduceLeDiff, Nat.reduceMul, Nat.reduceLT, Nat.reduceEqDiff, Int.reduceLT, Int.reduceLE, Int.reduceAdd, Int.reduceSub, Int.reduceMul, Int.reduceToNat, reduceIte, reduceCtorEq, Nat.reduceBEq, calV]
  refine add64 _ _ 0 _ rfl (by decide) hl1 hz ?_
  intro l2 k2 hl2 hk2 e2
  refine run_drive 100 ?_
  simp only [go_sem, Nat.reduceAdd, Nat.reduceSub, Nat.reduceLeDiff, Nat.reduceMul, Nat.reduceLT, Nat.reduceEqDiff, Int.reduceLT, Int.reduceLE, Int.reduceAdd, Int.reduceSub, Int.reduceMul, Int.reduceToNat, reduceIte, reduceCtorEq, Nat.reduceBEq]
  refine run_call' rfl ?_
  simp only [go_sem, Nat.reduceAdd, Nat.reduceSub, Nat.reduceLeDiff, Nat.reduceMul, Nat.reduceLT, Nat.reduceEqDiff, Int.reduceLT, Int.reduceLE, Int.reduceAdd, Int.reduceSub, Int.reduceMul, Int.reduceToNat, reduceIte, reduceCtorEq, Nat.reduceBEq, calV]
  refine add64 _ _ 0 _ rfl (by decide) hl2 hc ?_
  intro l3 k3 hl3 hk3 e3
  refine run_drive 100 ?_
  simp only [go_sem, Nat.reduceAdd, Nat.reduceSub, Nat.reduceLeDiff, Nat.reduceMul, Nat.reduceLT, Nat.reduceEqDiff, Int.reduceLT, Int.reduceLE, Int.reduceAdd, Int.reduceSub, Int.reduceMul, Int.reduceToNat, reduceIte, reduceCtorEq, Nat.reduceBEq]
  refine run_ret' Tryd.func93 res93 ?_
  simp only [go_sem, Nat.reduceAdd, Nat.reduceSub, Nat.reduceLeDiff, Nat.reduceMul, Nat.reduceLT, Nat.reduceEqDiff, Int.reduceLT, Int.reduceLE, Int.reduceAdd, Int.reduceSub, Int.reduceMul, Int.reduceToNat, reduceIte, reduceCtorEq, Nat.reduceBEq, rr93]
  have hb : x * y ≤ 18446744073709551615 * 18446744073709551615 := Nat.mul_le_mul (by omega) (by omega)
  generalize x * y = p at *
  refine hQ _ _ hl3 (Nat.mod_lt _ (by decide)) ?_
  simp only [w64]
  omega
theorem into' (x y z c : Nat) (hx : x < 18446744073709551616) (hy : y < 18446744073709551616) (hz : z < 18446744073709551616) (hc : c < 18446744073709551616) (ci : Int) (hci : ci = (c : Int)) (zi : Int) (hzi : zi = (z : Int)) {h : Heap} {R : V → Heap → Prop} (hQ : ∀ lo hi : Nat, lo < 18446744073709551616 → hi < 18446744073709551616 → x * y + z + c = 18446744073709551616 * hi + lo → R (.tup [.int .u64 (lo : Int), .int .u64 (hi : Int)]) h) :
    VCall Tryd.prog G 93 [.int .u64 (x : Int), .int .u64 (y : Int), .int .u64 zi, .int .u64 ci] h R := by
  subst hci; subst hzi
  refine vcall_plain (Q := fun v => ∃ lo hi : Nat, lo < 18446744073709551616 ∧ hi < 18446744073709551616 ∧ x * y + z + c = 18446744073709551616 * hi + lo ∧ v = .tup [.int .u64 (lo : Int), .int .u64 (hi : Int)]) (into x y z c hx hy hz hc fun lo hi h1 h2 h3 => ⟨⟨lo, hi, h1, h2, h3, rfl⟩, rfl⟩) (fun g => by simp only [rens, ren]) ?_ ?_
  · rintro v g ⟨hi, lo, _, _, _, rfl⟩; simp only [rens, ren]
  · rintro v ⟨hi, lo, h1, h2, h3, rfl⟩; exact hQ hi lo h1 h2 h3
theorem minus' (A B : Nat) (hA : A < 115792089237316195423570985008687907853269984665640564039457584007913129639936) (hB : B < 115792089237316195423570985008687907853269984665640564039457584007913129639936) {h : Heap} {R : V → Heap → Prop}
    (hQ : ∀ D b : Nat, D < 115792089237316195423570985008687907853269984665640564039457584007913129639936 → b ≤ 1 → A + 115792089237316195423570985008687907853269984665640564039457584007913129639936 * b = B + D → R (.tup [lw D, u b]) h) : VCall Tryd.prog G 91 [lw A, lw B] h R := by
  refine vcall_plain (Q := fun v => ∃ D b : Nat, D < 115792089237316195423570985008687907853269984665640564039457584007913129639936 ∧ b ≤ 1 ∧ A + 115792089237316195423570985008687907853269984665640564039457584007913129639936 * b = B + D ∧ v = .tup [lw D, u b]) (minus A B hA hB _ fun D b h1 h2 h3 => ⟨⟨D, b, h1, h2, h3, rfl⟩, rfl⟩) (fun g => by simp only [rens, ren, lw, lc, u]) ?_ ?_
  · rintro v g ⟨hi, lo, _, _, _, rfl⟩; simp only [rens, ren, lw, lc, u]
  · rintro v ⟨hi, lo, h1, h2, h3, rfl⟩; exact hQ hi lo h1 h2 h3
end Go.Vs.Tryd

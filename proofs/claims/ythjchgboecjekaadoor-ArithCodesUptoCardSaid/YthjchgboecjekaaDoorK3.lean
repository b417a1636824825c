/- Text 3 of 6 of this claim: a machine of plain values beside the model, what the functions of the program and of the reference answer over it, and last the row and its card. -/
import Derived.Test.YthjchgboecjekaaDoorK2
import Derived.Test.YthjchgboecjekaaDoorProg
import Derived.KernelRfl
set_option linter.unusedVariables false
set_option linter.unusedSimpArgs false
set_option maxRecDepth 1000000
namespace Go.Vs.Tryd
open Go.Proofs
def v3_0 : List VI := [.op (some 10) none (.p (.mov (.c (.bool false))))]
def v3_1 : List VI := [.op (some 27) none (.p (.mov (.t 0))), .op (some 28) none (.p (.mov (.t 1))), .op (some 29) none (.p (.mov (.t 2))), .op (some 30) none (.p (.mov (.t 3))), .call (some 31) none (.fn 4) [.t 27, .t 28, .t 29, .t 30], .op (some 26) none (.p (.mov (.t 31))), .op (some 32) none (.p (.ext (.t 26) 0)), .op (some 33) none (.p (.ext (.t 26) 1)), .op (some 11) none (.new [.int .u64 (nl 0), .int .u64 (nl 0), .int .u64 (nl 0), .int .u64 (nl 0), .int .u64 (nl 0), .int .u64 (nl 0), .int .u64 (nl 0), .int .u64 (nl 0), .int .u64 (nl 0), .int .u64 (nl 0), .int .u64 (nl 0), .int .u64 (nl 0), .int .u64 (nl 0), .int .u64 (nl 0), .int .u64 (nl 0), .int .u64 (nl 0), .int .u64 (nl 0), .int .u64 (nl 0), .int .u64 (nl 0), .int .u64 (nl 0), .int .u64 (nl 0), .int .u64 (nl 0), .int .u64 (nl 0), .int .u64 (nl 0), .int .u64 (nl 0), .int .u64 (nl 0), .int .u64 (nl 0), .int .u64 (nl 0), .int .u64 (nl 0), .int .u64 (nl 0), .int .u64 (nl 0), .int .u64 (nl 0), .int .u64 (nl 0), .int .u64 (nl 0), .int .u64 (nl 0), .int .u64 (nl 0), .int .u64 (nl 0), .int .u64 (nl 0), .int .u64 (nl 0), .int .u64 (nl 0), .int .u64 (nl 0), .int .u64 (nl 0), .int .u64 (nl 0), .int .u64 (nl 0), .nils, .nils, .int .u64 (nl 0), .int .u64 (nl 0), .int .u64 (nl 0), .int .u64 (nl 0), .int .u64 (nl 0), .int .u64 (nl 0), .int .u64 (nl 0), .int .u64 (nl 0)]), .op (some 12) none (.new [.int .i64 0, .int .i64 0, .int .i64 0, .int .i64 0, .int .i64 0, .int .i64 0, .int .i64 0, .int .i64 0, .int .i64 0, .int .i64 0, .int .i64 0, .int .i64 0, .int .i64 0, .int .i64 0, .int .i64 0, .int .i64 0, .int .i64 0, .int .i64 0, .int .i64 0, .int .i64 0, .int .i64 0, .int .u64 (nl 0), .int .u64 (nl 0), .int .u64 (nl 0), .int .u64 (nl 0), .nils, .int .i64 0, .int .i64 0, .int .i64 0, .int .i64 0, .int .i64 0, .int .i64 0, .int .i64 0, .int .i64 0, .int .i64 0, .int .i64 0, .int .i64 0, .int .i64 0, .int .i64 0, .int .i64 0, .int .i64 0, .int .i64 0, .int .i64 0, .int .i64 0, .int .i64 0, .int .i64 0, .int .i64 0, .int .u64 (nl 0), .int .u64 (nl 0), .int .u64 (nl 0), .int .u64 (nl 0), .nils, .int .i64 0, .int .i64 0, .int .i64 0, .int .i64 0, .int .i64 0, .int .i64 0, .int .i64 0, .int .i64 0, .int .i64 0, .int .i64 0, .int .i64 0, .int .i64 0, .int .i64 0, .int .i64 0, .int .i64 0, .int .i64 0, .int .i64 0, .int .i64 0, .int .i64 0, .int .i64 0, .int .i64 0, .int .u64 (nl 0), .int .u64 (nl 0), .int .u64 (nl 0), .int .u64 (nl 0), .nils, .int .i64 0, .int .i64 0, .int .i64 0, .int .i64 0, .int .i64 0, .int .i64 0, .int .i64 0, .int .i64 0, .int .i64 0, .int .i64 0, .int .i64 0, .int .i64 0, .int .i64 0, .int .i64 0, .int .i64 0, .int .i64 0, .int .i64 0, .int .i64 0, .int .i64 0, .int .i64 0, .int .i64 0, .int .u64 (nl 0), .int .u64 (nl 0), .int .u64 (nl 0), .int .u64 (nl 0), .nils, .int .i64 0, .int .i64 0, .int .i64 0, .int .i64 0, .int .i64 0, .int .i64 0, .int .i64 0, .int .i64 0, .int .i64 0, .int .i64 0, .int .i64 0, .int .i64 0, .int .i64 0, .int .i64 0, .int .i64 0, .int .i64 0, .int .i64 0, .int .i64 0, .int .i64 0, .int .i64 0, .int .i64 0, .int .u64 (nl 0), .int .u64 (nl 0), .int .u64 (nl 0), .int .u64 (nl 0), .nils, .int .i64 0, .int .i64 0, .int .i64 0, .int .i64 0, .int .i64 0, .int .i64 0, .int .i64 0, .int .i64 0, .int .i64 0, .int .i64 0, .int .i64 0, .int .i64 0, .int .i64 0, .int .i64 0, .int .i64 0, .int .i64 0, .int .i64 0, .int .i64 0, .int .i64 0, .int .i64 0, .int .i64 0, .int .u64 (nl 0), .int .u64 (nl 0), .int .u64 (nl 0), .int .u64 (nl 0), .nils, .int .i64 0, .int .i64 0, .int .i64 0, .int .i64 0, .int .i64 0, .int .i64 0, .int .i64 0, .int .i64 0, .int .i64 0, .int .i64 0, .int .i64 0, .int .i64 0, .int .i64 0, .int .i64 0, .int .i64 0, .int .i64 0, .int .i64 0, .int .i64 0, .int .i64 0, .int .i64 0, .int .i64 0, .int .u64 (nl 0), .int .u64 (nl 0), .int .u64 (nl 0), .int .u64 (nl 0), .nils, .int .i64 0, .int .i64 0, .int .i64 0, .int .i64 0, .int .i64 0, .int .i64 0, .int .i64 0, .int .i64 0, .int .i64 0, .int .i64 0, .int .i64 0, .int .i64 0, .int .i64 0, .int .i64 0, .int .i64 0, .int .i64 0, .int .i64 0, .int .i64 0, .int .i64 0, .int .i64 0, .int .i64 0, .int .u64 (nl 0), .int .u64 (nl 0), .int .u64 (nl 0), .int .u64 (nl 0), .nils, .int .u64 (nl 0), .int .u64 (nl 0), .int .u64 (nl 0), .int .u64 (nl 0), .int .u64 (nl 0), .int .u64 (nl 0), .int .u64 (nl 0), .int .u64 (nl 0), .int .u64 (nl 0), .int .u64 (nl 0), .int .u64 (nl 0), .int .u64 (nl 0), .nils, .nils, .int .u64 (nl 0), .int .u64 (nl 0), .int .u64 (nl 0), .int .u64 (nl 0), .int .u64 (nl 0), .int .u64 (nl 0), .int .u64 (nl 0), .int .u64 (nl 0)]), .op none none (.st 54 (.t 11) (.t 32)), .op none none (.st 230 (.t 12) (.t 33))]
def v3_2 : List VI := [.op (some 35) none (.ld true 54 (.t 11)), .call (some 36) none (.fn 5) [.t 35], .op (some 34) none (.p (.mov (.t 36))), .op (some 37) none (.p (.ext (.t 34) 0)), .op (some 38) none (.p (.ext (.t 34) 1)), .op (some 13) none (.p (.mov (.t 37))), .op (some 14) none (.p (.mov (.t 38)))]
def v3_3 : List VI := [.op (some 40) none (.ld true 230 (.t 12)), .call (some 41) none (.fn 6) [.t 40], .op (some 39) none (.p (.mov (.t 41))), .op (some 42) none (.p (.ext (.t 39) 0)), .op (some 43) none (.p (.ext (.t 39) 1)), .op (some 15) none (.p (.mov (.t 42))), .op (some 16) none (.p (.mov (.t 43)))]
def v3_4 : List VI := [.op (some 44) none (.p (.mov (.t 14))), .op (some 45) none (.p (.mov (.t 16))), .op (some 46) none (.p (.eq true .i (.t 44) (.t 45))), .op (some 47) none (.p (.mov (.t 46))), .op (some 48) (some (47, false)) (.p (.mov (.t 13))), .op (some 49) (some (47, false)) (.cvs (.t 48)), .op (some 50) (some (47, false)) (.p (.mov (.t 15))), .op (some 51) (some (47, false)) (.cvs (.t 50)), .op (some 52) (some (47, false)) (.p (.eq true .s (.t 49) (.t 51))), .op (some 53) none (.p (.pick (.t 47) (.c (.bool true)) (.t 52)))]
def v3_5 : List VI := [.op (some 10) none (.p (.mov (.c (.bool false))))]
def v3_6 : List VI := [.op (some 54) none (.p (.mov (.t 16))), .op (some 55) none (.p (.eq false .i (.t 54) (.c (.int .i64 0))))]
def v3_7 : List VI := [.op (some 57) none (.p (.mov (.t 13))), .call (some 58) none (.fn 7) [.t 57], .op (some 56) none (.p (.mov (.t 58))), .op (some 59) none (.p (.ext (.t 56) 0)), .op (some 60) none (.p (.ext (.t 56) 1)), .op (some 17) none (.new [.int .u64 (nl 0), .int .u64 (nl 0), .int .u64 (nl 0), .int .u64 (nl 0), .int .u64 (nl 0), .int .u64 (nl 0), .int .u64 (nl 0), .int .u64 (nl 0), .int .u64 (nl 0), .int .u64 (nl 0), .int .u64 (nl 0), .int .u64 (nl 0), .int .u64 (nl 0), .int .u64 (nl 0), .int .u64 (nl 0), .int .u64 (nl 0), .int .u64 (nl 0), .int .u64 (nl 0), .int .u64 (nl 0), .int .u64 (nl 0), .int .u64 (nl 0), .int .u64 (nl 0), .int .u64 (nl 0), .int .u64 (nl 0), .int .u64 (nl 0), .int .u64 (nl 0), .int .u64 (nl 0), .int .u64 (nl 0), .int .u64 (nl 0), .int .u64 (nl 0), .int .u64 (nl 0), .int .u64 (nl 0), .int .u64 (nl 0), .int .u64 (nl 0), .int .u64 (nl 0), .int .u64 (nl 0), .int .u64 (nl 0), .int .u64 (nl 0), .int .u64 (nl 0), .int .u64 (nl 0), .int .u64 (nl 0), .int .u64 (nl 0), .int .u64 (nl 0), .int .u64 (nl 0), .nils, .nils, .int .u64 (nl 0), .int .u64 (nl 0), .int .u64 (nl 0), .int .u64 (nl 0), .int .u64 (nl 0), .int .u64 (nl 0), .int .u64 (nl 0), .int .u64 (nl 0)]), .op none none (.st 54 (.t 17) (.t 59)), .op (some 18) none (.p (.mov (.t 60)))]
def v3_8 : List VI := [.op (some 61) none (.p (.mov (.t 18))), .op (some 62) none (.p (.eq true .i (.t 61) (.c (.int .i64 0)))), .op (some 63) none (.p (.mov (.t 62))), .op (some 64) (some (63, false)) (.ld true 54 (.t 17)), .op (some 65) (some (63, false)) (.ld true 230 (.t 12)), .call (some 66) (some (63, false)) (.fn 8) [.t 64, .t 65], .op (some 67) (some (63, false)) (.p (.un .not (.t 66))), .op (some 68) none (.p (.pick (.t 63) (.c (.bool true)) (.t 67)))]
def v3_9 : List VI := [.op (some 10) none (.p (.mov (.c (.bool false))))]
def v3_10 : List VI := [.op (some 69) none (.bsl 0 [] []), .op (some 70) none (.p (.mov (.t 4))), .op (some 71) none (.app 1 1 false (.t 69) (.t 70)), .op (some 72) none (.bsl 2 [.int .u8 (nl 0), .int .u8 (nl 0)] [(0, 1, .c (.int .u8 (nl 201))), (1, 1, .c (.int .u8 (nl 202)))]), .op (some 73) none (.app 1 1 false (.t 71) (.t 72)), .op (some 19) none (.p (.mov (.t 73)))]
def v3_11 : List VI := [.op (some 75) none (.p (.mov (.t 19))), .op (some 76) none (.p (.mov (.t 4))), .op (some 77) none (.p (.len false (.t 76))), .op (some 78) none (.slx 1 (.t 75) none (some (.t 77)) none), .call (some 79) none (.fn 7) [.t 78], .op (some 74) none (.p (.mov (.t 79))), .op (some 80) none (.p (.ext (.t 74) 0)), .op (some 81) none (.p (.ext (.t 74) 1)), .op (some 20) none (.new [.int .u64 (nl 0), .int .u64 (nl 0), .int .u64 (nl 0), .int .u64 (nl 0), .int .u64 (nl 0), .int .u64 (nl 0), .int .u64 (nl 0), .int .u64 (nl 0), .int .u64 (nl 0), .int .u64 (nl 0), .int .u64 (nl 0), .int .u64 (nl 0), .int .u64 (nl 0), .int .u64 (nl 0), .int .u64 (nl 0), .int .u64 (nl 0), .int .u64 (nl 0), .int .u64 (nl 0), .int .u64 (nl 0), .int .u64 (nl 0), .int .u64 (nl 0), .int .u64 (nl 0), .int .u64 (nl 0), .int .u64 (nl 0), .int .u64 (nl 0), .int .u64 (nl 0), .int .u64 (nl 0), .int .u64 (nl 0), .int .u64 (nl 0), .int .u64 (nl 0), .int .u64 (nl 0), .int .u64 (nl 0), .int .u64 (nl 0), .int .u64 (nl 0), .int .u64 (nl 0), .int .u64 (nl 0), .int .u64 (nl 0), .int .u64 (nl 0), .int .u64 (nl 0), .int .u64 (nl 0), .int .u64 (nl 0), .int .u64 (nl 0), .int .u64 (nl 0), .int .u64 (nl 0), .nils, .nils, .int .u64 (nl 0), .int .u64 (nl 0), .int .u64 (nl 0), .int .u64 (nl 0), .int .u64 (nl 0), .int .u64 (nl 0), .int .u64 (nl 0), .int .u64 (nl 0)]), .op none none (.st 54 (.t 20) (.t 80)), .op (some 21) none (.p (.mov (.t 81)))]
def v3_12 : List VI := [.op (some 83) none (.p (.mov (.t 4))), .call (some 84) none (.fn 9) [.c (.int .i64 2), .t 83], .op (some 82) none (.p (.mov (.t 84))), .op (some 85) none (.p (.ext (.t 82) 0)), .op (some 86) none (.p (.ext (.t 82) 1)), .op (some 22) none (.new [.int .i64 0, .int .i64 0, .int .i64 0, .int .i64 0, .int .i64 0, .int .i64 0, .int .i64 0, .int .i64 0, .int .i64 0, .int .i64 0, .int .i64 0, .int .i64 0, .int .i64 0, .int .i64 0, .int .i64 0, .int .i64 0, .int .i64 0, .int .i64 0, .int .i64 0, .int .i64 0, .int .i64 0, .int .u64 (nl 0), .int .u64 (nl 0), .int .u64 (nl 0), .int .u64 (nl 0), .nils, .int .i64 0, .int .i64 0, .int .i64 0, .int .i64 0, .int .i64 0, .int .i64 0, .int .i64 0, .int .i64 0, .int .i64 0, .int .i64 0, .int .i64 0, .int .i64 0, .int .i64 0, .int .i64 0, .int .i64 0, .int .i64 0, .int .i64 0, .int .i64 0, .int .i64 0, .int .i64 0, .int .i64 0, .int .u64 (nl 0), .int .u64 (nl 0), .int .u64 (nl 0), .int .u64 (nl 0), .nils, .int .i64 0, .int .i64 0, .int .i64 0, .int .i64 0, .int .i64 0, .int .i64 0, .int .i64 0, .int .i64 0, .int .i64 0, .int .i64 0, .int .i64 0, .int .i64 0, .int .i64 0, .int .i64 0, .int .i64 0, .int .i64 0, .int .i64 0, .int .i64 0, .int .i64 0, .int .i64 0, .int .i64 0, .int .u64 (nl 0), .int .u64 (nl 0), .int .u64 (nl 0), .int .u64 (nl 0), .nils, .int .i64 0, .int .i64 0, .int .i64 0, .int .i64 0, .int .i64 0, .int .i64 0, .int .i64 0, .int .i64 0, .int .i64 0, .int .i64 0, .int .i64 0, .int .i64 0, .int .i64 0, .int .i64 0, .int .i64 0, .int .i64 0, .int .i64 0, .int .i64 0, .int .i64 0, .int .i64 0, .int .i64 0, .int .u64 (nl 0), .int .u64 (nl 0), .int .u64 (nl 0), .int .u64 (nl 0), .nils, .int .i64 0, .int .i64 0, .int .i64 0, .int .i64 0, .int .i64 0, .int .i64 0, .int .i64 0, .int .i64 0, .int .i64 0, .int .i64 0, .int .i64 0, .int .i64 0, .int .i64 0, .int .i64 0, .int .i64 0, .int .i64 0, .int .i64 0, .int .i64 0, .int .i64 0, .int .i64 0, .int .i64 0, .int .u64 (nl 0), .int .u64 (nl 0), .int .u64 (nl 0), .int .u64 (nl 0), .nils, .int .i64 0, .int .i64 0, .int .i64 0, .int .i64 0, .int .i64 0, .int .i64 0, .int .i64 0, .int .i64 0, .int .i64 0, .int .i64 0, .int .i64 0, .int .i64 0, .int .i64 0, .int .i64 0, .int .i64 0, .int .i64 0, .int .i64 0, .int .i64 0, .int .i64 0, .int .i64 0, .int .i64 0, .int .u64 (nl 0), .int .u64 (nl 0), .int .u64 (nl 0), .int .u64 (nl 0), .nils, .int .i64 0, .int .i64 0, .int .i64 0, .int .i64 0, .int .i64 0, .int .i64 0, .int .i64 0, .int .i64 0, .int .i64 0, .int .i64 0, .int .i64 0, .int .i64 0, .int .i64 0, .int .i64 0, .int .i64 0, .int .i64 0, .int .i64 0, .int .i64 0, .int .i64 0, .int .i64 0, .int .i64 0, .int .u64 (nl 0), .int .u64 (nl 0), .int .u64 (nl 0), .int .u64 (nl 0), .nils, .int .i64 0, .int .i64 0, .int .i64 0, .int .i64 0, .int .i64 0, .int .i64 0, .int .i64 0, .int .i64 0, .int .i64 0, .int .i64 0, .int .i64 0, .int .i64 0, .int .i64 0, .int .i64 0, .int .i64 0, .int .i64 0, .int .i64 0, .int .i64 0, .int .i64 0, .int .i64 0, .int .i64 0, .int .u64 (nl 0), .int .u64 (nl 0), .int .u64 (nl 0), .int .u64 (nl 0), .nils, .int .u64 (nl 0), .int .u64 (nl 0), .int .u64 (nl 0), .int .u64 (nl 0), .int .u64 (nl 0), .int .u64 (nl 0), .int .u64 (nl 0), .int .u64 (nl 0), .int .u64 (nl 0), .int .u64 (nl 0), .int .u64 (nl 0), .int .u64 (nl 0), .nils, .nils, .int .u64 (nl 0), .int .u64 (nl 0), .int .u64 (nl 0), .int .u64 (nl 0), .int .u64 (nl 0), .int .u64 (nl 0), .int .u64 (nl 0), .int .u64 (nl 0)]), .op none none (.st 230 (.t 22) (.t 85)), .op (some 23) none (.p (.mov (.t 86)))]
def v3_13 : List DS := [.mk 0 true (.op (some 87) none (.p (.mov (.t 21)))) [] [], .mk 1 true (.op (some 88) none (.p (.mov (.t 23)))) [] [], .mk 2 true (.op (some 89) none (.p (.eq true .i (.t 87) (.t 88)))) [] [], .mk 3 true (.op (some 90) none (.p (.mov (.t 89)))) [] [], .mk 4 true (.op (some 91) (some (90, false)) (.ld true 54 (.t 20))) [] [], .mk 5 true (.op (some 92) (some (90, false)) (.ld true 230 (.t 22))) [] [], .mk 6 false (.call (some 93) (some (90, false)) (.fn 8) [.t 91, .t 92]) [] [], .mk 7 true (.op (some 94) (some (90, false)) (.p (.un .not (.t 93)))) [] [], .mk 8 true (.op (some 95) none (.p (.pick (.t 90) (.c (.bool true)) (.t 94)))) [] [], .mk 9 true (.op (some 96) none (.p (.mov (.t 95)))) [] [], .mk 10 true (.op (some 97) (some (96, false)) (.p (.mov (.t 19)))) [] [], .mk 11 true (.op (some 98) (some (96, false)) (.p (.mov (.t 4)))) [] [], .mk 12 true (.op (some 99) (some (96, false)) (.p (.len false (.t 98)))) [] [], .mk 13 true (.op (some 100) (some (96, false)) (.slx 1 (.t 97) none (some (.t 99)) none)) [] [], .mk 14 true (.op (some 101) (some (96, false)) (.cvs (.t 100))) [] [], .mk 15 true (.op (some 102) (some (96, false)) (.p (.mov (.t 4)))) [] [], .mk 16 true (.op (some 103) (some (96, false)) (.cvs (.t 102))) [] [], .mk 17 true (.op (some 104) (some (96, false)) (.p (.eq true .s (.t 101) (.t 103)))) [] [], .mk 18 true (.op (some 105) none (.p (.pick (.t 96) (.c (.bool true)) (.t 104)))) [] [], .mk 19 true (.op (some 106) none (.p (.mov (.t 105)))) [] [], .mk 20 true (.op (some 107) (some (106, false)) (.p (.mov (.t 19)))) [] [], .mk 21 true (.op (some 108) (some (106, false)) (.p (.mov (.t 4)))) [] [], .mk 22 true (.op (some 109) (some (106, false)) (.p (.len false (.t 108)))) [] [], .mk 23 true (.op (some 110) (some (106, false)) (.p (.ixs 1 (.t 107) (.t 109)))) [] [], .mk 24 true (.op (some 111) (some (106, false)) (.ld false 1 (.t 110))) [] [], .mk 25 true (.op (some 112) (some (106, false)) (.p (.eq true .i (.t 111) (.c (.int .u8 (nl 201)))))) [] [], .mk 26 true (.op (some 113) none (.p (.pick (.t 106) (.c (.bool true)) (.t 112)))) [] []]
def v3_14 : List VI := [.op (some 10) none (.p (.mov (.c (.bool false))))]
def v3_15 : List VI := [.op (some 114) none (.p (.mov (.t 23))), .op (some 115) none (.p (.eq true .i (.t 114) (.c (.int .i64 0))))]
def v3_16 : List VI := [.op (some 10) none (.p (.mov (.c (.bool true))))]
def v3_17 : List VI := [.op (some 117) none (.ld true 54 (.t 20)), .call (some 118) none (.fn 5) [.t 117], .op (some 116) none (.p (.mov (.t 118))), .op (some 119) none (.p (.ext (.t 116) 0)), .op (some 120) none (.p (.ext (.t 116) 1)), .op (some 24) none (.p (.mov (.t 119))), .op (some 25) none (.p (.mov (.t 120)))]
def v3_18 : List VI := [.op (some 121) none (.p (.mov (.t 25))), .op (some 122) none (.p (.eq false .i (.t 121) (.c (.int .i64 0)))), .op (some 123) none (.p (.mov (.t 122))), .op (some 124) (some (123, true)) (.p (.mov (.t 24))), .op (some 125) (some (123, true)) (.cvs (.t 124)), .op (some 126) (some (123, true)) (.p (.mov (.t 4))), .op (some 127) (some (123, true)) (.cvs (.t 126)), .op (some 128) (some (123, true)) (.p (.eq false .s (.t 125) (.t 127))), .op (some 129) none (.p (.pick (.t 123) (.t 128) (.c (.bool false)))), .op (some 10) none (.p (.mov (.t 129)))]
def v3 : VC := .seq (.reg v3_0) (.seq (.reg v3_1) (.seq (.reg v3_2) (.seq (.reg v3_3) (.seq (.seq (.reg v3_4) (.cond (.t 53) (.seq (.reg v3_5) .ret) .skip)) (.seq (.seq (.reg v3_6) (.cond (.t 55) (.seq (.reg v3_7) (.seq (.reg v3_8) (.cond (.t 68) (.seq (.reg v3_9) .ret) .skip))) .skip)) (.seq (.reg v3_10) (.seq (.reg v3_11) (.seq (.reg v3_12) (.seq (.seq (.drw v3_13) (.cond (.t 113) (.seq (.reg v3_14) .ret) .skip)) (.seq (.seq (.reg v3_15) (.cond (.t 115) (.seq (.reg v3_16) .ret) .skip)) (.seq (.reg v3_17) (.seq (.reg v3_18) .ret))))))))))))
def rr3 : List RV := [.t 10]
theorem code3 : (Tryd.f3.body).bind (cCode Tryd.prog) = some v3 := by kernel_rfl
theorem res3 : cRVs Tryd.prog (Tryd.f3.results.toList) = some rr3 := by kernel_rfl
theorem nt3 : Tryd.f3.ntmps = 130 := by kernel_rfl
theorem nm3 : (Tryd.f3.name == "runtime.NumGoroutine") = false := by kernel_rfl
def v4_0 : List VI := [.op (some 8) none (.new [.int .u64 (nl 0), .int .u64 (nl 0), .int .u64 (nl 0), .int .u64 (nl 0), .int .u64 (nl 0), .int .u64 (nl 0), .int .u64 (nl 0), .int .u64 (nl 0), .int .u64 (nl 0), .int .u64 (nl 0), .int .u64 (nl 0), .int .u64 (nl 0), .int .u64 (nl 0), .int .u64 (nl 0), .int .u64 (nl 0), .int .u64 (nl 0), .int .u64 (nl 0), .int .u64 (nl 0), .int .u64 (nl 0), .int .u64 (nl 0), .int .u64 (nl 0), .int .u64 (nl 0), .int .u64 (nl 0), .int .u64 (nl 0), .int .u64 (nl 0), .int .u64 (nl 0), .int .u64 (nl 0), .int .u64 (nl 0), .int .u64 (nl 0), .int .u64 (nl 0), .int .u64 (nl 0), .int .u64 (nl 0), .int .u64 (nl 0), .int .u64 (nl 0), .int .u64 (nl 0), .int .u64 (nl 0), .int .u64 (nl 0), .int .u64 (nl 0), .int .u64 (nl 0), .int .u64 (nl 0), .int .u64 (nl 0), .int .u64 (nl 0), .int .u64 (nl 0), .int .u64 (nl 0), .nils, .nils, .int .u64 (nl 0), .int .u64 (nl 0), .int .u64 (nl 0), .int .u64 (nl 0), .int .u64 (nl 0), .int .u64 (nl 0), .int .u64 (nl 0), .int .u64 (nl 0)]), .op (some 9) none (.new [.int .i64 0, .int .i64 0, .int .i64 0, .int .i64 0, .int .i64 0, .int .i64 0, .int .i64 0, .int .i64 0, .int .i64 0, .int .i64 0, .int .i64 0, .int .i64 0, .int .i64 0, .int .i64 0, .int .i64 0, .int .i64 0, .int .i64 0, .int .i64 0, .int .i64 0, .int .i64 0, .int .i64 0, .int .u64 (nl 0), .int .u64 (nl 0), .int .u64 (nl 0), .int .u64 (nl 0), .nils, .int .i64 0, .int .i64 0, .int .i64 0, .int .i64 0, .int .i64 0, .int .i64 0, .int .i64 0, .int .i64 0, .int .i64 0, .int .i64 0, .int .i64 0, .int .i64 0, .int .i64 0, .int .i64 0, .int .i64 0, .int .i64 0, .int .i64 0, .int .i64 0, .int .i64 0, .int .i64 0, .int .i64 0, .int .u64 (nl 0), .int .u64 (nl 0), .int .u64 (nl 0), .int .u64 (nl 0), .nils, .int .i64 0, .int .i64 0, .int .i64 0, .int .i64 0, .int .i64 0, .int .i64 0, .int .i64 0, .int .i64 0, .int .i64 0, .int .i64 0, .int .i64 0, .int .i64 0, .int .i64 0, .int .i64 0, .int .i64 0, .int .i64 0, .int .i64 0, .int .i64 0, .int .i64 0, .int .i64 0, .int .i64 0, .int .u64 (nl 0), .int .u64 (nl 0), .int .u64 (nl 0), .int .u64 (nl 0), .nils, .int .i64 0, .int .i64 0, .int .i64 0, .int .i64 0, .int .i64 0, .int .i64 0, .int .i64 0, .int .i64 0, .int .i64 0, .int .i64 0, .int .i64 0, .int .i64 0, .int .i64 0, .int .i64 0, .int .i64 0, .int .i64 0, .int .i64 0, .int .i64 0, .int .i64 0, .int .i64 0, .int .i64 0, .int .u64 (nl 0), .int .u64 (nl 0), .int .u64 (nl 0), .int .u64 (nl 0), .nils, .int .i64 0, .int .i64 0, .int .i64 0, .int .i64 0, .int .i64 0, .int .i64 0, .int .i64 0, .int .i64 0, .int .i64 0, .int .i64 0, .int .i64 0, .int .i64 0, .int .i64 0, .int .i64 0, .int .i64 0, .int .i64 0, .int .i64 0, .int .i64 0, .int .i64 0, .int .i64 0, .int .i64 0, .int .u64 (nl 0), .int .u64 (nl 0), .int .u64 (nl 0), .int .u64 (nl 0), .nils, .int .i64 0, .int .i64 0, .int .i64 0, .int .i64 0, .int .i64 0, .int .i64 0, .int .i64 0, .int .i64 0, .int .i64 0, .int .i64 0, .int .i64 0, .int .i64 0, .int .i64 0, .int .i64 0, .int .i64 0, .int .i64 0, .int .i64 0, .int .i64 0, .int .i64 0, .int .i64 0, .int .i64 0, .int .u64 (nl 0), .int .u64 (nl 0), .int .u64 (nl 0), .int .u64 (nl 0), .nils, .int .i64 0, .int .i64 0, .int .i64 0, .int .i64 0, .int .i64 0, .int .i64 0, .int .i64 0, .int .i64 0, .int .i64 0, .int .i64 0, .int .i64 0, .int .i64 0, .int .i64 0, .int .i64 0, .int .i64 0, .int .i64 0, .int .i64 0, .int .i64 0, .int .i64 0, .int .i64 0, .int .i64 0, .int .u64 (nl 0), .int .u64 (nl 0), .int .u64 (nl 0), .int .u64 (nl 0), .nils, .int .i64 0, .int .i64 0, .int .i64 0, .int .i64 0, .int .i64 0, .int .i64 0, .int .i64 0, .int .i64 0, .int .i64 0, .int .i64 0, .int .i64 0, .int .i64 0, .int .i64 0, .int .i64 0, .int .i64 0, .int .i64 0, .int .i64 0, .int .i64 0, .int .i64 0, .int .i64 0, .int .i64 0, .int .u64 (nl 0), .int .u64 (nl 0), .int .u64 (nl 0), .int .u64 (nl 0), .nils, .int .u64 (nl 0), .int .u64 (nl 0), .int .u64 (nl 0), .int .u64 (nl 0), .int .u64 (nl 0), .int .u64 (nl 0), .int .u64 (nl 0), .int .u64 (nl 0), .int .u64 (nl 0), .int .u64 (nl 0), .int .u64 (nl 0), .int .u64 (nl 0), .nils, .nils, .int .u64 (nl 0), .int .u64 (nl 0), .int .u64 (nl 0), .int .u64 (nl 0), .int .u64 (nl 0), .int .u64 (nl 0), .int .u64 (nl 0), .int .u64 (nl 0)])]
def v4_1 : List VI := [.op (some 16) none (.p (.mov (.t 0))), .call (some 17) none (.fn 10) [.t 16, .c (.int .i64 0)], .op (some 18) none (.p (.mov (.t 0))), .call (some 19) none (.fn 10) [.t 18, .c (.int .i64 1)], .op (some 20) none (.p (.mov (.t 0))), .call (some 21) none (.fn 10) [.t 20, .c (.int .i64 2)], .op (some 22) none (.p (.mov (.t 0))), .call (some 23) none (.fn 10) [.t 22, .c (.int .i64 3)], .op (some 24) none (.p (.mov (.t 0))), .call (some 25) none (.fn 10) [.t 24, .c (.int .i64 4)], .op (some 26) none (.p (.mov (.t 0))), .call (some 27) none (.fn 10) [.t 26, .c (.int .i64 5)], .op (some 28) none (.p (.mov (.t 0))), .call (some 29) none (.fn 10) [.t 28, .c (.int .i64 6)], .op (some 30) none (.p (.mov (.t 0))), .call (some 31) none (.fn 10) [.t 30, .c (.int .i64 7)], .op (some 32) none (.p (.mov (.t 1))), .call (some 33) none (.fn 11) [.t 32, .c (.int .i64 0)], .op (some 34) none (.p (.mov (.t 1))), .call (some 35) none (.fn 11) [.t 34, .c (.int .i64 1)], .op (some 36) none (.p (.mov (.t 1))), .call (some 37) none (.fn 11) [.t 36, .c (.int .i64 2)], .op (some 38) none (.p (.mov (.t 1))), .call (some 39) none (.fn 11) [.t 38, .c (.int .i64 3)], .op (some 40) none (.p (.mov (.t 1))), .call (some 41) none (.fn 11) [.t 40, .c (.int .i64 4)], .op (some 42) none (.p (.bld [.int .u64 (nl 0), .int .u64 (nl 0), .int .u64 (nl 0), .int .u64 (nl 0), .int .u64 (nl 0), .int .u64 (nl 0), .int .u64 (nl 0), .int .u64 (nl 0), .int .u64 (nl 0), .int .u64 (nl 0), .int .u64 (nl 0), .int .u64 (nl 0), .int .u64 (nl 0), .int .u64 (nl 0), .int .u64 (nl 0), .int .u64 (nl 0), .int .u64 (nl 0), .int .u64 (nl 0), .int .u64 (nl 0), .int .u64 (nl 0), .int .u64 (nl 0), .int .u64 (nl 0), .int .u64 (nl 0), .int .u64 (nl 0), .int .u64 (nl 0), .int .u64 (nl 0), .int .u64 (nl 0), .int .u64 (nl 0), .int .u64 (nl 0), .int .u64 (nl 0), .int .u64 (nl 0), .int .u64 (nl 0), .int .u64 (nl 0), .int .u64 (nl 0), .int .u64 (nl 0), .int .u64 (nl 0), .int .u64 (nl 0), .int .u64 (nl 0), .int .u64 (nl 0), .int .u64 (nl 0), .int .u64 (nl 0), .int .u64 (nl 0), .int .u64 (nl 0), .int .u64 (nl 0), .nils, .nils, .int .u64 (nl 0), .int .u64 (nl 0), .int .u64 (nl 0), .int .u64 (nl 0), .int .u64 (nl 0), .int .u64 (nl 0), .int .u64 (nl 0), .int .u64 (nl 0)] [(0, 4, .t 17), (4, 4, .t 19), (8, 4, .t 21), (12, 4, .t 23), (16, 4, .t 25), (20, 4, .t 27), (24, 4, .t 29), (28, 4, .t 31), (32, 4, .t 33), (36, 4, .t 35), (40, 4, .t 37), (46, 4, .t 39), (50, 4, .t 41)])), .op (some 10) none (.new [.int .u64 (nl 0), .int .u64 (nl 0), .int .u64 (nl 0), .int .u64 (nl 0), .int .u64 (nl 0), .int .u64 (nl 0), .int .u64 (nl 0), .int .u64 (nl 0), .int .u64 (nl 0), .int .u64 (nl 0), .int .u64 (nl 0), .int .u64 (nl 0), .int .u64 (nl 0), .int .u64 (nl 0), .int .u64 (nl 0), .int .u64 (nl 0), .int .u64 (nl 0), .int .u64 (nl 0), .int .u64 (nl 0), .int .u64 (nl 0), .int .u64 (nl 0), .int .u64 (nl 0), .int .u64 (nl 0), .int .u64 (nl 0), .int .u64 (nl 0), .int .u64 (nl 0), .int .u64 (nl 0), .int .u64 (nl 0), .int .u64 (nl 0), .int .u64 (nl 0), .int .u64 (nl 0), .int .u64 (nl 0), .int .u64 (nl 0), .int .u64 (nl 0), .int .u64 (nl 0), .int .u64 (nl 0), .int .u64 (nl 0), .int .u64 (nl 0), .int .u64 (nl 0), .int .u64 (nl 0), .int .u64 (nl 0), .int .u64 (nl 0), .int .u64 (nl 0), .int .u64 (nl 0), .nils, .nils, .int .u64 (nl 0), .int .u64 (nl 0), .int .u64 (nl 0), .int .u64 (nl 0), .int .u64 (nl 0), .int .u64 (nl 0), .int .u64 (nl 0), .int .u64 (nl 0)]), .op none none (.st 54 (.t 10) (.t 42))]
def v4_2 : List VI := [.op (some 43) none (.p (.mov (.t 0))), .call (some 44) none (.fn 12) [.t 43, .c (.int .i64 0)], .op (some 45) none (.p (.mov (.t 0))), .call (some 46) none (.fn 12) [.t 45, .c (.int .i64 1)], .op (some 47) none (.p (.mov (.t 0))), .call (some 48) none (.fn 12) [.t 47, .c (.int .i64 2)], .op (some 49) none (.p (.mov (.t 0))), .call (some 50) none (.fn 12) [.t 49, .c (.int .i64 3)], .op (some 51) none (.p (.mov (.t 0))), .call (some 52) none (.fn 12) [.t 51, .c (.int .i64 4)], .op (some 53) none (.p (.mov (.t 0))), .call (some 54) none (.fn 12) [.t 53, .c (.int .i64 5)], .op (some 55) none (.p (.mov (.t 0))), .call (some 56) none (.fn 12) [.t 55, .c (.int .i64 6)], .op (some 57) none (.p (.mov (.t 0))), .call (some 58) none (.fn 12) [.t 57, .c (.int .i64 7)], .op (some 59) none (.p (.mov (.t 1))), .call (some 60) none (.fn 11) [.t 59, .c (.int .i64 0)], .call (some 61) none (.fn 13) [.t 60], .op (some 62) none (.p (.mov (.t 1))), .call (some 63) none (.fn 11) [.t 62, .c (.int .i64 1)], .call (some 64) none (.fn 13) [.t 63], .op (some 65) none (.p (.mov (.t 1))), .call (some 66) none (.fn 11) [.t 65, .c (.int .i64 2)], .call (some 67) none (.fn 13) [.t 66], .op (some 68) none (.p (.mov (.t 1))), .call (some 69) none (.fn 11) [.t 68, .c (.int .i64 3)], .call (some 70) none (.fn 13) [.t 69], .op (some 71) none (.p (.mov (.t 1))), .call (some 72) none (.fn 11) [.t 71, .c (.int .i64 4)], .call (some 73) none (.fn 13) [.t 72], .op (some 74) none (.p (.bld [.int .i64 0, .int .i64 0, .int .i64 0, .int .i64 0, .int .i64 0, .int .i64 0, .int .i64 0, .int .i64 0, .int .i64 0, .int .i64 0, .int .i64 0, .int .i64 0, .int .i64 0, .int .i64 0, .int .i64 0, .int .i64 0, .int .i64 0, .int .i64 0, .int .i64 0, .int .i64 0, .int .i64 0, .int .u64 (nl 0), .int .u64 (nl 0), .int .u64 (nl 0), .int .u64 (nl 0), .nils, .int .i64 0, .int .i64 0, .int .i64 0, .int .i64 0, .int .i64 0, .int .i64 0, .int .i64 0, .int .i64 0, .int .i64 0, .int .i64 0, .int .i64 0, .int .i64 0, .int .i64 0, .int .i64 0, .int .i64 0, .int .i64 0, .int .i64 0, .int .i64 0, .int .i64 0, .int .i64 0, .int .i64 0, .int .u64 (nl 0), .int .u64 (nl 0), .int .u64 (nl 0), .int .u64 (nl 0), .nils, .int .i64 0, .int .i64 0, .int .i64 0, .int .i64 0, .int .i64 0, .int .i64 0, .int .i64 0, .int .i64 0, .int .i64 0, .int .i64 0, .int .i64 0, .int .i64 0, .int .i64 0, .int .i64 0, .int .i64 0, .int .i64 0, .int .i64 0, .int .i64 0, .int .i64 0, .int .i64 0, .int .i64 0, .int .u64 (nl 0), .int .u64 (nl 0), .int .u64 (nl 0), .int .u64 (nl 0), .nils, .int .i64 0, .int .i64 0, .int .i64 0, .int .i64 0, .int .i64 0, .int .i64 0, .int .i64 0, .int .i64 0, .int .i64 0, .int .i64 0, .int .i64 0, .int .i64 0, .int .i64 0, .int .i64 0, .int .i64 0, .int .i64 0, .int .i64 0, .int .i64 0, .int .i64 0, .int .i64 0, .int .i64 0, .int .u64 (nl 0), .int .u64 (nl 0), .int .u64 (nl 0), .int .u64 (nl 0), .nils, .int .i64 0, .int .i64 0, .int .i64 0, .int .i64 0, .int .i64 0, .int .i64 0, .int .i64 0, .int .i64 0, .int .i64 0, .int .i64 0, .int .i64 0, .int .i64 0, .int .i64 0, .int .i64 0, .int .i64 0, .int .i64 0, .int .i64 0, .int .i64 0, .int .i64 0, .int .i64 0, .int .i64 0, .int .u64 (nl 0), .int .u64 (nl 0), .int .u64 (nl 0), .int .u64 (nl 0), .nils, .int .i64 0, .int .i64 0, .int .i64 0, .int .i64 0, .int .i64 0, .int .i64 0, .int .i64 0, .int .i64 0, .int .i64 0, .int .i64 0, .int .i64 0, .int .i64 0, .int .i64 0, .int .i64 0, .int .i64 0, .int .i64 0, .int .i64 0, .int .i64 0, .int .i64 0, .int .i64 0, .int .i64 0, .int .u64 (nl 0), .int .u64 (nl 0), .int .u64 (nl 0), .int .u64 (nl 0), .nils, .int .i64 0, .int .i64 0, .int .i64 0, .int .i64 0, .int .i64 0, .int .i64 0, .int .i64 0, .int .i64 0, .int .i64 0, .int .i64 0, .int .i64 0, .int .i64 0, .int .i64 0, .int .i64 0, .int .i64 0, .int .i64 0, .int .i64 0, .int .i64 0, .int .i64 0, .int .i64 0, .int .i64 0, .int .u64 (nl 0), .int .u64 (nl 0), .int .u64 (nl 0), .int .u64 (nl 0), .nils, .int .i64 0, .int .i64 0, .int .i64 0, .int .i64 0, .int .i64 0, .int .i64 0, .int .i64 0, .int .i64 0, .int .i64 0, .int .i64 0, .int .i64 0, .int .i64 0, .int .i64 0, .int .i64 0, .int .i64 0, .int .i64 0, .int .i64 0, .int .i64 0, .int .i64 0, .int .i64 0, .int .i64 0, .int .u64 (nl 0), .int .u64 (nl 0), .int .u64 (nl 0), .int .u64 (nl 0), .nils, .int .u64 (nl 0), .int .u64 (nl 0), .int .u64 (nl 0), .int .u64 (nl 0), .int .u64 (nl 0), .int .u64 (nl 0), .int .u64 (nl 0), .int .u64 (nl 0), .int .u64 (nl 0), .int .u64 (nl 0), .int .u64 (nl 0), .int .u64 (nl 0), .nils, .nils, .int .u64 (nl 0), .int .u64 (nl 0), .int .u64 (nl 0), .int .u64 (nl 0), .int .u64 (nl 0), .int .u64 (nl 0), .int .u64 (nl 0), .int .u64 (nl 0)] [(0, 26, .t 44), (26, 26, .t 46), (52, 26, .t 48), (78, 26, .t 50), (104, 26, .t 52), (130, 26, .t 54), (156, 26, .t 56), (182, 26, .t 58), (208, 4, .t 61), (212, 4, .t 64), (216, 4, .t 67), (222, 4, .t 70), (226, 4, .t 73)])), .op (some 11) none (.new [.int .i64 0, .int .i64 0, .int .i64 0, .int .i64 0, .int .i64 0, .int .i64 0, .int .i64 0, .int .i64 0, .int .i64 0, .int .i64 0, .int .i64 0, .int .i64 0, .int .i64 0, .int .i64 0, .int .i64 0, .int .i64 0, .int .i64 0, .int .i64 0, .int .i64 0, .int .i64 0, .int .i64 0, .int .u64 (nl 0), .int .u64 (nl 0), .int .u64 (nl 0), .int .u64 (nl 0), .nils, .int .i64 0, .int .i64 0, .int .i64 0, .int .i64 0, .int .i64 0, .int .i64 0, .int .i64 0, .int .i64 0, .int .i64 0, .int .i64 0, .int .i64 0, .int .i64 0, .int .i64 0, .int .i64 0, .int .i64 0, .int .i64 0, .int .i64 0, .int .i64 0, .int .i64 0, .int .i64 0, .int .i64 0, .int .u64 (nl 0), .int .u64 (nl 0), .int .u64 (nl 0), .int .u64 (nl 0), .nils, .int .i64 0, .int .i64 0, .int .i64 0, .int .i64 0, .int .i64 0, .int .i64 0, .int .i64 0, .int .i64 0, .int .i64 0, .int .i64 0, .int .i64 0, .int .i64 0, .int .i64 0, .int .i64 0, .int .i64 0, .int .i64 0, .int .i64 0, .int .i64 0, .int .i64 0, .int .i64 0, .int .i64 0, .int .u64 (nl 0), .int .u64 (nl 0), .int .u64 (nl 0), .int .u64 (nl 0), .nils, .int .i64 0, .int .i64 0, .int .i64 0, .int .i64 0, .int .i64 0, .int .i64 0, .int .i64 0, .int .i64 0, .int .i64 0, .int .i64 0, .int .i64 0, .int .i64 0, .int .i64 0, .int .i64 0, .int .i64 0, .int .i64 0, .int .i64 0, .int .i64 0, .int .i64 0, .int .i64 0, .int .i64 0, .int .u64 (nl 0), .int .u64 (nl 0), .int .u64 (nl 0), .int .u64 (nl 0), .nils, .int .i64 0, .int .i64 0, .int .i64 0, .int .i64 0, .int .i64 0, .int .i64 0, .int .i64 0, .int .i64 0, .int .i64 0, .int .i64 0, .int .i64 0, .int .i64 0, .int .i64 0, .int .i64 0, .int .i64 0, .int .i64 0, .int .i64 0, .int .i64 0, .int .i64 0, .int .i64 0, .int .i64 0, .int .u64 (nl 0), .int .u64 (nl 0), .int .u64 (nl 0), .int .u64 (nl 0), .nils, .int .i64 0, .int .i64 0, .int .i64 0, .int .i64 0, .int .i64 0, .int .i64 0, .int .i64 0, .int .i64 0, .int .i64 0, .int .i64 0, .int .i64 0, .int .i64 0, .int .i64 0, .int .i64 0, .int .i64 0, .int .i64 0, .int .i64 0, .int .i64 0, .int .i64 0, .int .i64 0, .int .i64 0, .int .u64 (nl 0), .int .u64 (nl 0), .int .u64 (nl 0), .int .u64 (nl 0), .nils, .int .i64 0, .int .i64 0, .int .i64 0, .int .i64 0, .int .i64 0, .int .i64 0, .int .i64 0, .int .i64 0, .int .i64 0, .int .i64 0, .int .i64 0, .int .i64 0, .int .i64 0, .int .i64 0, .int .i64 0, .int .i64 0, .int .i64 0, .int .i64 0, .int .i64 0, .int .i64 0, .int .i64 0, .int .u64 (nl 0), .int .u64 (nl 0), .int .u64 (nl 0), .int .u64 (nl 0), .nils, .int .i64 0, .int .i64 0, .int .i64 0, .int .i64 0, .int .i64 0, .int .i64 0, .int .i64 0, .int .i64 0, .int .i64 0, .int .i64 0, .int .i64 0, .int .i64 0, .int .i64 0, .int .i64 0, .int .i64 0, .int .i64 0, .int .i64 0, .int .i64 0, .int .i64 0, .int .i64 0, .int .i64 0, .int .u64 (nl 0), .int .u64 (nl 0), .int .u64 (nl 0), .int .u64 (nl 0), .nils, .int .u64 (nl 0), .int .u64 (nl 0), .int .u64 (nl 0), .int .u64 (nl 0), .int .u64 (nl 0), .int .u64 (nl 0), .int .u64 (nl 0), .int .u64 (nl 0), .int .u64 (nl 0), .int .u64 (nl 0), .int .u64 (nl 0), .int .u64 (nl 0), .nils, .nils, .int .u64 (nl 0), .int .u64 (nl 0), .int .u64 (nl 0), .int .u64 (nl 0), .int .u64 (nl 0), .int .u64 (nl 0), .int .u64 (nl 0), .int .u64 (nl 0)]), .op none none (.st 230 (.t 11) (.t 74))]
def v4_3 : List VI := [.op (some 76) none (.p (.mov (.t 2))), .call (some 77) none (.fn 14) [.t 76], .op (some 75) none (.p (.mov (.t 77))), .op (some 78) none (.p (.ext (.t 75) 0)), .op (some 79) none (.p (.ext (.t 75) 1)), .op (some 12) none (.p (.mov (.t 78))), .op (some 13) none (.p (.mov (.t 79)))]
def v4_4 : List VI := [.op (some 81) none (.p (.mov (.t 3))), .call (some 82) none (.fn 14) [.t 81], .op (some 80) none (.p (.mov (.t 82))), .op (some 83) none (.p (.ext (.t 80) 0)), .op (some 84) none (.p (.ext (.t 80) 1)), .op (some 14) none (.p (.mov (.t 83))), .op (some 15) none (.p (.mov (.t 84)))]
def v4_5 : List VI := [.op (some 85) none (.p (.mov (.t 12))), .op (some 86) none (.p (.fda 44 (.t 10))), .op none none (.st 1 (.t 86) (.t 85))]
def v4_6 : List VI := [.op (some 87) none (.p (.mov (.t 14))), .op (some 88) none (.p (.fda 45 (.t 10))), .op none none (.st 1 (.t 88) (.t 87))]
def v4_7 : List VI := [.op (some 89) none (.p (.mov (.t 13))), .op (some 90) none (.p (.fda 220 (.t 11))), .op none none (.st 1 (.t 90) (.t 89))]
def v4_8 : List VI := [.op (some 91) none (.p (.mov (.t 15))), .op (some 92) none (.p (.fda 221 (.t 11))), .op none none (.st 1 (.t 92) (.t 91))]
def v4_9 : List DS := [.mk 0 true (.op (some 93) none (.ld true 54 (.t 10))) [] [], .mk 1 true (.op (some 94) none (.ld true 230 (.t 11))) [] [], .mk 2 false (.op none none (.st 54 (.t 8) (.t 93))) [11] [], .mk 3 false (.op none none (.st 230 (.t 9) (.t 94))) [] []]
def v4 : VC := .seq (.reg v4_0) (.seq (.reg v4_1) (.seq (.reg v4_2) (.seq (.reg v4_3) (.seq (.reg v4_4) (.seq (.reg v4_5) (.seq (.reg v4_6) (.seq (.reg v4_7) (.seq (.reg v4_8) (.seq (.drw v4_9) .ret)))))))))
def rr4 : List RV := [.m 8 true 54, .m 9 true 230]
theorem code4 : (Tryd.f4.body).bind (cCode Tryd.prog) = some v4 := by kernel_rfl
theorem res4 : cRVs Tryd.prog (Tryd.f4.results.toList) = some rr4 := by kernel_rfl
theorem nt4 : Tryd.f4.ntmps = 95 := by kernel_rfl
theorem nm4 : (Tryd.f4.name == "runtime.NumGoroutine") = false := by kernel_rfl
def v5_0 : List VI := [.op (some 1) none (.box (.t 0)), .op (some 2) none (.p (.mov (.c .nils))), .op (some 3) none (.p (.mov (.c (.int .i64 0))))]
def v5_1 : List VI := [.op (some 8) none (.p (.fda 44 (.t 1))), .op (some 9) none (.ld false 1 (.t 8)), .op (some 10) none (.p (.len false (.t 9))), .op (some 11) none (.p (.fda 45 (.t 1))), .op (some 12) none (.ld false 1 (.t 11)), .op (some 13) none (.p (.len false (.t 12))), .op (some 14) none (.p (.eq true .i (.t 10) (.t 13))), .op (some 15) none (.p (.mov (.t 14))), .op (some 16) (some (15, false)) (.p (.fda 44 (.t 1))), .op (some 17) (some (15, false)) (.ld false 1 (.t 16)), .op (some 18) (some (15, false)) (.p (.len false (.t 17))), .op (some 19) (some (15, false)) (.p (.bin .gtr (.t 18) (.c (.int .i64 10)))), .op (some 20) none (.p (.pick (.t 15) (.c (.bool true)) (.t 19)))]
def v5_2 : List VI := [.op (some 2) none (.p (.mov (.c .nils))), .op (some 3) none (.p (.mov (.c (.int .i64 2))))]
def v5_3 : List VI := [.op (some 4) none (.p (.mov (.c .nils)))]
def v5_4 : List VI := [.call (some 21) none (.fn 15) [.t 1], .op (some 22) none (.p (.len false (.t 21))), .op (some 23) none (.p (.mov (.c (.int .i64 0))))]
def v5_5 : List VI := [.op (some 24) none (.p (.bin .lss (.t 23) (.t 22)))]
def v5_6 : List VI := [.op (some 25) none (.p (.ixs 2 (.t 21) (.t 23))), .op (some 26) none (.ld true 2 (.t 25)), .op (some 6) none (.new [.nilf, .nilf]), .op none none (.st 2 (.t 6) (.t 26))]
def v5_7 : List VI := [.op (some 27) none (.p (.fda 0 (.t 6))), .op (some 28) none (.ld false 1 (.t 27)), .call (some 29) none (.val (.t 28)) [], .op (some 7) none (.new [.int .u8 (nl 0), .int .u8 (nl 0), .int .u8 (nl 0), .int .u8 (nl 0), .int .u8 (nl 0), .int .u8 (nl 0), .int .u8 (nl 0), .int .u8 (nl 0), .int .u8 (nl 0), .int .u8 (nl 0), .int .u8 (nl 0), .int .u8 (nl 0), .int .u8 (nl 0), .int .u8 (nl 0), .int .u8 (nl 0), .int .u8 (nl 0), .int .u8 (nl 0), .int .u8 (nl 0), .int .u8 (nl 0), .int .u8 (nl 0), .int .u8 (nl 0), .int .u8 (nl 0), .int .u8 (nl 0), .int .u8 (nl 0), .int .u8 (nl 0), .int .u8 (nl 0), .int .u8 (nl 0), .int .u8 (nl 0), .int .u8 (nl 0), .int .u8 (nl 0), .int .u8 (nl 0), .int .u8 (nl 0)]), .op none none (.st 32 (.t 7) (.t 29))]
def v5_8 : List VI := [.op (some 30) none (.p (.mov (.t 4))), .op (some 31) none (.p (.sla 32 1 (.t 7) none none none)), .op (some 32) none (.app 1 1 false (.t 30) (.t 31)), .op (some 4) none (.p (.mov (.t 32)))]
def v5_9 : VC := .seq (.reg v5_6) (.seq (.reg v5_7) (.reg v5_8))
def v5_10 : List VI := [.op (some 33) none (.p (.bin .add (.t 23) (.c (.int .i64 1)))), .op (some 23) none (.p (.mov (.t 33)))]
def v5_11 : VC := .seq (.reg v5_5) (.seq (.cond (.t 24) .skip (.exit 0)) (.seq (.block 1 v5_9) (.reg v5_10)))
def v5_12 : VC := .loop v5_11
def v5_13 : List VI := [.op (some 34) none (.p (.mov (.t 4))), .op (some 2) none (.p (.mov (.t 34))), .op (some 3) none (.p (.mov (.c (.int .i64 0))))]
def v5 : VC := .seq (.reg v5_0) (.seq (.seq (.reg v5_1) (.cond (.t 20) (.seq (.reg v5_2) .ret) .skip)) (.seq (.reg v5_3) (.seq (.seq (.reg v5_4) (.block 0 v5_12)) (.seq (.reg v5_13) .ret))))
def rr5 : List RV := [.t 2, .t 3]
theorem code5 : (Tryd.f5.body).bind (cCode Tryd.prog) = some v5 := by kernel_rfl
theorem res5 : cRVs Tryd.prog (Tryd.f5.results.toList) = some rr5 := by kernel_rfl
theorem nt5 : Tryd.f5.ntmps = 35 := by kernel_rfl
theorem nm5 : (Tryd.f5.name == "runtime.NumGoroutine") = false := by kernel_rfl
def v6_0 : List VI := [.op (some 1) none (.box (.t 0)), .op (some 2) none (.p (.mov (.c .nils))), .op (some 3) none (.p (.mov (.c (.int .i64 0))))]
def v6_1 : List VI := [.op (some 16) none (.p (.fda 220 (.t 1))), .op (some 17) none (.ld false 1 (.t 16)), .op (some 18) none (.p (.len false (.t 17))), .op (some 19) none (.p (.fda 221 (.t 1))), .op (some 20) none (.ld false 1 (.t 19)), .op (some 21) none (.p (.len false (.t 20))), .op (some 22) none (.p (.eq true .i (.t 18) (.t 21))), .op (some 23) none (.p (.mov (.t 22))), .op (some 24) (some (23, false)) (.p (.fda 220 (.t 1))), .op (some 25) (some (23, false)) (.ld false 1 (.t 24)), .op (some 26) (some (23, false)) (.p (.len false (.t 25))), .op (some 27) (some (23, false)) (.p (.bin .gtr (.t 26) (.c (.int .i64 10)))), .op (some 28) none (.p (.pick (.t 23) (.c (.bool true)) (.t 27)))]
def v6_2 : List VI := [.op (some 2) none (.p (.mov (.c .nils))), .op (some 3) none (.p (.mov (.c (.int .i64 2))))]
def v6_3 : List VI := [.op (some 4) none (.p (.mov (.c .nils)))]
def v6_4 : List VI := [.op (some 29) none (.p (.fda 0 (.t 1))), .op (some 30) none (.ld true 26 (.t 29)), .op (some 31) none (.p (.fda 26 (.t 1))), .op (some 32) none (.ld true 26 (.t 31)), .op (some 33) none (.p (.fda 52 (.t 1))), .op (some 34) none (.ld true 26 (.t 33)), .op (some 35) none (.p (.fda 78 (.t 1))), .op (some 36) none (.ld true 26 (.t 35)), .op (some 37) none (.p (.fda 104 (.t 1))), .op (some 38) none (.ld true 26 (.t 37)), .op (some 39) none (.p (.fda 130 (.t 1))), .op (some 40) none (.ld true 26 (.t 39)), .op (some 41) none (.p (.fda 156 (.t 1))), .op (some 42) none (.ld true 26 (.t 41)), .op (some 43) none (.p (.fda 182 (.t 1))), .op (some 44) none (.ld true 26 (.t 43)), .op (some 45) none (.bsl 8 [.int .i64 0, .int .i64 0, .int .i64 0, .int .i64 0, .int .i64 0, .int .i64 0, .int .i64 0, .int .i64 0, .int .i64 0, .int .i64 0, .int .i64 0, .int .i64 0, .int .i64 0, .int .i64 0, .int .i64 0, .int .i64 0, .int .i64 0, .int .i64 0, .int .i64 0, .int .i64 0, .int .i64 0, .int .u64 (nl 0), .int .u64 (nl 0), .int .u64 (nl 0), .int .u64 (nl 0), .nils, .int .i64 0, .int .i64 0, .int .i64 0, .int .i64 0, .int .i64 0, .int .i64 0, .int .i64 0, .int .i64 0, .int .i64 0, .int .i64 0, .int .i64 0, .int .i64 0, .int .i64 0, .int .i64 0, .int .i64 0, .int .i64 0, .int .i64 0, .int .i64 0, .int .i64 0, .int .i64 0, .int .i64 0, .int .u64 (nl 0), .int .u64 (nl 0), .int .u64 (nl 0), .int .u64 (nl 0), .nils, .int .i64 0, .int .i64 0, .int .i64 0, .int .i64 0, .int .i64 0, .int .i64 0, .int .i64 0, .int .i64 0, .int .i64 0, .int .i64 0, .int .i64 0, .int .i64 0, .int .i64 0, .int .i64 0, .int .i64 0, .int .i64 0, .int .i64 0, .int .i64 0, .int .i64 0, .int .i64 0, .int .i64 0, .int .u64 (nl 0), .int .u64 (nl 0), .int .u64 (nl 0), .int .u64 (nl 0), .nils, .int .i64 0, .int .i64 0, .int .i64 0, .int .i64 0, .int .i64 0, .int .i64 0, .int .i64 0, .int .i64 0, .int .i64 0, .int .i64 0, .int .i64 0, .int .i64 0, .int .i64 0, .int .i64 0, .int .i64 0, .int .i64 0, .int .i64 0, .int .i64 0, .int .i64 0, .int .i64 0, .int .i64 0, .int .u64 (nl 0), .int .u64 (nl 0), .int .u64 (nl 0), .int .u64 (nl 0), .nils, .int .i64 0, .int .i64 0, .int .i64 0, .int .i64 0, .int .i64 0, .int .i64 0, .int .i64 0, .int .i64 0, .int .i64 0, .int .i64 0, .int .i64 0, .int .i64 0, .int .i64 0, .int .i64 0, .int .i64 0, .int .i64 0, .int .i64 0, .int .i64 0, .int .i64 0, .int .i64 0, .int .i64 0, .int .u64 (nl 0), .int .u64 (nl 0), .int .u64 (nl 0), .int .u64 (nl 0), .nils, .int .i64 0, .int .i64 0, .int .i64 0, .int .i64 0, .int .i64 0, .int .i64 0, .int .i64 0, .int .i64 0, .int .i64 0, .int .i64 0, .int .i64 0, .int .i64 0, .int .i64 0, .int .i64 0, .int .i64 0, .int .i64 0, .int .i64 0, .int .i64 0, .int .i64 0, .int .i64 0, .int .i64 0, .int .u64 (nl 0), .int .u64 (nl 0), .int .u64 (nl 0), .int .u64 (nl 0), .nils, .int .i64 0, .int .i64 0, .int .i64 0, .int .i64 0, .int .i64 0, .int .i64 0, .int .i64 0, .int .i64 0, .int .i64 0, .int .i64 0, .int .i64 0, .int .i64 0, .int .i64 0, .int .i64 0, .int .i64 0, .int .i64 0, .int .i64 0, .int .i64 0, .int .i64 0, .int .i64 0, .int .i64 0, .int .u64 (nl 0), .int .u64 (nl 0), .int .u64 (nl 0), .int .u64 (nl 0), .nils, .int .i64 0, .int .i64 0, .int .i64 0, .int .i64 0, .int .i64 0, .int .i64 0, .int .i64 0, .int .i64 0, .int .i64 0, .int .i64 0, .int .i64 0, .int .i64 0, .int .i64 0, .int .i64 0, .int .i64 0, .int .i64 0, .int .i64 0, .int .i64 0, .int .i64 0, .int .i64 0, .int .i64 0, .int .u64 (nl 0), .int .u64 (nl 0), .int .u64 (nl 0), .int .u64 (nl 0), .nils] [(0, 26, .t 30), (26, 26, .t 32), (52, 26, .t 34), (78, 26, .t 36), (104, 26, .t 38), (130, 26, .t 40), (156, 26, .t 42), (182, 26, .t 44)]), .op (some 5) none (.p (.mov (.t 45)))]
def v6_5 : List VI := [.op (some 6) none (.p (.mov (.c (.int .i64 0))))]
def v6_6 : List VI := [.op (some 46) none (.p (.mov (.t 6))), .op (some 47) none (.p (.mov (.t 5))), .op (some 48) none (.p (.len false (.t 47))), .op (some 49) none (.p (.bin .lss (.t 46) (.t 48)))]
def v6_7 : List VI := [.op (some 52) none (.p (.mov (.t 5))), .op (some 53) none (.p (.mov (.t 6))), .op (some 54) none (.p (.ixs 26 (.t 52) (.t 53))), .op (some 55) none (.ld true 26 (.t 54)), .call (some 56) none (.fn 16) [.t 55], .op (some 7) none (.new [.int .u8 (nl 0), .int .u8 (nl 0), .int .u8 (nl 0), .int .u8 (nl 0), .int .u8 (nl 0), .int .u8 (nl 0), .int .u8 (nl 0), .int .u8 (nl 0), .int .u8 (nl 0), .int .u8 (nl 0), .int .u8 (nl 0), .int .u8 (nl 0), .int .u8 (nl 0), .int .u8 (nl 0), .int .u8 (nl 0), .int .u8 (nl 0), .int .u8 (nl 0), .int .u8 (nl 0), .int .u8 (nl 0), .int .u8 (nl 0), .int .u8 (nl 0), .int .u8 (nl 0), .int .u8 (nl 0), .int .u8 (nl 0), .int .u8 (nl 0), .int .u8 (nl 0), .int .u8 (nl 0), .int .u8 (nl 0), .int .u8 (nl 0), .int .u8 (nl 0), .int .u8 (nl 0), .int .u8 (nl 0)]), .op none none (.st 32 (.t 7) (.t 56))]
def v6_8 : List VI := [.op (some 57) none (.p (.mov (.t 4))), .op (some 58) none (.p (.sla 32 1 (.t 7) none none none)), .op (some 59) none (.app 1 1 false (.t 57) (.t 58)), .op (some 4) none (.p (.mov (.t 59)))]
def v6_9 : VC := .seq (.reg v6_7) (.reg v6_8)
def v6_10 : List VI := [.op (some 50) none (.p (.mov (.t 6))), .op (some 51) none (.p (.bin .add (.t 50) (.c (.int .i64 1)))), .op (some 6) none (.p (.mov (.t 51)))]
def v6_11 : VC := .seq (.seq (.reg v6_6) (.cond (.t 49) .skip (.exit 0))) (.seq (.block 1 v6_9) (.reg v6_10))
def v6_12 : VC := .loop v6_11
def v6_13 : List VI := [.op (some 60) none (.p (.fda 208 (.t 1))), .op (some 61) none (.ld true 4 (.t 60)), .op (some 62) none (.p (.fda 212 (.t 1))), .op (some 63) none (.ld true 4 (.t 62)), .op (some 64) none (.p (.fda 216 (.t 1))), .op (some 65) none (.ld true 4 (.t 64)), .op (some 66) none (.bsl 3 [.int .u64 (nl 0), .int .u64 (nl 0), .int .u64 (nl 0), .int .u64 (nl 0), .int .u64 (nl 0), .int .u64 (nl 0), .int .u64 (nl 0), .int .u64 (nl 0), .int .u64 (nl 0), .int .u64 (nl 0), .int .u64 (nl 0), .int .u64 (nl 0)] [(0, 4, .t 61), (4, 4, .t 63), (8, 4, .t 65)]), .op (some 8) none (.p (.mov (.t 66)))]
def v6_14 : List VI := [.op (some 9) none (.p (.mov (.c (.int .i64 0))))]
def v6_15 : List VI := [.op (some 67) none (.p (.mov (.t 9))), .op (some 68) none (.p (.bin .lss (.t 67) (.c (.int .i64 3))))]
def v6_16 : List VI := [.op (some 71) none (.p (.mov (.t 8))), .op (some 72) none (.p (.mov (.t 9))), .op (some 73) none (.p (.ixs 4 (.t 71) (.t 72))), .op (some 74) none (.ld true 4 (.t 73)), .call (some 75) none (.fn 17) [.t 74], .op (some 10) none (.new [.int .u8 (nl 0), .int .u8 (nl 0), .int .u8 (nl 0), .int .u8 (nl 0), .int .u8 (nl 0), .int .u8 (nl 0), .int .u8 (nl 0), .int .u8 (nl 0), .int .u8 (nl 0), .int .u8 (nl 0), .int .u8 (nl 0), .int .u8 (nl 0), .int .u8 (nl 0), .int .u8 (nl 0), .int .u8 (nl 0), .int .u8 (nl 0), .int .u8 (nl 0), .int .u8 (nl 0), .int .u8 (nl 0), .int .u8 (nl 0), .int .u8 (nl 0), .int .u8 (nl 0), .int .u8 (nl 0), .int .u8 (nl 0), .int .u8 (nl 0), .int .u8 (nl 0), .int .u8 (nl 0), .int .u8 (nl 0), .int .u8 (nl 0), .int .u8 (nl 0), .int .u8 (nl 0), .int .u8 (nl 0)]), .op none none (.st 32 (.t 10) (.t 75))]
def v6_17 : List VI := [.op (some 76) none (.p (.mov (.t 4))), .op (some 77) none (.p (.sla 32 1 (.t 10) none none none)), .op (some 78) none (.app 1 1 false (.t 76) (.t 77)), .op (some 4) none (.p (.mov (.t 78)))]
def v6_18 : VC := .seq (.reg v6_16) (.reg v6_17)
def v6_19 : List VI := [.op (some 69) none (.p (.mov (.t 9))), .op (some 70) none (.p (.bin .add (.t 69) (.c (.int .i64 1)))), .op (some 9) none (.p (.mov (.t 70)))]
def v6_20 : VC := .seq (.seq (.reg v6_15) (.cond (.t 68) .skip (.exit 2))) (.seq (.block 3 v6_18) (.reg v6_19))
def v6_21 : VC := .loop v6_20
def v6_22 : List VI := [.op (some 11) none (.p (.mov (.c (.int .i64 0))))]
def v6_23 : List VI := [.op (some 79) none (.p (.mov (.t 11))), .op (some 80) none (.p (.fda 220 (.t 1))), .op (some 81) none (.ld false 1 (.t 80)), .op (some 82) none (.p (.len false (.t 81))), .op (some 83) none (.p (.bin .lss (.t 79) (.t 82)))]
def v6_24 : List VI := [.op (some 86) none (.p (.fda 220 (.t 1))), .op (some 87) none (.ld false 1 (.t 86)), .op (some 88) none (.p (.mov (.t 11))), .op (some 89) none (.p (.ixs 26 (.t 87) (.t 88))), .op (some 90) none (.ld true 26 (.t 89)), .call (some 91) none (.fn 16) [.t 90], .op (some 12) none (.new [.int .u8 (nl 0), .int .u8 (nl 0), .int .u8 (nl 0), .int .u8 (nl 0), .int .u8 (nl 0), .int .u8 (nl 0), .int .u8 (nl 0), .int .u8 (nl 0), .int .u8 (nl 0), .int .u8 (nl 0), .int .u8 (nl 0), .int .u8 (nl 0), .int .u8 (nl 0), .int .u8 (nl 0), .int .u8 (nl 0), .int .u8 (nl 0), .int .u8 (nl 0), .int .u8 (nl 0), .int .u8 (nl 0), .int .u8 (nl 0), .int .u8 (nl 0), .int .u8 (nl 0), .int .u8 (nl 0), .int .u8 (nl 0), .int .u8 (nl 0), .int .u8 (nl 0), .int .u8 (nl 0), .int .u8 (nl 0), .int .u8 (nl 0), .int .u8 (nl 0), .int .u8 (nl 0), .int .u8 (nl 0)]), .op none none (.st 32 (.t 12) (.t 91))]
def v6_25 : List VI := [.op (some 92) none (.p (.fda 221 (.t 1))), .op (some 93) none (.ld false 1 (.t 92)), .op (some 94) none (.p (.mov (.t 11))), .op (some 95) none (.p (.ixs 26 (.t 93) (.t 94))), .op (some 96) none (.ld true 26 (.t 95)), .call (some 97) none (.fn 16) [.t 96], .op (some 13) none (.new [.int .u8 (nl 0), .int .u8 (nl 0), .int .u8 (nl 0), .int .u8 (nl 0), .int .u8 (nl 0), .int .u8 (nl 0), .int .u8 (nl 0), .int .u8 (nl 0), .int .u8 (nl 0), .int .u8 (nl 0), .int .u8 (nl 0), .int .u8 (nl 0), .int .u8 (nl 0), .int .u8 (nl 0), .int .u8 (nl 0), .int .u8 (nl 0), .int .u8 (nl 0), .int .u8 (nl 0), .int .u8 (nl 0), .int .u8 (nl 0), .int .u8 (nl 0), .int .u8 (nl 0), .int .u8 (nl 0), .int .u8 (nl 0), .int .u8 (nl 0), .int .u8 (nl 0), .int .u8 (nl 0), .int .u8 (nl 0), .int .u8 (nl 0), .int .u8 (nl 0), .int .u8 (nl 0), .int .u8 (nl 0)]), .op none none (.st 32 (.t 13) (.t 97))]
def v6_26 : List VI := [.op (some 98) none (.p (.mov (.t 4))), .op (some 99) none (.p (.sla 32 1 (.t 12) none none none)), .op (some 100) none (.app 1 1 false (.t 98) (.t 99)), .op (some 4) none (.p (.mov (.t 100)))]
def v6_27 : List VI := [.op (some 101) none (.p (.mov (.t 4))), .op (some 102) none (.p (.sla 32 1 (.t 13) none none none)), .op (some 103) none (.app 1 1 false (.t 101) (.t 102)), .op (some 4) none (.p (.mov (.t 103)))]
def v6_28 : VC := .seq (.reg v6_24) (.seq (.reg v6_25) (.seq (.reg v6_26) (.reg v6_27)))
def v6_29 : List VI := [.op (some 84) none (.p (.mov (.t 11))), .op (some 85) none (.p (.bin .add (.t 84) (.c (.int .i64 1)))), .op (some 11) none (.p (.mov (.t 85)))]
def v6_30 : VC := .seq (.seq (.reg v6_23) (.cond (.t 83) .skip (.exit 4))) (.seq (.block 5 v6_28) (.reg v6_29))
def v6_31 : VC := .loop v6_30
def v6_32 : List VI := [.op (some 104) none (.p (.fda 222 (.t 1))), .op (some 105) none (.ld true 4 (.t 104)), .call (some 106) none (.fn 17) [.t 105], .op (some 14) none (.new [.int .u8 (nl 0), .int .u8 (nl 0), .int .u8 (nl 0), .int .u8 (nl 0), .int .u8 (nl 0), .int .u8 (nl 0), .int .u8 (nl 0), .int .u8 (nl 0), .int .u8 (nl 0), .int .u8 (nl 0), .int .u8 (nl 0), .int .u8 (nl 0), .int .u8 (nl 0), .int .u8 (nl 0), .int .u8 (nl 0), .int .u8 (nl 0), .int .u8 (nl 0), .int .u8 (nl 0), .int .u8 (nl 0), .int .u8 (nl 0), .int .u8 (nl 0), .int .u8 (nl 0), .int .u8 (nl 0), .int .u8 (nl 0), .int .u8 (nl 0), .int .u8 (nl 0), .int .u8 (nl 0), .int .u8 (nl 0), .int .u8 (nl 0), .int .u8 (nl 0), .int .u8 (nl 0), .int .u8 (nl 0)]), .op none none (.st 32 (.t 14) (.t 106))]
def v6_33 : List VI := [.op (some 107) none (.p (.fda 226 (.t 1))), .op (some 108) none (.ld true 4 (.t 107)), .call (some 109) none (.fn 17) [.t 108], .op (some 15) none (.new [.int .u8 (nl 0), .int .u8 (nl 0), .int .u8 (nl 0), .int .u8 (nl 0), .int .u8 (nl 0), .int .u8 (nl 0), .int .u8 (nl 0), .int .u8 (nl 0), .int .u8 (nl 0), .int .u8 (nl 0), .int .u8 (nl 0), .int .u8 (nl 0), .int .u8 (nl 0), .int .u8 (nl 0), .int .u8 (nl 0), .int .u8 (nl 0), .int .u8 (nl 0), .int .u8 (nl 0), .int .u8 (nl 0), .int .u8 (nl 0), .int .u8 (nl 0), .int .u8 (nl 0), .int .u8 (nl 0), .int .u8 (nl 0), .int .u8 (nl 0), .int .u8 (nl 0), .int .u8 (nl 0), .int .u8 (nl 0), .int .u8 (nl 0), .int .u8 (nl 0), .int .u8 (nl 0), .int .u8 (nl 0)]), .op none none (.st 32 (.t 15) (.t 109))]
def v6_34 : List VI := [.op (some 110) none (.p (.mov (.t 4))), .op (some 111) none (.p (.sla 32 1 (.t 14) none none none)), .op (some 112) none (.app 1 1 false (.t 110) (.t 111)), .op (some 4) none (.p (.mov (.t 112)))]
def v6_35 : List VI := [.op (some 113) none (.p (.mov (.t 4))), .op (some 114) none (.p (.sla 32 1 (.t 15) none none none)), .op (some 115) none (.app 1 1 false (.t 113) (.t 114)), .op (some 2) none (.p (.mov (.t 115))), .op (some 3) none (.p (.mov (.c (.int .i64 0))))]
def v6 : VC := .seq (.reg v6_0) (.seq (.seq (.reg v6_1) (.cond (.t 28) (.seq (.reg v6_2) .ret) .skip)) (.seq (.reg v6_3) (.seq (.reg v6_4) (.seq (.seq (.reg v6_5) (.block 0 v6_12)) (.seq (.reg v6_13) (.seq (.seq (.reg v6_14) (.block 2 v6_21)) (.seq (.seq (.reg v6_22) (.block 4 v6_31)) (.seq (.reg v6_32) (.seq (.reg v6_33) (.seq (.reg v6_34) (.seq (.reg v6_35) .ret)))))))))))
def rr6 : List RV := [.t 2, .t 3]
theorem code6 : (Tryd.f6.body).bind (cCode Tryd.prog) = some v6 := by kernel_rfl
theorem res6 : cRVs Tryd.prog (Tryd.f6.results.toList) = some rr6 := by kernel_rfl
theorem nt6 : Tryd.f6.ntmps = 116 := by kernel_rfl
theorem nm6 : (Tryd.f6.name == "runtime.NumGoroutine") = false := by kernel_rfl
def v7_0 : List VI := [.op (some 2) none (.new [.int .u64 (nl 0), .int .u64 (nl 0), .int .u64 (nl 0), .int .u64 (nl 0), .int .u64 (nl 0), .int .u64 (nl 0), .int .u64 (nl 0), .int .u64 (nl 0), .int .u64 (nl 0), .int .u64 (nl 0), .int .u64 (nl 0), .int .u64 (nl 0), .int .u64 (nl 0), .int .u64 (nl 0), .int .u64 (nl 0), .int .u64 (nl 0), .int .u64 (nl 0), .int .u64 (nl 0), .int .u64 (nl 0), .int .u64 (nl 0), .int .u64 (nl 0), .int .u64 (nl 0), .int .u64 (nl 0), .int .u64 (nl 0), .int .u64 (nl 0), .int .u64 (nl 0), .int .u64 (nl 0), .int .u64 (nl 0), .int .u64 (nl 0), .int .u64 (nl 0), .int .u64 (nl 0), .int .u64 (nl 0), .int .u64 (nl 0), .int .u64 (nl 0), .int .u64 (nl 0), .int .u64 (nl 0), .int .u64 (nl 0), .int .u64 (nl 0), .int .u64 (nl 0), .int .u64 (nl 0), .int .u64 (nl 0), .int .u64 (nl 0), .int .u64 (nl 0), .int .u64 (nl 0), .nils, .nils, .int .u64 (nl 0), .int .u64 (nl 0), .int .u64 (nl 0), .int .u64 (nl 0), .int .u64 (nl 0), .int .u64 (nl 0), .int .u64 (nl 0), .int .u64 (nl 0)]), .op (some 3) none (.p (.mov (.c (.int .i64 0))))]
def v7_1 : List VI := [.op (some 9) none (.p (.mov (.t 0))), .op (some 10) none (.p (.len false (.t 9))), .op (some 11) none (.p (.bin .quo (.t 10) (.c (.int .i64 32)))), .op (some 12) none (.p (.bin .sub (.t 11) (.c (.int .i64 13)))), .op (some 13) none (.p (.bin .quo (.t 12) (.c (.int .i64 2)))), .op (some 4) none (.p (.mov (.t 13)))]
def v7_2 : List VI := [.op (some 14) none (.p (.mov (.t 4))), .op (some 15) none (.p (.bin .lss (.t 14) (.c (.int .i64 0)))), .op (some 16) none (.p (.mov (.t 15))), .op (some 17) (some (16, false)) (.p (.mov (.t 4))), .op (some 18) (some (16, false)) (.p (.bin .gtr (.t 17) (.c (.int .i64 10)))), .op (some 19) none (.p (.pick (.t 16) (.c (.bool true)) (.t 18))), .op (some 20) none (.p (.mov (.t 19))), .op (some 21) (some (20, false)) (.p (.mov (.t 0))), .op (some 22) (some (20, false)) (.p (.len false (.t 21))), .op (some 23) (some (20, false)) (.p (.mov (.t 4))), .op (some 24) (some (20, false)) (.p (.bin .mul (.c (.int .i64 2)) (.t 23))), .op (some 25) (some (20, false)) (.p (.bin .add (.c (.int .i64 13)) (.t 24))), .op (some 26) (some (20, false)) (.p (.bin .mul (.c (.int .i64 32)) (.t 25))), .op (some 27) (some (20, false)) (.p (.eq true .i (.t 22) (.t 26))), .op (some 28) none (.p (.pick (.t 20) (.c (.bool true)) (.t 27)))]
def v7_3 : List VI := [.op (some 29) none (.p (.bld [.int .u64 (nl 0), .int .u64 (nl 0), .int .u64 (nl 0), .int .u64 (nl 0), .int .u64 (nl 0), .int .u64 (nl 0), .int .u64 (nl 0), .int .u64 (nl 0), .int .u64 (nl 0), .int .u64 (nl 0), .int .u64 (nl 0), .int .u64 (nl 0), .int .u64 (nl 0), .int .u64 (nl 0), .int .u64 (nl 0), .int .u64 (nl 0), .int .u64 (nl 0), .int .u64 (nl 0), .int .u64 (nl 0), .int .u64 (nl 0), .int .u64 (nl 0), .int .u64 (nl 0), .int .u64 (nl 0), .int .u64 (nl 0), .int .u64 (nl 0), .int .u64 (nl 0), .int .u64 (nl 0), .int .u64 (nl 0), .int .u64 (nl 0), .int .u64 (nl 0), .int .u64 (nl 0), .int .u64 (nl 0), .int .u64 (nl 0), .int .u64 (nl 0), .int .u64 (nl 0), .int .u64 (nl 0), .int .u64 (nl 0), .int .u64 (nl 0), .int .u64 (nl 0), .int .u64 (nl 0), .int .u64 (nl 0), .int .u64 (nl 0), .int .u64 (nl 0), .int .u64 (nl 0), .nils, .nils, .int .u64 (nl 0), .int .u64 (nl 0), .int .u64 (nl 0), .int .u64 (nl 0), .int .u64 (nl 0), .int .u64 (nl 0), .int .u64 (nl 0), .int .u64 (nl 0)] [])), .op none none (.st 54 (.t 2) (.t 29)), .op (some 3) none (.p (.mov (.c (.int .i64 2))))]
def v7_4 : List DS := [.mk 0 true (.op (some 30) none (.p (.mov (.t 4)))) [] [], .mk 1 true (.op (some 31) none (.mks 4 32 [.int .u64 (nl 0), .int .u64 (nl 0), .int .u64 (nl 0), .int .u64 (nl 0)] (.t 30) (.t 30))) [] [], .mk 2 true (.op (some 32) none (.p (.mov (.t 4)))) [] [], .mk 3 true (.op (some 33) none (.mks 4 32 [.int .u64 (nl 0), .int .u64 (nl 0), .int .u64 (nl 0), .int .u64 (nl 0)] (.t 32) (.t 32))) [] [], .mk 4 true (.op (some 34) none (.p (.bld [.int .u64 (nl 0), .int .u64 (nl 0), .int .u64 (nl 0), .int .u64 (nl 0), .int .u64 (nl 0), .int .u64 (nl 0), .int .u64 (nl 0), .int .u64 (nl 0), .int .u64 (nl 0), .int .u64 (nl 0), .int .u64 (nl 0), .int .u64 (nl 0), .int .u64 (nl 0), .int .u64 (nl 0), .int .u64 (nl 0), .int .u64 (nl 0), .int .u64 (nl 0), .int .u64 (nl 0), .int .u64 (nl 0), .int .u64 (nl 0), .int .u64 (nl 0), .int .u64 (nl 0), .int .u64 (nl 0), .int .u64 (nl 0), .int .u64 (nl 0), .int .u64 (nl 0), .int .u64 (nl 0), .int .u64 (nl 0), .int .u64 (nl 0), .int .u64 (nl 0), .int .u64 (nl 0), .int .u64 (nl 0), .int .u64 (nl 0), .int .u64 (nl 0), .int .u64 (nl 0), .int .u64 (nl 0), .int .u64 (nl 0), .int .u64 (nl 0), .int .u64 (nl 0), .int .u64 (nl 0), .int .u64 (nl 0), .int .u64 (nl 0), .int .u64 (nl 0), .int .u64 (nl 0), .nils, .nils, .int .u64 (nl 0), .int .u64 (nl 0), .int .u64 (nl 0), .int .u64 (nl 0), .int .u64 (nl 0), .int .u64 (nl 0), .int .u64 (nl 0), .int .u64 (nl 0)] [(44, 1, .t 31), (45, 1, .t 33)]))) [] [], .mk 5 true (.op (some 5) none (.new [.int .u64 (nl 0), .int .u64 (nl 0), .int .u64 (nl 0), .int .u64 (nl 0), .int .u64 (nl 0), .int .u64 (nl 0), .int .u64 (nl 0), .int .u64 (nl 0), .int .u64 (nl 0), .int .u64 (nl 0), .int .u64 (nl 0), .int .u64 (nl 0), .int .u64 (nl 0), .int .u64 (nl 0), .int .u64 (nl 0), .int .u64 (nl 0), .int .u64 (nl 0), .int .u64 (nl 0), .int .u64 (nl 0), .int .u64 (nl 0), .int .u64 (nl 0), .int .u64 (nl 0), .int .u64 (nl 0), .int .u64 (nl 0), .int .u64 (nl 0), .int .u64 (nl 0), .int .u64 (nl 0), .int .u64 (nl 0), .int .u64 (nl 0), .int .u64 (nl 0), .int .u64 (nl 0), .int .u64 (nl 0), .int .u64 (nl 0), .int .u64 (nl 0), .int .u64 (nl 0), .int .u64 (nl 0), .int .u64 (nl 0), .int .u64 (nl 0), .int .u64 (nl 0), .int .u64 (nl 0), .int .u64 (nl 0), .int .u64 (nl 0), .int .u64 (nl 0), .int .u64 (nl 0), .nils, .nils, .int .u64 (nl 0), .int .u64 (nl 0), .int .u64 (nl 0), .int .u64 (nl 0), .int .u64 (nl 0), .int .u64 (nl 0), .int .u64 (nl 0), .int .u64 (nl 0)])) [] [], .mk 6 false (.op none none (.st 54 (.t 5) (.t 34))) [] []]
def v7_5 : List VI := [.op (some 35) none (.p (.mov (.t 0))), .op (some 36) none (.p (.bld [.nils, .int .i64 0] [(0, 1, .t 35)])), .op (some 37) none (.box (.t 36)), .op (some 6) none (.p (.mov (.t 37)))]
def v7_6 : List VI := [.call (some 38) none (.fn 15) [.t 5], .op (some 39) none (.p (.len false (.t 38))), .op (some 40) none (.p (.mov (.c (.int .i64 0))))]
def v7_7 : List VI := [.op (some 41) none (.p (.bin .lss (.t 40) (.t 39)))]
def v7_8 : List VI := [.op (some 42) none (.p (.ixs 2 (.t 38) (.t 40))), .op (some 43) none (.ld true 2 (.t 42)), .op (some 8) none (.new [.nilf, .nilf]), .op none none (.st 2 (.t 8) (.t 43))]
def v7_9 : List VI := [.op (some 44) none (.p (.fda 1 (.t 8))), .op (some 45) none (.ld false 1 (.t 44)), .op (some 46) none (.p (.mov (.t 6))), .call (some 47) none (.val (.t 45)) [.t 46]]
def v7_10 : VC := .seq (.reg v7_8) (.reg v7_9)
def v7_11 : List VI := [.op (some 48) none (.p (.bin .add (.t 40) (.c (.int .i64 1)))), .op (some 40) none (.p (.mov (.t 48)))]
def v7_12 : VC := .seq (.reg v7_7) (.seq (.cond (.t 41) .skip (.exit 0)) (.seq (.block 1 v7_10) (.reg v7_11)))
def v7_13 : VC := .loop v7_12
def v7_14 : List VI := [.op (some 49) none (.p (.mov (.t 6))), .op (some 50) none (.p (.nck (.t 49))), .op (some 51) none (.p (.fda 1 (.t 50))), .op (some 52) none (.ld false 1 (.t 51)), .op (some 53) none (.p (.eq true .i (.t 52) (.c (.int .i64 0))))]
def v7_15 : List DS := [.mk 0 true (.op (some 54) none (.p (.bld [.int .u64 (nl 0), .int .u64 (nl 0), .int .u64 (nl 0), .int .u64 (nl 0), .int .u64 (nl 0), .int .u64 (nl 0), .int .u64 (nl 0), .int .u64 (nl 0), .int .u64 (nl 0), .int .u64 (nl 0), .int .u64 (nl 0), .int .u64 (nl 0), .int .u64 (nl 0), .int .u64 (nl 0), .int .u64 (nl 0), .int .u64 (nl 0), .int .u64 (nl 0), .int .u64 (nl 0), .int .u64 (nl 0), .int .u64 (nl 0), .int .u64 (nl 0), .int .u64 (nl 0), .int .u64 (nl 0), .int .u64 (nl 0), .int .u64 (nl 0), .int .u64 (nl 0), .int .u64 (nl 0), .int .u64 (nl 0), .int .u64 (nl 0), .int .u64 (nl 0), .int .u64 (nl 0), .int .u64 (nl 0), .int .u64 (nl 0), .int .u64 (nl 0), .int .u64 (nl 0), .int .u64 (nl 0), .int .u64 (nl 0), .int .u64 (nl 0), .int .u64 (nl 0), .int .u64 (nl 0), .int .u64 (nl 0), .int .u64 (nl 0), .int .u64 (nl 0), .int .u64 (nl 0), .nils, .nils, .int .u64 (nl 0), .int .u64 (nl 0), .int .u64 (nl 0), .int .u64 (nl 0), .int .u64 (nl 0), .int .u64 (nl 0), .int .u64 (nl 0), .int .u64 (nl 0)] []))) [] [], .mk 1 true (.op (some 55) none (.p (.mov (.t 6)))) [] [], .mk 2 true (.op (some 56) none (.p (.nck (.t 55)))) [] [], .mk 3 true (.op (some 57) none (.p (.fda 1 (.t 56)))) [] [], .mk 4 true (.op (some 58) none (.ld false 1 (.t 57))) [] [], .mk 5 false (.op none none (.st 54 (.t 2) (.t 54))) [57] [], .mk 6 false (.op (some 3) none (.p (.mov (.t 58)))) [] []]
def v7_16 : List VI := [.op (some 59) none (.ld true 54 (.t 5)), .op none none (.st 54 (.t 2) (.t 59)), .op (some 3) none (.p (.mov (.c (.int .i64 0))))]
def v7 : VC := .seq (.reg v7_0) (.seq (.reg v7_1) (.seq (.seq (.reg v7_2) (.cond (.t 28) (.seq (.reg v7_3) .ret) .skip)) (.seq (.drw v7_4) (.seq (.reg v7_5) (.seq (.seq (.reg v7_6) (.block 0 v7_13)) (.seq (.seq (.reg v7_14) (.cond (.t 53) (.seq (.drw v7_15) .ret) .skip)) (.seq (.reg v7_16) .ret)))))))
def rr7 : List RV := [.m 2 true 54, .t 3]
theorem code7 : (Tryd.f7.body).bind (cCode Tryd.prog) = some v7 := by kernel_rfl
theorem res7 : cRVs Tryd.prog (Tryd.f7.results.toList) = some rr7 := by kernel_rfl
theorem nt7 : Tryd.f7.ntmps = 60 := by kernel_rfl
theorem nm7 : (Tryd.f7.name == "runtime.NumGoroutine") = false := by kernel_rfl
def v8_0 : List VI := [.op (some 2) none (.box (.t 0)), .op (some 3) none (.box (.t 1)), .op (some 4) none (.p (.mov (.c (.bool false))))]
def v8_1 : List VI := [.op (some 5) none (.p (.fda 0 (.t 2))), .op (some 6) none (.ld true 4 (.t 5)), .op (some 7) none (.p (.fda 0 (.t 3))), .op (some 8) none (.ld true 26 (.t 7)), .call (some 9) none (.fn 18) [.t 6, .t 8], .op (some 10) none (.p (.un .not (.t 9))), .op (some 11) none (.p (.mov (.t 10))), .op (some 12) (some (11, false)) (.p (.fda 4 (.t 2))), .op (some 13) (some (11, false)) (.ld true 4 (.t 12)), .op (some 14) (some (11, false)) (.p (.fda 26 (.t 3))), .op (some 15) (some (11, false)) (.ld true 26 (.t 14)), .call (some 16) (some (11, false)) (.fn 18) [.t 13, .t 15], .op (some 17) (some (11, false)) (.p (.un .not (.t 16))), .op (some 18) none (.p (.pick (.t 11) (.c (.bool true)) (.t 17))), .op (some 19) none (.p (.mov (.t 18))), .op (some 20) (some (19, false)) (.p (.fda 8 (.t 2))), .op (some 21) (some (19, false)) (.ld true 4 (.t 20)), .op (some 22) (some (19, false)) (.p (.fda 52 (.t 3))), .op (some 23) (some (19, false)) (.ld true 26 (.t 22)), .call (some 24) (some (19, false)) (.fn 18) [.t 21, .t 23], .op (some 25) (some (19, false)) (.p (.un .not (.t 24))), .op (some 26) none (.p (.pick (.t 19) (.c (.bool true)) (.t 25))), .op (some 27) none (.p (.mov (.t 26))), .op (some 28) (some (27, false)) (.p (.fda 12 (.t 2))), .op (some 29) (some (27, false)) (.ld true 4 (.t 28)), .op (some 30) (some (27, false)) (.p (.fda 78 (.t 3))), .op (some 31) (some (27, false)) (.ld true 26 (.t 30)), .call (some 32) (some (27, false)) (.fn 18) [.t 29, .t 31], .op (some 33) (some (27, false)) (.p (.un .not (.t 32))), .op (some 34) none (.p (.pick (.t 27) (.c (.bool true)) (.t 33))), .op (some 35) none (.p (.mov (.t 34))), .op (some 36) (some (35, false)) (.p (.fda 16 (.t 2))), .op (some 37) (some (35, false)) (.ld true 4 (.t 36)), .op (some 38) (some (35, false)) (.p (.fda 104 (.t 3))), .op (some 39) (some (35, false)) (.ld true 26 (.t 38)), .call (some 40) (some (35, false)) (.fn 18) [.t 37, .t 39], .op (some 41) (some (35, false)) (.p (.un .not (.t 40))), .op (some 42) none (.p (.pick (.t 35) (.c (.bool true)) (.t 41))), .op (some 43) none (.p (.mov (.t 42))), .op (some 44) (some (43, false)) (.p (.fda 20 (.t 2))), .op (some 45) (some (43, false)) (.ld true 4 (.t 44)), .op (some 46) (some (43, false)) (.p (.fda 130 (.t 3))), .op (some 47) (some (43, false)) (.ld true 26 (.t 46)), .call (some 48) (some (43, false)) (.fn 18) [.t 45, .t 47], .op (some 49) (some (43, false)) (.p (.un .not (.t 48))), .op (some 50) none (.p (.pick (.t 43) (.c (.bool true)) (.t 49))), .op (some 51) none (.p (.mov (.t 50))), .op (some 52) (some (51, false)) (.p (.fda 24 (.t 2))), .op (some 53) (some (51, false)) (.ld true 4 (.t 52)), .op (some 54) (some (51, false)) (.p (.fda 156 (.t 3))), .op (some 55) (some (51, false)) (.ld true 26 (.t 54)), .call (some 56) (some (51, false)) (.fn 18) [.t 53, .t 55], .op (some 57) (some (51, false)) (.p (.un .not (.t 56))), .op (some 58) none (.p (.pick (.t 51) (.c (.bool true)) (.t 57))), .op (some 59) none (.p (.mov (.t 58))), .op (some 60) (some (59, false)) (.p (.fda 28 (.t 2))), .op (some 61) (some (59, false)) (.ld true 4 (.t 60)), .op (some 62) (some (59, false)) (.p (.fda 182 (.t 3))), .op (some 63) (some (59, false)) (.ld true 26 (.t 62)), .call (some 64) (some (59, false)) (.fn 18) [.t 61, .t 63], .op (some 65) (some (59, false)) (.p (.un .not (.t 64))), .op (some 66) none (.p (.pick (.t 59) (.c (.bool true)) (.t 65)))]
def v8_2 : List VI := [.op (some 4) none (.p (.mov (.c (.bool false))))]
def v8_3 : List VI := [.op (some 67) none (.p (.fda 32 (.t 2))), .op (some 68) none (.ld true 4 (.t 67)), .op (some 69) none (.p (.fda 208 (.t 3))), .op (some 70) none (.ld true 4 (.t 69)), .call (some 71) none (.fn 19) [.t 68, .t 70], .op (some 72) none (.p (.mov (.t 71))), .op (some 73) (some (72, true)) (.p (.fda 36 (.t 2))), .op (some 74) (some (72, true)) (.ld true 4 (.t 73)), .op (some 75) (some (72, true)) (.p (.fda 212 (.t 3))), .op (some 76) (some (72, true)) (.ld true 4 (.t 75)), .call (some 77) (some (72, true)) (.fn 19) [.t 74, .t 76], .op (some 78) none (.p (.pick (.t 72) (.t 77) (.c (.bool false)))), .op (some 79) none (.p (.mov (.t 78))), .op (some 80) (some (79, true)) (.p (.fda 40 (.t 2))), .op (some 81) (some (79, true)) (.ld true 4 (.t 80)), .op (some 82) (some (79, true)) (.p (.fda 216 (.t 3))), .op (some 83) (some (79, true)) (.ld true 4 (.t 82)), .call (some 84) (some (79, true)) (.fn 19) [.t 81, .t 83], .op (some 85) none (.p (.pick (.t 79) (.t 84) (.c (.bool false)))), .op (some 86) none (.p (.mov (.t 85))), .op (some 87) (some (86, true)) (.p (.fda 46 (.t 2))), .op (some 88) (some (86, true)) (.ld true 4 (.t 87)), .op (some 89) (some (86, true)) (.p (.fda 222 (.t 3))), .op (some 90) (some (86, true)) (.ld true 4 (.t 89)), .call (some 91) (some (86, true)) (.fn 19) [.t 88, .t 90], .op (some 92) none (.p (.pick (.t 86) (.t 91) (.c (.bool false)))), .op (some 93) none (.p (.mov (.t 92))), .op (some 94) (some (93, true)) (.p (.fda 50 (.t 2))), .op (some 95) (some (93, true)) (.ld true 4 (.t 94)), .op (some 96) (some (93, true)) (.p (.fda 226 (.t 3))), .op (some 97) (some (93, true)) (.ld true 4 (.t 96)), .call (some 98) (some (93, true)) (.fn 19) [.t 95, .t 97], .op (some 99) none (.p (.pick (.t 93) (.t 98) (.c (.bool false)))), .op (some 100) none (.p (.mov (.t 99))), .op (some 101) (some (100, true)) (.p (.fda 44 (.t 2))), .op (some 102) (some (100, true)) (.ld false 1 (.t 101)), .op (some 103) (some (100, true)) (.p (.fda 220 (.t 3))), .op (some 104) (some (100, true)) (.ld false 1 (.t 103)), .call (some 105) (some (100, true)) (.fn 20) [.t 102, .t 104], .op (some 106) none (.p (.pick (.t 100) (.t 105) (.c (.bool false)))), .op (some 107) none (.p (.mov (.t 106))), .op (some 108) (some (107, true)) (.p (.fda 45 (.t 2))), .op (some 109) (some (107, true)) (.ld false 1 (.t 108)), .op (some 110) (some (107, true)) (.p (.fda 221 (.t 3))), .op (some 111) (some (107, true)) (.ld false 1 (.t 110)), .call (some 112) (some (107, true)) (.fn 20) [.t 109, .t 111], .op (some 113) none (.p (.pick (.t 107) (.t 112) (.c (.bool false)))), .op (some 4) none (.p (.mov (.t 113)))]
def v8 : VC := .seq (.reg v8_0) (.seq (.seq (.reg v8_1) (.cond (.t 66) (.seq (.reg v8_2) .ret) .skip)) (.seq (.reg v8_3) .ret))
def rr8 : List RV := [.t 4]
theorem code8 : (Tryd.f8.body).bind (cCode Tryd.prog) = some v8 := by kernel_rfl
theorem res8 : cRVs Tryd.prog (Tryd.f8.results.toList) = some rr8 := by kernel_rfl
theorem nt8 : Tryd.f8.ntmps = 114 := by kernel_rfl
theorem nm8 : (Tryd.f8.name == "runtime.NumGoroutine") = false := by kernel_rfl
def v9_0 : List VI := [.op (some 4) none (.new [.int .i64 0, .int .i64 0, .int .i64 0, .int .i64 0, .int .i64 0, .int .i64 0, .int .i64 0, .int .i64 0, .int .i64 0, .int .i64 0, .int .i64 0, .int .i64 0, .int .i64 0, .int .i64 0, .int .i64 0, .int .i64 0, .int .i64 0, .int .i64 0, .int .i64 0, .int .i64 0, .int .i64 0, .int .u64 (nl 0), .int .u64 (nl 0), .int .u64 (nl 0), .int .u64 (nl 0), .nils, .int .i64 0, .int .i64 0, .int .i64 0, .int .i64 0, .int .i64 0, .int .i64 0, .int .i64 0, .int .i64 0, .int .i64 0, .int .i64 0, .int .i64 0, .int .i64 0, .int .i64 0, .int .i64 0, .int .i64 0, .int .i64 0, .int .i64 0, .int .i64 0, .int .i64 0, .int .i64 0, .int .i64 0, .int .u64 (nl 0), .int .u64 (nl 0), .int .u64 (nl 0), .int .u64 (nl 0), .nils, .int .i64 0, .int .i64 0, .int .i64 0, .int .i64 0, .int .i64 0, .int .i64 0, .int .i64 0, .int .i64 0, .int .i64 0, .int .i64 0, .int .i64 0, .int .i64 0, .int .i64 0, .int .i64 0, .int .i64 0, .int .i64 0, .int .i64 0, .int .i64 0, .int .i64 0, .int .i64 0, .int .i64 0, .int .u64 (nl 0), .int .u64 (nl 0), .int .u64 (nl 0), .int .u64 (nl 0), .nils, .int .i64 0, .int .i64 0, .int .i64 0, .int .i64 0, .int .i64 0, .int .i64 0, .int .i64 0, .int .i64 0, .int .i64 0, .int .i64 0, .int .i64 0, .int .i64 0, .int .i64 0, .int .i64 0, .int .i64 0, .int .i64 0, .int .i64 0, .int .i64 0, .int .i64 0, .int .i64 0, .int .i64 0, .int .u64 (nl 0), .int .u64 (nl 0), .int .u64 (nl 0), .int .u64 (nl 0), .nils, .int .i64 0, .int .i64 0, .int .i64 0, .int .i64 0, .int .i64 0, .int .i64 0, .int .i64 0, .int .i64 0, .int .i64 0, .int .i64 0, .int .i64 0, .int .i64 0, .int .i64 0, .int .i64 0, .int .i64 0, .int .i64 0, .int .i64 0, .int .i64 0, .int .i64 0, .int .i64 0, .int .i64 0, .int .u64 (nl 0), .int .u64 (nl 0), .int .u64 (nl 0), .int .u64 (nl 0), .nils, .int .i64 0, .int .i64 0, .int .i64 0, .int .i64 0, .int .i64 0, .int .i64 0, .int .i64 0, .int .i64 0, .int .i64 0, .int .i64 0, .int .i64 0, .int .i64 0, .int .i64 0, .int .i64 0, .int .i64 0, .int .i64 0, .int .i64 0, .int .i64 0, .int .i64 0, .int .i64 0, .int .i64 0, .int .u64 (nl 0), .int .u64 (nl 0), .int .u64 (nl 0), .int .u64 (nl 0), .nils, .int .i64 0, .int .i64 0, .int .i64 0, .int .i64 0, .int .i64 0, .int .i64 0, .int .i64 0, .int .i64 0, .int .i64 0, .int .i64 0, .int .i64 0, .int .i64 0, .int .i64 0, .int .i64 0, .int .i64 0, .int .i64 0, .int .i64 0, .int .i64 0, .int .i64 0, .int .i64 0, .int .i64 0, .int .u64 (nl 0), .int .u64 (nl 0), .int .u64 (nl 0), .int .u64 (nl 0), .nils, .int .i64 0, .int .i64 0, .int .i64 0, .int .i64 0, .int .i64 0, .int .i64 0, .int .i64 0, .int .i64 0, .int .i64 0, .int .i64 0, .int .i64 0, .int .i64 0, .int .i64 0, .int .i64 0, .int .i64 0, .int .i64 0, .int .i64 0, .int .i64 0, .int .i64 0, .int .i64 0, .int .i64 0, .int .u64 (nl 0), .int .u64 (nl 0), .int .u64 (nl 0), .int .u64 (nl 0), .nils, .int .u64 (nl 0), .int .u64 (nl 0), .int .u64 (nl 0), .int .u64 (nl 0), .int .u64 (nl 0), .int .u64 (nl 0), .int .u64 (nl 0), .int .u64 (nl 0), .int .u64 (nl 0), .int .u64 (nl 0), .int .u64 (nl 0), .int .u64 (nl 0), .nils, .nils, .int .u64 (nl 0), .int .u64 (nl 0), .int .u64 (nl 0), .int .u64 (nl 0), .int .u64 (nl 0), .int .u64 (nl 0), .int .u64 (nl 0), .int .u64 (nl 0)]), .op (some 5) none (.p (.mov (.c (.int .i64 0))))]
def v9_1 : List VI := [.op (some 10) none (.p (.mov (.t 1))), .op (some 11) none (.p (.len false (.t 10))), .op (some 12) none (.p (.bin .quo (.t 11) (.c (.int .i64 32)))), .op (some 13) none (.p (.bin .sub (.t 12) (.c (.int .i64 13)))), .op (some 14) none (.p (.bin .quo (.t 13) (.c (.int .i64 2)))), .op (some 6) none (.p (.mov (.t 14)))]
def v9_2 : List VI := [.op (some 15) none (.p (.mov (.t 6))), .op (some 16) none (.p (.bin .lss (.t 15) (.c (.int .i64 0)))), .op (some 17) none (.p (.mov (.t 16))), .op (some 18) (some (17, false)) (.p (.mov (.t 6))), .op (some 19) (some (17, false)) (.p (.bin .gtr (.t 18) (.c (.int .i64 10)))), .op (some 20) none (.p (.pick (.t 17) (.c (.bool true)) (.t 19))), .op (some 21) none (.p (.mov (.t 20))), .op (some 22) (some (21, false)) (.p (.mov (.t 1))), .op (some 23) (some (21, false)) (.p (.len false (.t 22))), .op (some 24) (some (21, false)) (.p (.mov (.t 6))), .op (some 25) (some (21, false)) (.p (.bin .mul (.c (.int .i64 2)) (.t 24))), .op (some 26) (some (21, false)) (.p (.bin .add (.c (.int .i64 13)) (.t 25))), .op (some 27) (some (21, false)) (.p (.bin .mul (.c (.int .i64 32)) (.t 26))), .op (some 28) (some (21, false)) (.p (.eq true .i (.t 23) (.t 27))), .op (some 29) none (.p (.pick (.t 21) (.c (.bool true)) (.t 28)))]
def v9_3 : List VI := [.op (some 30) none (.p (.bld [.int .i64 0, .int .i64 0, .int .i64 0, .int .i64 0, .int .i64 0, .int .i64 0, .int .i64 0, .int .i64 0, .int .i64 0, .int .i64 0, .int .i64 0, .int .i64 0, .int .i64 0, .int .i64 0, .int .i64 0, .int .i64 0, .int .i64 0, .int .i64 0, .int .i64 0, .int .i64 0, .int .i64 0, .int .u64 (nl 0), .int .u64 (nl 0), .int .u64 (nl 0), .int .u64 (nl 0), .nils, .int .i64 0, .int .i64 0, .int .i64 0, .int .i64 0, .int .i64 0, .int .i64 0, .int .i64 0, .int .i64 0, .int .i64 0, .int .i64 0, .int .i64 0, .int .i64 0, .int .i64 0, .int .i64 0, .int .i64 0, .int .i64 0, .int .i64 0, .int .i64 0, .int .i64 0, .int .i64 0, .int .i64 0, .int .u64 (nl 0), .int .u64 (nl 0), .int .u64 (nl 0), .int .u64 (nl 0), .nils, .int .i64 0, .int .i64 0, .int .i64 0, .int .i64 0, .int .i64 0, .int .i64 0, .int .i64 0, .int .i64 0, .int .i64 0, .int .i64 0, .int .i64 0, .int .i64 0, .int .i64 0, .int .i64 0, .int .i64 0, .int .i64 0, .int .i64 0, .int .i64 0, .int .i64 0, .int .i64 0, .int .i64 0, .int .u64 (nl 0), .int .u64 (nl 0), .int .u64 (nl 0), .int .u64 (nl 0), .nils, .int .i64 0, .int .i64 0, .int .i64 0, .int .i64 0, .int .i64 0, .int .i64 0, .int .i64 0, .int .i64 0, .int .i64 0, .int .i64 0, .int .i64 0, .int .i64 0, .int .i64 0, .int .i64 0, .int .i64 0, .int .i64 0, .int .i64 0, .int .i64 0, .int .i64 0, .int .i64 0, .int .i64 0, .int .u64 (nl 0), .int .u64 (nl 0), .int .u64 (nl 0), .int .u64 (nl 0), .nils, .int .i64 0, .int .i64 0, .int .i64 0, .int .i64 0, .int .i64 0, .int .i64 0, .int .i64 0, .int .i64 0, .int .i64 0, .int .i64 0, .int .i64 0, .int .i64 0, .int .i64 0, .int .i64 0, .int .i64 0, .int .i64 0, .int .i64 0, .int .i64 0, .int .i64 0, .int .i64 0, .int .i64 0, .int .u64 (nl 0), .int .u64 (nl 0), .int .u64 (nl 0), .int .u64 (nl 0), .nils, .int .i64 0, .int .i64 0, .int .i64 0, .int .i64 0, .int .i64 0, .int .i64 0, .int .i64 0, .int .i64 0, .int .i64 0, .int .i64 0, .int .i64 0, .int .i64 0, .int .i64 0, .int .i64 0, .int .i64 0, .int .i64 0, .int .i64 0, .int .i64 0, .int .i64 0, .int .i64 0, .int .i64 0, .int .u64 (nl 0), .int .u64 (nl 0), .int .u64 (nl 0), .int .u64 (nl 0), .nils, .int .i64 0, .int .i64 0, .int .i64 0, .int .i64 0, .int .i64 0, .int .i64 0, .int .i64 0, .int .i64 0, .int .i64 0, .int .i64 0, .int .i64 0, .int .i64 0, .int .i64 0, .int .i64 0, .int .i64 0, .int .i64 0, .int .i64 0, .int .i64 0, .int .i64 0, .int .i64 0, .int .i64 0, .int .u64 (nl 0), .int .u64 (nl 0), .int .u64 (nl 0), .int .u64 (nl 0), .nils, .int .i64 0, .int .i64 0, .int .i64 0, .int .i64 0, .int .i64 0, .int .i64 0, .int .i64 0, .int .i64 0, .int .i64 0, .int .i64 0, .int .i64 0, .int .i64 0, .int .i64 0, .int .i64 0, .int .i64 0, .int .i64 0, .int .i64 0, .int .i64 0, .int .i64 0, .int .i64 0, .int .i64 0, .int .u64 (nl 0), .int .u64 (nl 0), .int .u64 (nl 0), .int .u64 (nl 0), .nils, .int .u64 (nl 0), .int .u64 (nl 0), .int .u64 (nl 0), .int .u64 (nl 0), .int .u64 (nl 0), .int .u64 (nl 0), .int .u64 (nl 0), .int .u64 (nl 0), .int .u64 (nl 0), .int .u64 (nl 0), .int .u64 (nl 0), .int .u64 (nl 0), .nils, .nils, .int .u64 (nl 0), .int .u64 (nl 0), .int .u64 (nl 0), .int .u64 (nl 0), .int .u64 (nl 0), .int .u64 (nl 0), .int .u64 (nl 0), .int .u64 (nl 0)] [])), .op none none (.st 230 (.t 4) (.t 30)), .op (some 5) none (.p (.mov (.c (.int .i64 2))))]
def v9_4 : List VI := [.op (some 31) none (.p (.mov (.t 0))), .op (some 32) none (.p (.mov (.t 1))), .op (some 33) none (.p (.bld [.int .i64 0, .nils, .int .i64 0] [(0, 1, .t 31), (1, 1, .t 32)])), .op (some 34) none (.box (.t 33)), .op (some 7) none (.p (.mov (.t 34)))]
def v9_5 : List VI := [.op (some 8) none (.new [.int .i64 0, .int .i64 0, .int .i64 0, .int .i64 0, .int .i64 0, .int .i64 0, .int .i64 0, .int .i64 0, .int .i64 0, .int .i64 0, .int .i64 0, .int .i64 0, .int .i64 0, .int .i64 0, .int .i64 0, .int .i64 0, .int .i64 0, .int .i64 0, .int .i64 0, .int .i64 0, .int .i64 0, .int .u64 (nl 0), .int .u64 (nl 0), .int .u64 (nl 0), .int .u64 (nl 0), .nils, .int .i64 0, .int .i64 0, .int .i64 0, .int .i64 0, .int .i64 0, .int .i64 0, .int .i64 0, .int .i64 0, .int .i64 0, .int .i64 0, .int .i64 0, .int .i64 0, .int .i64 0, .int .i64 0, .int .i64 0, .int .i64 0, .int .i64 0, .int .i64 0, .int .i64 0, .int .i64 0, .int .i64 0, .int .u64 (nl 0), .int .u64 (nl 0), .int .u64 (nl 0), .int .u64 (nl 0), .nils, .int .i64 0, .int .i64 0, .int .i64 0, .int .i64 0, .int .i64 0, .int .i64 0, .int .i64 0, .int .i64 0, .int .i64 0, .int .i64 0, .int .i64 0, .int .i64 0, .int .i64 0, .int .i64 0, .int .i64 0, .int .i64 0, .int .i64 0, .int .i64 0, .int .i64 0, .int .i64 0, .int .i64 0, .int .u64 (nl 0), .int .u64 (nl 0), .int .u64 (nl 0), .int .u64 (nl 0), .nils, .int .i64 0, .int .i64 0, .int .i64 0, .int .i64 0, .int .i64 0, .int .i64 0, .int .i64 0, .int .i64 0, .int .i64 0, .int .i64 0, .int .i64 0, .int .i64 0, .int .i64 0, .int .i64 0, .int .i64 0, .int .i64 0, .int .i64 0, .int .i64 0, .int .i64 0, .int .i64 0, .int .i64 0, .int .u64 (nl 0), .int .u64 (nl 0), .int .u64 (nl 0), .int .u64 (nl 0), .nils, .int .i64 0, .int .i64 0, .int .i64 0, .int .i64 0, .int .i64 0, .int .i64 0, .int .i64 0, .int .i64 0, .int .i64 0, .int .i64 0, .int .i64 0, .int .i64 0, .int .i64 0, .int .i64 0, .int .i64 0, .int .i64 0, .int .i64 0, .int .i64 0, .int .i64 0, .int .i64 0, .int .i64 0, .int .u64 (nl 0), .int .u64 (nl 0), .int .u64 (nl 0), .int .u64 (nl 0), .nils, .int .i64 0, .int .i64 0, .int .i64 0, .int .i64 0, .int .i64 0, .int .i64 0, .int .i64 0, .int .i64 0, .int .i64 0, .int .i64 0, .int .i64 0, .int .i64 0, .int .i64 0, .int .i64 0, .int .i64 0, .int .i64 0, .int .i64 0, .int .i64 0, .int .i64 0, .int .i64 0, .int .i64 0, .int .u64 (nl 0), .int .u64 (nl 0), .int .u64 (nl 0), .int .u64 (nl 0), .nils, .int .i64 0, .int .i64 0, .int .i64 0, .int .i64 0, .int .i64 0, .int .i64 0, .int .i64 0, .int .i64 0, .int .i64 0, .int .i64 0, .int .i64 0, .int .i64 0, .int .i64 0, .int .i64 0, .int .i64 0, .int .i64 0, .int .i64 0, .int .i64 0, .int .i64 0, .int .i64 0, .int .i64 0, .int .u64 (nl 0), .int .u64 (nl 0), .int .u64 (nl 0), .int .u64 (nl 0), .nils, .int .i64 0, .int .i64 0, .int .i64 0, .int .i64 0, .int .i64 0, .int .i64 0, .int .i64 0, .int .i64 0, .int .i64 0, .int .i64 0, .int .i64 0, .int .i64 0, .int .i64 0, .int .i64 0, .int .i64 0, .int .i64 0, .int .i64 0, .int .i64 0, .int .i64 0, .int .i64 0, .int .i64 0, .int .u64 (nl 0), .int .u64 (nl 0), .int .u64 (nl 0), .int .u64 (nl 0), .nils, .int .u64 (nl 0), .int .u64 (nl 0), .int .u64 (nl 0), .int .u64 (nl 0), .int .u64 (nl 0), .int .u64 (nl 0), .int .u64 (nl 0), .int .u64 (nl 0), .int .u64 (nl 0), .int .u64 (nl 0), .int .u64 (nl 0), .int .u64 (nl 0), .nils, .nils, .int .u64 (nl 0), .int .u64 (nl 0), .int .u64 (nl 0), .int .u64 (nl 0), .int .u64 (nl 0), .int .u64 (nl 0), .int .u64 (nl 0), .int .u64 (nl 0)])]
def v9_6 : List VI := [.op (some 35) none (.p (.mov (.t 7))), .call (some 36) none (.fn 21) [.t 35], .op (some 37) none (.p (.fda 0 (.t 8))), .op none none (.st 26 (.t 37) (.t 36))]
def v9_7 : List VI := [.op (some 38) none (.p (.mov (.t 7))), .call (some 39) none (.fn 21) [.t 38], .op (some 40) none (.p (.fda 26 (.t 8))), .op none none (.st 26 (.t 40) (.t 39))]
def v9_8 : List VI := [.op (some 41) none (.p (.mov (.t 7))), .call (some 42) none (.fn 21) [.t 41], .op (some 43) none (.p (.fda 52 (.t 8))), .op none none (.st 26 (.t 43) (.t 42))]
def v9_9 : List VI := [.op (some 44) none (.p (.mov (.t 7))), .call (some 45) none (.fn 21) [.t 44], .op (some 46) none (.p (.fda 78 (.t 8))), .op none none (.st 26 (.t 46) (.t 45))]
def v9_10 : List VI := [.op (some 47) none (.p (.mov (.t 7))), .call (some 48) none (.fn 21) [.t 47], .op (some 49) none (.p (.fda 104 (.t 8))), .op none none (.st 26 (.t 49) (.t 48))]
def v9_11 : List VI := [.op (some 50) none (.p (.mov (.t 7))), .call (some 51) none (.fn 21) [.t 50], .op (some 52) none (.p (.fda 130 (.t 8))), .op none none (.st 26 (.t 52) (.t 51))]
def v9_12 : List VI := [.op (some 53) none (.p (.mov (.t 7))), .call (some 54) none (.fn 21) [.t 53], .op (some 55) none (.p (.fda 156 (.t 8))), .op none none (.st 26 (.t 55) (.t 54))]
def v9_13 : List VI := [.op (some 56) none (.p (.mov (.t 7))), .call (some 57) none (.fn 21) [.t 56], .op (some 58) none (.p (.fda 182 (.t 8))), .op none none (.st 26 (.t 58) (.t 57))]
def v9_14 : List VI := [.op (some 59) none (.p (.mov (.t 7))), .call (some 60) none (.fn 22) [.t 59], .op (some 61) none (.p (.fda 208 (.t 8))), .op none none (.st 4 (.t 61) (.t 60))]
def v9_15 : List VI := [.op (some 62) none (.p (.mov (.t 7))), .call (some 63) none (.fn 22) [.t 62], .op (some 64) none (.p (.fda 212 (.t 8))), .op none none (.st 4 (.t 64) (.t 63))]
def v9_16 : List VI := [.op (some 65) none (.p (.mov (.t 7))), .call (some 66) none (.fn 22) [.t 65], .op (some 67) none (.p (.fda 216 (.t 8))), .op none none (.st 4 (.t 67) (.t 66))]
def v9_17 : List VI := [.op (some 9) none (.p (.mov (.c (.int .i64 0))))]
def v9_18 : List VI := [.op (some 68) none (.p (.mov (.t 9))), .op (some 69) none (.p (.mov (.t 6))), .op (some 70) none (.p (.bin .lss (.t 68) (.t 69)))]
def v9_19 : List DS := [.mk 0 true (.op (some 73) none (.p (.fda 220 (.t 8)))) [] [], .mk 1 true (.op (some 74) none (.ld false 1 (.t 73))) [] [], .mk 2 true (.op (some 75) none (.p (.mov (.t 7)))) [] [], .mk 3 false (.call (some 76) none (.fn 21) [.t 75]) [73] [], .mk 4 true (.op (some 77) none (.bsl 1 [.int .i64 0, .int .i64 0, .int .i64 0, .int .i64 0, .int .i64 0, .int .i64 0, .int .i64 0, .int .i64 0, .int .i64 0, .int .i64 0, .int .i64 0, .int .i64 0, .int .i64 0, .int .i64 0, .int .i64 0, .int .i64 0, .int .i64 0, .int .i64 0, .int .i64 0, .int .i64 0, .int .i64 0, .int .u64 (nl 0), .int .u64 (nl 0), .int .u64 (nl 0), .int .u64 (nl 0), .nils] [(0, 26, .t 76)])) [] [], .mk 5 false (.op (some 78) none (.app 26 224 false (.t 74) (.t 77))) [] [], .mk 6 true (.op (some 79) none (.p (.fda 220 (.t 8)))) [] [], .mk 7 false (.op none none (.st 1 (.t 79) (.t 78))) [] []]
def v9_20 : List DS := [.mk 0 true (.op (some 80) none (.p (.fda 221 (.t 8)))) [] [], .mk 1 true (.op (some 81) none (.ld false 1 (.t 80))) [] [], .mk 2 true (.op (some 82) none (.p (.mov (.t 7)))) [] [], .mk 3 false (.call (some 83) none (.fn 21) [.t 82]) [80] [], .mk 4 true (.op (some 84) none (.bsl 1 [.int .i64 0, .int .i64 0, .int .i64 0, .int .i64 0, .int .i64 0, .int .i64 0, .int .i64 0, .int .i64 0, .int .i64 0, .int .i64 0, .int .i64 0, .int .i64 0, .int .i64 0, .int .i64 0, .int .i64 0, .int .i64 0, .int .i64 0, .int .i64 0, .int .i64 0, .int .i64 0, .int .i64 0, .int .u64 (nl 0), .int .u64 (nl 0), .int .u64 (nl 0), .int .u64 (nl 0), .nils] [(0, 26, .t 83)])) [] [], .mk 5 false (.op (some 85) none (.app 26 224 false (.t 81) (.t 84))) [] [], .mk 6 true (.op (some 86) none (.p (.fda 221 (.t 8)))) [] [], .mk 7 false (.op none none (.st 1 (.t 86) (.t 85))) [] []]
def v9_21 : VC := .seq (.drw v9_19) (.drw v9_20)
def v9_22 : List VI := [.op (some 71) none (.p (.mov (.t 9))), .op (some 72) none (.p (.bin .add (.t 71) (.c (.int .i64 1)))), .op (some 9) none (.p (.mov (.t 72)))]
def v9_23 : VC := .seq (.seq (.reg v9_18) (.cond (.t 70) .skip (.exit 0))) (.seq (.block 1 v9_21) (.reg v9_22))
def v9_24 : VC := .loop v9_23
def v9_25 : List VI := [.op (some 87) none (.p (.mov (.t 7))), .call (some 88) none (.fn 22) [.t 87], .op (some 89) none (.p (.fda 222 (.t 8))), .op none none (.st 4 (.t 89) (.t 88))]
def v9_26 : List VI := [.op (some 90) none (.p (.mov (.t 7))), .call (some 91) none (.fn 22) [.t 90], .op (some 92) none (.p (.fda 226 (.t 8))), .op none none (.st 4 (.t 92) (.t 91))]
def v9_27 : List VI := [.op (some 93) none (.p (.mov (.t 7))), .op (some 94) none (.p (.nck (.t 93))), .op (some 95) none (.p (.fda 2 (.t 94))), .op (some 96) none (.ld false 1 (.t 95)), .op (some 97) none (.p (.eq true .i (.t 96) (.c (.int .i64 0))))]
def v9_28 : List DS := [.mk 0 true (.op (some 98) none (.p (.bld [.int .i64 0, .int .i64 0, .int .i64 0, .int .i64 0, .int .i64 0, .int .i64 0, .int .i64 0, .int .i64 0, .int .i64 0, .int .i64 0, .int .i64 0, .int .i64 0, .int .i64 0, .int .i64 0, .int .i64 0, .int .i64 0, .int .i64 0, .int .i64 0, .int .i64 0, .int .i64 0, .int .i64 0, .int .u64 (nl 0), .int .u64 (nl 0), .int .u64 (nl 0), .int .u64 (nl 0), .nils, .int .i64 0, .int .i64 0, .int .i64 0, .int .i64 0, .int .i64 0, .int .i64 0, .int .i64 0, .int .i64 0, .int .i64 0, .int .i64 0, .int .i64 0, .int .i64 0, .int .i64 0, .int .i64 0, .int .i64 0, .int .i64 0, .int .i64 0, .int .i64 0, .int .i64 0, .int .i64 0, .int .i64 0, .int .u64 (nl 0), .int .u64 (nl 0), .int .u64 (nl 0), .int .u64 (nl 0), .nils, .int .i64 0, .int .i64 0, .int .i64 0, .int .i64 0, .int .i64 0, .int .i64 0, .int .i64 0, .int .i64 0, .int .i64 0, .int .i64 0, .int .i64 0, .int .i64 0, .int .i64 0, .int .i64 0, .int .i64 0, .int .i64 0, .int .i64 0, .int .i64 0, .int .i64 0, .int .i64 0, .int .i64 0, .int .u64 (nl 0), .int .u64 (nl 0), .int .u64 (nl 0), .int .u64 (nl 0), .nils, .int .i64 0, .int .i64 0, .int .i64 0, .int .i64 0, .int .i64 0, .int .i64 0, .int .i64 0, .int .i64 0, .int .i64 0, .int .i64 0, .int .i64 0, .int .i64 0, .int .i64 0, .int .i64 0, .int .i64 0, .int .i64 0, .int .i64 0, .int .i64 0, .int .i64 0, .int .i64 0, .int .i64 0, .int .u64 (nl 0), .int .u64 (nl 0), .int .u64 (nl 0), .int .u64 (nl 0), .nils, .int .i64 0, .int .i64 0, .int .i64 0, .int .i64 0, .int .i64 0, .int .i64 0, .int .i64 0, .int .i64 0, .int .i64 0, .int .i64 0, .int .i64 0, .int .i64 0, .int .i64 0, .int .i64 0, .int .i64 0, .int .i64 0, .int .i64 0, .int .i64 0, .int .i64 0, .int .i64 0, .int .i64 0, .int .u64 (nl 0), .int .u64 (nl 0), .int .u64 (nl 0), .int .u64 (nl 0), .nils, .int .i64 0, .int .i64 0, .int .i64 0, .int .i64 0, .int .i64 0, .int .i64 0, .int .i64 0, .int .i64 0, .int .i64 0, .int .i64 0, .int .i64 0, .int .i64 0, .int .i64 0, .int .i64 0, .int .i64 0, .int .i64 0, .int .i64 0, .int .i64 0, .int .i64 0, .int .i64 0, .int .i64 0, .int .u64 (nl 0), .int .u64 (nl 0), .int .u64 (nl 0), .int .u64 (nl 0), .nils, .int .i64 0, .int .i64 0, .int .i64 0, .int .i64 0, .int .i64 0, .int .i64 0, .int .i64 0, .int .i64 0, .int .i64 0, .int .i64 0, .int .i64 0, .int .i64 0, .int .i64 0, .int .i64 0, .int .i64 0, .int .i64 0, .int .i64 0, .int .i64 0, .int .i64 0, .int .i64 0, .int .i64 0, .int .u64 (nl 0), .int .u64 (nl 0), .int .u64 (nl 0), .int .u64 (nl 0), .nils, .int .i64 0, .int .i64 0, .int .i64 0, .int .i64 0, .int .i64 0, .int .i64 0, .int .i64 0, .int .i64 0, .int .i64 0, .int .i64 0, .int .i64 0, .int .i64 0, .int .i64 0, .int .i64 0, .int .i64 0, .int .i64 0, .int .i64 0, .int .i64 0, .int .i64 0, .int .i64 0, .int .i64 0, .int .u64 (nl 0), .int .u64 (nl 0), .int .u64 (nl 0), .int .u64 (nl 0), .nils, .int .u64 (nl 0), .int .u64 (nl 0), .int .u64 (nl 0), .int .u64 (nl 0), .int .u64 (nl 0), .int .u64 (nl 0), .int .u64 (nl 0), .int .u64 (nl 0), .int .u64 (nl 0), .int .u64 (nl 0), .int .u64 (nl 0), .int .u64 (nl 0), .nils, .nils, .int .u64 (nl 0), .int .u64 (nl 0), .int .u64 (nl 0), .int .u64 (nl 0), .int .u64 (nl 0), .int .u64 (nl 0), .int .u64 (nl 0), .int .u64 (nl 0)] []))) [] [], .mk 1 true (.op (some 99) none (.p (.mov (.t 7)))) [] [], .mk 2 true (.op (some 100) none (.p (.nck (.t 99)))) [] [], .mk 3 true (.op (some 101) none (.p (.fda 2 (.t 100)))) [] [], .mk 4 true (.op (some 102) none (.ld false 1 (.t 101))) [] [], .mk 5 false (.op none none (.st 230 (.t 4) (.t 98))) [101] [], .mk 6 false (.op (some 5) none (.p (.mov (.t 102)))) [] []]
def v9_29 : List VI := [.op (some 103) none (.ld true 230 (.t 8)), .op none none (.st 230 (.t 4) (.t 103)), .op (some 5) none (.p (.mov (.c (.int .i64 0))))]
def v9 : VC := .seq (.reg v9_0) (.seq (.reg v9_1) (.seq (.seq (.reg v9_2) (.cond (.t 29) (.seq (.reg v9_3) .ret) .skip)) (.seq (.reg v9_4) (.seq (.reg v9_5) (.seq (.reg v9_6) (.seq (.reg v9_7) (.seq (.reg v9_8) (.seq (.reg v9_9) (.seq (.reg v9_10) (.seq (.reg v9_11) (.seq (.reg v9_12) (.seq (.reg v9_13) (.seq (.reg v9_14) (.seq (.reg v9_15) (.seq (.reg v9_16) (.seq (.seq (.reg v9_17) (.block 0 v9_24)) (.seq (.reg v9_25) (.seq (.reg v9_26) (.seq (.seq (.reg v9_27) (.cond (.t 97) (.seq (.drw v9_28) .ret) .skip)) (.seq (.reg v9_29) .ret))))))))))))))))))))
def rr9 : List RV := [.m 4 true 230, .t 5]
theorem code9 : (Tryd.f9.body).bind (cCode Tryd.prog) = some v9 := by kernel_rfl
theorem res9 : cRVs Tryd.prog (Tryd.f9.results.toList) = some rr9 := by kernel_rfl
theorem nt9 : Tryd.f9.ntmps = 104 := by kernel_rfl
theorem nm9 : (Tryd.f9.name == "runtime.NumGoroutine") = false := by kernel_rfl
def v10_0 : List VI := [.op (some 4) none (.new [.int .u64 (nl 0), .int .u64 (nl 0), .int .u64 (nl 0), .int .u64 (nl 0)])]
def v10_1 : List VI := [.op (some 5) none (.p (.mov (.t 0))), .op (some 6) none (.p (.mov (.t 1))), .call (some 7) none (.fn 11) [.t 5, .t 6], .op (some 8) none (.p (.bld [.int .u64 (nl 0), .int .u64 (nl 0), .int .u64 (nl 0), .int .u64 (nl 0)] [(0, 4, .t 7)])), .op none none (.st 4 (.t 4) (.t 8))]
def v10 : VC := .seq (.reg v10_0) (.seq (.reg v10_1) .ret)
def rr10 : List RV := [.m 4 true 4]
theorem code10 : (Tryd.f10.body).bind (cCode Tryd.prog) = some v10 := by kernel_rfl
theorem res10 : cRVs Tryd.prog (Tryd.f10.results.toList) = some rr10 := by kernel_rfl
theorem nt10 : Tryd.f10.ntmps = 9 := by kernel_rfl
theorem nm10 : (Tryd.f10.name == "runtime.NumGoroutine") = false := by kernel_rfl
def v11_0 : List VI := [.op (some 4) none (.new [.int .u64 (nl 0), .int .u64 (nl 0), .int .u64 (nl 0), .int .u64 (nl 0)])]
def v11_1 : List VI := [.op (some 5) none (.p (.mov (.t 1))), .op (some 6) none (.p (.mov (.t 0))), .op (some 7) none (.p (.len false (.t 6))), .op (some 8) none (.p (.bin .lss (.t 5) (.t 7)))]
def v11_2 : List VI := [.op (some 9) none (.p (.mov (.t 0))), .op (some 10) none (.p (.mov (.t 1))), .op (some 11) none (.p (.ixs 4 (.t 9) (.t 10))), .op (some 12) none (.ld true 4 (.t 11)), .op none none (.st 4 (.t 4) (.t 12))]
def v11_3 : List VI := [.call (some 13) none (.fn 23) [.c (.int .u64 (nl 1))], .op none none (.st 4 (.t 4) (.t 13))]
def v11 : VC := .seq (.reg v11_0) (.seq (.seq (.reg v11_1) (.cond (.t 8) (.seq (.reg v11_2) .ret) .skip)) (.seq (.reg v11_3) .ret))
def rr11 : List RV := [.m 4 true 4]
theorem code11 : (Tryd.f11.body).bind (cCode Tryd.prog) = some v11 := by kernel_rfl
theorem res11 : cRVs Tryd.prog (Tryd.f11.results.toList) = some rr11 := by kernel_rfl
theorem nt11 : Tryd.f11.ntmps = 14 := by kernel_rfl
theorem nm11 : (Tryd.f11.name == "runtime.NumGoroutine") = false := by kernel_rfl
def v12_0 : List VI := [.op (some 4) none (.new [.int .i64 0, .int .i64 0, .int .i64 0, .int .i64 0, .int .i64 0, .int .i64 0, .int .i64 0, .int .i64 0, .int .i64 0, .int .i64 0, .int .i64 0, .int .i64 0, .int .i64 0, .int .i64 0, .int .i64 0, .int .i64 0, .int .i64 0, .int .i64 0, .int .i64 0, .int .i64 0, .int .i64 0, .int .u64 (nl 0), .int .u64 (nl 0), .int .u64 (nl 0), .int .u64 (nl 0), .nils])]
def v12_1 : List VI := [.op (some 5) none (.p (.mov (.t 0))), .op (some 6) none (.p (.mov (.t 1))), .call (some 7) none (.fn 11) [.t 5, .t 6], .call (some 8) none (.fn 13) [.t 7], .call (some 9) none (.fn 24) [.t 8], .op none none (.st 26 (.t 4) (.t 9))]
def v12 : VC := .seq (.reg v12_0) (.seq (.reg v12_1) .ret)
def rr12 : List RV := [.m 4 true 26]
theorem code12 : (Tryd.f12.body).bind (cCode Tryd.prog) = some v12 := by kernel_rfl
theorem res12 : cRVs Tryd.prog (Tryd.f12.results.toList) = some rr12 := by kernel_rfl
theorem nt12 : Tryd.f12.ntmps = 10 := by kernel_rfl
theorem nm12 : (Tryd.f12.name == "runtime.NumGoroutine") = false := by kernel_rfl
def v13_0 : List VI := [.op (some 1) none (.box (.t 0)), .op (some 2) none (.new [.int .u64 (nl 0), .int .u64 (nl 0), .int .u64 (nl 0), .int .u64 (nl 0)])]
def v13_1 : List VI := [.op (some 3) none (.ld true 4 (.t 1)), .call (some 4) none (.fn 25) [.t 3], .op none none (.st 4 (.t 2) (.t 4))]
def v13 : VC := .seq (.reg v13_0) (.seq (.reg v13_1) .ret)
def rr13 : List RV := [.m 2 true 4]
theorem code13 : (Tryd.f13.body).bind (cCode Tryd.prog) = some v13 := by kernel_rfl
theorem res13 : cRVs Tryd.prog (Tryd.f13.results.toList) = some rr13 := by kernel_rfl
theorem nt13 : Tryd.f13.ntmps = 5 := by kernel_rfl
theorem nm13 : (Tryd.f13.name == "runtime.NumGoroutine") = false := by kernel_rfl
def v14_0 : List VI := [.op (some 2) none (.p (.mov (.c .nils))), .op (some 3) none (.p (.mov (.c .nils)))]
def v14_1 : List VI := [.op (some 4) none (.p (.mov (.c .nils)))]
def v14_2 : List VI := [.op (some 5) none (.p (.mov (.c .nils)))]
def v14_3 : List VI := [.op (some 6) none (.p (.mov (.c (.int .i64 0))))]
def v14_4 : List VI := [.op (some 7) none (.p (.mov (.t 6))), .op (some 8) none (.p (.mov (.t 0))), .op (some 9) none (.p (.len false (.t 8))), .op (some 10) none (.p (.bin .lss (.t 7) (.t 9)))]
def v14_5 : List VI := [.op (some 13) none (.p (.mov (.t 4))), .op (some 14) none (.p (.mov (.t 0))), .op (some 15) none (.p (.mov (.t 6))), .op (some 16) none (.p (.ixs 4 (.t 14) (.t 15))), .op (some 17) none (.ld true 4 (.t 16)), .op (some 18) none (.p (.bld [.int .u64 (nl 0), .int .u64 (nl 0), .int .u64 (nl 0), .int .u64 (nl 0)] [(0, 4, .t 17)])), .op (some 19) none (.bsl 1 [.int .u64 (nl 0), .int .u64 (nl 0), .int .u64 (nl 0), .int .u64 (nl 0)] [(0, 4, .t 18)]), .op (some 20) none (.app 4 32 false (.t 13) (.t 19)), .op (some 4) none (.p (.mov (.t 20)))]
def v14_6 : List VI := [.op (some 21) none (.p (.mov (.t 5))), .op (some 22) none (.p (.mov (.t 0))), .op (some 23) none (.p (.mov (.t 6))), .op (some 24) none (.p (.ixs 4 (.t 22) (.t 23))), .op (some 25) none (.ld true 4 (.t 24)), .call (some 26) none (.fn 13) [.t 25], .call (some 27) none (.fn 24) [.t 26], .op (some 28) none (.bsl 1 [.int .i64 0, .int .i64 0, .int .i64 0, .int .i64 0, .int .i64 0, .int .i64 0, .int .i64 0, .int .i64 0, .int .i64 0, .int .i64 0, .int .i64 0, .int .i64 0, .int .i64 0, .int .i64 0, .int .i64 0, .int .i64 0, .int .i64 0, .int .i64 0, .int .i64 0, .int .i64 0, .int .i64 0, .int .u64 (nl 0), .int .u64 (nl 0), .int .u64 (nl 0), .int .u64 (nl 0), .nils] [(0, 26, .t 27)]), .op (some 29) none (.app 26 224 false (.t 21) (.t 28)), .op (some 5) none (.p (.mov (.t 29)))]
def v14_7 : VC := .seq (.reg v14_5) (.reg v14_6)
def v14_8 : List VI := [.op (some 11) none (.p (.mov (.t 6))), .op (some 12) none (.p (.bin .add (.t 11) (.c (.int .i64 1)))), .op (some 6) none (.p (.mov (.t 12)))]
def v14_9 : VC := .seq (.seq (.reg v14_4) (.cond (.t 10) .skip (.exit 0))) (.seq (.block 1 v14_7) (.reg v14_8))
def v14_10 : VC := .loop v14_9
def v14_11 : List VI := [.op (some 30) none (.p (.mov (.t 4))), .op (some 31) none (.p (.mov (.t 5))), .op (some 2) none (.p (.mov (.t 30))), .op (some 3) none (.p (.mov (.t 31)))]
def v14 : VC := .seq (.reg v14_0) (.seq (.reg v14_1) (.seq (.reg v14_2) (.seq (.seq (.reg v14_3) (.block 0 v14_10)) (.seq (.reg v14_11) .ret))))
def rr14 : List RV := [.t 2, .t 3]
theorem code14 : (Tryd.f14.body).bind (cCode Tryd.prog) = some v14 := by kernel_rfl
theorem res14 : cRVs Tryd.prog (Tryd.f14.results.toList) = some rr14 := by kernel_rfl
theorem nt14 : Tryd.f14.ntmps = 32 := by kernel_rfl
theorem nm14 : (Tryd.f14.name == "runtime.NumGoroutine") = false := by kernel_rfl
def v15_0 : List VI := [.op (some 2) none (.p (.mov (.c .nils)))]
def v15_1 : List DS := [.mk 0 true (.op (some 5) none (.p (.mov (.t 0)))) [] [], .mk 1 true (.op (some 6) none (.p (.nck (.t 5)))) [] [], .mk 2 true (.op (some 7) none (.p (.fda 0 (.t 6)))) [] [], .mk 4 true (.op (some 9) none (.p (.mov (.t 0)))) [] [], .mk 5 true (.op (some 10) none (.p (.nck (.t 9)))) [] [], .mk 6 true (.op (some 11) none (.p (.fda 4 (.t 10)))) [] [], .mk 8 true (.op (some 13) none (.p (.mov (.t 0)))) [] [], .mk 9 true (.op (some 14) none (.p (.nck (.t 13)))) [] [], .mk 10 true (.op (some 15) none (.p (.fda 8 (.t 14)))) [] [], .mk 12 true (.op (some 17) none (.p (.mov (.t 0)))) [] [], .mk 13 true (.op (some 18) none (.p (.nck (.t 17)))) [] [], .mk 14 true (.op (some 19) none (.p (.fda 12 (.t 18)))) [] [], .mk 16 true (.op (some 21) none (.p (.mov (.t 0)))) [] [], .mk 17 true (.op (some 22) none (.p (.nck (.t 21)))) [] [], .mk 18 true (.op (some 23) none (.p (.fda 16 (.t 22)))) [] [], .mk 20 true (.op (some 25) none (.p (.mov (.t 0)))) [] [], .mk 21 true (.op (some 26) none (.p (.nck (.t 25)))) [] [], .mk 22 true (.op (some 27) none (.p (.fda 20 (.t 26)))) [] [], .mk 24 true (.op (some 29) none (.p (.mov (.t 0)))) [] [], .mk 25 true (.op (some 30) none (.p (.nck (.t 29)))) [] [], .mk 26 true (.op (some 31) none (.p (.fda 24 (.t 30)))) [] [], .mk 28 true (.op (some 33) none (.p (.mov (.t 0)))) [] [], .mk 29 true (.op (some 34) none (.p (.nck (.t 33)))) [] [], .mk 30 true (.op (some 35) none (.p (.fda 28 (.t 34)))) [] [], .mk 32 true (.op (some 37) none (.p (.mov (.t 0)))) [] [], .mk 33 true (.op (some 38) none (.p (.nck (.t 37)))) [] [], .mk 34 true (.op (some 39) none (.p (.fda 32 (.t 38)))) [] [], .mk 36 true (.op (some 41) none (.p (.mov (.t 0)))) [] [], .mk 37 true (.op (some 42) none (.p (.nck (.t 41)))) [] [], .mk 38 true (.op (some 43) none (.p (.fda 36 (.t 42)))) [] [], .mk 40 true (.op (some 45) none (.p (.mov (.t 0)))) [] [], .mk 41 true (.op (some 46) none (.p (.nck (.t 45)))) [] [], .mk 42 true (.op (some 47) none (.p (.fda 40 (.t 46)))) [] [], .mk 3 false (.call (some 8) none (.fn 26) [.t 7]) [] [], .mk 7 false (.call (some 12) none (.fn 26) [.t 11]) [] [], .mk 11 false (.call (some 16) none (.fn 26) [.t 15]) [] [], .mk 15 false (.call (some 20) none (.fn 26) [.t 19]) [] [], .mk 19 false (.call (some 24) none (.fn 26) [.t 23]) [] [], .mk 23 false (.call (some 28) none (.fn 26) [.t 27]) [] [], .mk 27 false (.call (some 32) none (.fn 26) [.t 31]) [] [], .mk 31 false (.call (some 36) none (.fn 26) [.t 35]) [] [], .mk 35 false (.call (some 40) none (.fn 27) [.t 39]) [] [], .mk 39 false (.call (some 44) none (.fn 27) [.t 43]) [] [], .mk 43 false (.call (some 48) none (.fn 27) [.t 47]) [] [], .mk 44 true (.op (some 49) none (.bsl 11 [.nilf, .nilf, .nilf, .nilf, .nilf, .nilf, .nilf, .nilf, .nilf, .nilf, .nilf, .nilf, .nilf, .nilf, .nilf, .nilf, .nilf, .nilf, .nilf, .nilf, .nilf, .nilf] [(0, 2, .t 8), (2, 2, .t 12), (4, 2, .t 16), (6, 2, .t 20), (8, 2, .t 24), (10, 2, .t 28), (12, 2, .t 32), (14, 2, .t 36), (16, 2, .t 40), (18, 2, .t 44), (20, 2, .t 48)])) [] [], .mk 45 false (.op (some 3) none (.p (.mov (.t 49)))) [] []]
def v15_2 : List VI := [.op (some 50) none (.p (.mov (.t 0))), .op (some 51) none (.p (.nck (.t 50))), .op (some 52) none (.p (.fda 44 (.t 51))), .op (some 53) none (.ld false 1 (.t 52)), .op (some 54) none (.p (.len false (.t 53))), .op (some 55) none (.p (.mov (.c (.int .i64 0))))]
def v15_3 : List VI := [.op (some 56) none (.p (.bin .lss (.t 55) (.t 54)))]
def v15_4 : List VI := [.op (some 57) none (.p (.mov (.t 55))), .op (some 4) none (.p (.mov (.t 57)))]
def v15_5 : List DS := [.mk 0 true (.op (some 58) none (.p (.mov (.t 3)))) [] [], .mk 1 true (.op (some 59) none (.p (.mov (.t 0)))) [] [], .mk 2 true (.op (some 60) none (.p (.nck (.t 59)))) [] [], .mk 3 true (.op (some 61) none (.p (.fda 44 (.t 60)))) [] [], .mk 4 true (.op (some 62) none (.ld false 1 (.t 61))) [] [], .mk 5 true (.op (some 63) none (.p (.mov (.t 4)))) [] [], .mk 6 true (.op (some 64) none (.p (.ixs 4 (.t 62) (.t 63)))) [] [], .mk 8 true (.op (some 66) none (.p (.mov (.t 0)))) [] [], .mk 9 true (.op (some 67) none (.p (.nck (.t 66)))) [] [], .mk 10 true (.op (some 68) none (.p (.fda 45 (.t 67)))) [] [], .mk 11 true (.op (some 69) none (.ld false 1 (.t 68))) [] [], .mk 12 true (.op (some 70) none (.p (.mov (.t 4)))) [] [], .mk 13 true (.op (some 71) none (.p (.ixs 4 (.t 69) (.t 70)))) [] [], .mk 7 false (.call (some 65) none (.fn 26) [.t 64]) [68] [], .mk 14 false (.call (some 72) none (.fn 26) [.t 71]) [] [], .mk 15 true (.op (some 73) none (.bsl 2 [.nilf, .nilf, .nilf, .nilf] [(0, 2, .t 65), (2, 2, .t 72)])) [] [], .mk 16 false (.op (some 74) none (.app 2 16 false (.t 58) (.t 73))) [] [], .mk 17 false (.op (some 3) none (.p (.mov (.t 74)))) [] []]
def v15_6 : VC := .seq (.reg v15_4) (.drw v15_5)
def v15_7 : List VI := [.op (some 75) none (.p (.bin .add (.t 55) (.c (.int .i64 1)))), .op (some 55) none (.p (.mov (.t 75)))]
def v15_8 : VC := .seq (.reg v15_3) (.seq (.cond (.t 56) .skip (.exit 0)) (.seq (.block 1 v15_6) (.reg v15_7)))
def v15_9 : VC := .loop v15_8
def v15_10 : List DS := [.mk 0 true (.op (some 76) none (.p (.mov (.t 3)))) [] [], .mk 1 true (.op (some 77) none (.p (.mov (.t 0)))) [] [], .mk 2 true (.op (some 78) none (.p (.nck (.t 77)))) [] [], .mk 3 true (.op (some 79) none (.p (.fda 46 (.t 78)))) [] [], .mk 5 true (.op (some 81) none (.p (.mov (.t 0)))) [] [], .mk 6 true (.op (some 82) none (.p (.nck (.t 81)))) [] [], .mk 7 true (.op (some 83) none (.p (.fda 50 (.t 82)))) [] [], .mk 4 false (.call (some 80) none (.fn 27) [.t 79]) [] [], .mk 8 false (.call (some 84) none (.fn 27) [.t 83]) [] [], .mk 9 true (.op (some 85) none (.bsl 2 [.nilf, .nilf, .nilf, .nilf] [(0, 2, .t 80), (2, 2, .t 84)])) [] [], .mk 10 false (.op (some 86) none (.app 2 16 false (.t 76) (.t 85))) [] [], .mk 11 false (.op (some 2) none (.p (.mov (.t 86)))) [] []]
def v15 : VC := .seq (.reg v15_0) (.seq (.drw v15_1) (.seq (.seq (.reg v15_2) (.block 0 v15_9)) (.seq (.drw v15_10) .ret)))
def rr15 : List RV := [.t 2]
theorem code15 : (Tryd.f15.body).bind (cCode Tryd.prog) = some v15 := by kernel_rfl
theorem res15 : cRVs Tryd.prog (Tryd.f15.results.toList) = some rr15 := by kernel_rfl
theorem nt15 : Tryd.f15.ntmps = 87 := by kernel_rfl
theorem nm15 : (Tryd.f15.name == "runtime.NumGoroutine") = false := by kernel_rfl
def v16_0 : List VI := [.op (some 1) none (.box (.t 0)), .op (some 2) none (.new [.int .u8 (nl 0), .int .u8 (nl 0), .int .u8 (nl 0), .int .u8 (nl 0), .int .u8 (nl 0), .int .u8 (nl 0), .int .u8 (nl 0), .int .u8 (nl 0), .int .u8 (nl 0), .int .u8 (nl 0), .int .u8 (nl 0), .int .u8 (nl 0), .int .u8 (nl 0), .int .u8 (nl 0), .int .u8 (nl 0), .int .u8 (nl 0), .int .u8 (nl 0), .int .u8 (nl 0), .int .u8 (nl 0), .int .u8 (nl 0), .int .u8 (nl 0), .int .u8 (nl 0), .int .u8 (nl 0), .int .u8 (nl 0), .int .u8 (nl 0), .int .u8 (nl 0), .int .u8 (nl 0), .int .u8 (nl 0), .int .u8 (nl 0), .int .u8 (nl 0), .int .u8 (nl 0), .int .u8 (nl 0)])]
def v16_1 : List VI := [.op (some 8) none (.p (.fda 0 (.t 1))), .op (some 9) none (.ld false 1 (.t 8))]
def v16_2 : List VI := [.op (some 11) none (.p (.eq false .i (.t 9) (.c (.int .i64 1)))), .op (some 10) none (.p (.mov (.t 11)))]
def v16_3 : List VI := [.op (some 12) none (.p (.fda 1 (.t 1))), .op (some 13) none (.ld true 20 (.t 12)), .call (some 14) none (.fn 28) [.t 13], .op none none (.st 32 (.t 2) (.t 14))]
def v16_4 : List VI := [.op (some 16) none (.p (.eq false .i (.t 9) (.c (.int .i64 2)))), .op (some 15) none (.p (.mov (.t 16)))]
def v16_5 : List VI := [.op (some 17) none (.p (.fda 21 (.t 1))), .op (some 18) none (.ld true 4 (.t 17)), .call (some 19) none (.fn 17) [.t 18], .op none none (.st 32 (.t 2) (.t 19))]
def v16_6 : VC := .seq (.reg v16_2) (.cond (.t 10) (.seq (.reg v16_3) .ret) (.seq (.reg v16_4) (.cond (.t 15) (.seq (.reg v16_5) .ret) .skip)))
def v16_7 : List VI := [.op (some 20) none (.bsl 4 [.int .u8 (nl 0), .int .u8 (nl 0), .int .u8 (nl 0), .int .u8 (nl 0)] [(0, 1, .c (.int .u8 (nl 102))), (1, 1, .c (.int .u8 (nl 114))), (2, 1, .c (.int .u8 (nl 101))), (3, 1, .c (.int .u8 (nl 101)))]), .op (some 21) none .bad, .op (some 3) none (.p (.mov (.t 21)))]
def v16_8 : List VI := [.op (some 4) none (.p (.mov (.c (.int .i64 0))))]
def v16_9 : List VI := [.op (some 22) none (.p (.mov (.t 4))), .op (some 23) none (.p (.fda 25 (.t 1))), .op (some 24) none (.ld false 1 (.t 23)), .op (some 25) none (.p (.len false (.t 24))), .op (some 26) none (.p (.bin .lss (.t 22) (.t 25)))]
def v16_10 : List VI := [.op (some 29) none (.p (.fda 25 (.t 1))), .op (some 30) none (.ld false 1 (.t 29)), .op (some 31) none (.p (.mov (.t 4))), .op (some 32) none (.p (.ixs 4 (.t 30) (.t 31))), .op (some 33) none (.ld true 4 (.t 32)), .call (some 34) none (.fn 17) [.t 33], .op (some 5) none (.new [.int .u8 (nl 0), .int .u8 (nl 0), .int .u8 (nl 0), .int .u8 (nl 0), .int .u8 (nl 0), .int .u8 (nl 0), .int .u8 (nl 0), .int .u8 (nl 0), .int .u8 (nl 0), .int .u8 (nl 0), .int .u8 (nl 0), .int .u8 (nl 0), .int .u8 (nl 0), .int .u8 (nl 0), .int .u8 (nl 0), .int .u8 (nl 0), .int .u8 (nl 0), .int .u8 (nl 0), .int .u8 (nl 0), .int .u8 (nl 0), .int .u8 (nl 0), .int .u8 (nl 0), .int .u8 (nl 0), .int .u8 (nl 0), .int .u8 (nl 0), .int .u8 (nl 0), .int .u8 (nl 0), .int .u8 (nl 0), .int .u8 (nl 0), .int .u8 (nl 0), .int .u8 (nl 0), .int .u8 (nl 0)]), .op none none (.st 32 (.t 5) (.t 34))]
def v16_11 : List VI := [.op (some 35) none (.p (.mov (.t 3))), .op (some 36) none (.p (.sla 32 1 (.t 5) none none none)), .op (some 37) none (.app 1 1 false (.t 35) (.t 36)), .op (some 3) none (.p (.mov (.t 37)))]
def v16_12 : VC := .seq (.reg v16_10) (.reg v16_11)
def v16_13 : List VI := [.op (some 27) none (.p (.mov (.t 4))), .op (some 28) none (.p (.bin .add (.t 27) (.c (.int .i64 1)))), .op (some 4) none (.p (.mov (.t 28)))]
def v16_14 : VC := .seq (.seq (.reg v16_9) (.cond (.t 26) .skip (.exit 1))) (.seq (.block 2 v16_12) (.reg v16_13))
def v16_15 : VC := .loop v16_14
def v16_16 : List VI := [.op (some 38) none (.p (.mov (.t 3))), .op (some 39) none (.bsl 1 [.nils] [(0, 1, .t 38)]), .call (some 40) none (.fn 29) [.t 39], .op (some 6) none (.new [.int .u8 (nl 0), .int .u8 (nl 0), .int .u8 (nl 0), .int .u8 (nl 0), .int .u8 (nl 0), .int .u8 (nl 0), .int .u8 (nl 0), .int .u8 (nl 0), .int .u8 (nl 0), .int .u8 (nl 0), .int .u8 (nl 0), .int .u8 (nl 0), .int .u8 (nl 0), .int .u8 (nl 0), .int .u8 (nl 0), .int .u8 (nl 0), .int .u8 (nl 0), .int .u8 (nl 0), .int .u8 (nl 0), .int .u8 (nl 0), .int .u8 (nl 0), .int .u8 (nl 0), .int .u8 (nl 0), .int .u8 (nl 0), .int .u8 (nl 0), .int .u8 (nl 0), .int .u8 (nl 0), .int .u8 (nl 0), .int .u8 (nl 0), .int .u8 (nl 0), .int .u8 (nl 0), .int .u8 (nl 0), .int .u8 (nl 0), .int .u8 (nl 0), .int .u8 (nl 0), .int .u8 (nl 0), .int .u8 (nl 0), .int .u8 (nl 0), .int .u8 (nl 0), .int .u8 (nl 0), .int .u8 (nl 0), .int .u8 (nl 0), .int .u8 (nl 0), .int .u8 (nl 0), .int .u8 (nl 0), .int .u8 (nl 0), .int .u8 (nl 0), .int .u8 (nl 0), .int .u8 (nl 0), .int .u8 (nl 0), .int .u8 (nl 0), .int .u8 (nl 0), .int .u8 (nl 0), .int .u8 (nl 0), .int .u8 (nl 0), .int .u8 (nl 0), .int .u8 (nl 0), .int .u8 (nl 0), .int .u8 (nl 0), .int .u8 (nl 0), .int .u8 (nl 0), .int .u8 (nl 0), .int .u8 (nl 0), .int .u8 (nl 0)]), .op none none (.st 64 (.t 6) (.t 40))]
def v16_17 : List VI := [.op (some 7) none (.new [.int .u8 (nl 0), .int .u8 (nl 0), .int .u8 (nl 0), .int .u8 (nl 0), .int .u8 (nl 0), .int .u8 (nl 0), .int .u8 (nl 0), .int .u8 (nl 0), .int .u8 (nl 0), .int .u8 (nl 0), .int .u8 (nl 0), .int .u8 (nl 0), .int .u8 (nl 0), .int .u8 (nl 0), .int .u8 (nl 0), .int .u8 (nl 0), .int .u8 (nl 0), .int .u8 (nl 0), .int .u8 (nl 0), .int .u8 (nl 0), .int .u8 (nl 0), .int .u8 (nl 0), .int .u8 (nl 0), .int .u8 (nl 0), .int .u8 (nl 0), .int .u8 (nl 0), .int .u8 (nl 0), .int .u8 (nl 0), .int .u8 (nl 0), .int .u8 (nl 0), .int .u8 (nl 0), .int .u8 (nl 0)])]
def v16_18 : List DS := [.mk 0 true (.op (some 41) none (.p (.sla 32 1 (.t 7) none none none))) [] [], .mk 1 true (.op (some 42) none (.p (.sla 64 1 (.t 6) none (some (.c (.int .i64 32))) none))) [] [], .mk 2 false (.op (some 43) none (.cpy 1 (.t 41) (.t 42))) [] []]
def v16_19 : List VI := [.op (some 44) none (.ld true 32 (.t 7)), .op none none (.st 32 (.t 2) (.t 44))]
def v16 : VC := .seq (.reg v16_0) (.seq (.seq (.reg v16_1) (.block 0 v16_6)) (.seq (.reg v16_7) (.seq (.seq (.reg v16_8) (.block 1 v16_15)) (.seq (.reg v16_16) (.seq (.reg v16_17) (.seq (.drw v16_18) (.seq (.reg v16_19) .ret)))))))
def rr16 : List RV := [.m 2 true 32]
theorem code16 : (Tryd.f16.body).bind (cCode Tryd.prog) = some v16 := by kernel_rfl
theorem res16 : cRVs Tryd.prog (Tryd.f16.results.toList) = some rr16 := by kernel_rfl
theorem nt16 : Tryd.f16.ntmps = 45 := by kernel_rfl
theorem nm16 : (Tryd.f16.name == "runtime.NumGoroutine") = false := by kernel_rfl
def v17_0 : List VI := [.op (some 1) none (.box (.t 0)), .op (some 2) none (.new [.int .u8 (nl 0), .int .u8 (nl 0), .int .u8 (nl 0), .int .u8 (nl 0), .int .u8 (nl 0), .int .u8 (nl 0), .int .u8 (nl 0), .int .u8 (nl 0), .int .u8 (nl 0), .int .u8 (nl 0), .int .u8 (nl 0), .int .u8 (nl 0), .int .u8 (nl 0), .int .u8 (nl 0), .int .u8 (nl 0), .int .u8 (nl 0), .int .u8 (nl 0), .int .u8 (nl 0), .int .u8 (nl 0), .int .u8 (nl 0), .int .u8 (nl 0), .int .u8 (nl 0), .int .u8 (nl 0), .int .u8 (nl 0), .int .u8 (nl 0), .int .u8 (nl 0), .int .u8 (nl 0), .int .u8 (nl 0), .int .u8 (nl 0), .int .u8 (nl 0), .int .u8 (nl 0), .int .u8 (nl 0)])]
def v17_1 : List VI := [.op (some 3) none (.new [.int .u8 (nl 0), .int .u8 (nl 0), .int .u8 (nl 0), .int .u8 (nl 0), .int .u8 (nl 0), .int .u8 (nl 0), .int .u8 (nl 0), .int .u8 (nl 0), .int .u8 (nl 0), .int .u8 (nl 0), .int .u8 (nl 0), .int .u8 (nl 0), .int .u8 (nl 0), .int .u8 (nl 0), .int .u8 (nl 0), .int .u8 (nl 0), .int .u8 (nl 0), .int .u8 (nl 0), .int .u8 (nl 0), .int .u8 (nl 0), .int .u8 (nl 0), .int .u8 (nl 0), .int .u8 (nl 0), .int .u8 (nl 0), .int .u8 (nl 0), .int .u8 (nl 0), .int .u8 (nl 0), .int .u8 (nl 0), .int .u8 (nl 0), .int .u8 (nl 0), .int .u8 (nl 0), .int .u8 (nl 0)])]
def v17_2 : List VI := [.op (some 4) none (.p (.mov (.c (.int .i64 0))))]
def v17_3 : List VI := [.op (some 5) none (.p (.mov (.t 4))), .op (some 6) none (.p (.bin .lss (.t 5) (.c (.int .i64 32))))]
def v17_4 : List VI := [.op (some 9) none (.p (.mov (.t 4))), .op (some 10) none (.p (.mov (.t 4))), .op (some 11) none (.p (.bin .quo (.t 10) (.c (.int .i64 8)))), .op (some 12) none (.p (.ixa 4 1 (.t 1) (.t 11))), .op (some 13) none (.ld false 1 (.t 12)), .op (some 14) none (.p (.mov (.t 4))), .op (some 15) none (.p (.bin .rem (.t 14) (.c (.int .i64 8)))), .op (some 16) none (.p (.bin .mul (.c (.int .i64 8)) (.t 15))), .op (some 17) none (.p (.bin .shr (.t 13) (.t 16))), .op (some 18) none (.p (.cvi .u8 (.t 17))), .op (some 19) none (.p (.ixa 32 1 (.t 3) (.t 9))), .op none none (.st 1 (.t 19) (.t 18))]
def v17_5 : VC := .reg v17_4
def v17_6 : List VI := [.op (some 7) none (.p (.mov (.t 4))), .op (some 8) none (.p (.bin .add (.t 7) (.c (.int .i64 1)))), .op (some 4) none (.p (.mov (.t 8)))]
def v17_7 : VC := .seq (.seq (.reg v17_3) (.cond (.t 6) .skip (.exit 0))) (.seq (.block 1 v17_5) (.reg v17_6))
def v17_8 : VC := .loop v17_7
def v17_9 : List VI := [.op (some 20) none (.ld true 32 (.t 3)), .op none none (.st 32 (.t 2) (.t 20))]
def v17 : VC := .seq (.reg v17_0) (.seq (.reg v17_1) (.seq (.seq (.reg v17_2) (.block 0 v17_8)) (.seq (.reg v17_9) .ret)))
def rr17 : List RV := [.m 2 true 32]
theorem code17 : (Tryd.f17.body).bind (cCode Tryd.prog) = some v17 := by kernel_rfl
theorem res17 : cRVs Tryd.prog (Tryd.f17.results.toList) = some rr17 := by kernel_rfl
theorem nt17 : Tryd.f17.ntmps = 21 := by kernel_rfl
theorem nm17 : (Tryd.f17.name == "runtime.NumGoroutine") = false := by kernel_rfl
def v18_0 : List VI := [.op (some 2) none (.box (.t 0)), .op (some 3) none (.box (.t 1)), .op (some 4) none (.p (.mov (.c (.bool false))))]
def v18_1 : List VI := [.op (some 5) none (.p (.fda 0 (.t 3))), .op (some 6) none (.ld false 1 (.t 5)), .op (some 7) none (.p (.eq false .i (.t 6) (.c (.int .i64 0))))]
def v18_2 : List VI := [.call (some 8) none (.fn 30) [.c (.int .i64 2)], .op none none (.st 26 (.t 3) (.t 8))]
def v18_3 : List DS := [.mk 0 true (.op (some 9) none (.ld true 4 (.t 2))) [] [], .mk 2 true (.op (some 11) none (.ld true 26 (.t 3))) [] [], .mk 1 false (.call (some 10) none (.fn 31) [.t 9]) [3] [], .mk 3 false (.call (some 12) none (.fn 32) [.t 10, .t 11]) [] [], .mk 4 false (.op (some 4) none (.p (.mov (.t 12)))) [] []]
def v18 : VC := .seq (.reg v18_0) (.seq (.seq (.reg v18_1) (.cond (.t 7) (.reg v18_2) .skip)) (.seq (.drw v18_3) .ret))
def rr18 : List RV := [.t 4]
theorem code18 : (Tryd.f18.body).bind (cCode Tryd.prog) = some v18 := by kernel_rfl
theorem res18 : cRVs Tryd.prog (Tryd.f18.results.toList) = some rr18 := by kernel_rfl
theorem nt18 : Tryd.f18.ntmps = 13 := by kernel_rfl
theorem nm18 : (Tryd.f18.name == "runtime.NumGoroutine") = false := by kernel_rfl
def v19_0 : List VI := [.op (some 2) none (.box (.t 0)), .op (some 3) none (.box (.t 1)), .op (some 4) none (.p (.mov (.c (.bool false))))]
def v19_1 : List VI := [.op (some 5) none (.ld true 4 (.t 2)), .op (some 6) none (.ld true 4 (.t 3)), .op (some 7) none (.p (.eqa false [.i, .i, .i, .i] (.t 5) (.t 6))), .op (some 4) none (.p (.mov (.t 7)))]
def v19 : VC := .seq (.reg v19_0) (.seq (.reg v19_1) .ret)
def rr19 : List RV := [.t 4]
theorem code19 : (Tryd.f19.body).bind (cCode Tryd.prog) = some v19 := by kernel_rfl
theorem res19 : cRVs Tryd.prog (Tryd.f19.results.toList) = some rr19 := by kernel_rfl
theorem nt19 : Tryd.f19.ntmps = 8 := by kernel_rfl
theorem nm19 : (Tryd.f19.name == "runtime.NumGoroutine") = false := by kernel_rfl
def v20_0 : List VI := [.op (some 4) none (.p (.mov (.c (.bool false))))]
def v20_1 : List VI := [.op (some 6) none (.p (.mov (.t 0))), .op (some 7) none (.p (.len false (.t 6))), .op (some 8) none (.p (.mov (.t 1))), .op (some 9) none (.p (.len false (.t 8))), .op (some 10) none (.p (.eq true .i (.t 7) (.t 9)))]
def v20_2 : List VI := [.op (some 4) none (.p (.mov (.c (.bool false))))]
def v20_3 : List VI := [.op (some 5) none (.p (.mov (.c (.int .i64 0))))]
def v20_4 : List VI := [.op (some 11) none (.p (.mov (.t 5))), .op (some 12) none (.p (.mov (.t 0))), .op (some 13) none (.p (.len false (.t 12))), .op (some 14) none (.p (.bin .lss (.t 11) (.t 13)))]
def v20_5 : List DS := [.mk 0 true (.op (some 17) none (.p (.mov (.t 0)))) [] [], .mk 1 true (.op (some 18) none (.p (.mov (.t 5)))) [] [], .mk 2 true (.op (some 19) none (.p (.ixs 4 (.t 17) (.t 18)))) [] [], .mk 3 true (.op (some 20) none (.ld true 4 (.t 19))) [] [], .mk 4 true (.op (some 21) none (.p (.mov (.t 1)))) [] [], .mk 5 true (.op (some 22) none (.p (.mov (.t 5)))) [] [], .mk 6 true (.op (some 23) none (.p (.ixs 26 (.t 21) (.t 22)))) [] [], .mk 7 true (.op (some 24) none (.ld true 26 (.t 23))) [] [], .mk 8 false (.call (some 25) none (.fn 18) [.t 20, .t 24]) [] [], .mk 9 true (.op (some 26) none (.p (.un .not (.t 25)))) [] []]
def v20_6 : List VI := [.op (some 4) none (.p (.mov (.c (.bool false))))]
def v20_7 : VC := .seq (.drw v20_5) (.cond (.t 26) (.seq (.reg v20_6) .ret) .skip)
def v20_8 : List VI := [.op (some 15) none (.p (.mov (.t 5))), .op (some 16) none (.p (.bin .add (.t 15) (.c (.int .i64 1)))), .op (some 5) none (.p (.mov (.t 16)))]
def v20_9 : VC := .seq (.seq (.reg v20_4) (.cond (.t 14) .skip (.exit 0))) (.seq (.block 1 v20_7) (.reg v20_8))
def v20_10 : VC := .loop v20_9
def v20_11 : List VI := [.op (some 4) none (.p (.mov (.c (.bool true))))]
def v20 : VC := .seq (.reg v20_0) (.seq (.seq (.reg v20_1) (.cond (.t 10) (.seq (.reg v20_2) .ret) .skip)) (.seq (.seq (.reg v20_3) (.block 0 v20_10)) (.seq (.reg v20_11) .ret)))
def rr20 : List RV := [.t 4]
theorem code20 : (Tryd.f20.body).bind (cCode Tryd.prog) = some v20 := by kernel_rfl
theorem res20 : cRVs Tryd.prog (Tryd.f20.results.toList) = some rr20 := by kernel_rfl
theorem nt20 : Tryd.f20.ntmps = 27 := by kernel_rfl
theorem nm20 : (Tryd.f20.name == "runtime.NumGoroutine") = false := by kernel_rfl
def v21_0 : List VI := [.op (some 2) none (.new [.int .i64 0, .int .i64 0, .int .i64 0, .int .i64 0, .int .i64 0, .int .i64 0, .int .i64 0, .int .i64 0, .int .i64 0, .int .i64 0, .int .i64 0, .int .i64 0, .int .i64 0, .int .i64 0, .int .i64 0, .int .i64 0, .int .i64 0, .int .i64 0, .int .i64 0, .int .i64 0, .int .i64 0, .int .u64 (nl 0), .int .u64 (nl 0), .int .u64 (nl 0), .int .u64 (nl 0), .nils])]
def v21_1 : List DS := [.mk 0 true (.op (some 6) none (.p (.mov (.t 0)))) [] [], .mk 1 true (.op (some 7) none (.p (.nck (.t 6)))) [] [], .mk 2 true (.op (some 8) none (.p (.fda 0 (.t 7)))) [] [], .mk 3 true (.op (some 9) none (.ld false 1 (.t 8))) [] [], .mk 4 true (.op (some 10) none (.p (.mov (.t 0)))) [] [], .mk 10 true (.op (some 3) none (.new [.int .i64 0, .int .i64 0, .int .i64 0, .int .i64 0, .int .i64 0, .int .i64 0, .int .i64 0, .int .i64 0, .int .i64 0, .int .i64 0, .int .i64 0, .int .i64 0, .int .i64 0, .int .i64 0, .int .i64 0, .int .i64 0, .int .i64 0, .int .i64 0, .int .i64 0, .int .i64 0, .int .i64 0, .int .u64 (nl 0), .int .u64 (nl 0), .int .u64 (nl 0), .int .u64 (nl 0), .nils])) [] [], .mk 5 false (.call (some 11) none (.fn 34) [.t 10]) [8] [3], .mk 6 false (.call (some 12) none (.fn 33) [.t 9, .t 11]) [] [3], .mk 7 true (.op (some 5) none (.p (.mov (.t 12)))) [] [], .mk 8 true (.op (some 13) none (.p (.ext (.t 5) 0))) [] [], .mk 9 true (.op (some 14) none (.p (.ext (.t 5) 1))) [] [], .mk 11 false (.op none none (.st 26 (.t 3) (.t 13))) [] [], .mk 12 false (.op (some 4) none (.p (.mov (.t 14)))) [] []]
def v21_2 : List VI := [.op (some 15) none (.p (.mov (.t 0))), .op (some 16) none (.p (.nck (.t 15))), .op (some 17) none (.p (.fda 2 (.t 16))), .op (some 18) none (.ld false 1 (.t 17)), .op (some 19) none (.p (.eq false .i (.t 18) (.c (.int .i64 0))))]
def v21_3 : List VI := [.op (some 20) none (.p (.mov (.t 0))), .op (some 21) none (.p (.mov (.t 4))), .op (some 22) none (.p (.nck (.t 20))), .op (some 23) none (.p (.fda 2 (.t 22))), .op none none (.st 1 (.t 23) (.t 21))]
def v21_4 : List VI := [.op (some 24) none (.ld true 26 (.t 3)), .op none none (.st 26 (.t 2) (.t 24))]
def v21 : VC := .seq (.reg v21_0) (.seq (.drw v21_1) (.seq (.seq (.reg v21_2) (.cond (.t 19) (.reg v21_3) .skip)) (.seq (.reg v21_4) .ret)))
def rr21 : List RV := [.m 2 true 26]
theorem code21 : (Tryd.f21.body).bind (cCode Tryd.prog) = some v21 := by kernel_rfl
theorem res21 : cRVs Tryd.prog (Tryd.f21.results.toList) = some rr21 := by kernel_rfl
theorem nt21 : Tryd.f21.ntmps = 25 := by kernel_rfl
theorem nm21 : (Tryd.f21.name == "runtime.NumGoroutine") = false := by kernel_rfl
def v22_0 : List VI := [.op (some 2) none (.new [.int .u64 (nl 0), .int .u64 (nl 0), .int .u64 (nl 0), .int .u64 (nl 0)])]
def v22_1 : List VI := [.op (some 6) none (.p (.mov (.t 0))), .call (some 7) none (.fn 34) [.t 6], .call (some 8) none (.fn 35) [.t 7], .op (some 5) none (.p (.mov (.t 8))), .op (some 9) none (.p (.ext (.t 5) 0)), .op (some 10) none (.p (.ext (.t 5) 1)), .op (some 3) none (.new [.int .u64 (nl 0), .int .u64 (nl 0), .int .u64 (nl 0), .int .u64 (nl 0)]), .op none none (.st 4 (.t 3) (.t 9)), .op (some 4) none (.p (.mov (.t 10)))]
def v22_2 : List VI := [.op (some 11) none (.p (.mov (.t 0))), .op (some 12) none (.p (.nck (.t 11))), .op (some 13) none (.p (.fda 2 (.t 12))), .op (some 14) none (.ld false 1 (.t 13)), .op (some 15) none (.p (.eq false .i (.t 14) (.c (.int .i64 0))))]
def v22_3 : List VI := [.op (some 16) none (.p (.mov (.t 0))), .op (some 17) none (.p (.mov (.t 4))), .op (some 18) none (.p (.nck (.t 16))), .op (some 19) none (.p (.fda 2 (.t 18))), .op none none (.st 1 (.t 19) (.t 17))]
def v22_4 : List VI := [.op (some 20) none (.ld true 4 (.t 3)), .op none none (.st 4 (.t 2) (.t 20))]
def v22 : VC := .seq (.reg v22_0) (.seq (.reg v22_1) (.seq (.seq (.reg v22_2) (.cond (.t 15) (.reg v22_3) .skip)) (.seq (.reg v22_4) .ret)))
def rr22 : List RV := [.m 2 true 4]
theorem code22 : (Tryd.f22.body).bind (cCode Tryd.prog) = some v22 := by kernel_rfl
theorem res22 : cRVs Tryd.prog (Tryd.f22.results.toList) = some rr22 := by kernel_rfl
theorem nt22 : Tryd.f22.ntmps = 21 := by kernel_rfl
theorem nm22 : (Tryd.f22.name == "runtime.NumGoroutine") = false := by kernel_rfl
def v23_0 : List VI := [.op (some 2) none (.new [.int .u64 (nl 0), .int .u64 (nl 0), .int .u64 (nl 0), .int .u64 (nl 0)])]
def v23_1 : List VI := [.op (some 3) none (.p (.mov (.t 0))), .op (some 4) none (.p (.bld [.int .u64 (nl 0), .int .u64 (nl 0), .int .u64 (nl 0), .int .u64 (nl 0)] [(0, 1, .t 3)])), .op none none (.st 4 (.t 2) (.t 4))]
def v23 : VC := .seq (.reg v23_0) (.seq (.reg v23_1) .ret)
def rr23 : List RV := [.m 2 true 4]
theorem code23 : (Tryd.f23.body).bind (cCode Tryd.prog) = some v23 := by kernel_rfl
theorem res23 : cRVs Tryd.prog (Tryd.f23.results.toList) = some rr23 := by kernel_rfl
theorem nt23 : Tryd.f23.ntmps = 5 := by kernel_rfl
theorem nm23 : (Tryd.f23.name == "runtime.NumGoroutine") = false := by kernel_rfl
def v24_0 : List VI := [.op (some 1) none (.box (.t 0)), .op (some 2) none (.new [.int .i64 0, .int .i64 0, .int .i64 0, .int .i64 0, .int .i64 0, .int .i64 0, .int .i64 0, .int .i64 0, .int .i64 0, .int .i64 0, .int .i64 0, .int .i64 0, .int .i64 0, .int .i64 0, .int .i64 0, .int .i64 0, .int .i64 0, .int .i64 0, .int .i64 0, .int .i64 0, .int .i64 0, .int .u64 (nl 0), .int .u64 (nl 0), .int .u64 (nl 0), .int .u64 (nl 0), .nils])]
def v24_1 : List VI := [.op (some 3) none (.ld true 4 (.t 1)), .op (some 4) none (.p (.bld [.int .i64 0, .int .i64 0, .int .i64 0, .int .i64 0, .int .i64 0, .int .i64 0, .int .i64 0, .int .i64 0, .int .i64 0, .int .i64 0, .int .i64 0, .int .i64 0, .int .i64 0, .int .i64 0, .int .i64 0, .int .i64 0, .int .i64 0, .int .i64 0, .int .i64 0, .int .i64 0, .int .i64 0, .int .u64 (nl 0), .int .u64 (nl 0), .int .u64 (nl 0), .int .u64 (nl 0), .nils] [(0, 1, .c (.int .i64 2)), (21, 4, .t 3)])), .op none none (.st 26 (.t 2) (.t 4))]
def v24 : VC := .seq (.reg v24_0) (.seq (.reg v24_1) .ret)
def rr24 : List RV := [.m 2 true 26]
theorem code24 : (Tryd.f24.body).bind (cCode Tryd.prog) = some v24 := by kernel_rfl
theorem res24 : cRVs Tryd.prog (Tryd.f24.results.toList) = some rr24 := by kernel_rfl
theorem nt24 : Tryd.f24.ntmps = 5 := by kernel_rfl
theorem nm24 : (Tryd.f24.name == "runtime.NumGoroutine") = false := by kernel_rfl
def v25_0 : List VI := [.op (some 1) none (.box (.t 0)), .op (some 2) none (.new [.int .u64 (nl 0), .int .u64 (nl 0), .int .u64 (nl 0), .int .u64 (nl 0)])]
def v25_1 : List VI := [.op (some 3) none (.p (.mov (.c .nils)))]
def v25_2 : List VI := [.op (some 4) none (.p (.mov (.c (.int .i64 0))))]
def v25_3 : List VI := [.op (some 5) none (.p (.mov (.t 4))), .op (some 6) none (.p (.bin .lss (.t 5) (.c (.int .i64 4))))]
def v25_4 : List DS := [.mk 0 true (.op (some 9) none (.p (.mov (.t 3)))) [] [], .mk 1 true (.op (some 10) none (.p (.mov (.t 4)))) [] [], .mk 2 true (.op (some 11) none (.p (.ixa 4 1 (.t 1) (.t 10)))) [] [], .mk 3 true (.op (some 12) none (.ld false 1 (.t 11))) [] [], .mk 4 true (.op (some 13) none (.p (.bin .and (.t 12) (.c (.int .u64 (nl 65535)))))) [] [], .mk 5 true (.op (some 14) none (.p (.mov (.t 4)))) [] [], .mk 6 true (.op (some 15) none (.p (.ixa 4 1 (.t 1) (.t 14)))) [] [], .mk 7 true (.op (some 16) none (.ld false 1 (.t 15))) [] [], .mk 8 true (.op (some 17) none (.p (.bin .shr (.t 16) (.c (.int .u64 (nl 16)))))) [] [], .mk 9 true (.op (some 18) none (.p (.bin .and (.t 17) (.c (.int .u64 (nl 65535)))))) [] [], .mk 10 true (.op (some 19) none (.p (.mov (.t 4)))) [] [], .mk 11 true (.op (some 20) none (.p (.ixa 4 1 (.t 1) (.t 19)))) [] [], .mk 12 true (.op (some 21) none (.ld false 1 (.t 20))) [] [], .mk 13 true (.op (some 22) none (.p (.bin .shr (.t 21) (.c (.int .u64 (nl 32)))))) [] [], .mk 14 true (.op (some 23) none (.p (.bin .and (.t 22) (.c (.int .u64 (nl 65535)))))) [] [], .mk 15 true (.op (some 24) none (.p (.mov (.t 4)))) [] [], .mk 16 true (.op (some 25) none (.p (.ixa 4 1 (.t 1) (.t 24)))) [] [], .mk 17 true (.op (some 26) none (.ld false 1 (.t 25))) [] [], .mk 18 true (.op (some 27) none (.p (.bin .shr (.t 26) (.c (.int .u64 (nl 48)))))) [] [], .mk 19 true (.op (some 28) none (.bsl 4 [.int .u64 (nl 0), .int .u64 (nl 0), .int .u64 (nl 0), .int .u64 (nl 0)] [(0, 1, .t 13), (1, 1, .t 18), (2, 1, .t 23), (3, 1, .t 27)])) [] [], .mk 20 false (.op (some 29) none (.app 1 8 false (.t 9) (.t 28))) [] [], .mk 21 false (.op (some 3) none (.p (.mov (.t 29)))) [] []]
def v25_5 : VC := .drw v25_4
def v25_6 : List VI := [.op (some 7) none (.p (.mov (.t 4))), .op (some 8) none (.p (.bin .add (.t 7) (.c (.int .i64 1)))), .op (some 4) none (.p (.mov (.t 8)))]
def v25_7 : VC := .seq (.seq (.reg v25_3) (.cond (.t 6) .skip (.exit 0))) (.seq (.block 1 v25_5) (.reg v25_6))
def v25_8 : VC := .loop v25_7
def v25_9 : List VI := [.op (some 30) none (.p (.mov (.t 3))), .call (some 31) none (.fn 36) [.t 30], .op none none (.st 4 (.t 2) (.t 31))]
def v25 : VC := .seq (.reg v25_0) (.seq (.reg v25_1) (.seq (.seq (.reg v25_2) (.block 0 v25_8)) (.seq (.reg v25_9) .ret)))
def rr25 : List RV := [.m 2 true 4]
theorem code25 : (Tryd.f25.body).bind (cCode Tryd.prog) = some v25 := by kernel_rfl
theorem res25 : cRVs Tryd.prog (Tryd.f25.results.toList) = some rr25 := by kernel_rfl
theorem nt25 : Tryd.f25.ntmps = 32 := by kernel_rfl
theorem nm25 : (Tryd.f25.name == "runtime.NumGoroutine") = false := by kernel_rfl
def v26_0 : List VI := [.op (some 1) none (.box (.t 0)), .op (some 2) none (.new [.nilf, .nilf])]
def v26_1 : List VI := [.op (some 3) none (.p (.mkF (Fn.func 37) [] [.t 1])), .op (some 4) none (.p (.mkF (Fn.func 38) [] [.t 1])), .op (some 5) none (.p (.bld [.nilf, .nilf] [(0, 1, .t 3), (1, 1, .t 4)])), .op none none (.st 2 (.t 2) (.t 5))]
def v26 : VC := .seq (.reg v26_0) (.seq (.reg v26_1) .ret)
def rr26 : List RV := [.m 2 true 2]
theorem code26 : (Tryd.f26.body).bind (cCode Tryd.prog) = some v26 := by kernel_rfl
theorem res26 : cRVs Tryd.prog (Tryd.f26.results.toList) = some rr26 := by kernel_rfl
theorem nt26 : Tryd.f26.ntmps = 6 := by kernel_rfl
theorem nm26 : (Tryd.f26.name == "runtime.NumGoroutine") = false := by kernel_rfl
def v27_0 : List VI := [.op (some 1) none (.box (.t 0)), .op (some 2) none (.new [.nilf, .nilf])]
def v27_1 : List VI := [.op (some 3) none (.p (.mkF (Fn.func 41) [] [.t 1])), .op (some 4) none (.p (.mkF (Fn.func 43) [] [.t 1])), .op (some 5) none (.p (.bld [.nilf, .nilf] [(0, 1, .t 3), (1, 1, .t 4)])), .op none none (.st 2 (.t 2) (.t 5))]
def v27 : VC := .seq (.reg v27_0) (.seq (.reg v27_1) .ret)
def rr27 : List RV := [.m 2 true 2]
theorem code27 : (Tryd.f27.body).bind (cCode Tryd.prog) = some v27 := by kernel_rfl
theorem res27 : cRVs Tryd.prog (Tryd.f27.results.toList) = some rr27 := by kernel_rfl
theorem nt27 : Tryd.f27.ntmps = 6 := by kernel_rfl
theorem nm27 : (Tryd.f27.name == "runtime.NumGoroutine") = false := by kernel_rfl
def v30_0 : List VI := [.op (some 2) none (.new [.int .i64 0, .int .i64 0, .int .i64 0, .int .i64 0, .int .i64 0, .int .i64 0, .int .i64 0, .int .i64 0, .int .i64 0, .int .i64 0, .int .i64 0, .int .i64 0, .int .i64 0, .int .i64 0, .int .i64 0, .int .i64 0, .int .i64 0, .int .i64 0, .int .i64 0, .int .i64 0, .int .i64 0, .int .u64 (nl 0), .int .u64 (nl 0), .int .u64 (nl 0), .int .u64 (nl 0), .nils])]
def v30_1 : List VI := [.op (some 3) none (.p (.mov (.t 0))), .op (some 4) none (.p (.bld [.int .i64 0, .int .i64 0, .int .i64 0, .int .i64 0, .int .i64 0, .int .i64 0, .int .i64 0, .int .i64 0, .int .i64 0, .int .i64 0, .int .i64 0, .int .i64 0, .int .i64 0, .int .i64 0, .int .i64 0, .int .i64 0, .int .i64 0, .int .i64 0, .int .i64 0, .int .i64 0, .int .i64 0, .int .u64 (nl 0), .int .u64 (nl 0), .int .u64 (nl 0), .int .u64 (nl 0), .nils] [(0, 1, .t 3)])), .op none none (.st 26 (.t 2) (.t 4))]
def v30 : VC := .seq (.reg v30_0) (.seq (.reg v30_1) .ret)
def rr30 : List RV := [.m 2 true 26]
theorem code30 : (Tryd.f30.body).bind (cCode Tryd.prog) = some v30 := by kernel_rfl
theorem res30 : cRVs Tryd.prog (Tryd.f30.results.toList) = some rr30 := by kernel_rfl
theorem nt30 : Tryd.f30.ntmps = 5 := by kernel_rfl
theorem nm30 : (Tryd.f30.name == "runtime.NumGoroutine") = false := by kernel_rfl
def v31_0 : List VI := [.op (some 1) none (.box (.t 0)), .op (some 2) none (.new [.int .i64 0, .int .i64 0, .int .i64 0, .int .i64 0, .int .i64 0, .int .i64 0, .int .i64 0, .int .i64 0, .int .i64 0, .int .i64 0, .int .i64 0, .int .i64 0, .int .i64 0, .int .i64 0, .int .i64 0, .int .i64 0, .int .i64 0, .int .i64 0, .int .i64 0, .int .i64 0, .int .i64 0, .int .u64 (nl 0), .int .u64 (nl 0), .int .u64 (nl 0), .int .u64 (nl 0), .nils])]
def v31_1 : List VI := [.op (some 3) none (.p (.fda 0 (.t 1))), .op (some 4) none (.ld true 4 (.t 3)), .call (some 5) none (.fn 55) [.t 4], .call (some 6) none (.fn 24) [.t 5], .op none none (.st 26 (.t 2) (.t 6))]
def v31 : VC := .seq (.reg v31_0) (.seq (.reg v31_1) .ret)
def rr31 : List RV := [.m 2 true 26]
theorem code31 : (Tryd.f31.body).bind (cCode Tryd.prog) = some v31 := by kernel_rfl
theorem res31 : cRVs Tryd.prog (Tryd.f31.results.toList) = some rr31 := by kernel_rfl
theorem nt31 : Tryd.f31.ntmps = 7 := by kernel_rfl
theorem nm31 : (Tryd.f31.name == "runtime.NumGoroutine") = false := by kernel_rfl
def v32_0 : List VI := [.op (some 2) none (.box (.t 0)), .op (some 3) none (.box (.t 1)), .op (some 4) none (.p (.mov (.c (.bool false))))]
def v32_1 : List VI := [.op (some 6) none (.p (.fda 0 (.t 2))), .op (some 7) none (.ld false 1 (.t 6)), .op (some 8) none (.p (.fda 0 (.t 3))), .op (some 9) none (.ld false 1 (.t 8)), .op (some 10) none (.p (.eq true .i (.t 7) (.t 9)))]
def v32_2 : List VI := [.op (some 4) none (.p (.mov (.c (.bool false))))]
def v32_3 : List VI := [.op (some 11) none (.p (.fda 0 (.t 2))), .op (some 12) none (.ld false 1 (.t 11))]
def v32_4 : List VI := [.op (some 14) none (.p (.eq false .i (.t 12) (.c (.int .i64 1)))), .op (some 13) none (.p (.mov (.t 14)))]
def v32_5 : List VI := [.op (some 15) none (.p (.fda 1 (.t 2))), .op (some 16) none (.ld true 20 (.t 15)), .op (some 17) none (.p (.fda 1 (.t 3))), .op (some 18) none (.ld true 20 (.t 17)), .call (some 19) none (.fn 51) [.t 16, .t 18], .op (some 4) none (.p (.mov (.t 19)))]
def v32_6 : List VI := [.op (some 21) none (.p (.eq false .i (.t 12) (.c (.int .i64 2)))), .op (some 20) none (.p (.mov (.t 21)))]
def v32_7 : List VI := [.op (some 22) none (.p (.fda 21 (.t 2))), .op (some 23) none (.ld true 4 (.t 22)), .op (some 24) none (.p (.fda 21 (.t 3))), .op (some 25) none (.ld true 4 (.t 24)), .op (some 26) none (.p (.eqa false [.i, .i, .i, .i] (.t 23) (.t 25))), .op (some 4) none (.p (.mov (.t 26)))]
def v32_8 : VC := .seq (.reg v32_4) (.cond (.t 13) (.seq (.reg v32_5) .ret) (.seq (.reg v32_6) (.cond (.t 20) (.seq (.reg v32_7) .ret) .skip)))
def v32_9 : List VI := [.op (some 27) none (.p (.fda 25 (.t 2))), .op (some 28) none (.ld false 1 (.t 27)), .op (some 29) none (.p (.len false (.t 28))), .op (some 30) none (.p (.fda 25 (.t 3))), .op (some 31) none (.ld false 1 (.t 30)), .op (some 32) none (.p (.len false (.t 31))), .op (some 33) none (.p (.eq true .i (.t 29) (.t 32)))]
def v32_10 : List VI := [.op (some 4) none (.p (.mov (.c (.bool false))))]
def v32_11 : List VI := [.op (some 5) none (.p (.mov (.c (.int .i64 0))))]
def v32_12 : List VI := [.op (some 34) none (.p (.mov (.t 5))), .op (some 35) none (.p (.fda 25 (.t 2))), .op (some 36) none (.ld false 1 (.t 35)), .op (some 37) none (.p (.len false (.t 36))), .op (some 38) none (.p (.bin .lss (.t 34) (.t 37)))]
def v32_13 : List DS := [.mk 0 true (.op (some 41) none (.p (.fda 25 (.t 2)))) [] [], .mk 1 true (.op (some 42) none (.ld false 1 (.t 41))) [] [], .mk 2 true (.op (some 43) none (.p (.mov (.t 5)))) [] [], .mk 3 true (.op (some 44) none (.p (.ixs 4 (.t 42) (.t 43)))) [] [], .mk 4 true (.op (some 45) none (.ld true 4 (.t 44))) [] [], .mk 5 true (.op (some 46) none (.p (.fda 25 (.t 3)))) [] [], .mk 6 true (.op (some 47) none (.ld false 1 (.t 46))) [] [], .mk 7 true (.op (some 48) none (.p (.mov (.t 5)))) [] [], .mk 8 true (.op (some 49) none (.p (.ixs 4 (.t 47) (.t 48)))) [] [], .mk 9 true (.op (some 50) none (.ld true 4 (.t 49))) [] [], .mk 10 true (.op (some 51) none (.p (.eqa true [.i, .i, .i, .i] (.t 45) (.t 50)))) [] []]
def v32_14 : List VI := [.op (some 4) none (.p (.mov (.c (.bool false))))]
def v32_15 : VC := .seq (.drw v32_13) (.cond (.t 51) (.seq (.reg v32_14) .ret) .skip)
def v32_16 : List VI := [.op (some 39) none (.p (.mov (.t 5))), .op (some 40) none (.p (.bin .add (.t 39) (.c (.int .i64 1)))), .op (some 5) none (.p (.mov (.t 40)))]
def v32_17 : VC := .seq (.seq (.reg v32_12) (.cond (.t 38) .skip (.exit 1))) (.seq (.block 2 v32_15) (.reg v32_16))
def v32_18 : VC := .loop v32_17
def v32_19 : List VI := [.op (some 4) none (.p (.mov (.c (.bool true))))]
def v32 : VC := .seq (.reg v32_0) (.seq (.seq (.reg v32_1) (.cond (.t 10) (.seq (.reg v32_2) .ret) .skip)) (.seq (.seq (.reg v32_3) (.block 0 v32_8)) (.seq (.seq (.reg v32_9) (.cond (.t 33) (.seq (.reg v32_10) .ret) .skip)) (.seq (.seq (.reg v32_11) (.block 1 v32_18)) (.seq (.reg v32_19) .ret)))))
def rr32 : List RV := [.t 4]
theorem code32 : (Tryd.f32.body).bind (cCode Tryd.prog) = some v32 := by kernel_rfl
theorem res32 : cRVs Tryd.prog (Tryd.f32.results.toList) = some rr32 := by kernel_rfl
theorem nt32 : Tryd.f32.ntmps = 52 := by kernel_rfl
theorem nm32 : (Tryd.f32.name == "runtime.NumGoroutine") = false := by kernel_rfl
def v33_0 : List VI := [.op (some 3) none (.box (.t 1)), .op (some 4) none (.new [.int .i64 0, .int .i64 0, .int .i64 0, .int .i64 0, .int .i64 0, .int .i64 0, .int .i64 0, .int .i64 0, .int .i64 0, .int .i64 0, .int .i64 0, .int .i64 0, .int .i64 0, .int .i64 0, .int .i64 0, .int .i64 0, .int .i64 0, .int .i64 0, .int .i64 0, .int .i64 0, .int .i64 0, .int .u64 (nl 0), .int .u64 (nl 0), .int .u64 (nl 0), .int .u64 (nl 0), .nils]), .op (some 5) none (.p (.mov (.c (.int .i64 0))))]
def v33_1 : List VI := [.op (some 10) none (.p (.mov (.t 0)))]
def v33_2 : List VI := [.op (some 12) none (.p (.eq false .i (.t 10) (.c (.int .i64 1)))), .op (some 11) none (.p (.mov (.t 12)))]
def v33_3 : List VI := [.op (some 14) none (.ld true 32 (.t 3)), .call (some 15) none (.fn 56) [.t 14], .op (some 13) none (.p (.mov (.t 15))), .op (some 16) none (.p (.ext (.t 13) 0)), .op (some 17) none (.p (.ext (.t 13) 1)), .op (some 6) none (.new [.int .i64 0, .int .i64 0, .int .i64 0, .int .i64 0, .int .i64 0, .int .i64 0, .int .i64 0, .int .i64 0, .int .i64 0, .int .i64 0, .int .i64 0, .int .i64 0, .int .i64 0, .int .i64 0, .int .i64 0, .int .i64 0, .int .i64 0, .int .i64 0, .int .i64 0, .int .i64 0]), .op none none (.st 20 (.t 6) (.t 16)), .op (some 7) none (.p (.mov (.t 17)))]
def v33_4 : List VI := [.op (some 18) none (.p (.mov (.t 7))), .op (some 19) none (.p (.eq true .i (.t 18) (.c (.int .i64 0))))]
def v33_5 : List VI := [.op (some 20) none (.p (.mov (.t 0))), .call (some 21) none (.fn 30) [.t 20], .op (some 22) none (.p (.mov (.t 7))), .op none none (.st 26 (.t 4) (.t 21)), .op (some 5) none (.p (.mov (.t 22)))]
def v33_6 : List VI := [.op (some 23) none (.ld true 20 (.t 6)), .call (some 24) none (.fn 57) [.t 23], .op none none (.st 26 (.t 4) (.t 24)), .op (some 5) none (.p (.mov (.c (.int .i64 0))))]
def v33_7 : List VI := [.op (some 26) none (.p (.eq false .i (.t 10) (.c (.int .i64 2)))), .op (some 25) none (.p (.mov (.t 26)))]
def v33_8 : List VI := [.op (some 28) none (.ld true 32 (.t 3)), .call (some 29) none (.fn 35) [.t 28], .op (some 27) none (.p (.mov (.t 29))), .op (some 30) none (.p (.ext (.t 27) 0)), .op (some 31) none (.p (.ext (.t 27) 1)), .op (some 8) none (.new [.int .u64 (nl 0), .int .u64 (nl 0), .int .u64 (nl 0), .int .u64 (nl 0)]), .op none none (.st 4 (.t 8) (.t 30)), .op (some 9) none (.p (.mov (.t 31)))]
def v33_9 : List VI := [.op (some 32) none (.p (.mov (.t 9))), .op (some 33) none (.p (.eq true .i (.t 32) (.c (.int .i64 0))))]
def v33_10 : List VI := [.op (some 34) none (.p (.mov (.t 0))), .call (some 35) none (.fn 30) [.t 34], .op (some 36) none (.p (.mov (.t 9))), .op none none (.st 26 (.t 4) (.t 35)), .op (some 5) none (.p (.mov (.t 36)))]
def v33_11 : List VI := [.op (some 37) none (.ld true 4 (.t 8)), .call (some 38) none (.fn 24) [.t 37], .op none none (.st 26 (.t 4) (.t 38)), .op (some 5) none (.p (.mov (.c (.int .i64 0))))]
def v33_12 : VC := .seq (.reg v33_2) (.cond (.t 11) (.seq (.reg v33_3) (.seq (.seq (.reg v33_4) (.cond (.t 19) (.seq (.reg v33_5) .ret) .skip)) (.seq (.reg v33_6) .ret))) (.seq (.reg v33_7) (.cond (.t 25) (.seq (.reg v33_8) (.seq (.seq (.reg v33_9) (.cond (.t 33) (.seq (.reg v33_10) .ret) .skip)) (.seq (.reg v33_11) .ret))) .skip)))
def v33_13 : List VI := [.op (some 39) none (.p (.mov (.t 0))), .call (some 40) none (.fn 30) [.t 39], .op none none (.st 26 (.t 4) (.t 40)), .op (some 5) none (.p (.mov (.c (.int .i64 50))))]
def v33 : VC := .seq (.reg v33_0) (.seq (.seq (.reg v33_1) (.block 0 v33_12)) (.seq (.reg v33_13) .ret))
def rr33 : List RV := [.m 4 true 26, .t 5]
theorem code33 : (Tryd.f33.body).bind (cCode Tryd.prog) = some v33 := by kernel_rfl
theorem res33 : cRVs Tryd.prog (Tryd.f33.results.toList) = some rr33 := by kernel_rfl
theorem nt33 : Tryd.f33.ntmps = 41 := by kernel_rfl
theorem nm33 : (Tryd.f33.name == "runtime.NumGoroutine") = false := by kernel_rfl
def v34_0 : List VI := [.op (some 2) none (.new [.int .u8 (nl 0), .int .u8 (nl 0), .int .u8 (nl 0), .int .u8 (nl 0), .int .u8 (nl 0), .int .u8 (nl 0), .int .u8 (nl 0), .int .u8 (nl 0), .int .u8 (nl 0), .int .u8 (nl 0), .int .u8 (nl 0), .int .u8 (nl 0), .int .u8 (nl 0), .int .u8 (nl 0), .int .u8 (nl 0), .int .u8 (nl 0), .int .u8 (nl 0), .int .u8 (nl 0), .int .u8 (nl 0), .int .u8 (nl 0), .int .u8 (nl 0), .int .u8 (nl 0), .int .u8 (nl 0), .int .u8 (nl 0), .int .u8 (nl 0), .int .u8 (nl 0), .int .u8 (nl 0), .int .u8 (nl 0), .int .u8 (nl 0), .int .u8 (nl 0), .int .u8 (nl 0), .int .u8 (nl 0)])]
def v34_1 : List VI := [.op (some 3) none (.new [.int .u8 (nl 0), .int .u8 (nl 0), .int .u8 (nl 0), .int .u8 (nl 0), .int .u8 (nl 0), .int .u8 (nl 0), .int .u8 (nl 0), .int .u8 (nl 0), .int .u8 (nl 0), .int .u8 (nl 0), .int .u8 (nl 0), .int .u8 (nl 0), .int .u8 (nl 0), .int .u8 (nl 0), .int .u8 (nl 0), .int .u8 (nl 0), .int .u8 (nl 0), .int .u8 (nl 0), .int .u8 (nl 0), .int .u8 (nl 0), .int .u8 (nl 0), .int .u8 (nl 0), .int .u8 (nl 0), .int .u8 (nl 0), .int .u8 (nl 0), .int .u8 (nl 0), .int .u8 (nl 0), .int .u8 (nl 0), .int .u8 (nl 0), .int .u8 (nl 0), .int .u8 (nl 0), .int .u8 (nl 0)])]
def v34_2 : List DS := [.mk 0 true (.op (some 4) none (.p (.sla 32 1 (.t 3) none none none))) [] [], .mk 1 true (.op (some 5) none (.p (.mov (.t 0)))) [] [], .mk 2 true (.op (some 6) none (.p (.nck (.t 5)))) [] [], .mk 3 true (.op (some 7) none (.p (.fda 1 (.t 6)))) [] [], .mk 4 true (.op (some 8) none (.ld false 1 (.t 7))) [] [], .mk 5 true (.op (some 9) none (.slx 1 (.t 8) none (some (.c (.int .i64 32))) none)) [] [], .mk 6 false (.op (some 10) none (.cpy 1 (.t 4) (.t 9))) [] []]
def v34_3 : List VI := [.op (some 11) none (.p (.mov (.t 0))), .op (some 12) none (.p (.mov (.t 0))), .op (some 13) none (.p (.nck (.t 12))), .op (some 14) none (.p (.fda 1 (.t 13))), .op (some 15) none (.ld false 1 (.t 14)), .op (some 16) none (.slx 1 (.t 15) (some (.c (.int .i64 32))) none none), .op (some 17) none (.p (.nck (.t 11))), .op (some 18) none (.p (.fda 1 (.t 17))), .op none none (.st 1 (.t 18) (.t 16))]
def v34_4 : List VI := [.op (some 19) none (.ld true 32 (.t 3)), .op none none (.st 32 (.t 2) (.t 19))]
def v34 : VC := .seq (.reg v34_0) (.seq (.reg v34_1) (.seq (.drw v34_2) (.seq (.reg v34_3) (.seq (.reg v34_4) .ret))))
def rr34 : List RV := [.m 2 true 32]
theorem code34 : (Tryd.f34.body).bind (cCode Tryd.prog) = some v34 := by kernel_rfl
theorem res34 : cRVs Tryd.prog (Tryd.f34.results.toList) = some rr34 := by kernel_rfl
theorem nt34 : Tryd.f34.ntmps = 20 := by kernel_rfl
theorem nm34 : (Tryd.f34.name == "runtime.NumGoroutine") = false := by kernel_rfl
def v35_0 : List VI := [.op (some 1) none (.box (.t 0)), .op (some 2) none (.new [.int .u64 (nl 0), .int .u64 (nl 0), .int .u64 (nl 0), .int .u64 (nl 0)]), .op (some 3) none (.p (.mov (.c (.int .i64 0))))]
def v35_1 : List VI := [.op (some 5) none (.ld true 32 (.t 1)), .call (some 6) none (.fn 58) [.t 5], .op (some 4) none (.new [.int .u64 (nl 0), .int .u64 (nl 0), .int .u64 (nl 0), .int .u64 (nl 0)]), .op none none (.st 4 (.t 4) (.t 6))]
def v35_2 : List DS := [.mk 0 true (.op (some 7) none (.ld true 4 (.t 4))) [] [], .mk 1 false (.call (some 8) none (.fn 60) []) [4] [], .mk 2 false (.call (some 9) none (.fn 59) [.t 7, .t 8]) [] [], .mk 3 true (.op (some 10) none (.p (.un .not (.t 9)))) [] []]
def v35_3 : List VI := [.op (some 11) none (.p (.bld [.int .u64 (nl 0), .int .u64 (nl 0), .int .u64 (nl 0), .int .u64 (nl 0)] [])), .op none none (.st 4 (.t 2) (.t 11)), .op (some 3) none (.p (.mov (.c (.int .i64 3))))]
def v35_4 : List VI := [.op (some 12) none (.ld true 4 (.t 4)), .op none none (.st 4 (.t 2) (.t 12)), .op (some 3) none (.p (.mov (.c (.int .i64 0))))]
def v35 : VC := .seq (.reg v35_0) (.seq (.reg v35_1) (.seq (.seq (.drw v35_2) (.cond (.t 10) (.seq (.reg v35_3) .ret) .skip)) (.seq (.reg v35_4) .ret)))
def rr35 : List RV := [.m 2 true 4, .t 3]
theorem code35 : (Tryd.f35.body).bind (cCode Tryd.prog) = some v35 := by kernel_rfl
theorem res35 : cRVs Tryd.prog (Tryd.f35.results.toList) = some rr35 := by kernel_rfl
theorem nt35 : Tryd.f35.ntmps = 13 := by kernel_rfl
theorem nm35 : (Tryd.f35.name == "runtime.NumGoroutine") = false := by kernel_rfl
def v36_0 : List VI := [.op (some 2) none (.new [.int .u64 (nl 0), .int .u64 (nl 0), .int .u64 (nl 0), .int .u64 (nl 0)])]
def v36_1 : List VI := [.op (some 3) none (.new [.int .u64 (nl 0), .int .u64 (nl 0), .int .u64 (nl 0), .int .u64 (nl 0)])]
def v36_2 : List VI := [.op (some 5) none (.p (.mov (.t 0))), .op (some 6) none (.p (.len false (.t 5))), .op (some 7) none (.p (.bin .sub (.t 6) (.c (.int .i64 1)))), .op (some 4) none (.p (.mov (.t 7)))]
def v36_3 : List VI := [.op (some 8) none (.p (.mov (.t 4))), .op (some 9) none (.p (.bin .geq (.t 8) (.c (.int .i64 0))))]
def v36_4 : List DS := [.mk 0 true (.op (some 12) none (.ld true 4 (.t 3))) [] [], .mk 1 true (.op (some 13) none (.p (.mov (.t 0)))) [] [], .mk 2 true (.op (some 14) none (.p (.mov (.t 4)))) [] [], .mk 3 true (.op (some 15) none (.p (.ixs 1 (.t 13) (.t 14)))) [] [], .mk 4 true (.op (some 16) none (.ld false 1 (.t 15))) [] [], .mk 5 false (.call (some 17) none (.fn 61) [.t 12, .t 16]) [] [], .mk 6 false (.op none none (.st 4 (.t 3) (.t 17))) [] []]
def v36_5 : VC := .drw v36_4
def v36_6 : List VI := [.op (some 10) none (.p (.mov (.t 4))), .op (some 11) none (.p (.bin .sub (.t 10) (.c (.int .i64 1)))), .op (some 4) none (.p (.mov (.t 11)))]
def v36_7 : VC := .seq (.seq (.reg v36_3) (.cond (.t 9) .skip (.exit 0))) (.seq (.block 1 v36_5) (.reg v36_6))
def v36_8 : VC := .loop v36_7
def v36_9 : List VI := [.op (some 18) none (.ld true 4 (.t 3)), .op none none (.st 4 (.t 2) (.t 18))]
def v36 : VC := .seq (.reg v36_0) (.seq (.reg v36_1) (.seq (.seq (.reg v36_2) (.block 0 v36_8)) (.seq (.reg v36_9) .ret)))
def rr36 : List RV := [.m 2 true 4]
theorem code36 : (Tryd.f36.body).bind (cCode Tryd.prog) = some v36 := by kernel_rfl
theorem res36 : cRVs Tryd.prog (Tryd.f36.results.toList) = some rr36 := by kernel_rfl
theorem nt36 : Tryd.f36.ntmps = 19 := by kernel_rfl
theorem nm36 : (Tryd.f36.name == "runtime.NumGoroutine") = false := by kernel_rfl
def v37_0 : List VI := [.op (some 1) none (.new [.int .u8 (nl 0), .int .u8 (nl 0), .int .u8 (nl 0), .int .u8 (nl 0), .int .u8 (nl 0), .int .u8 (nl 0), .int .u8 (nl 0), .int .u8 (nl 0), .int .u8 (nl 0), .int .u8 (nl 0), .int .u8 (nl 0), .int .u8 (nl 0), .int .u8 (nl 0), .int .u8 (nl 0), .int .u8 (nl 0), .int .u8 (nl 0), .int .u8 (nl 0), .int .u8 (nl 0), .int .u8 (nl 0), .int .u8 (nl 0), .int .u8 (nl 0), .int .u8 (nl 0), .int .u8 (nl 0), .int .u8 (nl 0), .int .u8 (nl 0), .int .u8 (nl 0), .int .u8 (nl 0), .int .u8 (nl 0), .int .u8 (nl 0), .int .u8 (nl 0), .int .u8 (nl 0), .int .u8 (nl 0)])]
def v37_1 : List VI := [.op (some 2) none (.ld false 1 (.t 0)), .op (some 3) none (.p (.nck (.t 2))), .op (some 4) none (.ld true 4 (.t 3)), .op (some 5) none (.p (.mkI 28 (.t 4))), .call (some 6) none (.inv (.t 5) "Encode") [], .op none none (.st 32 (.t 1) (.t 6))]
def v37 : VC := .seq (.reg v37_0) (.seq (.reg v37_1) .ret)
def rr37 : List RV := [.m 1 true 32]
theorem code37 : (Tryd.f37.body).bind (cCode Tryd.prog) = some v37 := by kernel_rfl
theorem res37 : cRVs Tryd.prog (Tryd.f37.results.toList) = some rr37 := by kernel_rfl
theorem nt37 : Tryd.f37.ntmps = 7 := by kernel_rfl
theorem nm37 : (Tryd.f37.name == "runtime.NumGoroutine") = false := by kernel_rfl
def v38_0 : List VI := [.op (some 3) none (.new [.int .u64 (nl 0), .int .u64 (nl 0), .int .u64 (nl 0), .int .u64 (nl 0)])]
def v38_1 : List DS := [.mk 0 true (.op (some 7) none (.ld true 4 (.t 3))) [] [], .mk 1 true (.op (some 8) none (.p (.mkI 28 (.t 7)))) [] [], .mk 2 true (.op (some 9) none (.p (.mov (.t 0)))) [] [], .mk 8 true (.op (some 4) none (.new [.int .u64 (nl 0), .int .u64 (nl 0), .int .u64 (nl 0), .int .u64 (nl 0)])) [] [], .mk 3 false (.call (some 10) none (.fn 39) [.t 9]) [3] [4], .mk 4 false (.call (some 11) none (.inv (.t 8) "Decode") [.t 10]) [] [4], .mk 5 true (.op (some 6) none (.p (.mov (.t 11)))) [] [], .mk 6 true (.op (some 12) none (.p (.ext (.t 6) 0))) [] [], .mk 7 true (.op (some 13) none (.p (.ext (.t 6) 1))) [] [], .mk 9 false (.op none none (.st 4 (.t 4) (.t 12))) [] [], .mk 10 false (.op (some 5) none (.p (.mov (.t 13)))) [] []]
def v38_2 : List VI := [.op (some 14) none (.p (.mov (.t 0))), .op (some 15) none (.p (.mov (.t 5))), .call (some 16) none (.fn 40) [.t 14, .t 15]]
def v38_3 : List VI := [.op (some 17) none (.ld false 1 (.t 1)), .op (some 18) none (.ld true 4 (.t 4)), .op (some 19) none (.p (.nck (.t 17))), .op none none (.st 4 (.t 19) (.t 18))]
def v38 : VC := .seq (.reg v38_0) (.seq (.drw v38_1) (.seq (.reg v38_2) (.reg v38_3)))
def rr38 : List RV := []
theorem code38 : (Tryd.f38.body).bind (cCode Tryd.prog) = some v38 := by kernel_rfl
theorem res38 : cRVs Tryd.prog (Tryd.f38.results.toList) = some rr38 := by kernel_rfl
theorem nt38 : Tryd.f38.ntmps = 20 := by kernel_rfl
theorem nm38 : (Tryd.f38.name == "runtime.NumGoroutine") = false := by kernel_rfl
def v39_0 : List VI := [.op (some 2) none (.new [.int .u8 (nl 0), .int .u8 (nl 0), .int .u8 (nl 0), .int .u8 (nl 0), .int .u8 (nl 0), .int .u8 (nl 0), .int .u8 (nl 0), .int .u8 (nl 0), .int .u8 (nl 0), .int .u8 (nl 0), .int .u8 (nl 0), .int .u8 (nl 0), .int .u8 (nl 0), .int .u8 (nl 0), .int .u8 (nl 0), .int .u8 (nl 0), .int .u8 (nl 0), .int .u8 (nl 0), .int .u8 (nl 0), .int .u8 (nl 0), .int .u8 (nl 0), .int .u8 (nl 0), .int .u8 (nl 0), .int .u8 (nl 0), .int .u8 (nl 0), .int .u8 (nl 0), .int .u8 (nl 0), .int .u8 (nl 0), .int .u8 (nl 0), .int .u8 (nl 0), .int .u8 (nl 0), .int .u8 (nl 0)])]
def v39_1 : List DS := [.mk 0 true (.op (some 3) none (.p (.sla 32 1 (.t 2) none none none))) [] [], .mk 1 true (.op (some 4) none (.p (.mov (.t 0)))) [] [], .mk 2 true (.op (some 5) none (.p (.nck (.t 4)))) [] [], .mk 3 true (.op (some 6) none (.p (.fda 0 (.t 5)))) [] [], .mk 4 true (.op (some 7) none (.ld false 1 (.t 6))) [] [], .mk 5 false (.op (some 8) none (.cpy 1 (.t 3) (.t 7))) [] []]
def v39_2 : List VI := [.op (some 9) none (.p (.mov (.t 0))), .op (some 10) none (.p (.mov (.t 0))), .op (some 11) none (.p (.nck (.t 10))), .op (some 12) none (.p (.fda 0 (.t 11))), .op (some 13) none (.ld false 1 (.t 12)), .op (some 14) none (.slx 1 (.t 13) (some (.c (.int .i64 32))) none none), .op (some 15) none (.p (.nck (.t 9))), .op (some 16) none (.p (.fda 0 (.t 15))), .op none none (.st 1 (.t 16) (.t 14))]
def v39_3 : List VI := [.op (some 17) none (.ld true 32 (.t 2)), .op none none (.st 32 (.t 2) (.t 17))]
def v39 : VC := .seq (.reg v39_0) (.seq (.drw v39_1) (.seq (.reg v39_2) (.seq (.reg v39_3) .ret)))
def rr39 : List RV := [.m 2 true 32]
theorem code39 : (Tryd.f39.body).bind (cCode Tryd.prog) = some v39 := by kernel_rfl
theorem res39 : cRVs Tryd.prog (Tryd.f39.results.toList) = some rr39 := by kernel_rfl
theorem nt39 : Tryd.f39.ntmps = 18 := by kernel_rfl
theorem nm39 : (Tryd.f39.name == "runtime.NumGoroutine") = false := by kernel_rfl
def v40_0 : List VI := [.op (some 4) none (.p (.mov (.t 0))), .op (some 5) none (.p (.nck (.t 4))), .op (some 6) none (.p (.fda 1 (.t 5))), .op (some 7) none (.ld false 1 (.t 6)), .op (some 8) none (.p (.eq false .i (.t 7) (.c (.int .i64 0))))]
def v40_1 : List VI := [.op (some 9) none (.p (.mov (.t 0))), .op (some 10) none (.p (.mov (.t 1))), .op (some 11) none (.p (.nck (.t 9))), .op (some 12) none (.p (.fda 1 (.t 11))), .op none none (.st 1 (.t 12) (.t 10))]
def v40 : VC := .seq (.reg v40_0) (.cond (.t 8) (.reg v40_1) .skip)
def rr40 : List RV := []
theorem code40 : (Tryd.f40.body).bind (cCode Tryd.prog) = some v40 := by kernel_rfl
theorem res40 : cRVs Tryd.prog (Tryd.f40.results.toList) = some rr40 := by kernel_rfl
theorem nt40 : Tryd.f40.ntmps = 13 := by kernel_rfl
theorem nm40 : (Tryd.f40.name == "runtime.NumGoroutine") = false := by kernel_rfl
def v41_0 : List VI := [.op (some 1) none (.new [.int .u8 (nl 0), .int .u8 (nl 0), .int .u8 (nl 0), .int .u8 (nl 0), .int .u8 (nl 0), .int .u8 (nl 0), .int .u8 (nl 0), .int .u8 (nl 0), .int .u8 (nl 0), .int .u8 (nl 0), .int .u8 (nl 0), .int .u8 (nl 0), .int .u8 (nl 0), .int .u8 (nl 0), .int .u8 (nl 0), .int .u8 (nl 0), .int .u8 (nl 0), .int .u8 (nl 0), .int .u8 (nl 0), .int .u8 (nl 0), .int .u8 (nl 0), .int .u8 (nl 0), .int .u8 (nl 0), .int .u8 (nl 0), .int .u8 (nl 0), .int .u8 (nl 0), .int .u8 (nl 0), .int .u8 (nl 0), .int .u8 (nl 0), .int .u8 (nl 0), .int .u8 (nl 0), .int .u8 (nl 0)])]
def v41_1 : List VI := [.op (some 2) none (.ld false 1 (.t 0)), .op (some 3) none (.p (.nck (.t 2))), .op (some 4) none (.ld true 4 (.t 3)), .call (some 5) none (.fn 42) [.t 4], .op none none (.st 32 (.t 1) (.t 5))]
def v41 : VC := .seq (.reg v41_0) (.seq (.reg v41_1) .ret)
def rr41 : List RV := [.m 1 true 32]
theorem code41 : (Tryd.f41.body).bind (cCode Tryd.prog) = some v41 := by kernel_rfl
theorem res41 : cRVs Tryd.prog (Tryd.f41.results.toList) = some rr41 := by kernel_rfl
theorem nt41 : Tryd.f41.ntmps = 6 := by kernel_rfl
theorem nm41 : (Tryd.f41.name == "runtime.NumGoroutine") = false := by kernel_rfl
def v42_0 : List VI := [.op (some 1) none (.box (.t 0)), .op (some 2) none (.new [.int .u8 (nl 0), .int .u8 (nl 0), .int .u8 (nl 0), .int .u8 (nl 0), .int .u8 (nl 0), .int .u8 (nl 0), .int .u8 (nl 0), .int .u8 (nl 0), .int .u8 (nl 0), .int .u8 (nl 0), .int .u8 (nl 0), .int .u8 (nl 0), .int .u8 (nl 0), .int .u8 (nl 0), .int .u8 (nl 0), .int .u8 (nl 0), .int .u8 (nl 0), .int .u8 (nl 0), .int .u8 (nl 0), .int .u8 (nl 0), .int .u8 (nl 0), .int .u8 (nl 0), .int .u8 (nl 0), .int .u8 (nl 0), .int .u8 (nl 0), .int .u8 (nl 0), .int .u8 (nl 0), .int .u8 (nl 0), .int .u8 (nl 0), .int .u8 (nl 0), .int .u8 (nl 0), .int .u8 (nl 0)])]
def v42_1 : List VI := [.op (some 5) none (.ld true 4 (.t 1)), .call (some 6) none (.fn 62) [.t 5], .op none none (.st 4 (.t 1) (.t 6))]
def v42_2 : List VI := [.op (some 3) none (.new [.int .u8 (nl 0), .int .u8 (nl 0), .int .u8 (nl 0), .int .u8 (nl 0), .int .u8 (nl 0), .int .u8 (nl 0), .int .u8 (nl 0), .int .u8 (nl 0), .int .u8 (nl 0), .int .u8 (nl 0), .int .u8 (nl 0), .int .u8 (nl 0), .int .u8 (nl 0), .int .u8 (nl 0), .int .u8 (nl 0), .int .u8 (nl 0), .int .u8 (nl 0), .int .u8 (nl 0), .int .u8 (nl 0), .int .u8 (nl 0), .int .u8 (nl 0), .int .u8 (nl 0), .int .u8 (nl 0), .int .u8 (nl 0), .int .u8 (nl 0), .int .u8 (nl 0), .int .u8 (nl 0), .int .u8 (nl 0), .int .u8 (nl 0), .int .u8 (nl 0), .int .u8 (nl 0), .int .u8 (nl 0)])]
def v42_3 : List VI := [.op (some 7) none (.p (.mov (.c (.int .i64 0))))]
def v42_4 : List VI := [.op (some 8) none (.p (.bin .lss (.t 7) (.c (.int .i64 32))))]
def v42_5 : List VI := [.op (some 9) none (.p (.mov (.t 7))), .op (some 4) none (.p (.mov (.t 9)))]
def v42_6 : List VI := [.op (some 10) none (.p (.mov (.t 4))), .op (some 11) none (.p (.mov (.t 4))), .op (some 12) none (.p (.bin .quo (.t 11) (.c (.int .i64 8)))), .op (some 13) none (.p (.ixa 4 1 (.t 1) (.t 12))), .op (some 14) none (.ld false 1 (.t 13)), .op (some 15) none (.p (.mov (.t 4))), .op (some 16) none (.p (.bin .rem (.t 15) (.c (.int .i64 8)))), .op (some 17) none (.p (.bin .mul (.c (.int .i64 8)) (.t 16))), .op (some 18) none (.p (.bin .shr (.t 14) (.t 17))), .op (some 19) none (.p (.cvi .u8 (.t 18))), .op (some 20) none (.p (.ixa 32 1 (.t 3) (.t 10))), .op none none (.st 1 (.t 20) (.t 19))]
def v42_7 : VC := .seq (.reg v42_5) (.reg v42_6)
def v42_8 : List VI := [.op (some 21) none (.p (.bin .add (.t 7) (.c (.int .i64 1)))), .op (some 7) none (.p (.mov (.t 21)))]
def v42_9 : VC := .seq (.reg v42_4) (.seq (.cond (.t 8) .skip (.exit 0)) (.seq (.block 1 v42_7) (.reg v42_8)))
def v42_10 : VC := .loop v42_9
def v42_11 : List VI := [.op (some 22) none (.ld true 32 (.t 3)), .op none none (.st 32 (.t 2) (.t 22))]
def v42 : VC := .seq (.reg v42_0) (.seq (.reg v42_1) (.seq (.reg v42_2) (.seq (.seq (.reg v42_3) (.block 0 v42_10)) (.seq (.reg v42_11) .ret))))
def rr42 : List RV := [.m 2 true 32]
theorem code42 : (Tryd.f42.body).bind (cCode Tryd.prog) = some v42 := by kernel_rfl
theorem res42 : cRVs Tryd.prog (Tryd.f42.results.toList) = some rr42 := by kernel_rfl
theorem nt42 : Tryd.f42.ntmps = 23 := by kernel_rfl
theorem nm42 : (Tryd.f42.name == "runtime.NumGoroutine") = false := by kernel_rfl
def v43_0 : List VI := [.op (some 6) none (.p (.mov (.t 0))), .call (some 7) none (.fn 39) [.t 6], .call (some 8) none (.fn 44) [.t 7], .op (some 5) none (.p (.mov (.t 8))), .op (some 9) none (.p (.ext (.t 5) 0)), .op (some 10) none (.p (.ext (.t 5) 1)), .op (some 3) none (.new [.int .u64 (nl 0), .int .u64 (nl 0), .int .u64 (nl 0), .int .u64 (nl 0)]), .op none none (.st 4 (.t 3) (.t 9)), .op (some 4) none (.p (.mov (.t 10)))]
def v43_1 : List VI := [.op (some 11) none (.p (.mov (.t 0))), .op (some 12) none (.p (.mov (.t 4))), .call (some 13) none (.fn 40) [.t 11, .t 12]]
def v43_2 : List VI := [.op (some 14) none (.ld false 1 (.t 1)), .op (some 15) none (.ld true 4 (.t 3)), .op (some 16) none (.p (.nck (.t 14))), .op none none (.st 4 (.t 16) (.t 15))]
def v43 : VC := .seq (.reg v43_0) (.seq (.reg v43_1) (.reg v43_2))
def rr43 : List RV := []
theorem code43 : (Tryd.f43.body).bind (cCode Tryd.prog) = some v43 := by kernel_rfl
theorem res43 : cRVs Tryd.prog (Tryd.f43.results.toList) = some rr43 := by kernel_rfl
theorem nt43 : Tryd.f43.ntmps = 17 := by kernel_rfl
theorem nm43 : (Tryd.f43.name == "runtime.NumGoroutine") = false := by kernel_rfl
def v44_0 : List VI := [.op (some 1) none (.box (.t 0)), .op (some 2) none (.new [.int .u64 (nl 0), .int .u64 (nl 0), .int .u64 (nl 0), .int .u64 (nl 0)]), .op (some 3) none (.p (.mov (.c (.int .i64 0))))]
def v44_1 : List VI := [.op (some 5) none (.ld true 32 (.t 1)), .call (some 6) none (.fn 63) [.t 5], .op (some 4) none (.new [.int .u64 (nl 0), .int .u64 (nl 0), .int .u64 (nl 0), .int .u64 (nl 0)]), .op none none (.st 4 (.t 4) (.t 6))]
def v44_2 : List DS := [.mk 0 true (.op (some 7) none (.ld true 4 (.t 4))) [] [], .mk 2 true (.op (some 9) none (.ld true 4 (.t 4))) [] [], .mk 1 false (.call (some 8) none (.fn 62) [.t 7]) [4] [], .mk 3 true (.op (some 10) none (.p (.eqa true [.i, .i, .i, .i] (.t 8) (.t 9)))) [] []]
def v44_3 : List VI := [.op (some 11) none (.p (.bld [.int .u64 (nl 0), .int .u64 (nl 0), .int .u64 (nl 0), .int .u64 (nl 0)] [])), .op none none (.st 4 (.t 2) (.t 11)), .op (some 3) none (.p (.mov (.c (.int .i64 3))))]
def v44_4 : List VI := [.op (some 12) none (.ld true 4 (.t 4)), .op none none (.st 4 (.t 2) (.t 12)), .op (some 3) none (.p (.mov (.c (.int .i64 0))))]
def v44 : VC := .seq (.reg v44_0) (.seq (.reg v44_1) (.seq (.seq (.drw v44_2) (.cond (.t 10) (.seq (.reg v44_3) .ret) .skip)) (.seq (.reg v44_4) .ret)))
def rr44 : List RV := [.m 2 true 4, .t 3]
theorem code44 : (Tryd.f44.body).bind (cCode Tryd.prog) = some v44 := by kernel_rfl
theorem res44 : cRVs Tryd.prog (Tryd.f44.results.toList) = some rr44 := by kernel_rfl
theorem nt44 : Tryd.f44.ntmps = 13 := by kernel_rfl
theorem nm44 : (Tryd.f44.name == "runtime.NumGoroutine") = false := by kernel_rfl
def v55_0 : List VI := [.op (some 1) none (.box (.t 0)), .op (some 2) none (.new [.int .u64 (nl 0), .int .u64 (nl 0), .int .u64 (nl 0), .int .u64 (nl 0)])]
def v55_1 : List VI := [.op (some 3) none (.ld true 4 (.t 1)), .call (some 4) none (.fn 25) [.t 3], .op none none (.st 4 (.t 2) (.t 4))]
def v55 : VC := .seq (.reg v55_0) (.seq (.reg v55_1) .ret)
def rr55 : List RV := [.m 2 true 4]
theorem code55 : (Tryd.f55.body).bind (cCode Tryd.prog) = some v55 := by kernel_rfl
theorem res55 : cRVs Tryd.prog (Tryd.f55.results.toList) = some rr55 := by kernel_rfl
theorem nt55 : Tryd.f55.ntmps = 5 := by kernel_rfl
theorem nm55 : (Tryd.f55.name == "runtime.NumGoroutine") = false := by kernel_rfl
def v58_0 : List VI := [.op (some 1) none (.box (.t 0)), .op (some 2) none (.new [.int .u64 (nl 0), .int .u64 (nl 0), .int .u64 (nl 0), .int .u64 (nl 0)])]
def v58_1 : List VI := [.op (some 3) none (.new [.int .u64 (nl 0), .int .u64 (nl 0), .int .u64 (nl 0), .int .u64 (nl 0)])]
def v58_2 : List VI := [.op (some 4) none (.p (.mov (.c (.int .i64 31))))]
def v58_3 : List VI := [.op (some 5) none (.p (.mov (.t 4))), .op (some 6) none (.p (.bin .geq (.t 5) (.c (.int .i64 0))))]
def v58_4 : List DS := [.mk 0 true (.op (some 9) none (.p (.mov (.t 4)))) [] [], .mk 1 true (.op (some 10) none (.p (.bin .quo (.t 9) (.c (.int .i64 8))))) [] [], .mk 2 true (.op (some 11) none (.p (.mov (.t 4)))) [] [], .mk 3 true (.op (some 12) none (.p (.bin .quo (.t 11) (.c (.int .i64 8))))) [] [], .mk 4 true (.op (some 13) none (.p (.ixa 4 1 (.t 3) (.t 12)))) [] [], .mk 5 true (.op (some 14) none (.ld false 1 (.t 13))) [] [], .mk 6 true (.op (some 15) none (.p (.bin .shl (.t 14) (.c (.int .u64 (nl 8)))))) [] [], .mk 7 true (.op (some 16) none (.p (.mov (.t 4)))) [] [], .mk 8 true (.op (some 17) none (.p (.ixa 32 1 (.t 1) (.t 16)))) [] [], .mk 9 true (.op (some 18) none (.ld false 1 (.t 17))) [] [], .mk 10 true (.op (some 19) none (.p (.cvi .u64 (.t 18)))) [] [], .mk 11 true (.op (some 20) none (.p (.bin .or (.t 15) (.t 19)))) [] [], .mk 12 true (.op (some 21) none (.p (.ixa 4 1 (.t 3) (.t 10)))) [] [], .mk 13 false (.op none none (.st 1 (.t 21) (.t 20))) [] []]
def v58_5 : VC := .drw v58_4
def v58_6 : List VI := [.op (some 7) none (.p (.mov (.t 4))), .op (some 8) none (.p (.bin .sub (.t 7) (.c (.int .i64 1)))), .op (some 4) none (.p (.mov (.t 8)))]
def v58_7 : VC := .seq (.seq (.reg v58_3) (.cond (.t 6) .skip (.exit 0))) (.seq (.block 1 v58_5) (.reg v58_6))
def v58_8 : VC := .loop v58_7
def v58_9 : List VI := [.op (some 22) none (.ld true 4 (.t 3)), .op none none (.st 4 (.t 2) (.t 22))]
def v58 : VC := .seq (.reg v58_0) (.seq (.reg v58_1) (.seq (.seq (.reg v58_2) (.block 0 v58_8)) (.seq (.reg v58_9) .ret)))
def rr58 : List RV := [.m 2 true 4]
theorem code58 : (Tryd.f58.body).bind (cCode Tryd.prog) = some v58 := by kernel_rfl
theorem res58 : cRVs Tryd.prog (Tryd.f58.results.toList) = some rr58 := by kernel_rfl
theorem nt58 : Tryd.f58.ntmps = 23 := by kernel_rfl
theorem nm58 : (Tryd.f58.name == "runtime.NumGoroutine") = false := by kernel_rfl
def v59_0 : List VI := [.op (some 2) none (.box (.t 0)), .op (some 3) none (.box (.t 1)), .op (some 4) none (.p (.mov (.c (.bool false))))]
def v59_1 : List VI := [.op (some 5) none (.p (.mov (.c (.int .i64 3))))]
def v59_2 : List VI := [.op (some 6) none (.p (.mov (.t 5))), .op (some 7) none (.p (.bin .geq (.t 6) (.c (.int .i64 0))))]
def v59_3 : List DS := [.mk 0 true (.op (some 10) none (.p (.mov (.t 5)))) [] [], .mk 1 true (.op (some 11) none (.p (.ixa 4 1 (.t 2) (.t 10)))) [] [], .mk 2 true (.op (some 12) none (.ld false 1 (.t 11))) [] [], .mk 3 true (.op (some 13) none (.p (.mov (.t 5)))) [] [], .mk 4 true (.op (some 14) none (.p (.ixa 4 1 (.t 3) (.t 13)))) [] [], .mk 5 true (.op (some 15) none (.ld false 1 (.t 14))) [] [], .mk 6 true (.op (some 16) none (.p (.eq true .i (.t 12) (.t 15)))) [] []]
def v59_4 : List DS := [.mk 0 true (.op (some 17) none (.p (.mov (.t 5)))) [] [], .mk 1 true (.op (some 18) none (.p (.ixa 4 1 (.t 2) (.t 17)))) [] [], .mk 2 true (.op (some 19) none (.ld false 1 (.t 18))) [] [], .mk 3 true (.op (some 20) none (.p (.mov (.t 5)))) [] [], .mk 4 true (.op (some 21) none (.p (.ixa 4 1 (.t 3) (.t 20)))) [] [], .mk 5 true (.op (some 22) none (.ld false 1 (.t 21))) [] [], .mk 6 true (.op (some 23) none (.p (.bin .lss (.t 19) (.t 22)))) [] [], .mk 7 false (.op (some 4) none (.p (.mov (.t 23)))) [] []]
def v59_5 : VC := .seq (.drw v59_3) (.cond (.t 16) (.seq (.drw v59_4) .ret) .skip)
def v59_6 : List VI := [.op (some 8) none (.p (.mov (.t 5))), .op (some 9) none (.p (.bin .sub (.t 8) (.c (.int .i64 1)))), .op (some 5) none (.p (.mov (.t 9)))]
def v59_7 : VC := .seq (.seq (.reg v59_2) (.cond (.t 7) .skip (.exit 0))) (.seq (.block 1 v59_5) (.reg v59_6))
def v59_8 : VC := .loop v59_7
def v59_9 : List VI := [.op (some 4) none (.p (.mov (.c (.bool false))))]
def v59 : VC := .seq (.reg v59_0) (.seq (.seq (.reg v59_1) (.block 0 v59_8)) (.seq (.reg v59_9) .ret))
def rr59 : List RV := [.t 4]
theorem code59 : (Tryd.f59.body).bind (cCode Tryd.prog) = some v59 := by kernel_rfl
theorem res59 : cRVs Tryd.prog (Tryd.f59.results.toList) = some rr59 := by kernel_rfl
theorem nt59 : Tryd.f59.ntmps = 24 := by kernel_rfl
theorem nm59 : (Tryd.f59.name == "runtime.NumGoroutine") = false := by kernel_rfl
def v60_0 : List VI := [.op (some 0) none (.new [.int .u64 (nl 0), .int .u64 (nl 0), .int .u64 (nl 0), .int .u64 (nl 0)])]
def v60_1 : List VI := [.op (some 1) none (.p (.bld [.int .u64 (nl 0), .int .u64 (nl 0), .int .u64 (nl 0), .int .u64 (nl 0)] [(0, 1, .c (.int .u64 (nl 6346243789798364141))), (1, 1, .c (.int .u64 (nl 1503914060200516822))), (2, 1, .c (.int .u64 (nl 0))), (3, 1, .c (.int .u64 (nl 1152921504606846976)))])), .op none none (.st 4 (.t 0) (.t 1))]
def v60 : VC := .seq (.reg v60_0) (.seq (.reg v60_1) .ret)
def rr60 : List RV := [.m 0 true 4]
theorem code60 : (Tryd.f60.body).bind (cCode Tryd.prog) = some v60 := by kernel_rfl
theorem res60 : cRVs Tryd.prog (Tryd.f60.results.toList) = some rr60 := by kernel_rfl
theorem nt60 : Tryd.f60.ntmps = 2 := by kernel_rfl
theorem nm60 : (Tryd.f60.name == "runtime.NumGoroutine") = false := by kernel_rfl
def v61_0 : List VI := [.op (some 2) none (.box (.t 0)), .op (some 4) none (.new [.int .u64 (nl 0), .int .u64 (nl 0), .int .u64 (nl 0), .int .u64 (nl 0)])]
def v61_1 : List VI := [.op (some 16) none (.p (.ixa 4 1 (.t 2) (.c (.int .i64 3)))), .op (some 17) none (.ld false 1 (.t 16)), .op (some 18) none (.p (.bin .shr (.t 17) (.c (.int .u64 (nl 44))))), .op (some 5) none (.p (.mov (.t 18)))]
def v61_2 : List VI := [.op (some 6) none (.new [.int .u64 (nl 0), .int .u64 (nl 0), .int .u64 (nl 0), .int .u64 (nl 0)])]
def v61_3 : List VI := [.op (some 19) none (.p (.ixa 4 1 (.t 2) (.c (.int .i64 0)))), .op (some 20) none (.ld false 1 (.t 19)), .op (some 21) none (.p (.bin .shl (.t 20) (.c (.int .u64 (nl 16))))), .op (some 22) none (.p (.mov (.t 1))), .op (some 23) none (.p (.bin .or (.t 21) (.t 22))), .op (some 24) none (.p (.ixa 4 1 (.t 6) (.c (.int .i64 0)))), .op none none (.st 1 (.t 24) (.t 23))]
def v61_4 : List VI := [.op (some 7) none (.p (.mov (.c (.int .i64 1))))]
def v61_5 : List VI := [.op (some 25) none (.p (.mov (.t 7))), .op (some 26) none (.p (.bin .lss (.t 25) (.c (.int .i64 4))))]
def v61_6 : List DS := [.mk 0 true (.op (some 29) none (.p (.mov (.t 7)))) [] [], .mk 1 true (.op (some 30) none (.p (.mov (.t 7)))) [] [], .mk 2 true (.op (some 31) none (.p (.ixa 4 1 (.t 2) (.t 30)))) [] [], .mk 3 true (.op (some 32) none (.ld false 1 (.t 31))) [] [], .mk 4 true (.op (some 33) none (.p (.bin .shl (.t 32) (.c (.int .u64 (nl 16)))))) [] [], .mk 5 true (.op (some 34) none (.p (.mov (.t 7)))) [] [], .mk 6 true (.op (some 35) none (.p (.bin .sub (.t 34) (.c (.int .i64 1))))) [] [], .mk 7 true (.op (some 36) none (.p (.ixa 4 1 (.t 2) (.t 35)))) [] [], .mk 8 true (.op (some 37) none (.ld false 1 (.t 36))) [] [], .mk 9 true (.op (some 38) none (.p (.bin .shr (.t 37) (.c (.int .u64 (nl 48)))))) [] [], .mk 10 true (.op (some 39) none (.p (.bin .or (.t 33) (.t 38)))) [] [], .mk 11 true (.op (some 40) none (.p (.ixa 4 1 (.t 6) (.t 29)))) [] [], .mk 12 false (.op none none (.st 1 (.t 40) (.t 39))) [] []]
def v61_7 : VC := .drw v61_6
def v61_8 : List VI := [.op (some 27) none (.p (.mov (.t 7))), .op (some 28) none (.p (.bin .add (.t 27) (.c (.int .i64 1)))), .op (some 7) none (.p (.mov (.t 28)))]
def v61_9 : VC := .seq (.seq (.reg v61_5) (.cond (.t 26) .skip (.exit 0))) (.seq (.block 1 v61_7) (.reg v61_8))
def v61_10 : VC := .loop v61_9
def v61_11 : List VI := [.op (some 41) none (.p (.ixa 4 1 (.t 6) (.c (.int .i64 3)))), .op (some 42) none (.ld false 1 (.t 41)), .op (some 43) none (.p (.bin .and (.t 42) (.c (.int .u64 (nl 1152921504606846975))))), .op (some 44) none (.p (.ixa 4 1 (.t 6) (.c (.int .i64 3)))), .op none none (.st 1 (.t 44) (.t 43))]
def v61_12 : List VI := [.call (some 45) none (.fn 60) [], .op (some 8) none (.new [.int .u64 (nl 0), .int .u64 (nl 0), .int .u64 (nl 0), .int .u64 (nl 0)]), .op none none (.st 4 (.t 8) (.t 45))]
def v61_13 : List VI := [.op (some 46) none (.p (.ixa 4 1 (.t 8) (.c (.int .i64 0)))), .op (some 47) none (.ld false 1 (.t 46)), .op (some 48) none (.p (.bin .and (.t 47) (.c (.int .u64 (nl 4294967295))))), .op (some 49) none (.p (.ixa 4 1 (.t 8) (.c (.int .i64 0)))), .op (some 50) none (.ld false 1 (.t 49)), .op (some 51) none (.p (.bin .shr (.t 50) (.c (.int .u64 (nl 32))))), .op (some 52) none (.p (.ixa 4 1 (.t 8) (.c (.int .i64 1)))), .op (some 53) none (.ld false 1 (.t 52)), .op (some 54) none (.p (.bin .and (.t 53) (.c (.int .u64 (nl 4294967295))))), .op (some 55) none (.p (.ixa 4 1 (.t 8) (.c (.int .i64 1)))), .op (some 56) none (.ld false 1 (.t 55)), .op (some 57) none (.p (.bin .shr (.t 56) (.c (.int .u64 (nl 32))))), .op (some 58) none (.p (.bld [.int .u64 (nl 0), .int .u64 (nl 0), .int .u64 (nl 0), .int .u64 (nl 0)] [(0, 1, .t 48), (1, 1, .t 51), (2, 1, .t 54), (3, 1, .t 57)])), .op (some 9) none (.new [.int .u64 (nl 0), .int .u64 (nl 0), .int .u64 (nl 0), .int .u64 (nl 0)]), .op none none (.st 4 (.t 9) (.t 58))]
def v61_14 : List VI := [.op (some 10) none (.p (.mov (.c (.int .u64 (nl 0)))))]
def v61_15 : List VI := [.op (some 11) none (.p (.mov (.c (.int .i64 0))))]
def v61_16 : List VI := [.op (some 59) none (.p (.mov (.t 11))), .op (some 60) none (.p (.bin .lss (.t 59) (.c (.int .i64 4))))]
def v61_17 : List VI := [.op (some 63) none (.p (.mov (.t 11))), .op (some 64) none (.p (.ixa 4 1 (.t 9) (.t 63))), .op (some 65) none (.ld false 1 (.t 64)), .op (some 66) none (.p (.mov (.t 5))), .op (some 67) none (.p (.bin .mul (.t 65) (.t 66))), .op (some 68) none (.p (.mov (.t 10))), .op (some 69) none (.p (.bin .add (.t 67) (.t 68))), .op (some 12) none (.p (.mov (.t 69)))]
def v61_18 : List VI := [.op (some 70) none (.p (.mov (.t 11))), .op (some 71) none (.p (.mov (.t 12))), .op (some 72) none (.p (.bin .and (.t 71) (.c (.int .u64 (nl 4294967295))))), .op (some 73) none (.p (.ixa 4 1 (.t 9) (.t 70))), .op none none (.st 1 (.t 73) (.t 72))]
def v61_19 : List VI := [.op (some 74) none (.p (.mov (.t 12))), .op (some 75) none (.p (.bin .shr (.t 74) (.c (.int .u64 (nl 32))))), .op (some 10) none (.p (.mov (.t 75)))]
def v61_20 : VC := .seq (.reg v61_17) (.seq (.reg v61_18) (.reg v61_19))
def v61_21 : List VI := [.op (some 61) none (.p (.mov (.t 11))), .op (some 62) none (.p (.bin .add (.t 61) (.c (.int .i64 1)))), .op (some 11) none (.p (.mov (.t 62)))]
def v61_22 : VC := .seq (.seq (.reg v61_16) (.cond (.t 60) .skip (.exit 2))) (.seq (.block 3 v61_20) (.reg v61_21))
def v61_23 : VC := .loop v61_22
def v61_24 : List VI := [.op (some 76) none (.p (.ixa 4 1 (.t 9) (.c (.int .i64 0)))), .op (some 77) none (.ld false 1 (.t 76)), .op (some 78) none (.p (.ixa 4 1 (.t 9) (.c (.int .i64 1)))), .op (some 79) none (.ld false 1 (.t 78)), .op (some 80) none (.p (.bin .shl (.t 79) (.c (.int .u64 (nl 32))))), .op (some 81) none (.p (.bin .or (.t 77) (.t 80))), .op (some 82) none (.p (.ixa 4 1 (.t 9) (.c (.int .i64 2)))), .op (some 83) none (.ld false 1 (.t 82)), .op (some 84) none (.p (.ixa 4 1 (.t 9) (.c (.int .i64 3)))), .op (some 85) none (.ld false 1 (.t 84)), .op (some 86) none (.p (.bin .shl (.t 85) (.c (.int .u64 (nl 32))))), .op (some 87) none (.p (.bin .or (.t 83) (.t 86))), .op (some 88) none (.p (.mov (.t 10))), .op (some 89) none (.p (.bld [.int .u64 (nl 0), .int .u64 (nl 0), .int .u64 (nl 0), .int .u64 (nl 0)] [(0, 1, .t 81), (1, 1, .t 87), (2, 1, .t 88), (3, 1, .c (.int .u64 (nl 0)))])), .op (some 13) none (.new [.int .u64 (nl 0), .int .u64 (nl 0), .int .u64 (nl 0), .int .u64 (nl 0)]), .op none none (.st 4 (.t 13) (.t 89))]
def v61_25 : List VI := [.op (some 91) none (.ld true 4 (.t 6)), .op (some 92) none (.ld true 4 (.t 13)), .call (some 93) none (.fn 77) [.t 91, .t 92], .op (some 90) none (.p (.mov (.t 93))), .op (some 94) none (.p (.ext (.t 90) 0)), .op (some 95) none (.p (.ext (.t 90) 1)), .op (some 14) none (.new [.int .u64 (nl 0), .int .u64 (nl 0), .int .u64 (nl 0), .int .u64 (nl 0)]), .op none none (.st 4 (.t 14) (.t 94)), .op (some 15) none (.p (.mov (.t 95)))]
def v61_26 : List VI := [.op (some 96) none (.p (.mov (.t 15))), .op (some 97) none (.p (.eq false .i (.t 96) (.c (.int .u64 (nl 1)))))]
def v61_27 : List VI := [.op (some 99) none (.ld true 4 (.t 14)), .op (some 100) none (.ld true 4 (.t 8)), .call (some 101) none (.fn 78) [.t 99, .t 100], .op (some 98) none (.p (.mov (.t 101))), .op (some 102) none (.p (.ext (.t 98) 0)), .op (some 103) none (.p (.ext (.t 98) 1)), .op none none (.st 4 (.t 14) (.t 102))]
def v61_28 : List VI := [.op (some 104) none (.ld true 4 (.t 14)), .op (some 105) none (.ld true 4 (.t 8)), .call (some 106) none (.fn 59) [.t 104, .t 105], .op (some 107) none (.p (.un .not (.t 106)))]
def v61_29 : List VI := [.op (some 109) none (.ld true 4 (.t 14)), .op (some 110) none (.ld true 4 (.t 8)), .call (some 111) none (.fn 77) [.t 109, .t 110], .op (some 108) none (.p (.mov (.t 111))), .op (some 112) none (.p (.ext (.t 108) 0)), .op (some 113) none (.p (.ext (.t 108) 1)), .op none none (.st 4 (.t 14) (.t 112))]
def v61_30 : List VI := [.op (some 114) none (.ld true 4 (.t 14)), .op none none (.st 4 (.t 4) (.t 114))]
def v61 : VC := .seq (.reg v61_0) (.seq (.reg v61_1) (.seq (.reg v61_2) (.seq (.reg v61_3) (.seq (.seq (.reg v61_4) (.block 0 v61_10)) (.seq (.reg v61_11) (.seq (.reg v61_12) (.seq (.reg v61_13) (.seq (.reg v61_14) (.seq (.seq (.reg v61_15) (.block 2 v61_23)) (.seq (.reg v61_24) (.seq (.reg v61_25) (.seq (.seq (.reg v61_26) (.cond (.t 97) (.reg v61_27) .skip)) (.seq (.seq (.reg v61_28) (.cond (.t 107) (.reg v61_29) .skip)) (.seq (.reg v61_30) .ret))))))))))))))
def rr61 : List RV := [.m 4 true 4]
theorem code61 : (Tryd.f61.body).bind (cCode Tryd.prog) = some v61 := by kernel_rfl
theorem res61 : cRVs Tryd.prog (Tryd.f61.results.toList) = some rr61 := by kernel_rfl
theorem nt61 : Tryd.f61.ntmps = 115 := by kernel_rfl
theorem nm61 : (Tryd.f61.name == "runtime.NumGoroutine") = false := by kernel_rfl
def v62_0 : List VI := [.op (some 1) none (.box (.t 0)), .op (some 2) none (.new [.int .u64 (nl 0), .int .u64 (nl 0), .int .u64 (nl 0), .int .u64 (nl 0)])]
def v62_1 : List VI := [.op (some 14) none (.p (.ixa 4 1 (.t 1) (.c (.int .i64 3)))), .op (some 15) none (.ld false 1 (.t 14)), .op (some 16) none (.p (.bin .lss (.t 15) (.c (.int .u64 (nl 1152921504606846976)))))]
def v62_2 : List VI := [.op (some 17) none (.ld true 4 (.t 1)), .op none none (.st 4 (.t 2) (.t 17))]
def v62_3 : List VI := [.op (some 18) none (.p (.ixa 4 1 (.t 1) (.c (.int .i64 3)))), .op (some 19) none (.ld false 1 (.t 18)), .op (some 20) none (.p (.bin .shr (.t 19) (.c (.int .u64 (nl 60))))), .op (some 3) none (.p (.mov (.t 20)))]
def v62_4 : List VI := [.op (some 21) none (.p (.ixa 4 1 (.t 1) (.c (.int .i64 3)))), .op (some 22) none (.ld false 1 (.t 21)), .op (some 23) none (.p (.bin .and (.t 22) (.c (.int .u64 (nl 1152921504606846975))))), .op (some 24) none (.p (.ixa 4 1 (.t 1) (.c (.int .i64 3)))), .op none none (.st 1 (.t 24) (.t 23))]
def v62_5 : List VI := [.op (some 4) none (.new [.int .u64 (nl 0), .int .u64 (nl 0), .int .u64 (nl 0), .int .u64 (nl 0)])]
def v62_6 : List VI := [.op (some 26) none (.p (.mov (.t 3))), .op (some 27) none (.p (.ixa 4 4 (.g 3) (.c (.int .i64 0)))), .op (some 28) none (.p (.ixa 4 1 (.t 27) (.c (.int .i64 0)))), .op (some 29) none (.ld false 1 (.t 28)), .call (some 30) none (.fn 79) [.t 26, .t 29], .op (some 25) none (.p (.mov (.t 30))), .op (some 31) none (.p (.ext (.t 25) 0)), .op (some 32) none (.p (.ext (.t 25) 1)), .op (some 5) none (.p (.mov (.t 31))), .op (some 6) none (.p (.mov (.t 32)))]
def v62_7 : List VI := [.op (some 33) none (.p (.mov (.t 6))), .op (some 34) none (.p (.ixa 4 1 (.t 4) (.c (.int .i64 0)))), .op none none (.st 1 (.t 34) (.t 33))]
def v62_8 : List VI := [.op (some 36) none (.p (.mov (.t 3))), .op (some 37) none (.p (.ixa 4 4 (.g 3) (.c (.int .i64 0)))), .op (some 38) none (.p (.ixa 4 1 (.t 37) (.c (.int .i64 1)))), .op (some 39) none (.ld false 1 (.t 38)), .call (some 40) none (.fn 79) [.t 36, .t 39], .op (some 35) none (.p (.mov (.t 40))), .op (some 41) none (.p (.ext (.t 35) 0)), .op (some 42) none (.p (.ext (.t 35) 1)), .op (some 7) none (.p (.mov (.t 41))), .op (some 8) none (.p (.mov (.t 42)))]
def v62_9 : List VI := [.op (some 9) none (.p (.mov (.c (.int .u64 (nl 0)))))]
def v62_10 : List VI := [.op (some 44) none (.p (.mov (.t 8))), .op (some 45) none (.p (.mov (.t 5))), .call (some 46) none (.fn 80) [.t 44, .t 45, .c (.int .u64 (nl 0))], .op (some 43) none (.p (.mov (.t 46))), .op (some 47) none (.p (.ext (.t 43) 0)), .op (some 48) none (.p (.ext (.t 43) 1)), .op (some 49) none (.p (.ixa 4 1 (.t 4) (.c (.int .i64 1)))), .op none none (.st 1 (.t 49) (.t 47)), .op (some 9) none (.p (.mov (.t 48)))]
def v62_11 : List VI := [.op (some 50) none (.p (.mov (.t 7))), .op (some 51) none (.p (.mov (.t 9))), .op (some 52) none (.p (.bin .add (.t 50) (.t 51))), .op (some 53) none (.p (.ixa 4 1 (.t 4) (.c (.int .i64 2)))), .op none none (.st 1 (.t 53) (.t 52))]
def v62_12 : List VI := [.op (some 55) none (.ld true 4 (.t 1)), .op (some 56) none (.ld true 4 (.t 4)), .call (some 57) none (.fn 81) [.t 55, .t 56], .op (some 54) none (.p (.mov (.t 57))), .op (some 58) none (.p (.ext (.t 54) 0)), .op (some 59) none (.p (.ext (.t 54) 1)), .op (some 10) none (.new [.int .u64 (nl 0), .int .u64 (nl 0), .int .u64 (nl 0), .int .u64 (nl 0)]), .op none none (.st 4 (.t 10) (.t 58)), .op (some 11) none (.p (.mov (.t 59)))]
def v62_13 : List VI := [.op (some 61) none (.ld true 4 (.t 10)), .op (some 62) none (.p (.ixa 4 4 (.g 3) (.c (.int .i64 0)))), .op (some 63) none (.ld true 4 (.t 62)), .call (some 64) none (.fn 82) [.t 61, .t 63], .op (some 60) none (.p (.mov (.t 64))), .op (some 65) none (.p (.ext (.t 60) 0)), .op (some 66) none (.p (.ext (.t 60) 1)), .op (some 12) none (.new [.int .u64 (nl 0), .int .u64 (nl 0), .int .u64 (nl 0), .int .u64 (nl 0)]), .op none none (.st 4 (.t 12) (.t 65)), .op (some 13) none (.p (.mov (.t 66)))]
def v62_14 : List VI := [.op (some 67) none (.p (.mov (.t 11))), .op (some 68) none (.p (.un .neg (.t 67))), .op (some 69) none (.ld true 4 (.t 12)), .op (some 70) none (.ld true 4 (.t 10)), .call (some 71) none (.fn 84) [.t 68, .t 69, .t 70], .call (some 72) none (.fn 83) [.t 71], .op none none (.st 4 (.t 2) (.t 72))]
def v62 : VC := .seq (.reg v62_0) (.seq (.seq (.reg v62_1) (.cond (.t 16) (.seq (.reg v62_2) .ret) .skip)) (.seq (.reg v62_3) (.seq (.reg v62_4) (.seq (.reg v62_5) (.seq (.reg v62_6) (.seq (.reg v62_7) (.seq (.reg v62_8) (.seq (.reg v62_9) (.seq (.reg v62_10) (.seq (.reg v62_11) (.seq (.reg v62_12) (.seq (.reg v62_13) (.seq (.reg v62_14) .ret)))))))))))))
def rr62 : List RV := [.m 2 true 4]
theorem code62 : (Tryd.f62.body).bind (cCode Tryd.prog) = some v62 := by kernel_rfl
theorem res62 : cRVs Tryd.prog (Tryd.f62.results.toList) = some rr62 := by kernel_rfl
theorem nt62 : Tryd.f62.ntmps = 73 := by kernel_rfl
theorem nm62 : (Tryd.f62.name == "runtime.NumGoroutine") = false := by kernel_rfl
def v63_0 : List VI := [.op (some 1) none (.box (.t 0)), .op (some 2) none (.new [.int .u64 (nl 0), .int .u64 (nl 0), .int .u64 (nl 0), .int .u64 (nl 0)])]
def v63_1 : List VI := [.op (some 3) none (.new [.int .u64 (nl 0), .int .u64 (nl 0), .int .u64 (nl 0), .int .u64 (nl 0)])]
def v63_2 : List VI := [.op (some 6) none (.ld true 32 (.t 1)), .op (some 7) none (.p (.mov (.c (.int .i64 0))))]
def v63_3 : List VI := [.op (some 8) none (.p (.bin .lss (.t 7) (.c (.int .i64 32))))]
def v63_4 : List VI := [.op (some 9) none (.p (.mov (.t 7))), .op (some 10) none (.p (.ixv 32 1 1 false (.t 6) (.t 7))), .op (some 4) none (.p (.mov (.t 9))), .op (some 5) none (.p (.mov (.t 10)))]
def v63_5 : List DS := [.mk 0 true (.op (some 11) none (.p (.mov (.t 4)))) [] [], .mk 1 true (.op (some 12) none (.p (.bin .quo (.t 11) (.c (.int .i64 8))))) [] [], .mk 2 true (.op (some 13) none (.p (.ixa 4 1 (.t 3) (.t 12)))) [] [], .mk 3 true (.op (some 14) none (.ld false 1 (.t 13))) [] [], .mk 4 true (.op (some 15) none (.p (.mov (.t 5)))) [] [], .mk 5 true (.op (some 16) none (.p (.cvi .u64 (.t 15)))) [] [], .mk 6 true (.op (some 17) none (.p (.mov (.t 4)))) [] [], .mk 7 true (.op (some 18) none (.p (.bin .rem (.t 17) (.c (.int .i64 8))))) [] [], .mk 8 true (.op (some 19) none (.p (.bin .mul (.c (.int .i64 8)) (.t 18)))) [] [], .mk 9 true (.op (some 20) none (.p (.bin .shl (.t 16) (.t 19)))) [] [], .mk 10 true (.op (some 21) none (.p (.bin .or (.t 14) (.t 20)))) [] [], .mk 11 true (.op (some 22) none (.p (.ixa 4 1 (.t 3) (.t 12)))) [] [], .mk 12 false (.op none none (.st 1 (.t 22) (.t 21))) [] []]
def v63_6 : VC := .seq (.reg v63_4) (.drw v63_5)
def v63_7 : List VI := [.op (some 23) none (.p (.bin .add (.t 7) (.c (.int .i64 1)))), .op (some 7) none (.p (.mov (.t 23)))]
def v63_8 : VC := .seq (.reg v63_3) (.seq (.cond (.t 8) .skip (.exit 0)) (.seq (.block 1 v63_6) (.reg v63_7)))
def v63_9 : VC := .loop v63_8
def v63_10 : List VI := [.op (some 24) none (.ld true 4 (.t 3)), .op none none (.st 4 (.t 2) (.t 24))]
def v63 : VC := .seq (.reg v63_0) (.seq (.reg v63_1) (.seq (.seq (.reg v63_2) (.block 0 v63_9)) (.seq (.reg v63_10) .ret)))
def rr63 : List RV := [.m 2 true 4]
theorem code63 : (Tryd.f63.body).bind (cCode Tryd.prog) = some v63 := by kernel_rfl
theorem res63 : cRVs Tryd.prog (Tryd.f63.results.toList) = some rr63 := by kernel_rfl
theorem nt63 : Tryd.f63.ntmps = 25 := by kernel_rfl
theorem nm63 : (Tryd.f63.name == "runtime.NumGoroutine") = false := by kernel_rfl
def v77_0 : List VI := [.op (some 2) none (.box (.t 0)), .op (some 3) none (.box (.t 1)), .op (some 4) none (.new [.int .u64 (nl 0), .int .u64 (nl 0), .int .u64 (nl 0), .int .u64 (nl 0)]), .op (some 5) none (.p (.mov (.c (.int .u64 (nl 0)))))]
def v77_1 : List VI := [.op (some 6) none (.new [.int .u64 (nl 0), .int .u64 (nl 0), .int .u64 (nl 0), .int .u64 (nl 0)])]
def v77_2 : List VI := [.op (some 7) none (.p (.mov (.c (.int .u64 (nl 0)))))]
def v77_3 : List VI := [.op (some 8) none (.p (.mov (.c (.int .i64 0))))]
def v77_4 : List VI := [.op (some 12) none (.p (.mov (.t 8))), .op (some 13) none (.p (.bin .lss (.t 12) (.c (.int .i64 4))))]
def v77_5 : List DS := [.mk 0 true (.op (some 16) none (.p (.mov (.t 8)))) [] [], .mk 1 true (.op (some 17) none (.p (.ixa 4 1 (.t 2) (.t 16)))) [] [], .mk 2 true (.op (some 18) none (.ld false 1 (.t 17))) [] [], .mk 3 true (.op (some 19) none (.p (.mov (.t 8)))) [] [], .mk 4 true (.op (some 20) none (.p (.ixa 4 1 (.t 3) (.t 19)))) [] [], .mk 5 true (.op (some 21) none (.ld false 1 (.t 20))) [] [], .mk 6 true (.op (some 22) none (.p (.bin .sub (.t 18) (.t 21)))) [] [], .mk 7 false (.op (some 9) none (.p (.mov (.t 22)))) [] []]
def v77_6 : List VI := [.op (some 10) none (.p (.mov (.c (.int .u64 (nl 0)))))]
def v77_7 : List DS := [.mk 0 true (.op (some 23) none (.p (.mov (.t 8)))) [] [], .mk 1 true (.op (some 24) none (.p (.ixa 4 1 (.t 2) (.t 23)))) [] [], .mk 2 true (.op (some 25) none (.ld false 1 (.t 24))) [] [], .mk 3 true (.op (some 26) none (.p (.mov (.t 8)))) [] [], .mk 4 true (.op (some 27) none (.p (.ixa 4 1 (.t 3) (.t 26)))) [] [], .mk 5 true (.op (some 28) none (.ld false 1 (.t 27))) [] [], .mk 6 true (.op (some 29) none (.p (.bin .lss (.t 25) (.t 28)))) [] []]
def v77_8 : List VI := [.op (some 10) none (.p (.mov (.c (.int .u64 (nl 1)))))]
def v77_9 : List VI := [.op (some 30) none (.p (.mov (.t 9))), .op (some 31) none (.p (.mov (.t 7))), .op (some 32) none (.p (.bin .sub (.t 30) (.t 31))), .op (some 11) none (.p (.mov (.t 32)))]
def v77_10 : List VI := [.op (some 33) none (.p (.mov (.t 9))), .op (some 34) none (.p (.mov (.t 7))), .op (some 35) none (.p (.bin .lss (.t 33) (.t 34)))]
def v77_11 : List VI := [.op (some 10) none (.p (.mov (.c (.int .u64 (nl 1)))))]
def v77_12 : List VI := [.op (some 36) none (.p (.mov (.t 8))), .op (some 37) none (.p (.mov (.t 11))), .op (some 38) none (.p (.ixa 4 1 (.t 6) (.t 36))), .op none none (.st 1 (.t 38) (.t 37))]
def v77_13 : List VI := [.op (some 39) none (.p (.mov (.t 10))), .op (some 7) none (.p (.mov (.t 39)))]
def v77_14 : VC := .seq (.drw v77_5) (.seq (.reg v77_6) (.seq (.seq (.drw v77_7) (.cond (.t 29) (.reg v77_8) .skip)) (.seq (.reg v77_9) (.seq (.seq (.reg v77_10) (.cond (.t 35) (.reg v77_11) .skip)) (.seq (.reg v77_12) (.reg v77_13))))))
def v77_15 : List VI := [.op (some 14) none (.p (.mov (.t 8))), .op (some 15) none (.p (.bin .add (.t 14) (.c (.int .i64 1)))), .op (some 8) none (.p (.mov (.t 15)))]
def v77_16 : VC := .seq (.seq (.reg v77_4) (.cond (.t 13) .skip (.exit 0))) (.seq (.block 1 v77_14) (.reg v77_15))
def v77_17 : VC := .loop v77_16
def v77_18 : List VI := [.op (some 40) none (.ld true 4 (.t 6)), .op (some 41) none (.p (.mov (.t 7))), .op none none (.st 4 (.t 4) (.t 40)), .op (some 5) none (.p (.mov (.t 41)))]
def v77 : VC := .seq (.reg v77_0) (.seq (.reg v77_1) (.seq (.reg v77_2) (.seq (.seq (.reg v77_3) (.block 0 v77_17)) (.seq (.reg v77_18) .ret))))
def rr77 : List RV := [.m 4 true 4, .t 5]
theorem code77 : (Tryd.f77.body).bind (cCode Tryd.prog) = some v77 := by kernel_rfl
theorem res77 : cRVs Tryd.prog (Tryd.f77.results.toList) = some rr77 := by kernel_rfl
theorem nt77 : Tryd.f77.ntmps = 42 := by kernel_rfl
theorem nm77 : (Tryd.f77.name == "runtime.NumGoroutine") = false := by kernel_rfl
def v78_0 : List VI := [.op (some 2) none (.box (.t 0)), .op (some 3) none (.box (.t 1)), .op (some 4) none (.new [.int .u64 (nl 0), .int .u64 (nl 0), .int .u64 (nl 0), .int .u64 (nl 0)]), .op (some 5) none (.p (.mov (.c (.int .u64 (nl 0)))))]
def v78_1 : List VI := [.op (some 6) none (.new [.int .u64 (nl 0), .int .u64 (nl 0), .int .u64 (nl 0), .int .u64 (nl 0)])]
def v78_2 : List VI := [.op (some 7) none (.p (.mov (.c (.int .u64 (nl 0)))))]
def v78_3 : List VI := [.op (some 8) none (.p (.mov (.c (.int .i64 0))))]
def v78_4 : List VI := [.op (some 12) none (.p (.mov (.t 8))), .op (some 13) none (.p (.bin .lss (.t 12) (.c (.int .i64 4))))]
def v78_5 : List DS := [.mk 0 true (.op (some 16) none (.p (.mov (.t 8)))) [] [], .mk 1 true (.op (some 17) none (.p (.ixa 4 1 (.t 2) (.t 16)))) [] [], .mk 2 true (.op (some 18) none (.ld false 1 (.t 17))) [] [], .mk 3 true (.op (some 19) none (.p (.mov (.t 8)))) [] [], .mk 4 true (.op (some 20) none (.p (.ixa 4 1 (.t 3) (.t 19)))) [] [], .mk 5 true (.op (some 21) none (.ld false 1 (.t 20))) [] [], .mk 6 true (.op (some 22) none (.p (.bin .add (.t 18) (.t 21)))) [] [], .mk 7 false (.op (some 9) none (.p (.mov (.t 22)))) [] []]
def v78_6 : List VI := [.op (some 10) none (.p (.mov (.c (.int .u64 (nl 0)))))]
def v78_7 : List VI := [.op (some 23) none (.p (.mov (.t 9))), .op (some 24) none (.p (.mov (.t 8))), .op (some 25) none (.p (.ixa 4 1 (.t 2) (.t 24))), .op (some 26) none (.ld false 1 (.t 25)), .op (some 27) none (.p (.bin .lss (.t 23) (.t 26)))]
def v78_8 : List VI := [.op (some 10) none (.p (.mov (.c (.int .u64 (nl 1)))))]
def v78_9 : List VI := [.op (some 28) none (.p (.mov (.t 9))), .op (some 29) none (.p (.mov (.t 7))), .op (some 30) none (.p (.bin .add (.t 28) (.t 29))), .op (some 11) none (.p (.mov (.t 30)))]
def v78_10 : List VI := [.op (some 31) none (.p (.mov (.t 11))), .op (some 32) none (.p (.mov (.t 9))), .op (some 33) none (.p (.bin .lss (.t 31) (.t 32)))]
def v78_11 : List VI := [.op (some 10) none (.p (.mov (.c (.int .u64 (nl 1)))))]
def v78_12 : List VI := [.op (some 34) none (.p (.mov (.t 8))), .op (some 35) none (.p (.mov (.t 11))), .op (some 36) none (.p (.ixa 4 1 (.t 6) (.t 34))), .op none none (.st 1 (.t 36) (.t 35))]
def v78_13 : List VI := [.op (some 37) none (.p (.mov (.t 10))), .op (some 7) none (.p (.mov (.t 37)))]
def v78_14 : VC := .seq (.drw v78_5) (.seq (.reg v78_6) (.seq (.seq (.reg v78_7) (.cond (.t 27) (.reg v78_8) .skip)) (.seq (.reg v78_9) (.seq (.seq (.reg v78_10) (.cond (.t 33) (.reg v78_11) .skip)) (.seq (.reg v78_12) (.reg v78_13))))))
def v78_15 : List VI := [.op (some 14) none (.p (.mov (.t 8))), .op (some 15) none (.p (.bin .add (.t 14) (.c (.int .i64 1)))), .op (some 8) none (.p (.mov (.t 15)))]
def v78_16 : VC := .seq (.seq (.reg v78_4) (.cond (.t 13) .skip (.exit 0))) (.seq (.block 1 v78_14) (.reg v78_15))
def v78_17 : VC := .loop v78_16
def v78_18 : List VI := [.op (some 38) none (.ld true 4 (.t 6)), .op (some 39) none (.p (.mov (.t 7))), .op none none (.st 4 (.t 4) (.t 38)), .op (some 5) none (.p (.mov (.t 39)))]
def v78 : VC := .seq (.reg v78_0) (.seq (.reg v78_1) (.seq (.reg v78_2) (.seq (.seq (.reg v78_3) (.block 0 v78_17)) (.seq (.reg v78_18) .ret))))
def rr78 : List RV := [.m 4 true 4, .t 5]
theorem code78 : (Tryd.f78.body).bind (cCode Tryd.prog) = some v78 := by kernel_rfl
theorem res78 : cRVs Tryd.prog (Tryd.f78.results.toList) = some rr78 := by kernel_rfl
theorem nt78 : Tryd.f78.ntmps = 40 := by kernel_rfl
theorem nm78 : (Tryd.f78.name == "runtime.NumGoroutine") = false := by kernel_rfl
def v79_0 : List VI := [.op (some 4) none (.p (.mov (.c (.int .u64 (nl 0))))), .op (some 5) none (.p (.mov (.c (.int .u64 (nl 0)))))]
def v79_1 : List VI := [.op (some 14) none (.p (.mov (.t 0))), .op (some 15) none (.p (.bin .and (.t 14) (.c (.int .u64 (nl 4294967295))))), .op (some 6) none (.p (.mov (.t 15)))]
def v79_2 : List VI := [.op (some 16) none (.p (.mov (.t 0))), .op (some 17) none (.p (.bin .shr (.t 16) (.c (.int .u64 (nl 32))))), .op (some 7) none (.p (.mov (.t 17)))]
def v79_3 : List VI := [.op (some 18) none (.p (.mov (.t 1))), .op (some 19) none (.p (.bin .and (.t 18) (.c (.int .u64 (nl 4294967295))))), .op (some 8) none (.p (.mov (.t 19)))]
def v79_4 : List VI := [.op (some 20) none (.p (.mov (.t 1))), .op (some 21) none (.p (.bin .shr (.t 20) (.c (.int .u64 (nl 32))))), .op (some 9) none (.p (.mov (.t 21)))]
def v79_5 : List VI := [.op (some 22) none (.p (.mov (.t 6))), .op (some 23) none (.p (.mov (.t 8))), .op (some 24) none (.p (.bin .mul (.t 22) (.t 23))), .op (some 10) none (.p (.mov (.t 24)))]
def v79_6 : List VI := [.op (some 25) none (.p (.mov (.t 7))), .op (some 26) none (.p (.mov (.t 8))), .op (some 27) none (.p (.bin .mul (.t 25) (.t 26))), .op (some 28) none (.p (.mov (.t 10))), .op (some 29) none (.p (.bin .shr (.t 28) (.c (.int .u64 (nl 32))))), .op (some 30) none (.p (.bin .add (.t 27) (.t 29))), .op (some 11) none (.p (.mov (.t 30)))]
def v79_7 : List VI := [.op (some 31) none (.p (.mov (.t 11))), .op (some 32) none (.p (.bin .and (.t 31) (.c (.int .u64 (nl 4294967295))))), .op (some 12) none (.p (.mov (.t 32)))]
def v79_8 : List VI := [.op (some 33) none (.p (.mov (.t 11))), .op (some 34) none (.p (.bin .shr (.t 33) (.c (.int .u64 (nl 32))))), .op (some 13) none (.p (.mov (.t 34)))]
def v79_9 : List VI := [.op (some 35) none (.p (.mov (.t 12))), .op (some 36) none (.p (.mov (.t 6))), .op (some 37) none (.p (.mov (.t 9))), .op (some 38) none (.p (.bin .mul (.t 36) (.t 37))), .op (some 39) none (.p (.bin .add (.t 35) (.t 38))), .op (some 12) none (.p (.mov (.t 39)))]
def v79_10 : List VI := [.op (some 40) none (.p (.mov (.t 7))), .op (some 41) none (.p (.mov (.t 9))), .op (some 42) none (.p (.bin .mul (.t 40) (.t 41))), .op (some 43) none (.p (.mov (.t 13))), .op (some 44) none (.p (.bin .add (.t 42) (.t 43))), .op (some 45) none (.p (.mov (.t 12))), .op (some 46) none (.p (.bin .shr (.t 45) (.c (.int .u64 (nl 32))))), .op (some 47) none (.p (.bin .add (.t 44) (.t 46))), .op (some 4) none (.p (.mov (.t 47)))]
def v79_11 : List VI := [.op (some 48) none (.p (.mov (.t 0))), .op (some 49) none (.p (.mov (.t 1))), .op (some 50) none (.p (.bin .mul (.t 48) (.t 49))), .op (some 5) none (.p (.mov (.t 50)))]
def v79 : VC := .seq (.reg v79_0) (.seq (.reg v79_1) (.seq (.reg v79_2) (.seq (.reg v79_3) (.seq (.reg v79_4) (.seq (.reg v79_5) (.seq (.reg v79_6) (.seq (.reg v79_7) (.seq (.reg v79_8) (.seq (.reg v79_9) (.seq (.reg v79_10) (.seq (.reg v79_11) .ret)))))))))))
def rr79 : List RV := [.t 4, .t 5]
theorem code79 : (Tryd.f79.body).bind (cCode Tryd.prog) = some v79 := by kernel_rfl
theorem res79 : cRVs Tryd.prog (Tryd.f79.results.toList) = some rr79 := by kernel_rfl
theorem nt79 : Tryd.f79.ntmps = 51 := by kernel_rfl
theorem nm79 : (Tryd.f79.name == "runtime.NumGoroutine") = false := by kernel_rfl
def v81_0 : List VI := [.op (some 2) none (.box (.t 0)), .op (some 3) none (.box (.t 1)), .op (some 4) none (.new [.int .u64 (nl 0), .int .u64 (nl 0), .int .u64 (nl 0), .int .u64 (nl 0)]), .op (some 5) none (.p (.mov (.c (.int .u64 (nl 0)))))]
def v81_1 : List VI := [.op (some 6) none (.new [.int .u64 (nl 0), .int .u64 (nl 0), .int .u64 (nl 0), .int .u64 (nl 0)])]
def v81_2 : List VI := [.op (some 7) none (.p (.mov (.c (.int .u64 (nl 0)))))]
def v81_3 : List VI := [.op (some 9) none (.p (.mov (.c (.int .i64 0))))]
def v81_4 : List VI := [.op (some 10) none (.p (.bin .lss (.t 9) (.c (.int .i64 4))))]
def v81_5 : List VI := [.op (some 11) none (.p (.mov (.t 9))), .op (some 8) none (.p (.mov (.t 11)))]
def v81_6 : List DS := [.mk 0 true (.op (some 13) none (.p (.mov (.t 8)))) [] [], .mk 1 true (.op (some 14) none (.p (.mov (.t 8)))) [] [], .mk 2 true (.op (some 15) none (.p (.ixa 4 1 (.t 2) (.t 14)))) [] [], .mk 3 true (.op (some 16) none (.ld false 1 (.t 15))) [] [], .mk 4 true (.op (some 17) none (.p (.mov (.t 8)))) [] [], .mk 5 true (.op (some 18) none (.p (.ixa 4 1 (.t 3) (.t 17)))) [] [], .mk 6 true (.op (some 19) none (.ld false 1 (.t 18))) [] [], .mk 7 true (.op (some 20) none (.p (.mov (.t 7)))) [] [], .mk 8 false (.call (some 21) none (.fn 92) [.t 16, .t 19, .t 20]) [] [], .mk 9 true (.op (some 12) none (.p (.mov (.t 21)))) [] [], .mk 10 true (.op (some 22) none (.p (.ext (.t 12) 0))) [] [], .mk 11 true (.op (some 23) none (.p (.ext (.t 12) 1))) [] [], .mk 12 true (.op (some 24) none (.p (.ixa 4 1 (.t 6) (.t 13)))) [] [], .mk 13 false (.op none none (.st 1 (.t 24) (.t 22))) [] [], .mk 14 false (.op (some 7) none (.p (.mov (.t 23)))) [] []]
def v81_7 : VC := .seq (.reg v81_5) (.drw v81_6)
def v81_8 : List VI := [.op (some 25) none (.p (.bin .add (.t 9) (.c (.int .i64 1)))), .op (some 9) none (.p (.mov (.t 25)))]
def v81_9 : VC := .seq (.reg v81_4) (.seq (.cond (.t 10) .skip (.exit 0)) (.seq (.block 1 v81_7) (.reg v81_8)))
def v81_10 : VC := .loop v81_9
def v81_11 : List VI := [.op (some 26) none (.ld true 4 (.t 6)), .op (some 27) none (.p (.mov (.t 7))), .op none none (.st 4 (.t 4) (.t 26)), .op (some 5) none (.p (.mov (.t 27)))]
def v81 : VC := .seq (.reg v81_0) (.seq (.reg v81_1) (.seq (.reg v81_2) (.seq (.seq (.reg v81_3) (.block 0 v81_10)) (.seq (.reg v81_11) .ret))))
def rr81 : List RV := [.m 4 true 4, .t 5]
theorem code81 : (Tryd.f81.body).bind (cCode Tryd.prog) = some v81 := by kernel_rfl
theorem res81 : cRVs Tryd.prog (Tryd.f81.results.toList) = some rr81 := by kernel_rfl
theorem nt81 : Tryd.f81.ntmps = 28 := by kernel_rfl
theorem nm81 : (Tryd.f81.name == "runtime.NumGoroutine") = false := by kernel_rfl
def v82_0 : List VI := [.op (some 2) none (.box (.t 0)), .op (some 3) none (.box (.t 1)), .op (some 4) none (.new [.int .u64 (nl 0), .int .u64 (nl 0), .int .u64 (nl 0), .int .u64 (nl 0)]), .op (some 5) none (.p (.mov (.c (.int .u64 (nl 0)))))]
def v82_1 : List VI := [.op (some 6) none (.new [.int .u64 (nl 0), .int .u64 (nl 0), .int .u64 (nl 0), .int .u64 (nl 0)])]
def v82_2 : List VI := [.op (some 7) none (.p (.mov (.c (.int .u64 (nl 0)))))]
def v82_3 : List VI := [.op (some 9) none (.p (.mov (.c (.int .i64 0))))]
def v82_4 : List VI := [.op (some 10) none (.p (.bin .lss (.t 9) (.c (.int .i64 4))))]
def v82_5 : List VI := [.op (some 11) none (.p (.mov (.t 9))), .op (some 8) none (.p (.mov (.t 11)))]
def v82_6 : List DS := [.mk 0 true (.op (some 13) none (.p (.mov (.t 8)))) [] [], .mk 1 true (.op (some 14) none (.p (.mov (.t 8)))) [] [], .mk 2 true (.op (some 15) none (.p (.ixa 4 1 (.t 2) (.t 14)))) [] [], .mk 3 true (.op (some 16) none (.ld false 1 (.t 15))) [] [], .mk 4 true (.op (some 17) none (.p (.mov (.t 8)))) [] [], .mk 5 true (.op (some 18) none (.p (.ixa 4 1 (.t 3) (.t 17)))) [] [], .mk 6 true (.op (some 19) none (.ld false 1 (.t 18))) [] [], .mk 7 true (.op (some 20) none (.p (.mov (.t 7)))) [] [], .mk 8 false (.call (some 21) none (.fn 80) [.t 16, .t 19, .t 20]) [] [], .mk 9 true (.op (some 12) none (.p (.mov (.t 21)))) [] [], .mk 10 true (.op (some 22) none (.p (.ext (.t 12) 0))) [] [], .mk 11 true (.op (some 23) none (.p (.ext (.t 12) 1))) [] [], .mk 12 true (.op (some 24) none (.p (.ixa 4 1 (.t 6) (.t 13)))) [] [], .mk 13 false (.op none none (.st 1 (.t 24) (.t 22))) [] [], .mk 14 false (.op (some 7) none (.p (.mov (.t 23)))) [] []]
def v82_7 : VC := .seq (.reg v82_5) (.drw v82_6)
def v82_8 : List VI := [.op (some 25) none (.p (.bin .add (.t 9) (.c (.int .i64 1)))), .op (some 9) none (.p (.mov (.t 25)))]
def v82_9 : VC := .seq (.reg v82_4) (.seq (.cond (.t 10) .skip (.exit 0)) (.seq (.block 1 v82_7) (.reg v82_8)))
def v82_10 : VC := .loop v82_9
def v82_11 : List VI := [.op (some 26) none (.ld true 4 (.t 6)), .op (some 27) none (.p (.mov (.t 7))), .op none none (.st 4 (.t 4) (.t 26)), .op (some 5) none (.p (.mov (.t 27)))]
def v82 : VC := .seq (.reg v82_0) (.seq (.reg v82_1) (.seq (.reg v82_2) (.seq (.seq (.reg v82_3) (.block 0 v82_10)) (.seq (.reg v82_11) .ret))))
def rr82 : List RV := [.m 4 true 4, .t 5]
theorem code82 : (Tryd.f82.body).bind (cCode Tryd.prog) = some v82 := by kernel_rfl
theorem res82 : cRVs Tryd.prog (Tryd.f82.results.toList) = some rr82 := by kernel_rfl
theorem nt82 : Tryd.f82.ntmps = 28 := by kernel_rfl
theorem nm82 : (Tryd.f82.name == "runtime.NumGoroutine") = false := by kernel_rfl
def v83_0 : List VI := [.op (some 1) none (.box (.t 0)), .op (some 2) none (.new [.int .u64 (nl 0), .int .u64 (nl 0), .int .u64 (nl 0), .int .u64 (nl 0)])]
def v83_1 : List VI := [.op (some 6) none (.ld true 4 (.t 1)), .op (some 7) none (.p (.ixa 4 4 (.g 3) (.c (.int .i64 0)))), .op (some 8) none (.ld true 4 (.t 7)), .call (some 9) none (.fn 81) [.t 6, .t 8], .op (some 5) none (.p (.mov (.t 9))), .op (some 10) none (.p (.ext (.t 5) 0)), .op (some 11) none (.p (.ext (.t 5) 1)), .op (some 3) none (.new [.int .u64 (nl 0), .int .u64 (nl 0), .int .u64 (nl 0), .int .u64 (nl 0)]), .op none none (.st 4 (.t 3) (.t 10)), .op (some 4) none (.p (.mov (.t 11)))]
def v83_2 : List VI := [.op (some 12) none (.p (.mov (.t 4))), .op (some 13) none (.p (.un .neg (.t 12))), .op (some 14) none (.ld true 4 (.t 1)), .op (some 15) none (.ld true 4 (.t 3)), .call (some 16) none (.fn 84) [.t 13, .t 14, .t 15], .op none none (.st 4 (.t 2) (.t 16))]
def v83 : VC := .seq (.reg v83_0) (.seq (.reg v83_1) (.seq (.reg v83_2) .ret))
def rr83 : List RV := [.m 2 true 4]
theorem code83 : (Tryd.f83.body).bind (cCode Tryd.prog) = some v83 := by kernel_rfl
theorem res83 : cRVs Tryd.prog (Tryd.f83.results.toList) = some rr83 := by kernel_rfl
theorem nt83 : Tryd.f83.ntmps = 17 := by kernel_rfl
theorem nm83 : (Tryd.f83.name == "runtime.NumGoroutine") = false := by kernel_rfl
def v84_0 : List VI := [.op (some 4) none (.box (.t 1)), .op (some 5) none (.box (.t 2)), .op (some 6) none (.new [.int .u64 (nl 0), .int .u64 (nl 0), .int .u64 (nl 0), .int .u64 (nl 0)])]
def v84_1 : List VI := [.op (some 8) none (.p (.mov (.c (.int .i64 0))))]
def v84_2 : List VI := [.op (some 9) none (.p (.bin .lss (.t 8) (.c (.int .i64 4))))]
def v84_3 : List VI := [.op (some 10) none (.p (.mov (.t 8))), .op (some 7) none (.p (.mov (.t 10)))]
def v84_4 : List DS := [.mk 0 true (.op (some 11) none (.p (.mov (.t 7)))) [] [], .mk 1 true (.op (some 12) none (.p (.mov (.t 7)))) [] [], .mk 2 true (.op (some 13) none (.p (.ixa 4 1 (.t 4) (.t 12)))) [] [], .mk 3 true (.op (some 14) none (.ld false 1 (.t 13))) [] [], .mk 4 true (.op (some 15) none (.p (.mov (.t 0)))) [] [], .mk 5 true (.op (some 16) none (.p (.bin .and (.t 14) (.t 15)))) [] [], .mk 6 true (.op (some 17) none (.p (.mov (.t 7)))) [] [], .mk 7 true (.op (some 18) none (.p (.ixa 4 1 (.t 5) (.t 17)))) [] [], .mk 8 true (.op (some 19) none (.ld false 1 (.t 18))) [] [], .mk 9 true (.op (some 20) none (.p (.mov (.t 0)))) [] [], .mk 10 true (.op (some 21) none (.p (.bin .andNot (.t 19) (.t 20)))) [] [], .mk 11 true (.op (some 22) none (.p (.bin .or (.t 16) (.t 21)))) [] [], .mk 12 true (.op (some 23) none (.p (.ixa 4 1 (.t 4) (.t 11)))) [] [], .mk 13 false (.op none none (.st 1 (.t 23) (.t 22))) [] []]
def v84_5 : VC := .seq (.reg v84_3) (.drw v84_4)
def v84_6 : List VI := [.op (some 24) none (.p (.bin .add (.t 8) (.c (.int .i64 1)))), .op (some 8) none (.p (.mov (.t 24)))]
def v84_7 : VC := .seq (.reg v84_2) (.seq (.cond (.t 9) .skip (.exit 0)) (.seq (.block 1 v84_5) (.reg v84_6)))
def v84_8 : VC := .loop v84_7
def v84_9 : List VI := [.op (some 25) none (.ld true 4 (.t 4)), .op none none (.st 4 (.t 6) (.t 25))]
def v84 : VC := .seq (.reg v84_0) (.seq (.seq (.reg v84_1) (.block 0 v84_8)) (.seq (.reg v84_9) .ret))
def rr84 : List RV := [.m 6 true 4]
theorem code84 : (Tryd.f84.body).bind (cCode Tryd.prog) = some v84 := by kernel_rfl
theorem res84 : cRVs Tryd.prog (Tryd.f84.results.toList) = some rr84 := by kernel_rfl
theorem nt84 : Tryd.f84.ntmps = 26 := by kernel_rfl
theorem nm84 : (Tryd.f84.name == "runtime.NumGoroutine") = false := by kernel_rfl
def v109_0 : List VI := [.op (some 2) none (.box (.t 0)), .op (some 3) none (.box (.t 1)), .op (some 4) none (.new [.int .u64 (nl 0), .int .u64 (nl 0), .int .u64 (nl 0), .int .u64 (nl 0)]), .op (some 5) none (.p (.mov (.c (.int .i64 0))))]
def v109_1 : List VI := [.op (some 9) none (.ld true 32 (.t 3)), .call (some 10) none (.fn 44) [.t 9], .op (some 8) none (.p (.mov (.t 10))), .op (some 11) none (.p (.ext (.t 8) 0)), .op (some 12) none (.p (.ext (.t 8) 1)), .op (some 6) none (.new [.int .u64 (nl 0), .int .u64 (nl 0), .int .u64 (nl 0), .int .u64 (nl 0)]), .op none none (.st 4 (.t 6) (.t 11)), .op (some 7) none (.p (.mov (.t 12)))]
def v109_2 : List VI := [.op (some 13) none (.ld true 4 (.t 6)), .op (some 14) none (.p (.bld [.int .u64 (nl 0), .int .u64 (nl 0), .int .u64 (nl 0), .int .u64 (nl 0)] [(0, 4, .t 13)])), .op (some 15) none (.p (.mov (.t 7))), .op none none (.st 4 (.t 4) (.t 14)), .op (some 5) none (.p (.mov (.t 15)))]
def v109 : VC := .seq (.reg v109_0) (.seq (.reg v109_1) (.seq (.reg v109_2) .ret))
def rr109 : List RV := [.m 4 true 4, .t 5]
theorem code109 : (Tryd.f109.body).bind (cCode Tryd.prog) = some v109 := by kernel_rfl
theorem res109 : cRVs Tryd.prog (Tryd.f109.results.toList) = some rr109 := by kernel_rfl
theorem nt109 : Tryd.f109.ntmps = 16 := by kernel_rfl
theorem nm109 : (Tryd.f109.name == "runtime.NumGoroutine") = false := by kernel_rfl
def v111_0 : List VI := [.op (some 1) none (.box (.t 0)), .op (some 2) none (.new [.int .u8 (nl 0), .int .u8 (nl 0), .int .u8 (nl 0), .int .u8 (nl 0), .int .u8 (nl 0), .int .u8 (nl 0), .int .u8 (nl 0), .int .u8 (nl 0), .int .u8 (nl 0), .int .u8 (nl 0), .int .u8 (nl 0), .int .u8 (nl 0), .int .u8 (nl 0), .int .u8 (nl 0), .int .u8 (nl 0), .int .u8 (nl 0), .int .u8 (nl 0), .int .u8 (nl 0), .int .u8 (nl 0), .int .u8 (nl 0), .int .u8 (nl 0), .int .u8 (nl 0), .int .u8 (nl 0), .int .u8 (nl 0), .int .u8 (nl 0), .int .u8 (nl 0), .int .u8 (nl 0), .int .u8 (nl 0), .int .u8 (nl 0), .int .u8 (nl 0), .int .u8 (nl 0), .int .u8 (nl 0)])]
def v111_1 : List VI := [.op (some 3) none (.p (.fda 0 (.t 1))), .op (some 4) none (.ld true 4 (.t 3)), .call (some 5) none (.fn 42) [.t 4], .op none none (.st 32 (.t 2) (.t 5))]
def v111 : VC := .seq (.reg v111_0) (.seq (.reg v111_1) .ret)
def rr111 : List RV := [.m 2 true 32]
theorem code111 : (Tryd.f111.body).bind (cCode Tryd.prog) = some v111 := by kernel_rfl
theorem res111 : cRVs Tryd.prog (Tryd.f111.results.toList) = some rr111 := by kernel_rfl
theorem nt111 : Tryd.f111.ntmps = 6 := by kernel_rfl
theorem nm111 : (Tryd.f111.name == "runtime.NumGoroutine") = false := by kernel_rfl
end Go.Vs.Tryd
namespace Go.Vs
theorem a64_mask (x k : Nat) (hk : k ≤ 63) (hx : x < 18446744073709551616) (m : Nat) (hm : m = 2 ^ k - 1) : a64 x m = x % 2 ^ k := by
  subst hm
  have h1 : 2 ^ k ≤ 2 ^ 63 := Nat.pow_le_pow_right (by decide) hk
  have h2 : 0 < 2 ^ k := Nat.two_pow_pos k
  unfold a64
  rw [Nat.mod_eq_of_lt hx, Nat.mod_eq_of_lt (a := 2 ^ k - 1) (by omega), Nat.and_two_pow_sub_one_eq_mod]
theorem mul64_law (x y : Nat) (hx : x < 18446744073709551616) (hy : y < 18446744073709551616) :
    x * y = 18446744073709551616 * w64 (w64 (w64 (r64 x 32 * r64 y 32) + r64 (w64 (w64 (r64 x 32 * a64 y 4294967295) + r64 (w64 (a64 x 4294967295 * a64 y 4294967295)) 32)) 32) + r64 (w64 (a64 (w64 (w64 (r64 x 32 * a64 y 4294967295) + r64 (w64 (a64 x 4294967295 * a64 y 4294967295)) 32)) 4294967295 + w64 (a64 x 4294967295 * r64 y 32))) 32) + w64 (x * y) := by
  have ex : x = x % 4294967296 + 4294967296 * (x / 4294967296) := (Nat.mod_add_div _ _).symm
  have ey : y = y % 4294967296 + 4294967296 * (y / 4294967296) := (Nat.mod_add_div _ _).symm
  have r1 : r64 x 32 = x / 4294967296 := rfl
  have r2 : r64 y 32 = y / 4294967296 := rfl
  have m1 : a64 x 4294967295 = x % 4294967296 := a64_mask x 32 (by decide) hx _ rfl
  have m2 : a64 y 4294967295 = y % 4294967296 := a64_mask y 32 (by decide) hy _ rfl
  have m3 : ∀ t, a64 (w64 t) 4294967295 = w64 t % 4294967296 := fun t => a64_mask _ 32 (by decide) (Nat.mod_lt _ (by decide)) _ rfl
  have hx0 : x % 4294967296 < 4294967296 := Nat.mod_lt _ (by decide)
  have hy0 : y % 4294967296 < 4294967296 := Nat.mod_lt _ (by decide)
  have hx1 : x / 4294967296 < 4294967296 := by omega
  have hy1 : y / 4294967296 < 4294967296 := by omega
  rw [r1, r2, m1, m2, m3]
  generalize x % 4294967296 = x0 at *
  generalize y % 4294967296 = y0 at *
  generalize x / 4294967296 = x1 at *
  generalize y / 4294967296 = y1 at *
  have bound : ∀ a b : Nat, a < 4294967296 → b < 4294967296 → a * b ≤ 18446744065119617025 := fun a b ha hb => by
    have := Nat.mul_le_mul (Nat.le_of_lt_succ ha) (Nat.le_of_lt_succ hb)
    exact this
  have b00 := bound x0 y0 hx0 hy0
  have b01 := bound x0 y1 hx0 hy1
  have b10 := bound x1 y0 hx1 hy0
  have b11 := bound x1 y1 hx1 hy1
  have hp : x * y = x0 * y0 + 4294967296 * (x0 * y1) + 4294967296 * (x1 * y0) + 18446744073709551616 * (x1 * y1) := by
    rw [ex, ey]; grind
  rw [hp]
  generalize x0 * y0 = p00 at *
  generalize x0 * y1 = p01 at *
  generalize x1 * y0 = p10 at *
  generalize x1 * y1 = p11 at *
  have rr : ∀ t, r64 t 32 = t / 4294967296 := fun _ => rfl
  simp only [rr, w64]
  omega
end Go.Vs
namespace Go.Vs.Tryd
open Go.Proofs
variable {G : Nat → List V}
set_option linter.unusedSimpArgs false
attribute [local go_sem_proc] Nat.reduceAdd Nat.reduceSub Nat.reduceLeDiff Nat.reduceMul Nat.reduceLT Nat.reduceEqDiff Int.reduceLT Int.reduceLE Int.reduceAdd Int.reduceSub Int.reduceMul Int.reduceToNat reduceIte reduceCtorEq Nat.reduceBEq
section
attribute [local go_sem] Option.isSome_some Option.isSome_none Kind.m Kind.w Kind.g look_ro look_rw look_grow lenO drive stepV exo expo evs fillV isNil nilKind eqV eqL optA optM sliceAtV ev kn V.known V.one ldc stc splice cellsOf asK asN asB asS asG asT appV srcV lenV setd wantV exitV rvs rv one List.length_cons List.length_nil List.cons_append List.nil_append List.append_nil List.replicate List.getD_cons_zero List.getD_cons_succ List.set_cons_zero List.set_cons_succ List.getElem?_cons_zero List.getElem?_cons_succ List.getElem?_nil List.take_succ_cons List.take_zero List.take_nil List.drop_succ_cons List.drop_zero List.drop_nil List.all_cons List.all_nil List.any_cons List.any_nil Bool.and_true Bool.true_and Bool.and_self Option.map_some Option.map_none Option.bind_some Option.some.injEq Nat.add_zero Nat.zero_add Int.toNat_zero Int.toNat_one Int.zero_add Int.add_zero if_true if_false ite_true ite_false and_true true_and and_self ne_eq not_false_eq_true not_true_eq_false decide_true decide_false Bool.false_eq_true Bool.not_true Bool.not_false beq_self_eq_true BEq.rfl Bool.not_eq_true Nat.le_refl Int.le_refl Nat.zero_le List.foldl List.map_cons List.map_nil Prod.mk.injEq Int.cast_ofNat_Int Int.zero_le_ofNat b_add_cc b_add_cl b_add_lc b_mul_cc b_mul_cl b_mul_lc b_sub_cc b_sub_cl b_sub_lc b_and_cc b_and_cl b_and_lc b_or_cc b_or_cl b_or_lc b_xor_cc b_xor_cl b_xor_lc b_andNot_cc b_andNot_cl b_andNot_lc b_shr_cc b_shr_cl b_shr_lc b_shl_cc b_shl_cl b_shl_lc b_lss b_leq b_gtr b_geq b_add_i b_sub_i b_mul_i beq_cc beq_cl beq_lc beq_ll b_quo_i b_rem_i neg_u64 wrap_i64 driveD stepD idsAt idOf maskH_nil restore_nil restore_mask List.filterMap_nil List.filterMap_cons VOp.looks VOp.makes exA
def u (n : Nat) : V := .int .u64 (n : Int)
def lc (n : Nat) : List V := [u (n % 18446744073709551616), u (n / 18446744073709551616 % 18446744073709551616), u (n / 340282366920938463463374607431768211456 % 18446744073709551616), u (n / 6277101735386680763835789423207666416102355444464034512896 % 18446744073709551616)]
def lw (n : Nat) : V := .agg (lc n)
noncomputable def sub64E : Array Value → Sem Value := (Extern.find Tryd.f92).getD fun _ => Pure.pure undef
theorem sub64E_run (P : Program) (x y b : Nat) (hb : b ≤ 1) (w : World) : (sub64E #[.int .u64 x, .int .u64 y, .int .u64 b]).run P w =
      .ok (.tuple #[.int .u64 (((x + 18446744073709551616 - y - b) % 18446744073709551616 : Nat) : Int), .int .u64 ((if x < y + b then 1 else 0 : Nat) : Int)]) w := by
  have : b = 0 ∨ b = 1 := by omega
  rcases this with rfl | rfl <;> rfl
theorem sub64 (x y c : Nat) (ci : Int) (hci : ci = (c : Int)) (hc : c ≤ 1) (hx : x < 18446744073709551616) (hy : y < 18446744073709551616) {h : Heap} {R : V → Heap → Prop} (hq : ∀ d b : Nat, d < 18446744073709551616 → b ≤ 1 → x + 18446744073709551616 * b = y + c + d → R (.tup [.int .u64 (d : Int), .int .u64 (b : Int)]) h) : VCall Tryd.prog G 92 [.int .u64 (x : Int), .int .u64 (y : Int), .int .u64 ci] h R := by
  subst hci
  refine vcall_plain (vcall_value (v := .tup [u ((x + 18446744073709551616 - y - c) % 18446744073709551616), u (if x < y + c then 1 else 0)]) [.int .u64 x, .int .u64 y, .int .u64 c] (.tuple #[.int .u64 ((x + 18446744073709551616 - y - c) % 18446744073709551616 : Nat), .int .u64 ((if x < y + c then 1 else 0 : Nat) : Int)]) (by simp only [concs, conc, Option.bind_some, Option.map_some]) (by simp only [u, concs, conc, Option.bind_some, Option.map_some]) fun w => ?_) (fun g => by simp only [rens, ren]) (fun v g hv => ?_) fun v hv => ?_
  · rw [run_callFunc_extern Tryd.func92 (by kernel_rfl) (by kernel_rfl) (by kernel_rfl) (e := sub64E) (by kernel_rfl)]
    rw [show (([.int .u64 x, .int .u64 y, .int .u64 c] : List Value).toArray) = #[.int .u64 (x : Int), .int .u64 (y : Int), .int .u64 (c : Int)] from rfl, sub64E_run _ x y c hc]
    rfl
  · subst hv; simp only [u, rens, ren]
  · subst hv
    refine hq _ _ (Nat.mod_lt _ (by decide)) (by split <;> omega) ?_
    split <;> omega
theorem lw_of {d0 d1 d2 d3 : Nat} (h0 : d0 < 18446744073709551616) (h1 : d1 < 18446744073709551616) (h2 : d2 < 18446744073709551616) (h3 : d3 < 18446744073709551616) :
    lw (d0 + 18446744073709551616 * d1 + 340282366920938463463374607431768211456 * d2 + 6277101735386680763835789423207666416102355444464034512896 * d3) = .agg [.int .u64 (d0 : Int), .int .u64 (d1 : Int), .int .u64 (d2 : Int), .int .u64 (d3 : Int)] := by
  have e0 : (d0 + 18446744073709551616 * d1 + 340282366920938463463374607431768211456 * d2 + 6277101735386680763835789423207666416102355444464034512896 * d3) % 18446744073709551616 = d0 := by omega
  have e1 : (d0 + 18446744073709551616 * d1 + 340282366920938463463374607431768211456 * d2 + 6277101735386680763835789423207666416102355444464034512896 * d3) / 18446744073709551616 % 18446744073709551616 = d1 := by omega
  have e2 : (d0 + 18446744073709551616 * d1 + 340282366920938463463374607431768211456 * d2 + 6277101735386680763835789423207666416102355444464034512896 * d3) / 340282366920938463463374607431768211456 % 18446744073709551616 = d2 := by omega
  have e3 : (d0 + 18446744073709551616 * d1 + 340282366920938463463374607431768211456 * d2 + 6277101735386680763835789423207666416102355444464034512896 * d3) / 6277101735386680763835789423207666416102355444464034512896 % 18446744073709551616 = d3 := by omega
  unfold lw lc u
  rw [e0, e1, e2, e3]
theorem limbs (A : Nat) : ∃ a0 a1 a2 a3 : Nat, a0 < 18446744073709551616 ∧ a1 < 18446744073709551616 ∧ a2 < 18446744073709551616 ∧ a3 < 18446744073709551616 ∧ lw A = .agg [.int .u64 (a0 : Int), .int .u64 (a1 : Int), .int .u64 (a2 : Int), .int .u64 (a3 : Int)] ∧
    (A < 115792089237316195423570985008687907853269984665640564039457584007913129639936 → A = a0 + 18446744073709551616 * a1 + 340282366920938463463374607431768211456 * a2 + 6277101735386680763835789423207666416102355444464034512896 * a3) := by
  refine ⟨_, _, _, _, Nat.mod_lt _ (by decide), Nat.mod_lt _ (by decide), Nat.mod_lt _ (by decide), Nat.mod_lt _ (by decide), rfl, fun h => ?_⟩
  omega
set_option maxHeartbeats 4000000
theorem minus (A B : Nat) (hA : A < 115792089237316195423570985008687907853269984665640564039457584007913129639936) (hB : B < 115792089237316195423570985008687907853269984665640564039457584007913129639936) (Q : V → Heap → Prop)
    (hQ : ∀ D b : Nat, D < 115792089237316195423570985008687907853269984665640564039457584007913129639936 → b ≤ 1 → A + 115792089237316195423570985008687907853269984665640564039457584007913129639936 * b = B + D → Q (.tup [lw D, u b]) []) : VCall Tryd.prog G 81 [lw A, lw B] [] Q := by
  refine vcall_body Tryd.func81 nm81 code81 nt81 ?_
  obtain ⟨a0, a1, a2, a3, ha0, ha1, ha2, ha3, ea, eA⟩ := limbs A
  obtain ⟨b0, b1, b2, b3, hb0, hb1, hb2, hb3, eb, eB⟩ := limbs B
  rw [ea, eb]
  refine run_drive 40 ?_
  simp only [go_sem, v81, v81_0, v81_1, v81_2, v81_3, v81_10]
  refine run_loop ?_
  refine run_drive 40 ?_
  simp only [go_sem, v81_9, v81_4, v81_5, v81_7]
  refine run_drw (by kernel_rfl) ?_
  refine drun_drive 20 (p := (_, _)) ?_
  simp only [go_sem, v81_6]
  refine drun_call' ?_
  simp only [go_sem, calV]
  refine sub64 _ _ _ _ (by first | exact Int.natCast_zero.symm | rfl) (by first | decide | assumption) (by assumption) (by assumption) ?_
  intro d0 c0 hd0 hc0 he0
  refine drun_drive 20 (p := (_, _)) ?_
  simp only [go_sem]
  refine drun_end ?_
  refine run_drive 40 ?_
  simp only [go_sem, v81_8]
  refine run_loop ?_
  refine run_drive 40 ?_
  simp only [go_sem, v81_9, v81_4, v81_5, v81_7]
  refine run_drw (by kernel_rfl) ?_
  refine drun_drive 20 (p := (_, _)) ?_
  simp only [go_sem, v81_6]
  refine drun_call' ?_
  simp only [go_sem, calV]
  refine sub64 _ _ _ _ (by first | exact Int.natCast_zero.symm | rfl) (by first | decide | assumption) (by assumption) (by assumption) ?_
  intro d1 c1 hd1 hc1 he1
  refine drun_drive 20 (p := (_, _)) ?_
  simp only [go_sem]
  refine drun_end ?_
  refine run_drive 40 ?_
  simp only [go_sem, v81_8]
  refine run_loop ?_
  refine run_drive 40 ?_
  simp only [go_sem, v81_9, v81_4, v81_5, v81_7]
  refine run_drw (by kernel_rfl) ?_
  refine drun_drive 20 (p := (_, _)) ?_
  simp only [go_sem, v81_6]
  refine drun_call' ?_
  simp only [go_sem, calV]
  refine sub64 _ _ _ _ (by first | exact Int.natCast_zero.symm | rfl) (by first | decide | assumption) (by assumption) (by assumption) ?_
  intro d2 c2 hd2 hc2 he2
  refine drun_drive 20 (p := (_, _)) ?_
  simp only [go_sem]
  refine drun_end ?_
  refine run_drive 40 ?_
  simp only [go_sem, v81_8]
  refine run_loop ?_
  refine run_drive 40 ?_
  simp only [go_sem, v81_9, v81_4, v81_5, v81_7]
  refine run_drw (by kernel_rfl) ?_
  refine drun_drive 20 (p := (_, _)) ?_
  simp only [go_sem, v81_6]
  refine drun_call' ?_
  simp only [go_sem, calV]
  refine sub64 _ _ _ _ (by first | exact Int.natCast_zero.symm | rfl) (by first | decide | assumption) (by assumption) (by assumption) ?_
  intro d3 c3 hd3 hc3 he3
  refine drun_drive 20 (p := (_, _)) ?_
  simp only [go_sem]
  refine drun_end ?_
  refine run_drive 40 ?_
  simp only [go_sem, v81_8]
  refine run_loop ?_
  refine run_drive 40 ?_
  simp only [go_sem, v81_9, v81_4, v81_11]
  refine run_ret_drop Tryd.func81 res81 [] (.tup [lw (d0 + 18446744073709551616 * d1 + 340282366920938463463374607431768211456 * d2 + 6277101735386680763835789423207666416102355444464034512896 * d3), u c3]) [] rfl (by simp) trivial (by simp [uniq]) ?_ (hQ _ _ ?_ hc3 ?_)
  · rw [lw_of hd0 hd1 hd2 hd3]
    simp only [go_sem, rr81, ren, rens, u]
  · omega
  · rw [eA hA, eB hB]; omega
theorem mul64 (x y : Nat) (hx : x < 18446744073709551616) (hy : y < 18446744073709551616) {Q : V → Heap → Prop} (hQ : ∀ hi lo : Nat, hi < 18446744073709551616 → lo < 18446744073709551616 → x * y = 18446744073709551616 * hi + lo → Q (.tup [.int .u64 (hi : Int), .int .u64 (lo : Int)]) []) : VCall Tryd.prog G 79 [.int .u64 (x : Int), .int .u64 (y : Int)] [] Q := by
  refine vcall_body Tryd.func79 nm79 code79 nt79 ?_
  refine run_drive 100 ?_
  simp only [go_sem, v79_0, v79_1, v79_2, v79_3, v79_4, v79_5, v79_6, v79_7, v79_8, v79_9, v79_10, v79_11, v79]
  refine run_ret' Tryd.func79 res79 ?_
  simp only [go_sem, rr79]
  exact hQ _ _ (Nat.mod_lt _ (by decide)) (Nat.mod_lt _ (by decide)) (mul64_law x y hx hy)
noncomputable def add64E : Array Value → Sem Value := (Extern.find Tryd.f80).getD fun _ => Pure.pure undef
theorem add64E_run (P : Program) (x y b : Nat) (hb : b ≤ 1) (w : World) : (add64E #[.int .u64 x, .int .u64 y, .int .u64 b]).run P w =
      .ok (.tuple #[.int .u64 (((x + y + b) % 18446744073709551616 : Nat) : Int), .int .u64 (((x + y + b) / 18446744073709551616 : Nat) : Int)]) w := by
  have : b = 0 ∨ b = 1 := by omega
  rcases this with rfl | rfl <;> rfl
theorem add64 (x y c : Nat) (ci : Int) (hci : ci = (c : Int)) (hc : c ≤ 1) (hx : x < 18446744073709551616) (hy : y < 18446744073709551616) {h : Heap} {R : V → Heap → Prop} (hq : ∀ d b : Nat, d < 18446744073709551616 → b ≤ 1 → x + y + c = 18446744073709551616 * b + d → R (.tup [.int .u64 (d : Int), .int .u64 (b : Int)]) h) : VCall Tryd.prog G 80 [.int .u64 (x : Int), .int .u64 (y : Int), .int .u64 ci] h R := by
  subst hci
  refine vcall_plain (vcall_value (v := .tup [u ((x + y + c) % 18446744073709551616), u ((x + y + c) / 18446744073709551616)]) [.int .u64 x, .int .u64 y, .int .u64 c] (.tuple #[.int .u64 ((x + y + c) % 18446744073709551616 : Nat), .int .u64 (((x + y + c) / 18446744073709551616 : Nat) : Int)]) (by simp only [concs, conc, Option.bind_some, Option.map_some]) (by simp only [u, concs, conc, Option.bind_some, Option.map_some]) fun w => ?_) (fun g => by simp only [rens, ren]) (fun v g hv => ?_) fun v hv => ?_
  · rw [run_callFunc_extern Tryd.func80 (by kernel_rfl) (by kernel_rfl) (by kernel_rfl) (e := add64E) (by kernel_rfl)]
    rw [show (([.int .u64 x, .int .u64 y, .int .u64 c] : List Value).toArray) = #[.int .u64 (x : Int), .int .u64 (y : Int), .int .u64 (c : Int)] from rfl, add64E_run _ x y c hc]
    rfl
  · subst hv; simp only [u, rens, ren]
  · subst hv
    exact hq _ _ (Nat.mod_lt _ (by decide)) (by omega) (by omega)
theorem mul64' (x y : Nat) (hx : x < 18446744073709551616) (hy : y < 18446744073709551616) {h : Heap} {R : V → Heap → Prop} (hQ : ∀ hi lo : Nat, hi < 18446744073709551616 → lo < 18446744073709551616 → x * y = 18446744073709551616 * hi + lo → R (.tup [.int .u64 (hi : Int), .int .u64 (lo : Int)]) h) : VCall Tryd.prog G 79 [.int .u64 (x : Int), .int .u64 (y : Int)] h R := by
  refine vcall_plain (Q := fun v => ∃ hi lo : Nat, hi < 18446744073709551616 ∧ lo < 18446744073709551616 ∧ x * y = 18446744073709551616 * hi + lo ∧ v = .tup [.int .u64 (hi : Int), .int .u64 (lo : Int)]) (mul64 x y hx hy fun hi lo h1 h2 h3 => ⟨⟨hi, lo, h1, h2, h3, rfl⟩, rfl⟩) (fun g => by simp only [rens, ren]) ?_ ?_
  · rintro v g ⟨hi, lo, _, _, _, rfl⟩; simp only [rens, ren]
  · rintro v ⟨hi, lo, h1, h2, h3, rfl⟩; exact hQ hi lo h1 h2 h3
theorem minus' (A B : Nat) (hA : A < 115792089237316195423570985008687907853269984665640564039457584007913129639936) (hB : B < 115792089237316195423570985008687907853269984665640564039457584007913129639936) {h : Heap} {R : V → Heap → Prop}
    (hQ : ∀ D b : Nat, D < 115792089237316195423570985008687907853269984665640564039457584007913129639936 → b ≤ 1 → A + 115792089237316195423570985008687907853269984665640564039457584007913129639936 * b = B + D → R (.tup [lw D, u b]) h) : VCall Tryd.prog G 81 [lw A, lw B] h R := by
  refine vcall_plain (Q := fun v => ∃ D b : Nat, D < 115792089237316195423570985008687907853269984665640564039457584007913129639936 ∧ b ≤ 1 ∧ A + 115792089237316195423570985008687907853269984665640564039457584007913129639936 * b = B + D ∧ v = .tup [lw D, u b]) (minus A B hA hB _ fun D b h1 h2 h3 => ⟨⟨D, b, h1, h2, h3, rfl⟩, rfl⟩) (fun g => by simp only [rens, ren, lw, lc, u]) ?_ ?_
  · rintro v g ⟨hi, lo, _, _, _, rfl⟩; simp only [rens, ren, lw, lc, u]
  · rintro v ⟨hi, lo, h1, h2, h3, rfl⟩; exact hQ hi lo h1 h2 h3
end
section
attribute [local go_sem] Option.isSome_some Option.isSome_none Kind.m Kind.w Kind.g look_ro look_rw look_grow lenO drive stepV exo expo evs fillV isNil nilKind eqV eqL optA optM sliceAtV ev kn V.known V.one ldc stc splice cellsOf asK asN asB asS asG asT appV srcV lenV setd wantV exitV rvs rv one List.length_cons List.length_nil List.cons_append List.nil_append List.append_nil List.replicate List.getD_cons_zero List.getD_cons_succ List.set_cons_zero List.set_cons_succ List.getElem?_cons_zero List.getElem?_cons_succ List.getElem?_nil List.take_succ_cons List.take_zero List.take_nil List.drop_succ_cons List.drop_zero List.drop_nil List.all_cons List.all_nil List.any_cons List.any_nil Bool.and_true Bool.true_and Bool.and_self Option.map_some Option.map_none Option.bind_some Option.some.injEq Nat.add_zero Nat.zero_add Int.toNat_zero Int.toNat_one Int.zero_add Int.add_zero if_true if_false ite_true ite_false and_true true_and and_self ne_eq not_false_eq_true not_true_eq_false decide_true decide_false Bool.false_eq_true Bool.not_true Bool.not_false beq_self_eq_true BEq.rfl Bool.not_eq_true Nat.le_refl Int.le_refl Nat.zero_le List.foldl List.map_cons List.map_nil Prod.mk.injEq Int.cast_ofNat_Int Int.zero_le_ofNat b_add_cc b_add_cl b_add_lc b_mul_cc b_mul_cl b_mul_lc b_sub_cc b_sub_cl b_sub_lc b_and_cc b_and_cl b_and_lc b_or_cc b_or_cl b_or_lc b_xor_cc b_xor_cl b_xor_lc b_andNot_cc b_andNot_cl b_andNot_lc b_shr_cc b_shr_cl b_shr_lc b_shl_cc b_shl_cl b_shl_lc b_lss b_leq b_gtr b_geq b_add_i b_sub_i b_mul_i beq_cc beq_cl beq_lc beq_ll b_quo_i b_rem_i neg_u64 wrap_i64 driveD stepD idsAt idOf maskH_nil restore_nil restore_mask List.filterMap_nil List.filterMap_cons VOp.looks VOp.makes exA
theorem lw_plain (n : Nat) (g : Nat → Nat) : ren g (lw n) = lw n := by simp only [rens, ren, lw, lc, u]
@[simp] theorem lc_len (n : Nat) : (lc n).length = 4 := rfl
theorem lc_take (n : Nat) : (lc n).take 4 = lc n := rfl
theorem lc_drop (n : Nat) : (lc n).drop 4 = [] := rfl
theorem lc_known (n : Nat) : (lc n).all V.known = true := rfl
theorem lc_one (n : Nat) : (lc n).all V.one = true := rfl
theorem lc_rens (n : Nat) (g : Nat → Nat) : rens g (lc n) = lc n := by simp only [rens, ren, lc, u]
theorem lc_cells (n : Nat) : cellsOf (lw n) = lc n := rfl
theorem lw_known (n : Nat) : (lw n).known = true := rfl
theorem lw_asG (n : Nat) : asG (lw n) = some (lc n) := rfl
theorem lw_agg (n : Nat) : V.agg (lc n) = lw n := rfl
theorem lc_zero : [V.int .u64 (nl 0), V.int .u64 (nl 0), V.int .u64 (nl 0), V.int .u64 (nl 0)] = lc 0 := rfl
theorem lc_fit (g : Nat → Nat) (n : Nat) : fit g (lc n) (lc n) := by simp only [fit, lc, u, ren, or_true, and_self]
set_option maxRecDepth 100000
set_option maxHeartbeats 1000000
theorem plus (A B : Nat) (hA : A < 115792089237316195423570985008687907853269984665640564039457584007913129639936) (hB : B < 115792089237316195423570985008687907853269984665640564039457584007913129639936) (Q : V → Heap → Prop)
    (hQ : ∀ D b : Nat, D < 115792089237316195423570985008687907853269984665640564039457584007913129639936 → b ≤ 1 → A + B = 115792089237316195423570985008687907853269984665640564039457584007913129639936 * b + D → Q (.tup [lw D, u b]) []) : VCall Tryd.prog G 82 [lw A, lw B] [] Q := by
  refine vcall_body Tryd.func82 nm82 code82 nt82 ?_
  obtain ⟨a0, a1, a2, a3, ha0, ha1, ha2, ha3, ea, eA⟩ := limbs A
  obtain ⟨b0, b1, b2, b3, hb0, hb1, hb2, hb3, eb, eB⟩ := limbs B
  rw [ea, eb]
  refine run_drive 40 ?_
  simp only [go_sem, v82, v82_0, v82_1, v82_2, v82_3, v82_10]
  refine run_loop ?_
  refine run_drive 40 ?_
  simp only [go_sem, v82_9, v82_4, v82_5, v82_7]
  refine run_drw (by kernel_rfl) ?_
  refine drun_drive 20 (p := (_, _)) ?_
  simp only [go_sem, v82_6]
  refine drun_call' ?_
  simp only [go_sem, calV]
  refine add64 _ _ _ _ (by first | exact Int.natCast_zero.symm | rfl) (by first | decide | assumption) (by assumption) (by assumption) ?_
  intro d0 c0 hd0 hc0 he0
  refine drun_drive 20 (p := (_, _)) ?_
  simp only [go_sem]
  refine drun_end ?_
  refine run_drive 40 ?_
  simp only [go_sem, v82_8]
  refine run_loop ?_
  refine run_drive 40 ?_
  simp only [go_sem, v82_9, v82_4, v82_5, v82_7]
  refine run_drw (by kernel_rfl) ?_
  refine drun_drive 20 (p := (_, _)) ?_
  simp only [go_sem, v82_6]
  refine drun_call' ?_
  simp only [go_sem, calV]
  refine add64 _ _ _ _ (by first | exact Int.natCast_zero.symm | rfl) (by first | decide | assumption) (by assumption) (by assumption) ?_
  intro d1 c1 hd1 hc1 he1
  refine drun_drive 20 (p := (_, _)) ?_
  simp only [go_sem]
  refine drun_end ?_
  refine run_drive 40 ?_
  simp only [go_sem, v82_8]
  refine run_loop ?_
  refine run_drive 40 ?_
  simp only [go_sem, v82_9, v82_4, v82_5, v82_7]
  refine run_drw (by kernel_rfl) ?_
  refine drun_drive 20 (p := (_, _)) ?_
  simp only [go_sem, v82_6]
  refine drun_call' ?_
  simp only [go_sem, calV]
  refine add64 _ _ _ _ (by first | exact Int.natCast_zero.symm | rfl) (by first | decide | assumption) (by assumption) (by assumption) ?_
  intro d2 c2 hd2 hc2 he2
  refine drun_drive 20 (p := (_, _)) ?_
  simp only [go_sem]
  refine drun_end ?_
  refine run_drive 40 ?_
  simp only [go_sem, v82_8]
  refine run_loop ?_
  refine run_drive 40 ?_
  simp only [go_sem, v82_9, v82_4, v82_5, v82_7]
  refine run_drw (by kernel_rfl) ?_
  refine drun_drive 20 (p := (_, _)) ?_
  simp only [go_sem, v82_6]
  refine drun_call' ?_
  simp only [go_sem, calV]
  refine add64 _ _ _ _ (by first | exact Int.natCast_zero.symm | rfl) (by first | decide | assumption) (by assumption) (by assumption) ?_
  intro d3 c3 hd3 hc3 he3
  refine drun_drive 20 (p := (_, _)) ?_
  simp only [go_sem]
  refine drun_end ?_
  refine run_drive 40 ?_
  simp only [go_sem, v82_8]
  refine run_loop ?_
  refine run_drive 40 ?_
  simp only [go_sem, v82_9, v82_4, v82_11]
  refine run_ret_drop Tryd.func82 res82 [] (.tup [lw (d0 + 18446744073709551616 * d1 + 340282366920938463463374607431768211456 * d2 + 6277101735386680763835789423207666416102355444464034512896 * d3), u c3]) [] rfl (by simp) trivial (by simp [uniq]) ?_ (hQ _ _ ?_ hc3 ?_)
  · rw [lw_of hd0 hd1 hd2 hd3]
    simp only [go_sem, rr82, ren, rens, u]
  · omega
  · rw [eA hA, eB hB]; omega
theorem choose (m : Bool) (A B : Nat) (mi : Int) (hm : mi = (if m = true then 18446744073709551615 else 0 : Nat)) (Q : V → Heap → Prop) (hQ : Q (if m = true then lw A else lw B) []) : VCall Tryd.prog G 84 [.int .u64 mi, lw A, lw B] [] Q := by
  subst hm
  refine vcall_body Tryd.func84 nm84 code84 nt84 ?_
  obtain ⟨a0, a1, a2, a3, ha0, ha1, ha2, ha3, ea, eA⟩ := limbs A
  obtain ⟨b0, b1, b2, b3, hb0, hb1, hb2, hb3, eb, eB⟩ := limbs B
  rw [ea, eb]
  generalize hk : (if m = true then 18446744073709551615 else 0 : Nat) = k
  refine run_drive 40 ?_
  simp only [go_sem, v84, v84_0, v84_1, v84_8]
  refine run_loop ?_
  refine run_drive 40 ?_
  simp only [go_sem, v84_7, v84_2, v84_3, v84_5]
  refine run_drw (by kernel_rfl) ?_
  refine drun_drive 20 (p := (_, _)) ?_
  simp only [go_sem, v84_4]
  refine drun_end ?_
  refine run_drive 40 ?_
  simp only [go_sem, v84_6]
  refine run_loop ?_
  refine run_drive 40 ?_
  simp only [go_sem, v84_7, v84_2, v84_3, v84_5]
  refine run_drw (by kernel_rfl) ?_
  refine drun_drive 20 (p := (_, _)) ?_
  simp only [go_sem, v84_4]
  refine drun_end ?_
  refine run_drive 40 ?_
  simp only [go_sem, v84_6]
  refine run_loop ?_
  refine run_drive 40 ?_
  simp only [go_sem, v84_7, v84_2, v84_3, v84_5]
  refine run_drw (by kernel_rfl) ?_
  refine drun_drive 20 (p := (_, _)) ?_
  simp only [go_sem, v84_4]
  refine drun_end ?_
  refine run_drive 40 ?_
  simp only [go_sem, v84_6]
  refine run_loop ?_
  refine run_drive 40 ?_
  simp only [go_sem, v84_7, v84_2, v84_3, v84_5]
  refine run_drw (by kernel_rfl) ?_
  refine drun_drive 20 (p := (_, _)) ?_
  simp only [go_sem, v84_4]
  refine drun_end ?_
  refine run_drive 40 ?_
  simp only [go_sem, v84_6]
  refine run_loop ?_
  refine run_drive 40 ?_
  simp only [go_sem, v84_7, v84_2, v84_9]
  have key : ∀ a b : Nat, a < 18446744073709551616 → b < 18446744073709551616 → o64 (a64 a k) (n64 b k) = if m = true then a else b := by
    intro a b ha hb
    subst hk
    unfold o64 a64 n64
    rw [Nat.mod_eq_of_lt ha, Nat.mod_eq_of_lt hb]
    cases m
    · simp only [Bool.false_eq_true, if_false]
      rw [Nat.zero_mod, Nat.and_zero, Nat.zero_mod, Nat.zero_or, Nat.sub_zero, show (18446744073709551615 : Nat) = 2 ^ 64 - 1 from rfl, Nat.and_two_pow_sub_one_eq_mod]
      omega
    · simp only [if_true]
      rw [show 18446744073709551615 - 18446744073709551615 % 18446744073709551616 = 0 from rfl, Nat.and_zero, Nat.zero_mod, Nat.or_zero, show 18446744073709551615 % 18446744073709551616 = 2 ^ 64 - 1 from rfl, Nat.and_two_pow_sub_one_eq_mod]
      omega
  refine run_ret_drop Tryd.func84 res84 [] (if m = true then lw A else lw B) [] rfl (by simp) trivial (by simp [uniq]) ?_ hQ
  simp only [go_sem, rr84, key _ _ ha0 hb0, key _ _ ha1 hb1, key _ _ ha2 hb2, key _ _ ha3 hb3]
  cases m <;> simp only [Bool.false_eq_true, if_false, if_true, ea, eb, ren, rens]
end
section
attribute [local go_sem] Option.isSome_some Option.isSome_none Kind.m Kind.w Kind.g look_ro look_rw look_grow lenO drive stepV exo expo evs fillV isNil nilKind eqV eqL optA optM sliceAtV ev kn V.known V.one ldc stc splice cellsOf asK asN asB asS asG asT appV srcV lenV setd wantV exitV rvs rv one List.length_cons List.length_nil List.cons_append List.nil_append List.append_nil List.replicate List.getD_cons_zero List.getD_cons_succ List.set_cons_zero List.set_cons_succ List.getElem?_cons_zero List.getElem?_cons_succ List.getElem?_nil List.take_succ_cons List.take_zero List.take_nil List.drop_succ_cons List.drop_zero List.drop_nil List.all_cons List.all_nil List.any_cons List.any_nil Bool.and_true Bool.true_and Bool.and_self Option.map_some Option.map_none Option.bind_some Option.some.injEq Nat.add_zero Nat.zero_add Int.toNat_zero Int.toNat_one Int.zero_add Int.add_zero if_true if_false ite_true ite_false and_true true_and and_self ne_eq not_false_eq_true not_true_eq_false decide_true decide_false Bool.false_eq_true Bool.not_true Bool.not_false beq_self_eq_true BEq.rfl Bool.not_eq_true Nat.le_refl Int.le_refl Nat.zero_le List.foldl List.map_cons List.map_nil Prod.mk.injEq Int.cast_ofNat_Int Int.zero_le_ofNat b_add_cc b_add_cl b_add_lc b_mul_cc b_mul_cl b_mul_lc b_sub_cc b_sub_cl b_sub_lc b_and_cc b_and_cl b_and_lc b_or_cc b_or_cl b_or_lc b_xor_cc b_xor_cl b_xor_lc b_andNot_cc b_andNot_cl b_andNot_lc b_shr_cc b_shr_cl b_shr_lc b_shl_cc b_shl_cl b_shl_lc b_lss b_leq b_gtr b_geq b_add_i b_sub_i b_mul_i beq_cc beq_cl beq_lc beq_ll b_quo_i b_rem_i neg_u64 wrap_i64 driveD stepD idsAt idOf maskH_nil restore_nil restore_mask List.filterMap_nil List.filterMap_cons VOp.looks VOp.makes exA
def ell : Nat := 7237005577332262213973186563042994240857116359379907606001950938285454250989
def tbl : List V := [.int .u64 (nl 6346243789798364141), .int .u64 (nl 1503914060200516822), .int .u64 (nl 0), .int .u64 (nl 1152921504606846976),
  .int .u64 (nl 15486807595281847581), .int .u64 (nl 14334777244411350896), .int .u64 (nl 18446744073709551614), .int .u64 (nl 1152921504606846975),
  .int .u64 (nl 11819153939886771969), .int .u64 (nl 14991950615390032711), .int .u64 (nl 14910419812499177061), .int .u64 (nl 259310039853996605),
  .int .u64 (nl 6346243789798364139), .int .u64 (nl 1503914060200516822), .int .u64 (nl 0), .int .u64 (nl 1152921504606846976)]
theorem lw_ell : V.agg [.int .u64 (nl 6346243789798364141), .int .u64 (nl 1503914060200516822), .int .u64 (nl 0), .int .u64 (nl 1152921504606846976)] = lw ell := rfl
theorem choose' (m : Bool) (A B : Nat) (mi : Int) (hm : mi = (if m = true then 18446744073709551615 else 0 : Nat)) {h : Heap} {R : V → Heap → Prop} (hQ : R (if m = true then lw A else lw B) h) : VCall Tryd.prog G 84 [.int .u64 mi, lw A, lw B] h R := by
  refine vcall_plain (Q := fun v => v = if m = true then lw A else lw B) (choose m A B mi hm _ ⟨rfl, rfl⟩) (fun g => by simp only [rens, ren, lw, lc, u]) ?_ ?_
  · rintro v g rfl; cases m <;> simp only [Bool.false_eq_true, if_false, if_true, lw_plain]
  · rintro v rfl; exact hQ
theorem plus' (A B : Nat) (hA : A < 115792089237316195423570985008687907853269984665640564039457584007913129639936) (hB : B < 115792089237316195423570985008687907853269984665640564039457584007913129639936) {h : Heap} {R : V → Heap → Prop}
    (hQ : ∀ D b : Nat, D < 115792089237316195423570985008687907853269984665640564039457584007913129639936 → b ≤ 1 → A + B = 115792089237316195423570985008687907853269984665640564039457584007913129639936 * b + D → R (.tup [lw D, u b]) h) : VCall Tryd.prog G 82 [lw A, lw B] h R := by
  refine vcall_plain (Q := fun v => ∃ D b : Nat, D < 115792089237316195423570985008687907853269984665640564039457584007913129639936 ∧ b ≤ 1 ∧ A + B = 115792089237316195423570985008687907853269984665640564039457584007913129639936 * b + D ∧ v = .tup [lw D, u b]) (plus A B hA hB _ fun D b h1 h2 h3 => ⟨⟨D, b, h1, h2, h3, rfl⟩, rfl⟩) (fun g => by simp only [rens, ren, lw, lc, u]) ?_ ?_
  · rintro v g ⟨hi, lo, _, _, _, rfl⟩; simp only [rens, ren, lw, lc, u]
  · rintro v ⟨hi, lo, h1, h2, h3, rfl⟩; exact hQ hi lo h1 h2 h3
theorem mask_of {b : Nat} (hb : b ≤ 1) : ((s64 0 b : Nat) : Int) = ((if decide (b = 1) = true then 18446744073709551615 else 0 : Nat) : Int) := by
  have : b = 0 ∨ b = 1 := by omega
  rcases this with rfl | rfl <;> rfl
set_option maxRecDepth 100000
set_option maxHeartbeats 1000000
theorem lower (hG : G 3 = tbl) (A : Nat) (hA : A < 115792089237316195423570985008687907853269984665640564039457584007913129639936) (Q : V → Heap → Prop) (hQ : Q (lw (if ell ≤ A then A - ell else A)) []) : VCall Tryd.prog G 83 [lw A] [] Q := by
  refine vcall_body Tryd.func83 nm83 code83 nt83 ?_
  obtain ⟨a0, a1, a2, a3, ha0, ha1, ha2, ha3, ea, eA⟩ := limbs A
  rw [ea]
  refine run_drive 40 ?_
  simp only [go_sem, v83_0, v83_1, v83_2, v83, hG, tbl]
  refine run_call' rfl ?_
  simp only [go_sem, calV, lw_ell]
  rw [← ea]
  refine minus' A ell hA (by decide) ?_
  intro D b hD hb he
  obtain ⟨d0, d1, d2, d3, hd0, hd1, hd2, hd3, ed, eD⟩ := limbs D
  rw [ed, ea]
  simp only [u]
  refine run_drive 40 ?_
  simp only [go_sem]
  refine run_call' rfl ?_
  simp only [go_sem, calV]
  rw [← ed, ← ea]
  refine choose' (decide (b = 1)) A D _ (mask_of hb) ?_
  have hR : (if decide (b = 1) = true then lw A else lw D) = lw (if ell ≤ A then A - ell else A) := by
    have hell : ell < 115792089237316195423570985008687907853269984665640564039457584007913129639936 := by decide
    by_cases h1 : b = 1
    · subst h1
      rw [if_pos (by decide), if_neg (by omega)]
    · rw [if_neg (by simpa using h1), if_pos (by omega)]
      have h0 : b = 0 := by omega
      subst h0
      exact congrArg lw (by omega)
  rw [hR]
  obtain ⟨r0, r1, r2, r3, hr0, hr1, hr2, hr3, er, eR⟩ := limbs (if ell ≤ A then A - ell else A)
  rw [er, ea, ed]
  refine run_drive 40 ?_
  simp only [go_sem]
  refine run_ret_drop Tryd.func83 res83 [] (lw (if ell ≤ A then A - ell else A)) [] rfl (by simp) trivial (by simp [uniq]) ?_ hQ
  simp only [go_sem, rr83, er, ren, rens]
end
end Go.Vs.Tryd

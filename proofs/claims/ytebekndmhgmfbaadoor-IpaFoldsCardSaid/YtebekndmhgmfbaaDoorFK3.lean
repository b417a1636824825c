/- Text 3 of 5 of this claim: a machine of plain values beside the model, what the functions of the program and of the reference answer over it, and last the row and its card. -/
import Derived.Test.YtebekndmhgmfbaaDoorFK2
import Derived.Test.YtebekndmhgmfbaaDoorProg
import Derived.KernelRfl
set_option linter.unusedVariables false
set_option linter.unusedSimpArgs false
set_option maxRecDepth 1000000
namespace Go.Vs.Tryd
open Go.Proofs
def v3_0 : List VI := [.op (some 1) none (.box (.t 0)), .op (some 2) none (.p (.mov (.c (.bool false))))]
def v3_1 : List VI := [.op (some 14) none (.ld true 26 (.t 1)), .call (some 15) none (.fn 7) [.t 14], .op (some 13) none (.p (.mov (.t 15))), .op (some 16) none (.p (.ext (.t 13) 0)), .op (some 17) none (.p (.ext (.t 13) 1)), .op (some 3) none (.new [.int .u64 (nl 0), .int .u64 (nl 0), .int .u64 (nl 0), .int .u64 (nl 0), .int .u64 (nl 0), .int .u64 (nl 0), .int .u64 (nl 0), .int .u64 (nl 0), .nils, .nils]), .op (some 4) none (.new [.int .i64 0, .int .i64 0, .int .i64 0, .int .i64 0, .int .i64 0, .int .i64 0, .int .i64 0, .int .i64 0, .int .i64 0, .int .i64 0, .int .i64 0, .int .i64 0, .int .i64 0, .int .i64 0, .int .i64 0, .int .i64 0, .int .i64 0, .int .i64 0, .int .i64 0, .int .i64 0, .int .i64 0, .int .u64 (nl 0), .int .u64 (nl 0), .int .u64 (nl 0), .int .u64 (nl 0), .nils, .int .i64 0, .int .i64 0, .int .i64 0, .int .i64 0, .int .i64 0, .int .i64 0, .int .i64 0, .int .i64 0, .int .i64 0, .int .i64 0, .int .i64 0, .int .i64 0, .int .i64 0, .int .i64 0, .int .i64 0, .int .i64 0, .int .i64 0, .int .i64 0, .int .i64 0, .int .i64 0, .int .i64 0, .int .u64 (nl 0), .int .u64 (nl 0), .int .u64 (nl 0), .int .u64 (nl 0), .nils, .nils, .nils]), .op none none (.st 10 (.t 3) (.t 16)), .op none none (.st 54 (.t 4) (.t 17))]
def v3_2 : List VI := [.op (some 19) none (.ld true 26 (.t 1)), .call (some 20) none (.fn 8) [.t 19], .op (some 18) none (.p (.mov (.t 20))), .op (some 21) none (.p (.ext (.t 18) 0)), .op (some 22) none (.p (.ext (.t 18) 1)), .op (some 5) none (.new [.nils, .nils, .int .u64 (nl 0), .int .u64 (nl 0), .int .u64 (nl 0), .int .u64 (nl 0), .int .u64 (nl 0), .int .u64 (nl 0), .int .u64 (nl 0), .int .u64 (nl 0)]), .op (some 6) none (.new [.nils, .nils, .int .u64 (nl 0), .int .u64 (nl 0), .int .u64 (nl 0), .int .u64 (nl 0), .int .u64 (nl 0), .int .u64 (nl 0), .int .u64 (nl 0), .int .u64 (nl 0)]), .op none none (.st 10 (.t 5) (.t 21)), .op none none (.st 10 (.t 6) (.t 22))]
def v3_3 : List DS := [.mk 0 true (.op (some 24) none (.ld true 10 (.t 3))) [] [], .mk 1 true (.op (some 25) none (.ld true 10 (.t 5))) [] [], .mk 2 true (.op (some 26) none (.p (.fda 23 (.t 1)))) [] [], .mk 3 true (.op (some 27) none (.ld false 1 (.t 26))) [] [], .mk 4 false (.call (some 28) none (.fn 10) [.t 27]) [3, 5] [], .mk 5 false (.call (some 29) none (.fn 9) [.t 24, .t 25, .t 28]) [] [], .mk 6 true (.op (some 23) none (.p (.mov (.t 29)))) [] [], .mk 7 true (.op (some 30) none (.p (.ext (.t 23) 0))) [] [], .mk 8 true (.op (some 31) none (.p (.ext (.t 23) 1))) [] [], .mk 9 false (.op (some 7) none (.p (.mov (.t 30)))) [] [], .mk 10 false (.op (some 8) none (.p (.mov (.t 31)))) [] []]
def v3_4 : List VI := [.op (some 32) none (.p (.fda 23 (.t 1))), .op (some 33) none (.ld false 1 (.t 32)), .call (some 34) none (.fn 11) [.t 33], .op (some 9) none (.p (.mov (.t 34)))]
def v3_5 : List VI := [.op (some 35) none (.ld true 54 (.t 4)), .op (some 36) none (.ld true 10 (.t 6)), .op (some 37) none (.p (.mov (.t 9))), .call (some 38) none (.fn 12) [.t 35, .t 36, .t 37], .op (some 10) none (.p (.mov (.t 38)))]
def v3_6 : List VI := [.op (some 39) none (.p (.mov (.t 8))), .op (some 40) none (.p (.mov (.t 10))), .op (some 41) none (.p (.eq true .i (.t 39) (.t 40)))]
def v3_7 : List VI := [.op (some 2) none (.p (.mov (.c (.bool false))))]
def v3_8 : List VI := [.op (some 42) none (.p (.mov (.t 8))), .op (some 43) none (.p (.eq true .i (.t 42) (.c (.int .i64 0))))]
def v3_9 : List VI := [.op (some 44) none (.p (.mov (.t 7))), .op (some 45) none (.p (.len false (.t 44))), .op (some 46) none (.p (.eq false .i (.t 45) (.c (.int .i64 0)))), .op (some 2) none (.p (.mov (.t 46)))]
def v3_10 : List VI := [.op (some 47) none (.p (.mov (.t 7))), .op (some 48) none (.p (.len false (.t 47))), .op (some 49) none (.p (.fda 52 (.t 4))), .op (some 50) none (.ld false 1 (.t 49)), .op (some 51) none (.p (.len false (.t 50))), .op (some 52) none (.p (.bin .mul (.c (.int .i64 2)) (.t 51))), .op (some 53) none (.p (.mov (.t 9))), .op (some 54) none (.p (.len false (.t 53))), .op (some 55) none (.p (.bin .mul (.c (.int .i64 2)) (.t 54))), .op (some 56) none (.p (.bin .add (.t 52) (.t 55))), .op (some 57) none (.p (.bin .add (.t 56) (.c (.int .i64 2)))), .op (some 58) none (.p (.bin .gtr (.t 48) (.t 57)))]
def v3_11 : List VI := [.op (some 2) none (.p (.mov (.c (.bool false))))]
def v3_12 : List VI := [.op (some 59) none (.p (.bld [.int .u64 (nl 0), .int .u64 (nl 0), .int .u64 (nl 0), .int .u64 (nl 0)] [])), .op (some 11) none (.new [.int .u64 (nl 0), .int .u64 (nl 0), .int .u64 (nl 0), .int .u64 (nl 0)]), .op none none (.st 4 (.t 11) (.t 59))]
def v3_13 : List VI := [.op (some 12) none (.p (.mov (.c (.int .i64 0))))]
def v3_14 : List VI := [.op (some 60) none (.p (.mov (.t 12))), .op (some 61) none (.p (.mov (.t 7))), .op (some 62) none (.p (.len false (.t 61))), .op (some 63) none (.p (.bin .lss (.t 60) (.t 62)))]
def v3_15 : List DS := [.mk 0 true (.op (some 66) none (.ld true 4 (.t 11))) [] [], .mk 1 true (.op (some 67) none (.p (.mov (.t 7)))) [] [], .mk 2 true (.op (some 68) none (.p (.mov (.t 12)))) [] [], .mk 3 true (.op (some 69) none (.p (.ixs 8 (.t 67) (.t 68)))) [] [], .mk 4 true (.op (some 70) none (.p (.fda 0 (.t 69)))) [] [], .mk 5 true (.op (some 71) none (.ld true 4 (.t 70))) [] [], .mk 7 true (.op (some 73) none (.p (.mov (.t 7)))) [] [], .mk 8 true (.op (some 74) none (.p (.mov (.t 12)))) [] [], .mk 9 true (.op (some 75) none (.p (.ixs 8 (.t 73) (.t 74)))) [] [], .mk 10 true (.op (some 76) none (.p (.fda 4 (.t 75)))) [] [], .mk 11 true (.op (some 77) none (.p (.fda 0 (.t 76)))) [] [], .mk 12 true (.op (some 78) none (.ld true 4 (.t 77))) [] [], .mk 6 false (.call (some 72) none (.fn 14) [.t 71]) [11, 77] [], .mk 13 false (.call (some 79) none (.fn 14) [.t 78]) [11] [], .mk 14 false (.call (some 80) none (.fn 15) [.t 72, .t 79]) [11] [], .mk 15 false (.call (some 81) none (.fn 13) [.t 66, .t 80]) [] [], .mk 16 false (.op none none (.st 4 (.t 11) (.t 81))) [] []]
def v3_16 : VC := .drw v3_15
def v3_17 : List VI := [.op (some 64) none (.p (.mov (.t 12))), .op (some 65) none (.p (.bin .add (.t 64) (.c (.int .i64 1)))), .op (some 12) none (.p (.mov (.t 65)))]
def v3_18 : VC := .seq (.seq (.reg v3_14) (.cond (.t 63) .skip (.exit 0))) (.seq (.block 1 v3_16) (.reg v3_17))
def v3_19 : VC := .loop v3_18
def v3_20 : List DS := [.mk 0 true (.op (some 82) none (.ld true 4 (.t 11))) [] [], .mk 2 true (.op (some 84) none (.ld true 54 (.t 4))) [] [], .mk 3 true (.op (some 85) none (.ld true 10 (.t 6))) [] [], .mk 4 true (.op (some 86) none (.p (.mov (.t 9)))) [] [], .mk 1 false (.call (some 83) none (.fn 16) [.t 82]) [4, 6] [], .mk 5 false (.call (some 87) none (.fn 18) [.t 84, .t 85, .t 86]) [] [], .mk 6 false (.call (some 88) none (.fn 17) [.t 83, .t 87]) [] [], .mk 7 false (.op (some 2) none (.p (.mov (.t 88)))) [] []]
def v3 : VC := .seq (.reg v3_0) (.seq (.reg v3_1) (.seq (.reg v3_2) (.seq (.drw v3_3) (.seq (.reg v3_4) (.seq (.reg v3_5) (.seq (.seq (.reg v3_6) (.cond (.t 41) (.seq (.reg v3_7) .ret) .skip)) (.seq (.seq (.reg v3_8) (.cond (.t 43) (.seq (.reg v3_9) .ret) .skip)) (.seq (.seq (.reg v3_10) (.cond (.t 58) (.seq (.reg v3_11) .ret) .skip)) (.seq (.reg v3_12) (.seq (.seq (.reg v3_13) (.block 0 v3_19)) (.seq (.drw v3_20) .ret)))))))))))
def v5_0 : List VI := [.op (some 6) none (.p (.mov (.c (.bool false))))]
def v5_1 : List VI := [.op (some 7) none (.p (.mov (.c (.int .i64 0))))]
def v5_2 : List VI := [.op (some 8) none (.p (.mov (.c .nils)))]
def v5_3 : List VI := [.op (some 9) none (.p (.mov (.c (.int .i64 0))))]
def v5_4 : List VI := [.op (some 24) none (.p (.mov (.t 9))), .op (some 25) none (.p (.mov (.t 2))), .op (some 26) none (.p (.len false (.t 25))), .op (some 27) none (.p (.bin .lss (.t 24) (.t 26))), .op (some 28) none (.p (.mov (.t 27))), .op (some 29) (some (28, true)) (.p (.mov (.t 7))), .op (some 30) (some (28, true)) (.p (.bin .lss (.t 29) (.c (.int .i64 5)))), .op (some 31) none (.p (.pick (.t 28) (.t 30) (.c (.bool false))))]
def v5_5 : List VI := [.op (some 34) none (.p (.mov (.t 2))), .op (some 35) none (.p (.mov (.t 9))), .op (some 36) none (.p (.ixs 4 (.t 34) (.t 35))), .op (some 37) none (.ld true 4 (.t 36)), .op (some 10) none (.new [.int .u64 (nl 0), .int .u64 (nl 0), .int .u64 (nl 0), .int .u64 (nl 0)]), .op none none (.st 4 (.t 10) (.t 37))]
def v5_6 : List VI := [.op (some 38) none (.ld true 4 (.t 10)), .call (some 39) none (.fn 24) [.t 38], .op (some 40) none (.p (.un .not (.t 39)))]
def v5_7 : List VI := [.op (some 41) none (.p (.mov (.t 8))), .op (some 42) none (.ld true 4 (.t 10)), .op (some 43) none (.bsl 1 [.int .u64 (nl 0), .int .u64 (nl 0), .int .u64 (nl 0), .int .u64 (nl 0)] [(0, 4, .t 42)]), .op (some 44) none (.app 4 32 false (.t 41) (.t 43)), .op (some 8) none (.p (.mov (.t 44)))]
def v5_8 : List VI := [.op (some 45) none (.p (.mov (.t 7))), .op (some 46) none (.p (.bin .add (.t 45) (.c (.int .i64 1)))), .op (some 7) none (.p (.mov (.t 46)))]
def v5_9 : VC := .seq (.reg v5_5) (.seq (.reg v5_6) (.cond (.t 40) (.seq (.reg v5_7) (.reg v5_8)) .skip))
def v5_10 : List VI := [.op (some 32) none (.p (.mov (.t 9))), .op (some 33) none (.p (.bin .add (.t 32) (.c (.int .i64 1)))), .op (some 9) none (.p (.mov (.t 33)))]
def v5_11 : VC := .seq (.seq (.reg v5_4) (.cond (.t 31) .skip (.exit 0))) (.seq (.block 1 v5_9) (.reg v5_10))
def v5_12 : VC := .loop v5_11
def v5_13 : List VI := [.op (some 47) none (.p (.mov (.t 7))), .op (some 48) none (.p (.bin .shl (.c (.int .i64 1)) (.t 47))), .op (some 11) none (.p (.mov (.t 48)))]
def v5_14 : List VI := [.op (some 49) none (.p (.mov (.t 0))), .op (some 50) none (.p (.mov (.t 11))), .call (some 51) none (.fn 25) [.t 49, .t 50], .op (some 12) none (.p (.mov (.t 51)))]
def v5_15 : List VI := [.op (some 52) none (.p (.mov (.t 1))), .op (some 53) none (.p (.mov (.t 11))), .call (some 54) none (.fn 25) [.t 52, .t 53], .op (some 13) none (.p (.mov (.t 54)))]
def v5_16 : List DS := [.mk 0 true (.op (some 55) none (.p (.mov (.t 7)))) [] [], .mk 1 true (.op (some 56) none (.mks 4 32 [.int .u64 (nl 0), .int .u64 (nl 0), .int .u64 (nl 0), .int .u64 (nl 0)] (.t 55) (.t 55))) [] [], .mk 2 true (.op (some 57) none (.p (.mov (.t 7)))) [] [], .mk 3 true (.op (some 58) none (.mks 4 32 [.int .u64 (nl 0), .int .u64 (nl 0), .int .u64 (nl 0), .int .u64 (nl 0)] (.t 57) (.t 57))) [] [], .mk 4 true (.op (some 59) none (.p (.bld [.nils, .nils, .int .u64 (nl 0), .int .u64 (nl 0), .int .u64 (nl 0), .int .u64 (nl 0), .int .u64 (nl 0), .int .u64 (nl 0), .int .u64 (nl 0), .int .u64 (nl 0)] [(0, 1, .t 56), (1, 1, .t 58)]))) [] [], .mk 5 true (.op (some 14) none (.new [.nils, .nils, .int .u64 (nl 0), .int .u64 (nl 0), .int .u64 (nl 0), .int .u64 (nl 0), .int .u64 (nl 0), .int .u64 (nl 0), .int .u64 (nl 0), .int .u64 (nl 0)])) [] [], .mk 6 false (.op none none (.st 10 (.t 14) (.t 59))) [] []]
def v5_17 : List VI := [.op (some 15) none (.new [.int .u64 (nl 0), .int .u64 (nl 0), .int .u64 (nl 0), .int .u64 (nl 0), .int .u64 (nl 0), .int .u64 (nl 0), .int .u64 (nl 0), .int .u64 (nl 0), .nils, .nils])]
def v5_18 : List VI := [.op (some 16) none (.new [.int .i64 0]), .op none none (.st 1 (.t 16) (.c (.int .i64 0)))]
def v5_19 : List DS := [.mk 0 true (.op (some 60) none (.p (.mov (.t 12)))) [] [], .mk 2 true (.op (some 62) none (.p (.mov (.t 13)))) [] [], .mk 5 true (.op (some 65) none (.ld true 10 (.t 14))) [] [], .mk 6 true (.op (some 66) none (.p (.mov (.t 8)))) [] [], .mk 1 false (.call (some 61) none (.fn 26) [.t 60]) [14] [], .mk 3 false (.call (some 63) none (.fn 26) [.t 62]) [14] [], .mk 4 true (.op (some 64) none (.p (.bld [.int .u64 (nl 0), .int .u64 (nl 0), .int .u64 (nl 0), .int .u64 (nl 0), .int .u64 (nl 0), .int .u64 (nl 0), .int .u64 (nl 0), .int .u64 (nl 0), .nils, .nils] [(8, 1, .t 61), (9, 1, .t 63)]))) [] [], .mk 7 false (.call (some 67) none (.fn 20) [.t 64, .t 65, .t 66]) [] [], .mk 8 false (.op (some 17) none (.p (.mov (.t 67)))) [] []]
def v5_20 : List VI := [.op (some 68) none (.p (.mov (.t 17))), .op (some 69) none (.p (.eqn false 2 (.t 68) (.c .nilf)))]
def v5_21 : List VI := [.op (some 6) none (.p (.mov (.c (.bool false))))]
def v5_22 : List VI := [.op (some 70) none (.p (.mov (.t 17)))]
def v5_23 : List VI := [.op (some 18) none (.new [.int .u64 (nl 0), .int .u64 (nl 0), .int .u64 (nl 0), .int .u64 (nl 0), .int .u64 (nl 0), .int .u64 (nl 0), .int .u64 (nl 0), .int .u64 (nl 0), .nils, .nils]), .op none none (.st 10 (.t 18) (.t 71))]
def v5_24 : List VI := [.op (some 72) none (.ld true 10 (.t 18)), .op none none (.st 10 (.t 15) (.t 72))]
def v5_25 : List VI := [.op (some 73) none (.ld false 1 (.t 16)), .op (some 74) none (.p (.bin .add (.t 73) (.c (.int .i64 1)))), .op none none (.st 1 (.t 16) (.t 74))]
def v5_26 : VC := .seq (.reg v5_24) (.reg v5_25)
def v5_27 : VC := .reg v5_23
def v5_28 : VC := .block 3 v5_26
def v5_29 : VC := .rng (.t 70) [71] v5_27 v5_28
def v5_30 : List VI := [.op (some 76) none (.p (.mov (.t 8))), .call (some 77) none (.fn 27) [.t 76], .op (some 75) none (.p (.mov (.t 77))), .op (some 78) none (.p (.ext (.t 75) 0)), .op (some 79) none (.p (.ext (.t 75) 1)), .op (some 19) none (.p (.mov (.t 78))), .op (some 20) none (.p (.mov (.t 79)))]
def v5_31 : List VI := [.op (some 80) none (.p (.mov (.t 20))), .op (some 81) none (.p (.eq true .i (.t 80) (.c (.int .i64 0)))), .op (some 82) none (.p (.mov (.t 81))), .op (some 83) (some (82, false)) (.ld false 1 (.t 16)), .op (some 84) (some (82, false)) (.p (.mov (.t 7))), .op (some 85) (some (82, false)) (.p (.bin .add (.t 84) (.c (.int .i64 1)))), .op (some 86) (some (82, false)) (.p (.eq true .i (.t 83) (.t 85))), .op (some 87) none (.p (.pick (.t 82) (.c (.bool true)) (.t 86))), .op (some 88) none (.p (.mov (.t 87))), .op (some 89) (some (88, false)) (.p (.mov (.t 19))), .op (some 90) (some (88, false)) (.p (.len false (.t 89))), .op (some 91) (some (88, false)) (.p (.mov (.t 11))), .op (some 92) (some (88, false)) (.p (.eq true .i (.t 90) (.t 91))), .op (some 93) none (.p (.pick (.t 88) (.c (.bool true)) (.t 92))), .op (some 94) none (.p (.mov (.t 93))), .op (some 95) (some (94, false)) (.p (.fda 8 (.t 15))), .op (some 96) (some (94, false)) (.ld false 1 (.t 95)), .op (some 97) (some (94, false)) (.p (.len false (.t 96))), .op (some 98) (some (94, false)) (.p (.eq true .i (.t 97) (.c (.int .i64 1)))), .op (some 99) none (.p (.pick (.t 94) (.c (.bool true)) (.t 98))), .op (some 100) none (.p (.mov (.t 99))), .op (some 101) (some (100, false)) (.p (.fda 9 (.t 15))), .op (some 102) (some (100, false)) (.ld false 1 (.t 101)), .op (some 103) (some (100, false)) (.p (.len false (.t 102))), .op (some 104) (some (100, false)) (.p (.eq true .i (.t 103) (.c (.int .i64 1)))), .op (some 105) none (.p (.pick (.t 100) (.c (.bool true)) (.t 104)))]
def v5_32 : List VI := [.op (some 6) none (.p (.mov (.c (.bool false))))]
def v5_33 : List VI := [.op (some 21) none (.new [.int .u64 (nl 0), .int .u64 (nl 0), .int .u64 (nl 0), .int .u64 (nl 0)]), .op (some 22) none (.new [.int .u64 (nl 0), .int .u64 (nl 0), .int .u64 (nl 0), .int .u64 (nl 0)])]
def v5_34 : List VI := [.op (some 23) none (.p (.mov (.c (.int .i64 0))))]
def v5_35 : List VI := [.op (some 106) none (.p (.mov (.t 23))), .op (some 107) none (.p (.mov (.t 11))), .op (some 108) none (.p (.bin .lss (.t 106) (.t 107)))]
def v5_36 : List DS := [.mk 0 true (.op (some 111) none (.ld true 4 (.t 21))) [] [], .mk 1 true (.op (some 112) none (.p (.mov (.t 19)))) [] [], .mk 2 true (.op (some 113) none (.p (.mov (.t 23)))) [] [], .mk 3 true (.op (some 114) none (.p (.ixs 4 (.t 112) (.t 113)))) [] [], .mk 4 true (.op (some 115) none (.ld true 4 (.t 114))) [] [], .mk 5 true (.op (some 116) none (.p (.mov (.t 12)))) [] [], .mk 6 true (.op (some 117) none (.p (.mov (.t 23)))) [] [], .mk 7 true (.op (some 118) none (.p (.ixs 4 (.t 116) (.t 117)))) [] [], .mk 8 true (.op (some 119) none (.ld true 4 (.t 118))) [] [], .mk 9 false (.call (some 120) none (.fn 29) [.t 115, .t 119]) [21] [], .mk 10 false (.call (some 121) none (.fn 28) [.t 111, .t 120]) [] [], .mk 11 false (.op none none (.st 4 (.t 21) (.t 121))) [] []]
def v5_37 : List DS := [.mk 0 true (.op (some 122) none (.ld true 4 (.t 22))) [] [], .mk 1 true (.op (some 123) none (.p (.mov (.t 19)))) [] [], .mk 2 true (.op (some 124) none (.p (.mov (.t 23)))) [] [], .mk 3 true (.op (some 125) none (.p (.ixs 4 (.t 123) (.t 124)))) [] [], .mk 4 true (.op (some 126) none (.ld true 4 (.t 125))) [] [], .mk 6 true (.op (some 128) none (.p (.mov (.t 13)))) [] [], .mk 7 true (.op (some 129) none (.p (.mov (.t 23)))) [] [], .mk 8 true (.op (some 130) none (.p (.ixs 4 (.t 128) (.t 129)))) [] [], .mk 9 true (.op (some 131) none (.ld true 4 (.t 130))) [] [], .mk 5 false (.call (some 127) none (.fn 30) [.t 126]) [22, 130] [], .mk 10 false (.call (some 132) none (.fn 29) [.t 127, .t 131]) [22] [], .mk 11 false (.call (some 133) none (.fn 28) [.t 122, .t 132]) [] [], .mk 12 false (.op none none (.st 4 (.t 22) (.t 133))) [] []]
def v5_38 : VC := .seq (.drw v5_36) (.drw v5_37)
def v5_39 : List VI := [.op (some 109) none (.p (.mov (.t 23))), .op (some 110) none (.p (.bin .add (.t 109) (.c (.int .i64 1)))), .op (some 23) none (.p (.mov (.t 110)))]
def v5_40 : VC := .seq (.seq (.reg v5_35) (.cond (.t 108) .skip (.exit 4))) (.seq (.block 5 v5_38) (.reg v5_39))
def v5_41 : VC := .loop v5_40
def v5_42 : List DS := [.mk 0 true (.op (some 134) none (.p (.fda 8 (.t 15)))) [] [], .mk 1 true (.op (some 135) none (.ld false 1 (.t 134))) [] [], .mk 2 true (.op (some 136) none (.p (.ixs 4 (.t 135) (.c (.int .i64 0))))) [] [], .mk 3 true (.op (some 137) none (.p (.fda 0 (.t 136)))) [] [], .mk 4 true (.op (some 138) none (.ld true 4 (.t 137))) [] [], .mk 5 true (.op (some 139) none (.ld true 4 (.t 21))) [] [], .mk 6 false (.call (some 140) none (.fn 31) [.t 138, .t 139]) [] [], .mk 7 true (.op (some 141) none (.p (.mov (.t 140)))) [] [], .mk 8 true (.op (some 142) (some (141, true)) (.p (.fda 9 (.t 15)))) [] [], .mk 9 true (.op (some 143) (some (141, true)) (.ld false 1 (.t 142))) [] [], .mk 10 true (.op (some 144) (some (141, true)) (.p (.ixs 4 (.t 143) (.c (.int .i64 0))))) [] [], .mk 11 true (.op (some 145) (some (141, true)) (.p (.fda 0 (.t 144)))) [] [], .mk 12 true (.op (some 146) (some (141, true)) (.ld true 4 (.t 145))) [] [], .mk 13 true (.op (some 147) (some (141, true)) (.ld true 4 (.t 22))) [] [], .mk 14 false (.call (some 148) (some (141, true)) (.fn 31) [.t 146, .t 147]) [] [], .mk 15 true (.op (some 149) none (.p (.pick (.t 141) (.t 148) (.c (.bool false))))) [] [], .mk 16 false (.op (some 6) none (.p (.mov (.t 149)))) [] []]
def v5 : VC := .seq (.reg v5_0) (.seq (.reg v5_1) (.seq (.reg v5_2) (.seq (.seq (.reg v5_3) (.block 0 v5_12)) (.seq (.reg v5_13) (.seq (.reg v5_14) (.seq (.reg v5_15) (.seq (.drw v5_16) (.seq (.reg v5_17) (.seq (.reg v5_18) (.seq (.drw v5_19) (.seq (.seq (.reg v5_20) (.cond (.t 69) (.seq (.reg v5_21) .ret) .skip)) (.seq (.seq (.reg v5_22) (.block 2 v5_29)) (.seq (.reg v5_30) (.seq (.seq (.reg v5_31) (.cond (.t 105) (.seq (.reg v5_32) .ret) .skip)) (.seq (.reg v5_33) (.seq (.seq (.reg v5_34) (.block 4 v5_41)) (.seq (.drw v5_42) .ret)))))))))))))))))
def rr5 : List RV := [.t 6]
theorem code5 : (Tryd.f5.body).bind (cCode Tryd.prog) = some v5 := by kernel_rfl
theorem res5 : cRVs Tryd.prog (Tryd.f5.results.toList) = some rr5 := by kernel_rfl
theorem nt5 : Tryd.f5.ntmps = 150 := by kernel_rfl
theorem nm5 : (Tryd.f5.name == "runtime.NumGoroutine") = false := by kernel_rfl
def v20_0 : List VI := [.op (some 3) none (.box (.t 0)), .op (some 4) none (.box (.t 1)), .op (some 5) none (.box (.t 2)), .op (some 6) none (.p (.mov (.c .nilf)))]
def v20_1 : List DS := [.mk 0 true (.op (some 7) none (.p (.fda 8 (.t 3)))) [] [], .mk 1 true (.op (some 8) none (.ld false 1 (.t 7))) [] [], .mk 3 true (.op (some 10) none (.p (.fda 9 (.t 3)))) [] [], .mk 4 true (.op (some 11) none (.ld false 1 (.t 10))) [] [], .mk 2 false (.op (some 9) none (.app 4 32 false (.c .nils) (.t 8))) [10] [], .mk 6 true (.op (some 13) none (.p (.fda 8 (.t 3)))) [] [], .mk 5 false (.op (some 12) none (.app 4 32 false (.c .nils) (.t 11))) [] [], .mk 7 false (.op none none (.st 1 (.t 13) (.t 9))) [] [], .mk 8 true (.op (some 14) none (.p (.fda 9 (.t 3)))) [] [], .mk 9 false (.op none none (.st 1 (.t 14) (.t 12))) [] []]
def v20_2 : List DS := [.mk 0 true (.op (some 15) none (.p (.fda 0 (.t 4)))) [] [], .mk 1 true (.op (some 16) none (.ld false 1 (.t 15))) [] [], .mk 3 true (.op (some 18) none (.p (.fda 1 (.t 4)))) [] [], .mk 4 true (.op (some 19) none (.ld false 1 (.t 18))) [] [], .mk 2 false (.op (some 17) none (.app 4 32 false (.c .nils) (.t 16))) [18] [], .mk 6 true (.op (some 21) none (.p (.fda 0 (.t 4)))) [] [], .mk 5 false (.op (some 20) none (.app 4 32 false (.c .nils) (.t 19))) [] [], .mk 7 false (.op none none (.st 1 (.t 21) (.t 17))) [] [], .mk 8 true (.op (some 22) none (.p (.fda 1 (.t 4)))) [] [], .mk 9 false (.op none none (.st 1 (.t 22) (.t 20))) [] []]
def v20_3 : List VI := [.op (some 23) none (.ld false 1 (.t 5)), .op (some 24) none (.app 4 32 false (.c .nils) (.t 23)), .op none none (.st 1 (.t 5) (.t 24))]
def v20_4 : List VI := [.op (some 25) none (.p (.mkF (Fn.func 60) [] [.t 3, .t 4, .t 5])), .op (some 6) none (.p (.mov (.t 25)))]
def v20 : VC := .seq (.reg v20_0) (.seq (.drw v20_1) (.seq (.drw v20_2) (.seq (.reg v20_3) (.seq (.reg v20_4) .ret))))
def rr20 : List RV := [.t 6]
theorem code20 : (Tryd.f20.body).bind (cCode Tryd.prog) = some v20 := by kernel_rfl
theorem res20 : cRVs Tryd.prog (Tryd.f20.results.toList) = some rr20 := by kernel_rfl
theorem nt20 : Tryd.f20.ntmps = 26 := by kernel_rfl
theorem nm20 : (Tryd.f20.name == "runtime.NumGoroutine") = false := by kernel_rfl
def v24_0 : List VI := [.op (some 1) none (.box (.t 0)), .op (some 2) none (.p (.mov (.c (.bool false))))]
def v24_1 : List VI := [.op (some 3) none (.ld true 4 (.t 1)), .call (some 4) none (.fn 64) [.t 3], .op (some 5) none (.p (.bld [.int .u64 (nl 0), .int .u64 (nl 0), .int .u64 (nl 0), .int .u64 (nl 0)] [])), .op (some 6) none (.p (.eqa false [.i, .i, .i, .i] (.t 4) (.t 5))), .op (some 2) none (.p (.mov (.t 6)))]
def v24 : VC := .seq (.reg v24_0) (.seq (.reg v24_1) .ret)
def rr24 : List RV := [.t 2]
theorem code24 : (Tryd.f24.body).bind (cCode Tryd.prog) = some v24 := by kernel_rfl
theorem res24 : cRVs Tryd.prog (Tryd.f24.results.toList) = some rr24 := by kernel_rfl
theorem nt24 : Tryd.f24.ntmps = 7 := by kernel_rfl
theorem nm24 : (Tryd.f24.name == "runtime.NumGoroutine") = false := by kernel_rfl
def v25_0 : List VI := [.op (some 4) none (.p (.mov (.c .nils)))]
def v25_1 : List VI := [.op (some 5) none (.p (.mov (.c .nils)))]
def v25_2 : List VI := [.op (some 6) none (.p (.mov (.c (.int .i64 0))))]
def v25_3 : List VI := [.op (some 7) none (.p (.mov (.t 6))), .op (some 8) none (.p (.mov (.t 1))), .op (some 9) none (.p (.bin .lss (.t 7) (.t 8)))]
def v25_4 : List VI := [.op (some 12) none (.p (.mov (.t 6))), .op (some 13) none (.p (.mov (.t 0))), .op (some 14) none (.p (.len false (.t 13))), .op (some 15) none (.p (.bin .lss (.t 12) (.t 14)))]
def v25_5 : List VI := [.op (some 16) none (.p (.mov (.t 5))), .op (some 17) none (.p (.mov (.t 0))), .op (some 18) none (.p (.mov (.t 6))), .op (some 19) none (.p (.ixs 4 (.t 17) (.t 18))), .op (some 20) none (.ld true 4 (.t 19)), .op (some 21) none (.bsl 1 [.int .u64 (nl 0), .int .u64 (nl 0), .int .u64 (nl 0), .int .u64 (nl 0)] [(0, 4, .t 20)]), .op (some 22) none (.app 4 32 false (.t 16) (.t 21)), .op (some 5) none (.p (.mov (.t 22)))]
def v25_6 : List VI := [.op (some 23) none (.p (.mov (.t 5))), .op (some 24) none (.p (.mov (.t 6))), .op (some 25) none (.p (.bin .mul (.c (.int .i64 3)) (.t 24))), .op (some 26) none (.p (.bin .add (.t 25) (.c (.int .i64 2)))), .op (some 27) none (.p (.cvi .u64 (.t 26))), .call (some 28) none (.fn 44) [.t 27], .op (some 29) none (.bsl 1 [.int .u64 (nl 0), .int .u64 (nl 0), .int .u64 (nl 0), .int .u64 (nl 0)] [(0, 4, .t 28)]), .op (some 30) none (.app 4 32 false (.t 23) (.t 29)), .op (some 5) none (.p (.mov (.t 30)))]
def v25_7 : VC := .seq (.reg v25_4) (.cond (.t 15) (.reg v25_5) (.reg v25_6))
def v25_8 : List VI := [.op (some 10) none (.p (.mov (.t 6))), .op (some 11) none (.p (.bin .add (.t 10) (.c (.int .i64 1)))), .op (some 6) none (.p (.mov (.t 11)))]
def v25_9 : VC := .seq (.seq (.reg v25_3) (.cond (.t 9) .skip (.exit 0))) (.seq (.block 1 v25_7) (.reg v25_8))
def v25_10 : VC := .loop v25_9
def v25_11 : List VI := [.op (some 31) none (.p (.mov (.t 5))), .op (some 4) none (.p (.mov (.t 31)))]
def v25 : VC := .seq (.reg v25_0) (.seq (.reg v25_1) (.seq (.seq (.reg v25_2) (.block 0 v25_10)) (.seq (.reg v25_11) .ret)))
def rr25 : List RV := [.t 4]
theorem code25 : (Tryd.f25.body).bind (cCode Tryd.prog) = some v25 := by kernel_rfl
theorem res25 : cRVs Tryd.prog (Tryd.f25.results.toList) = some rr25 := by kernel_rfl
theorem nt25 : Tryd.f25.ntmps = 32 := by kernel_rfl
theorem nm25 : (Tryd.f25.name == "runtime.NumGoroutine") = false := by kernel_rfl
def v26_0 : List VI := [.op (some 2) none (.p (.mov (.c .nils)))]
def v26_1 : List VI := [.op (some 3) none (.p (.mov (.c .nils)))]
def v26_2 : List VI := [.op (some 4) none (.p (.mov (.c (.int .i64 0))))]
def v26_3 : List VI := [.op (some 5) none (.p (.mov (.t 4))), .op (some 6) none (.p (.mov (.t 0))), .op (some 7) none (.p (.len false (.t 6))), .op (some 8) none (.p (.bin .lss (.t 5) (.t 7)))]
def v26_4 : List VI := [.op (some 11) none (.p (.mov (.t 3))), .op (some 12) none (.p (.mov (.t 0))), .op (some 13) none (.p (.mov (.t 4))), .op (some 14) none (.p (.ixs 4 (.t 12) (.t 13))), .op (some 15) none (.ld true 4 (.t 14)), .op (some 16) none (.p (.bld [.int .u64 (nl 0), .int .u64 (nl 0), .int .u64 (nl 0), .int .u64 (nl 0)] [(0, 4, .t 15)])), .op (some 17) none (.bsl 1 [.int .u64 (nl 0), .int .u64 (nl 0), .int .u64 (nl 0), .int .u64 (nl 0)] [(0, 4, .t 16)]), .op (some 18) none (.app 4 32 false (.t 11) (.t 17)), .op (some 3) none (.p (.mov (.t 18)))]
def v26_5 : VC := .reg v26_4
def v26_6 : List VI := [.op (some 9) none (.p (.mov (.t 4))), .op (some 10) none (.p (.bin .add (.t 9) (.c (.int .i64 1)))), .op (some 4) none (.p (.mov (.t 10)))]
def v26_7 : VC := .seq (.seq (.reg v26_3) (.cond (.t 8) .skip (.exit 0))) (.seq (.block 1 v26_5) (.reg v26_6))
def v26_8 : VC := .loop v26_7
def v26_9 : List VI := [.op (some 19) none (.p (.mov (.t 3))), .op (some 2) none (.p (.mov (.t 19)))]
def v26 : VC := .seq (.reg v26_0) (.seq (.reg v26_1) (.seq (.seq (.reg v26_2) (.block 0 v26_8)) (.seq (.reg v26_9) .ret)))
def rr26 : List RV := [.t 2]
theorem code26 : (Tryd.f26.body).bind (cCode Tryd.prog) = some v26 := by kernel_rfl
theorem res26 : cRVs Tryd.prog (Tryd.f26.results.toList) = some rr26 := by kernel_rfl
theorem nt26 : Tryd.f26.ntmps = 20 := by kernel_rfl
theorem nm26 : (Tryd.f26.name == "runtime.NumGoroutine") = false := by kernel_rfl
def v27_0 : List VI := [.op (some 2) none (.p (.mov (.c .nils))), .op (some 3) none (.p (.mov (.c (.int .i64 0))))]
def v27_1 : List VI := [.op (some 13) none (.p (.mov (.t 0))), .op (some 14) none (.p (.len false (.t 13))), .op (some 15) none (.p (.bin .gtr (.t 14) (.c (.int .i64 10))))]
def v27_2 : List VI := [.op (some 2) none (.p (.mov (.c .nils))), .op (some 3) none (.p (.mov (.c (.int .i64 2))))]
def v27_3 : List VI := [.op (some 16) none (.p (.mov (.t 0))), .op (some 17) none (.p (.len false (.t 16))), .op (some 18) none (.p (.mov (.c (.int .i64 0))))]
def v27_4 : List VI := [.op (some 19) none (.p (.bin .lss (.t 18) (.t 17)))]
def v27_5 : List VI := [.op (some 20) none (.p (.ixs 4 (.t 16) (.t 18))), .op (some 21) none (.ld true 4 (.t 20)), .op (some 5) none (.new [.int .u64 (nl 0), .int .u64 (nl 0), .int .u64 (nl 0), .int .u64 (nl 0)]), .op none none (.st 4 (.t 5) (.t 21))]
def v27_6 : List VI := [.op (some 22) none (.ld true 4 (.t 5)), .call (some 23) none (.fn 24) [.t 22]]
def v27_7 : List VI := [.op (some 2) none (.p (.mov (.c .nils))), .op (some 3) none (.p (.mov (.c (.int .i64 4))))]
def v27_8 : VC := .seq (.reg v27_5) (.seq (.reg v27_6) (.cond (.t 23) (.seq (.reg v27_7) .ret) .skip))
def v27_9 : List VI := [.op (some 24) none (.p (.bin .add (.t 18) (.c (.int .i64 1)))), .op (some 18) none (.p (.mov (.t 24)))]
def v27_10 : VC := .seq (.reg v27_4) (.seq (.cond (.t 19) .skip (.exit 0)) (.seq (.block 1 v27_8) (.reg v27_9)))
def v27_11 : VC := .loop v27_10
def v27_12 : List VI := [.op (some 25) none (.p (.mov (.t 0))), .call (some 26) none (.fn 42) [.t 25], .op (some 6) none (.p (.mov (.t 26)))]
def v27_13 : List VI := [.call (some 27) none (.fn 44) [.c (.int .u64 (nl 1))], .op (some 28) none (.bsl 1 [.int .u64 (nl 0), .int .u64 (nl 0), .int .u64 (nl 0), .int .u64 (nl 0)] [(0, 4, .t 27)]), .op (some 7) none (.p (.mov (.t 28)))]
def v27_14 : List VI := [.op (some 29) none (.p (.mov (.t 0))), .op (some 30) none (.p (.len false (.t 29))), .op (some 31) none (.p (.mov (.c (.int .i64 0))))]
def v27_15 : List VI := [.op (some 32) none (.p (.bin .lss (.t 31) (.t 30)))]
def v27_16 : List VI := [.op (some 33) none (.p (.mov (.t 31))), .op (some 34) none (.p (.ixs 4 (.t 29) (.t 31))), .op (some 35) none (.ld true 4 (.t 34)), .op (some 9) none (.new [.int .u64 (nl 0), .int .u64 (nl 0), .int .u64 (nl 0), .int .u64 (nl 0)]), .op (some 8) none (.p (.mov (.t 33))), .op none none (.st 4 (.t 9) (.t 35))]
def v27_17 : List VI := [.op (some 36) none (.p (.mov (.t 7))), .op (some 37) none (.p (.len false (.t 36))), .op (some 38) none (.p (.bin .mul (.c (.int .i64 2)) (.t 37))), .op (some 39) none (.mks 4 32 [.int .u64 (nl 0), .int .u64 (nl 0), .int .u64 (nl 0), .int .u64 (nl 0)] (.c (.int .i64 0)) (.t 38)), .op (some 10) none (.p (.mov (.t 39)))]
def v27_18 : List VI := [.op (some 40) none (.p (.mov (.t 7))), .op (some 41) none (.p (.len false (.t 40))), .op (some 42) none (.p (.mov (.c (.int .i64 0))))]
def v27_19 : List VI := [.op (some 43) none (.p (.bin .lss (.t 42) (.t 41)))]
def v27_20 : List VI := [.op (some 44) none (.p (.ixs 4 (.t 40) (.t 42))), .op (some 45) none (.ld true 4 (.t 44)), .op (some 12) none (.new [.int .u64 (nl 0), .int .u64 (nl 0), .int .u64 (nl 0), .int .u64 (nl 0)]), .op none none (.st 4 (.t 12) (.t 45))]
def v27_21 : List DS := [.mk 0 true (.op (some 46) none (.p (.mov (.t 10)))) [] [], .mk 1 true (.op (some 47) none (.ld true 4 (.t 12))) [] [], .mk 2 true (.op (some 48) none (.p (.mov (.t 6)))) [] [], .mk 3 true (.op (some 49) none (.p (.mov (.t 8)))) [] [], .mk 4 true (.op (some 50) none (.p (.ixs 4 (.t 48) (.t 49)))) [] [], .mk 5 true (.op (some 51) none (.ld true 4 (.t 50))) [] [], .mk 7 true (.op (some 53) none (.ld true 4 (.t 12))) [] [], .mk 8 true (.op (some 54) none (.ld true 4 (.t 9))) [] [], .mk 6 false (.call (some 52) none (.fn 29) [.t 47, .t 51]) [12, 9] [], .mk 9 false (.call (some 55) none (.fn 29) [.t 53, .t 54]) [] [], .mk 10 true (.op (some 56) none (.bsl 2 [.int .u64 (nl 0), .int .u64 (nl 0), .int .u64 (nl 0), .int .u64 (nl 0), .int .u64 (nl 0), .int .u64 (nl 0), .int .u64 (nl 0), .int .u64 (nl 0)] [(0, 4, .t 52), (4, 4, .t 55)])) [] [], .mk 11 false (.op (some 57) none (.app 4 32 false (.t 46) (.t 56))) [] [], .mk 12 false (.op (some 10) none (.p (.mov (.t 57)))) [] []]
def v27_22 : VC := .seq (.reg v27_20) (.drw v27_21)
def v27_23 : List VI := [.op (some 58) none (.p (.bin .add (.t 42) (.c (.int .i64 1)))), .op (some 42) none (.p (.mov (.t 58)))]
def v27_24 : VC := .seq (.reg v27_19) (.seq (.cond (.t 43) .skip (.exit 4)) (.seq (.block 5 v27_22) (.reg v27_23)))
def v27_25 : VC := .loop v27_24
def v27_26 : List VI := [.op (some 59) none (.p (.mov (.t 10))), .op (some 7) none (.p (.mov (.t 59)))]
def v27_27 : VC := .seq (.reg v27_16) (.seq (.reg v27_17) (.seq (.seq (.reg v27_18) (.block 4 v27_25)) (.reg v27_26)))
def v27_28 : List VI := [.op (some 60) none (.p (.bin .add (.t 31) (.c (.int .i64 1)))), .op (some 31) none (.p (.mov (.t 60)))]
def v27_29 : VC := .seq (.reg v27_15) (.seq (.cond (.t 32) .skip (.exit 2)) (.seq (.block 3 v27_27) (.reg v27_28)))
def v27_30 : VC := .loop v27_29
def v27_31 : List VI := [.op (some 61) none (.p (.mov (.t 7))), .op (some 2) none (.p (.mov (.t 61))), .op (some 3) none (.p (.mov (.c (.int .i64 0))))]
def v27 : VC := .seq (.reg v27_0) (.seq (.seq (.reg v27_1) (.cond (.t 15) (.seq (.reg v27_2) .ret) .skip)) (.seq (.seq (.reg v27_3) (.block 0 v27_11)) (.seq (.reg v27_12) (.seq (.reg v27_13) (.seq (.seq (.reg v27_14) (.block 2 v27_30)) (.seq (.reg v27_31) .ret))))))
def rr27 : List RV := [.t 2, .t 3]
theorem code27 : (Tryd.f27.body).bind (cCode Tryd.prog) = some v27 := by kernel_rfl
theorem res27 : cRVs Tryd.prog (Tryd.f27.results.toList) = some rr27 := by kernel_rfl
theorem nt27 : Tryd.f27.ntmps = 62 := by kernel_rfl
theorem nm27 : (Tryd.f27.name == "runtime.NumGoroutine") = false := by kernel_rfl
def v28_0 : List VI := [.op (some 2) none (.box (.t 0)), .op (some 3) none (.box (.t 1)), .op (some 4) none (.new [.int .u64 (nl 0), .int .u64 (nl 0), .int .u64 (nl 0), .int .u64 (nl 0)])]
def v28_1 : List DS := [.mk 0 true (.op (some 8) none (.ld true 4 (.t 2))) [] [], .mk 2 true (.op (some 10) none (.ld true 4 (.t 3))) [] [], .mk 8 true (.op (some 5) none (.new [.int .u64 (nl 0), .int .u64 (nl 0), .int .u64 (nl 0), .int .u64 (nl 0)])) [] [], .mk 1 false (.call (some 9) none (.fn 64) [.t 8]) [3] [5], .mk 3 false (.call (some 11) none (.fn 64) [.t 10]) [] [5], .mk 4 false (.call (some 12) none (.fn 65) [.t 9, .t 11]) [] [5], .mk 5 true (.op (some 7) none (.p (.mov (.t 12)))) [] [], .mk 6 true (.op (some 13) none (.p (.ext (.t 7) 0))) [] [], .mk 7 true (.op (some 14) none (.p (.ext (.t 7) 1))) [] [], .mk 9 false (.op none none (.st 4 (.t 5) (.t 13))) [] [], .mk 10 false (.op (some 6) none (.p (.mov (.t 14)))) [] []]
def v28_2 : List VI := [.op (some 15) none (.ld true 4 (.t 5)), .call (some 16) none (.fn 66) [.t 15], .op none none (.st 4 (.t 4) (.t 16))]
def v28 : VC := .seq (.reg v28_0) (.seq (.drw v28_1) (.seq (.reg v28_2) .ret))
def rr28 : List RV := [.m 4 true 4]
theorem code28 : (Tryd.f28.body).bind (cCode Tryd.prog) = some v28 := by kernel_rfl
theorem res28 : cRVs Tryd.prog (Tryd.f28.results.toList) = some rr28 := by kernel_rfl
theorem nt28 : Tryd.f28.ntmps = 17 := by kernel_rfl
theorem nm28 : (Tryd.f28.name == "runtime.NumGoroutine") = false := by kernel_rfl
def v29_0 : List VI := [.op (some 2) none (.box (.t 0)), .op (some 3) none (.box (.t 1)), .op (some 4) none (.new [.int .u64 (nl 0), .int .u64 (nl 0), .int .u64 (nl 0), .int .u64 (nl 0)])]
def v29_1 : List DS := [.mk 0 true (.op (some 5) none (.ld true 4 (.t 2))) [] [], .mk 2 true (.op (some 7) none (.ld true 4 (.t 3))) [] [], .mk 5 true (.op (some 10) none (.p (.ixa 4 4 (.g 0) (.c (.int .i64 2))))) [] [], .mk 6 true (.op (some 11) none (.ld true 4 (.t 10))) [] [], .mk 1 false (.call (some 6) none (.fn 64) [.t 5]) [3, 10] [], .mk 3 false (.call (some 8) none (.fn 64) [.t 7]) [10] [], .mk 4 false (.call (some 9) none (.fn 67) [.t 6, .t 8]) [10] [], .mk 7 false (.call (some 12) none (.fn 67) [.t 9, .t 11]) [] [], .mk 8 false (.op none none (.st 4 (.t 4) (.t 12))) [] []]
def v29 : VC := .seq (.reg v29_0) (.seq (.drw v29_1) .ret)
def rr29 : List RV := [.m 4 true 4]
theorem code29 : (Tryd.f29.body).bind (cCode Tryd.prog) = some v29 := by kernel_rfl
theorem res29 : cRVs Tryd.prog (Tryd.f29.results.toList) = some rr29 := by kernel_rfl
theorem nt29 : Tryd.f29.ntmps = 13 := by kernel_rfl
theorem nm29 : (Tryd.f29.name == "runtime.NumGoroutine") = false := by kernel_rfl
def v30_0 : List VI := [.op (some 1) none (.box (.t 0)), .op (some 2) none (.new [.int .u64 (nl 0), .int .u64 (nl 0), .int .u64 (nl 0), .int .u64 (nl 0)])]
def v30_1 : List VI := [.op (some 3) none (.ld true 4 (.t 1)), .op (some 4) none (.p (.ixa 4 4 (.g 0) (.c (.int .i64 3)))), .op (some 5) none (.ld true 4 (.t 4)), .call (some 6) none (.fn 68) [.t 3, .t 5, .c (.int .i64 253)], .op none none (.st 4 (.t 2) (.t 6))]
def v30 : VC := .seq (.reg v30_0) (.seq (.reg v30_1) .ret)
def rr30 : List RV := [.m 2 true 4]
theorem code30 : (Tryd.f30.body).bind (cCode Tryd.prog) = some v30 := by kernel_rfl
theorem res30 : cRVs Tryd.prog (Tryd.f30.results.toList) = some rr30 := by kernel_rfl
theorem nt30 : Tryd.f30.ntmps = 7 := by kernel_rfl
theorem nm30 : (Tryd.f30.name == "runtime.NumGoroutine") = false := by kernel_rfl
def v31_0 : List VI := [.op (some 2) none (.box (.t 0)), .op (some 3) none (.box (.t 1)), .op (some 4) none (.p (.mov (.c (.bool false))))]
def v31_1 : List DS := [.mk 0 true (.op (some 5) none (.ld true 4 (.t 2))) [] [], .mk 2 true (.op (some 7) none (.ld true 4 (.t 3))) [] [], .mk 1 false (.call (some 6) none (.fn 64) [.t 5]) [3] [], .mk 3 false (.call (some 8) none (.fn 64) [.t 7]) [] [], .mk 4 true (.op (some 9) none (.p (.eqa false [.i, .i, .i, .i] (.t 6) (.t 8)))) [] [], .mk 5 false (.op (some 4) none (.p (.mov (.t 9)))) [] []]
def v31 : VC := .seq (.reg v31_0) (.seq (.drw v31_1) .ret)
def rr31 : List RV := [.t 4]
theorem code31 : (Tryd.f31.body).bind (cCode Tryd.prog) = some v31 := by kernel_rfl
theorem res31 : cRVs Tryd.prog (Tryd.f31.results.toList) = some rr31 := by kernel_rfl
theorem nt31 : Tryd.f31.ntmps = 10 := by kernel_rfl
theorem nm31 : (Tryd.f31.name == "runtime.NumGoroutine") = false := by kernel_rfl
def v41_0 : List VI := [.op (some 3) none (.box (.t 0)), .op (some 4) none (.box (.t 1)), .op (some 6) none (.p (.mov (.c (.int .i64 0))))]
def v41_1 : List VI := [.op (some 12) none (.p (.fda 8 (.t 3))), .op (some 13) none (.ld false 1 (.t 12)), .op (some 14) none (.p (.len false (.t 13))), .call (some 15) none (.fn 77) [.t 14], .op (some 11) none (.p (.mov (.t 15))), .op (some 16) none (.p (.ext (.t 11) 0)), .op (some 17) none (.p (.ext (.t 11) 1)), .op (some 7) none (.p (.mov (.t 16))), .op (some 8) none (.p (.mov (.t 17)))]
def v41_2 : List VI := [.op (some 18) none (.p (.mov (.t 8))), .op (some 19) none (.p (.un .not (.t 18))), .op (some 20) none (.p (.mov (.t 19))), .op (some 21) (some (20, false)) (.p (.fda 9 (.t 3))), .op (some 22) (some (20, false)) (.ld false 1 (.t 21)), .op (some 23) (some (20, false)) (.p (.len false (.t 22))), .op (some 24) (some (20, false)) (.p (.fda 8 (.t 3))), .op (some 25) (some (20, false)) (.ld false 1 (.t 24)), .op (some 26) (some (20, false)) (.p (.len false (.t 25))), .op (some 27) (some (20, false)) (.p (.eq true .i (.t 23) (.t 26))), .op (some 28) none (.p (.pick (.t 20) (.c (.bool true)) (.t 27))), .op (some 29) none (.p (.mov (.t 28))), .op (some 30) (some (29, false)) (.p (.fda 0 (.t 4))), .op (some 31) (some (29, false)) (.ld false 1 (.t 30)), .op (some 32) (some (29, false)) (.p (.len false (.t 31))), .op (some 33) (some (29, false)) (.p (.mov (.t 7))), .op (some 34) (some (29, false)) (.p (.eq true .i (.t 32) (.t 33))), .op (some 35) none (.p (.pick (.t 29) (.c (.bool true)) (.t 34))), .op (some 36) none (.p (.mov (.t 35))), .op (some 37) (some (36, false)) (.p (.fda 1 (.t 4))), .op (some 38) (some (36, false)) (.ld false 1 (.t 37)), .op (some 39) (some (36, false)) (.p (.len false (.t 38))), .op (some 40) (some (36, false)) (.p (.mov (.t 7))), .op (some 41) (some (36, false)) (.p (.eq true .i (.t 39) (.t 40))), .op (some 42) none (.p (.pick (.t 36) (.c (.bool true)) (.t 41))), .op (some 43) none (.p (.mov (.t 42))), .op (some 44) (some (43, false)) (.p (.mov (.t 2))), .op (some 45) (some (43, false)) (.p (.len false (.t 44))), .op (some 46) (some (43, false)) (.p (.mov (.t 7))), .op (some 47) (some (43, false)) (.p (.eq true .i (.t 45) (.t 46))), .op (some 48) none (.p (.pick (.t 43) (.c (.bool true)) (.t 47)))]
def v41_3 : List VI := [.op (some 6) none (.p (.mov (.c (.int .i64 2))))]
def v41_4 : List VI := [.op (some 49) none (.p (.mov (.t 2))), .op (some 50) none (.p (.len false (.t 49))), .op (some 51) none (.p (.mov (.c (.int .i64 0))))]
def v41_5 : List VI := [.op (some 52) none (.p (.bin .lss (.t 51) (.t 50)))]
def v41_6 : List VI := [.op (some 53) none (.p (.ixs 4 (.t 49) (.t 51))), .op (some 54) none (.ld true 4 (.t 53)), .op (some 10) none (.new [.int .u64 (nl 0), .int .u64 (nl 0), .int .u64 (nl 0), .int .u64 (nl 0)]), .op none none (.st 4 (.t 10) (.t 54))]
def v41_7 : List VI := [.op (some 55) none (.ld true 4 (.t 10)), .call (some 56) none (.fn 24) [.t 55]]
def v41_8 : List VI := [.op (some 6) none (.p (.mov (.c (.int .i64 4))))]
def v41_9 : VC := .seq (.reg v41_6) (.seq (.reg v41_7) (.cond (.t 56) (.seq (.reg v41_8) .ret) .skip))
def v41_10 : List VI := [.op (some 57) none (.p (.bin .add (.t 51) (.c (.int .i64 1)))), .op (some 51) none (.p (.mov (.t 57)))]
def v41_11 : VC := .seq (.reg v41_5) (.seq (.cond (.t 52) .skip (.exit 0)) (.seq (.block 1 v41_9) (.reg v41_10)))
def v41_12 : VC := .loop v41_11
def v41_13 : List VI := [.op (some 6) none (.p (.mov (.c (.int .i64 0))))]
def v41 : VC := .seq (.reg v41_0) (.seq (.reg v41_1) (.seq (.seq (.reg v41_2) (.cond (.t 48) (.seq (.reg v41_3) .ret) .skip)) (.seq (.seq (.reg v41_4) (.block 0 v41_12)) (.seq (.reg v41_13) .ret))))
def rr41 : List RV := [.t 6]
theorem code41 : (Tryd.f41.body).bind (cCode Tryd.prog) = some v41 := by kernel_rfl
theorem res41 : cRVs Tryd.prog (Tryd.f41.results.toList) = some rr41 := by kernel_rfl
theorem nt41 : Tryd.f41.ntmps = 58 := by kernel_rfl
theorem nm41 : (Tryd.f41.name == "runtime.NumGoroutine") = false := by kernel_rfl
def v42_0 : List VI := [.op (some 2) none (.p (.mov (.c .nils)))]
def v42_1 : List VI := [.op (some 10) none (.p (.mov (.t 0))), .op (some 11) none (.p (.len false (.t 10))), .op (some 12) none (.p (.eq false .i (.t 11) (.c (.int .i64 0))))]
def v42_2 : List VI := [.op (some 2) none (.p (.mov (.c .nils)))]
def v42_3 : List VI := [.op (some 13) none (.p (.mov (.t 0))), .op (some 14) none (.p (.len false (.t 13))), .op (some 15) none (.mks 4 32 [.int .u64 (nl 0), .int .u64 (nl 0), .int .u64 (nl 0), .int .u64 (nl 0)] (.t 14) (.t 14)), .op (some 3) none (.p (.mov (.t 15)))]
def v42_4 : List VI := [.op (some 16) none (.p (.mov (.t 0))), .op (some 17) none (.p (.ixs 4 (.t 16) (.c (.int .i64 0)))), .op (some 18) none (.ld true 4 (.t 17)), .op (some 19) none (.p (.mkI 27 (.t 18))), .call (some 20) none (.inv (.t 19) "One") [], .op (some 4) none (.new [.int .u64 (nl 0), .int .u64 (nl 0), .int .u64 (nl 0), .int .u64 (nl 0)]), .op none none (.st 4 (.t 4) (.t 20))]
def v42_5 : List VI := [.op (some 21) none (.p (.mov (.t 0))), .op (some 22) none (.p (.len false (.t 21))), .op (some 23) none (.p (.mov (.c (.int .i64 0))))]
def v42_6 : List VI := [.op (some 24) none (.p (.bin .lss (.t 23) (.t 22)))]
def v42_7 : List VI := [.op (some 25) none (.p (.mov (.t 23))), .op (some 26) none (.p (.ixs 4 (.t 21) (.t 23))), .op (some 27) none (.ld true 4 (.t 26)), .op (some 6) none (.new [.int .u64 (nl 0), .int .u64 (nl 0), .int .u64 (nl 0), .int .u64 (nl 0)]), .op (some 5) none (.p (.mov (.t 25))), .op none none (.st 4 (.t 6) (.t 27))]
def v42_8 : List VI := [.op (some 28) none (.p (.mov (.t 3))), .op (some 29) none (.p (.mov (.t 5))), .op (some 30) none (.ld true 4 (.t 4)), .op (some 31) none (.p (.ixs 4 (.t 28) (.t 29))), .op none none (.st 4 (.t 31) (.t 30))]
def v42_9 : List VI := [.op (some 32) none (.ld true 4 (.t 6)), .op (some 33) none (.p (.mkI 27 (.t 32))), .call (some 34) none (.inv (.t 33) "IsZero") [], .op (some 35) none (.p (.un .not (.t 34)))]
def v42_10 : List VI := [.op (some 36) none (.ld true 4 (.t 4)), .op (some 37) none (.p (.mkI 27 (.t 36))), .op (some 38) none (.ld true 4 (.t 6)), .call (some 39) none (.inv (.t 37) "Mul") [.t 38], .op none none (.st 4 (.t 4) (.t 39))]
def v42_11 : VC := .seq (.reg v42_7) (.seq (.reg v42_8) (.seq (.reg v42_9) (.cond (.t 35) (.reg v42_10) .skip)))
def v42_12 : List VI := [.op (some 40) none (.p (.bin .add (.t 23) (.c (.int .i64 1)))), .op (some 23) none (.p (.mov (.t 40)))]
def v42_13 : VC := .seq (.reg v42_6) (.seq (.cond (.t 24) .skip (.exit 0)) (.seq (.block 1 v42_11) (.reg v42_12)))
def v42_14 : VC := .loop v42_13
def v42_15 : List VI := [.op (some 41) none (.ld true 4 (.t 4)), .op (some 42) none (.p (.mkI 27 (.t 41))), .call (some 43) none (.inv (.t 42) "Invert") [], .op (some 7) none (.new [.int .u64 (nl 0), .int .u64 (nl 0), .int .u64 (nl 0), .int .u64 (nl 0)]), .op none none (.st 4 (.t 7) (.t 43))]
def v42_16 : List VI := [.op (some 44) none (.p (.mov (.t 0))), .op (some 45) none (.p (.len false (.t 44))), .op (some 46) none (.p (.bin .sub (.t 45) (.c (.int .i64 1)))), .op (some 8) none (.p (.mov (.t 46)))]
def v42_17 : List VI := [.op (some 47) none (.p (.mov (.t 8))), .op (some 48) none (.p (.bin .geq (.t 47) (.c (.int .i64 0))))]
def v42_18 : List VI := [.op (some 51) none (.p (.mov (.t 0))), .op (some 52) none (.p (.mov (.t 8))), .op (some 53) none (.p (.ixs 4 (.t 51) (.t 52))), .op (some 54) none (.ld true 4 (.t 53)), .op (some 55) none (.p (.mkI 27 (.t 54))), .call (some 56) none (.inv (.t 55) "IsZero") []]
def v42_19 : List VI := [.op (some 9) none (.new [.int .u64 (nl 0), .int .u64 (nl 0), .int .u64 (nl 0), .int .u64 (nl 0)])]
def v42_20 : List VI := [.op (some 57) none (.p (.mov (.t 3))), .op (some 58) none (.p (.mov (.t 8))), .op (some 59) none (.ld true 4 (.t 9)), .op (some 60) none (.p (.ixs 4 (.t 57) (.t 58))), .op none none (.st 4 (.t 60) (.t 59))]
def v42_21 : List DS := [.mk 0 true (.op (some 61) none (.p (.mov (.t 3)))) [] [], .mk 1 true (.op (some 62) none (.p (.mov (.t 8)))) [] [], .mk 2 true (.op (some 63) none (.p (.mov (.t 3)))) [] [], .mk 3 true (.op (some 64) none (.p (.mov (.t 8)))) [] [], .mk 4 true (.op (some 65) none (.p (.ixs 4 (.t 63) (.t 64)))) [] [], .mk 5 true (.op (some 66) none (.ld true 4 (.t 65))) [] [], .mk 6 true (.op (some 67) none (.p (.mkI 27 (.t 66)))) [] [], .mk 7 true (.op (some 68) none (.ld true 4 (.t 7))) [] [], .mk 8 false (.call (some 69) none (.inv (.t 67) "Mul") [.t 68]) [] [], .mk 9 true (.op (some 70) none (.p (.ixs 4 (.t 61) (.t 62)))) [] [], .mk 10 false (.op none none (.st 4 (.t 70) (.t 69))) [] []]
def v42_22 : List DS := [.mk 0 true (.op (some 71) none (.ld true 4 (.t 7))) [] [], .mk 1 true (.op (some 72) none (.p (.mkI 27 (.t 71)))) [] [], .mk 2 true (.op (some 73) none (.p (.mov (.t 0)))) [] [], .mk 3 true (.op (some 74) none (.p (.mov (.t 8)))) [] [], .mk 4 true (.op (some 75) none (.p (.ixs 4 (.t 73) (.t 74)))) [] [], .mk 5 true (.op (some 76) none (.ld true 4 (.t 75))) [] [], .mk 6 false (.call (some 77) none (.inv (.t 72) "Mul") [.t 76]) [] [], .mk 7 false (.op none none (.st 4 (.t 7) (.t 77))) [] []]
def v42_23 : VC := .seq (.seq (.reg v42_18) (.cond (.t 56) (.seq (.reg v42_19) (.seq (.reg v42_20) (.exit 3))) .skip)) (.seq (.drw v42_21) (.drw v42_22))
def v42_24 : List VI := [.op (some 49) none (.p (.mov (.t 8))), .op (some 50) none (.p (.bin .sub (.t 49) (.c (.int .i64 1)))), .op (some 8) none (.p (.mov (.t 50)))]
def v42_25 : VC := .seq (.seq (.reg v42_17) (.cond (.t 48) .skip (.exit 2))) (.seq (.block 3 v42_23) (.reg v42_24))
def v42_26 : VC := .loop v42_25
def v42_27 : List VI := [.op (some 78) none (.p (.mov (.t 3))), .op (some 2) none (.p (.mov (.t 78)))]
def v42 : VC := .seq (.reg v42_0) (.seq (.seq (.reg v42_1) (.cond (.t 12) (.seq (.reg v42_2) .ret) .skip)) (.seq (.reg v42_3) (.seq (.reg v42_4) (.seq (.seq (.reg v42_5) (.block 0 v42_14)) (.seq (.reg v42_15) (.seq (.seq (.reg v42_16) (.block 2 v42_26)) (.seq (.reg v42_27) .ret)))))))
def rr42 : List RV := [.t 2]
theorem code42 : (Tryd.f42.body).bind (cCode Tryd.prog) = some v42 := by kernel_rfl
theorem res42 : cRVs Tryd.prog (Tryd.f42.results.toList) = some rr42 := by kernel_rfl
theorem nt42 : Tryd.f42.ntmps = 79 := by kernel_rfl
theorem nm42 : (Tryd.f42.name == "runtime.NumGoroutine") = false := by kernel_rfl
def v44_0 : List VI := [.op (some 2) none (.new [.int .u64 (nl 0), .int .u64 (nl 0), .int .u64 (nl 0), .int .u64 (nl 0)])]
def v44_1 : List VI := [.op (some 3) none (.p (.mov (.t 0))), .op (some 4) none (.p (.bld [.int .u64 (nl 0), .int .u64 (nl 0), .int .u64 (nl 0), .int .u64 (nl 0)] [(0, 1, .t 3)])), .op none none (.st 4 (.t 2) (.t 4))]
def v44 : VC := .seq (.reg v44_0) (.seq (.reg v44_1) .ret)
def rr44 : List RV := [.m 2 true 4]
theorem code44 : (Tryd.f44.body).bind (cCode Tryd.prog) = some v44 := by kernel_rfl
theorem res44 : cRVs Tryd.prog (Tryd.f44.results.toList) = some rr44 := by kernel_rfl
theorem nt44 : Tryd.f44.ntmps = 5 := by kernel_rfl
theorem nm44 : (Tryd.f44.name == "runtime.NumGoroutine") = false := by kernel_rfl
def v60_0 : List VI := [.op (some 8) none (.ld true 10 (.t 1)), .op (some 9) none (.ld true 10 (.t 2)), .op (some 10) none (.ld false 1 (.t 3)), .call (some 11) none (.fn 41) [.t 8, .t 9, .t 10], .op (some 12) none (.p (.eq true .i (.t 11) (.c (.int .i64 0))))]
def v60_1 : List VI := [.op (some 13) none (.ld true 10 (.t 1)), .op (some 5) none (.new [.int .u64 (nl 0), .int .u64 (nl 0), .int .u64 (nl 0), .int .u64 (nl 0), .int .u64 (nl 0), .int .u64 (nl 0), .int .u64 (nl 0), .int .u64 (nl 0), .nils, .nils]), .op none none (.st 10 (.t 5) (.t 13))]
def v60_2 : List VI := [.op (some 6) none (.p (.mov (.c (.int .i64 0))))]
def v60_3 : List VI := [.op (some 16) none (.ld true 10 (.t 5)), .op (some 7) none (.new [.int .u64 (nl 0), .int .u64 (nl 0), .int .u64 (nl 0), .int .u64 (nl 0), .int .u64 (nl 0), .int .u64 (nl 0), .int .u64 (nl 0), .int .u64 (nl 0), .nils, .nils]), .op none none (.st 10 (.t 7) (.t 16))]
def v60_4 : List DS := [.mk 0 true (.op (some 17) none (.p (.fda 8 (.t 5)))) [] [], .mk 1 true (.op (some 18) none (.ld false 1 (.t 17))) [] [], .mk 3 true (.op (some 20) none (.p (.fda 9 (.t 5)))) [] [], .mk 4 true (.op (some 21) none (.ld false 1 (.t 20))) [] [], .mk 2 false (.op (some 19) none (.app 4 32 false (.c .nils) (.t 18))) [20] [], .mk 6 true (.op (some 23) none (.p (.fda 8 (.t 7)))) [] [], .mk 5 false (.op (some 22) none (.app 4 32 false (.c .nils) (.t 21))) [] [], .mk 7 false (.op none none (.st 1 (.t 23) (.t 19))) [] [], .mk 8 true (.op (some 24) none (.p (.fda 9 (.t 7)))) [] [], .mk 9 false (.op none none (.st 1 (.t 24) (.t 22))) [] []]
def v60_5 : List VI := [.op (some 25) none (.p (.mov (.t 0))), .op (some 26) none (.ld true 10 (.t 7)), .call (some 27) none (.val (.t 25)) [.t 26], .op (some 28) none (.p (.un .not (.t 27))), .op (some 29) none (.p (.mov (.t 28))), .op (some 30) (some (29, false)) (.p (.mov (.t 6))), .op (some 31) (some (29, false)) (.ld false 1 (.t 3)), .op (some 32) (some (29, false)) (.p (.len false (.t 31))), .op (some 33) (some (29, false)) (.p (.eq false .i (.t 30) (.t 32))), .op (some 34) none (.p (.pick (.t 29) (.c (.bool true)) (.t 33)))]
def v60_6 : List DS := [.mk 0 true (.op (some 35) none (.ld true 10 (.t 5))) [] [], .mk 1 true (.op (some 36) none (.p (.fda 0 (.t 2)))) [] [], .mk 2 true (.op (some 37) none (.ld false 1 (.t 36))) [] [], .mk 3 true (.op (some 38) none (.p (.mov (.t 6)))) [] [], .mk 4 true (.op (some 39) none (.p (.ixs 4 (.t 37) (.t 38)))) [] [], .mk 5 true (.op (some 40) none (.ld true 4 (.t 39))) [] [], .mk 6 true (.op (some 41) none (.p (.fda 1 (.t 2)))) [] [], .mk 7 true (.op (some 42) none (.ld false 1 (.t 41))) [] [], .mk 8 true (.op (some 43) none (.p (.mov (.t 6)))) [] [], .mk 9 true (.op (some 44) none (.p (.ixs 4 (.t 42) (.t 43)))) [] [], .mk 10 true (.op (some 45) none (.ld true 4 (.t 44))) [] [], .mk 11 true (.op (some 46) none (.ld false 1 (.t 3))) [] [], .mk 12 true (.op (some 47) none (.p (.mov (.t 6)))) [] [], .mk 13 true (.op (some 48) none (.p (.ixs 4 (.t 46) (.t 47)))) [] [], .mk 14 true (.op (some 49) none (.ld true 4 (.t 48))) [] [], .mk 15 false (.call (some 50) none (.fn 61) [.t 35, .t 40, .t 45, .t 49]) [] [], .mk 16 false (.op none none (.st 10 (.t 5) (.t 50))) [] []]
def v60_7 : VC := .seq (.reg v60_3) (.seq (.drw v60_4) (.seq (.seq (.reg v60_5) (.cond (.t 34) .ret .skip)) (.drw v60_6)))
def v60_8 : List VI := [.op (some 14) none (.p (.mov (.t 6))), .op (some 15) none (.p (.bin .add (.t 14) (.c (.int .i64 1)))), .op (some 6) none (.p (.mov (.t 15)))]
def v60_9 : VC := .seq (.block 1 v60_7) (.reg v60_8)
def v60_10 : VC := .loop v60_9
def v60 : VC := .seq (.seq (.reg v60_0) (.cond (.t 12) .ret .skip)) (.seq (.reg v60_1) (.seq (.reg v60_2) (.block 0 v60_10)))
def rr60 : List RV := []
theorem code60 : (Tryd.f60.body).bind (cCode Tryd.prog) = some v60 := by kernel_rfl
theorem res60 : cRVs Tryd.prog (Tryd.f60.results.toList) = some rr60 := by kernel_rfl
theorem nt60 : Tryd.f60.ntmps = 51 := by kernel_rfl
theorem nm60 : (Tryd.f60.name == "runtime.NumGoroutine") = false := by kernel_rfl
def v61_0 : List VI := [.op (some 4) none (.box (.t 0)), .op (some 5) none (.box (.t 1)), .op (some 6) none (.box (.t 2)), .op (some 7) none (.box (.t 3)), .op (some 8) none (.new [.int .u64 (nl 0), .int .u64 (nl 0), .int .u64 (nl 0), .int .u64 (nl 0), .int .u64 (nl 0), .int .u64 (nl 0), .int .u64 (nl 0), .int .u64 (nl 0), .nils, .nils])]
def v61_1 : List VI := [.op (some 10) none (.ld true 4 (.t 7)), .call (some 11) none (.fn 30) [.t 10], .op (some 9) none (.new [.int .u64 (nl 0), .int .u64 (nl 0), .int .u64 (nl 0), .int .u64 (nl 0)]), .op none none (.st 4 (.t 9) (.t 11))]
def v61_2 : List DS := [.mk 0 true (.op (some 12) none (.ld true 4 (.t 5))) [] [], .mk 1 true (.op (some 13) none (.p (.mkI 29 (.t 12)))) [] [], .mk 2 true (.op (some 14) none (.ld true 4 (.t 7))) [] [], .mk 3 true (.op (some 15) none (.ld true 4 (.t 7))) [] [], .mk 7 true (.op (some 19) none (.p (.fda 0 (.t 4)))) [] [], .mk 8 true (.op (some 20) none (.ld true 4 (.t 19))) [] [], .mk 11 true (.op (some 23) none (.ld true 4 (.t 6))) [] [], .mk 12 true (.op (some 24) none (.p (.mkI 29 (.t 23)))) [] [], .mk 13 true (.op (some 25) none (.ld true 4 (.t 9))) [] [], .mk 14 true (.op (some 26) none (.ld true 4 (.t 9))) [] [], .mk 18 true (.op (some 30) none (.p (.fda 4 (.t 4)))) [] [], .mk 19 true (.op (some 31) none (.ld true 4 (.t 30))) [] [], .mk 20 true (.op (some 32) none (.ld true 4 (.t 9))) [] [], .mk 21 true (.op (some 33) none (.p (.fda 8 (.t 4)))) [] [], .mk 22 true (.op (some 34) none (.ld false 1 (.t 33))) [] [], .mk 23 true (.op (some 35) none (.ld true 4 (.t 7))) [] [], .mk 25 true (.op (some 37) none (.ld true 4 (.t 7))) [] [], .mk 26 true (.op (some 38) none (.p (.fda 9 (.t 4)))) [] [], .mk 27 true (.op (some 39) none (.ld false 1 (.t 38))) [] [], .mk 28 true (.op (some 40) none (.ld true 4 (.t 9))) [] [], .mk 4 false (.call (some 16) none (.fn 29) [.t 14, .t 15]) [5, 19, 6, 9, 9, 30, 9, 33, 7, 7, 38, 9] [], .mk 5 false (.call (some 17) none (.inv (.t 13) "Times") [.t 16]) [19, 6, 9, 9, 30, 9, 33, 7, 7, 38, 9] [], .mk 6 true (.op (some 18) none (.p (.mkI 29 (.t 17)))) [] [], .mk 9 false (.call (some 21) none (.inv (.t 18) "Add") [.t 20]) [6, 9, 9, 30, 9, 33, 7, 7, 38, 9] [], .mk 10 true (.op (some 22) none (.p (.mkI 29 (.t 21)))) [] [], .mk 15 false (.call (some 27) none (.fn 29) [.t 25, .t 26]) [6, 30, 9, 33, 7, 7, 38, 9] [], .mk 16 false (.call (some 28) none (.inv (.t 24) "Times") [.t 27]) [30, 9, 33, 7, 7, 38, 9] [], .mk 17 false (.call (some 29) none (.inv (.t 22) "Add") [.t 28]) [30, 9, 33, 7, 7, 38, 9] [], .mk 24 false (.call (some 36) none (.fn 88) [.t 32, .t 34, .t 35]) [30, 7, 38, 9] [], .mk 29 false (.call (some 41) none (.fn 88) [.t 37, .t 39, .t 40]) [30] [], .mk 30 true (.op (some 42) none (.p (.bld [.int .u64 (nl 0), .int .u64 (nl 0), .int .u64 (nl 0), .int .u64 (nl 0), .int .u64 (nl 0), .int .u64 (nl 0), .int .u64 (nl 0), .int .u64 (nl 0), .nils, .nils] [(0, 4, .t 29), (4, 4, .t 31), (8, 1, .t 36), (9, 1, .t 41)]))) [] [], .mk 31 false (.op none none (.st 10 (.t 8) (.t 42))) [] []]
def v61 : VC := .seq (.reg v61_0) (.seq (.reg v61_1) (.seq (.drw v61_2) .ret))
def rr61 : List RV := [.m 8 true 10]
theorem code61 : (Tryd.f61.body).bind (cCode Tryd.prog) = some v61 := by kernel_rfl
theorem res61 : cRVs Tryd.prog (Tryd.f61.results.toList) = some rr61 := by kernel_rfl
theorem nt61 : Tryd.f61.ntmps = 43 := by kernel_rfl
theorem nm61 : (Tryd.f61.name == "runtime.NumGoroutine") = false := by kernel_rfl
def v64_0 : List VI := [.op (some 1) none (.box (.t 0)), .op (some 2) none (.new [.int .u64 (nl 0), .int .u64 (nl 0), .int .u64 (nl 0), .int .u64 (nl 0)])]
def v64_1 : List VI := [.op (some 14) none (.p (.ixa 4 1 (.t 1) (.c (.int .i64 3)))), .op (some 15) none (.ld false 1 (.t 14)), .op (some 16) none (.p (.bin .lss (.t 15) (.c (.int .u64 (nl 1152921504606846976)))))]
def v64_2 : List VI := [.op (some 17) none (.ld true 4 (.t 1)), .op none none (.st 4 (.t 2) (.t 17))]
def v64_3 : List VI := [.op (some 18) none (.p (.ixa 4 1 (.t 1) (.c (.int .i64 3)))), .op (some 19) none (.ld false 1 (.t 18)), .op (some 20) none (.p (.bin .shr (.t 19) (.c (.int .u64 (nl 60))))), .op (some 3) none (.p (.mov (.t 20)))]
def v64_4 : List VI := [.op (some 21) none (.p (.ixa 4 1 (.t 1) (.c (.int .i64 3)))), .op (some 22) none (.ld false 1 (.t 21)), .op (some 23) none (.p (.bin .and (.t 22) (.c (.int .u64 (nl 1152921504606846975))))), .op (some 24) none (.p (.ixa 4 1 (.t 1) (.c (.int .i64 3)))), .op none none (.st 1 (.t 24) (.t 23))]
def v64_5 : List VI := [.op (some 4) none (.new [.int .u64 (nl 0), .int .u64 (nl 0), .int .u64 (nl 0), .int .u64 (nl 0)])]
def v64_6 : List VI := [.op (some 26) none (.p (.mov (.t 3))), .op (some 27) none (.p (.ixa 4 4 (.g 0) (.c (.int .i64 0)))), .op (some 28) none (.p (.ixa 4 1 (.t 27) (.c (.int .i64 0)))), .op (some 29) none (.ld false 1 (.t 28)), .call (some 30) none (.fn 89) [.t 26, .t 29], .op (some 25) none (.p (.mov (.t 30))), .op (some 31) none (.p (.ext (.t 25) 0)), .op (some 32) none (.p (.ext (.t 25) 1)), .op (some 5) none (.p (.mov (.t 31))), .op (some 6) none (.p (.mov (.t 32)))]
def v64_7 : List VI := [.op (some 33) none (.p (.mov (.t 6))), .op (some 34) none (.p (.ixa 4 1 (.t 4) (.c (.int .i64 0)))), .op none none (.st 1 (.t 34) (.t 33))]
def v64_8 : List VI := [.op (some 36) none (.p (.mov (.t 3))), .op (some 37) none (.p (.ixa 4 4 (.g 0) (.c (.int .i64 0)))), .op (some 38) none (.p (.ixa 4 1 (.t 37) (.c (.int .i64 1)))), .op (some 39) none (.ld false 1 (.t 38)), .call (some 40) none (.fn 89) [.t 36, .t 39], .op (some 35) none (.p (.mov (.t 40))), .op (some 41) none (.p (.ext (.t 35) 0)), .op (some 42) none (.p (.ext (.t 35) 1)), .op (some 7) none (.p (.mov (.t 41))), .op (some 8) none (.p (.mov (.t 42)))]
def v64_9 : List VI := [.op (some 9) none (.p (.mov (.c (.int .u64 (nl 0)))))]
def v64_10 : List VI := [.op (some 44) none (.p (.mov (.t 8))), .op (some 45) none (.p (.mov (.t 5))), .call (some 46) none (.fn 90) [.t 44, .t 45, .c (.int .u64 (nl 0))], .op (some 43) none (.p (.mov (.t 46))), .op (some 47) none (.p (.ext (.t 43) 0)), .op (some 48) none (.p (.ext (.t 43) 1)), .op (some 49) none (.p (.ixa 4 1 (.t 4) (.c (.int .i64 1)))), .op none none (.st 1 (.t 49) (.t 47)), .op (some 9) none (.p (.mov (.t 48)))]
def v64_11 : List VI := [.op (some 50) none (.p (.mov (.t 7))), .op (some 51) none (.p (.mov (.t 9))), .op (some 52) none (.p (.bin .add (.t 50) (.t 51))), .op (some 53) none (.p (.ixa 4 1 (.t 4) (.c (.int .i64 2)))), .op none none (.st 1 (.t 53) (.t 52))]
def v64_12 : List VI := [.op (some 55) none (.ld true 4 (.t 1)), .op (some 56) none (.ld true 4 (.t 4)), .call (some 57) none (.fn 91) [.t 55, .t 56], .op (some 54) none (.p (.mov (.t 57))), .op (some 58) none (.p (.ext (.t 54) 0)), .op (some 59) none (.p (.ext (.t 54) 1)), .op (some 10) none (.new [.int .u64 (nl 0), .int .u64 (nl 0), .int .u64 (nl 0), .int .u64 (nl 0)]), .op none none (.st 4 (.t 10) (.t 58)), .op (some 11) none (.p (.mov (.t 59)))]
def v64_13 : List VI := [.op (some 61) none (.ld true 4 (.t 10)), .op (some 62) none (.p (.ixa 4 4 (.g 0) (.c (.int .i64 0)))), .op (some 63) none (.ld true 4 (.t 62)), .call (some 64) none (.fn 65) [.t 61, .t 63], .op (some 60) none (.p (.mov (.t 64))), .op (some 65) none (.p (.ext (.t 60) 0)), .op (some 66) none (.p (.ext (.t 60) 1)), .op (some 12) none (.new [.int .u64 (nl 0), .int .u64 (nl 0), .int .u64 (nl 0), .int .u64 (nl 0)]), .op none none (.st 4 (.t 12) (.t 65)), .op (some 13) none (.p (.mov (.t 66)))]
def v64_14 : List VI := [.op (some 67) none (.p (.mov (.t 11))), .op (some 68) none (.p (.un .neg (.t 67))), .op (some 69) none (.ld true 4 (.t 12)), .op (some 70) none (.ld true 4 (.t 10)), .call (some 71) none (.fn 92) [.t 68, .t 69, .t 70], .call (some 72) none (.fn 66) [.t 71], .op none none (.st 4 (.t 2) (.t 72))]
def v64 : VC := .seq (.reg v64_0) (.seq (.seq (.reg v64_1) (.cond (.t 16) (.seq (.reg v64_2) .ret) .skip)) (.seq (.reg v64_3) (.seq (.reg v64_4) (.seq (.reg v64_5) (.seq (.reg v64_6) (.seq (.reg v64_7) (.seq (.reg v64_8) (.seq (.reg v64_9) (.seq (.reg v64_10) (.seq (.reg v64_11) (.seq (.reg v64_12) (.seq (.reg v64_13) (.seq (.reg v64_14) .ret)))))))))))))
def rr64 : List RV := [.m 2 true 4]
theorem code64 : (Tryd.f64.body).bind (cCode Tryd.prog) = some v64 := by kernel_rfl
theorem res64 : cRVs Tryd.prog (Tryd.f64.results.toList) = some rr64 := by kernel_rfl
theorem nt64 : Tryd.f64.ntmps = 73 := by kernel_rfl
theorem nm64 : (Tryd.f64.name == "runtime.NumGoroutine") = false := by kernel_rfl
def v65_0 : List VI := [.op (some 2) none (.box (.t 0)), .op (some 3) none (.box (.t 1)), .op (some 4) none (.new [.int .u64 (nl 0), .int .u64 (nl 0), .int .u64 (nl 0), .int .u64 (nl 0)]), .op (some 5) none (.p (.mov (.c (.int .u64 (nl 0)))))]
def v65_1 : List VI := [.op (some 6) none (.new [.int .u64 (nl 0), .int .u64 (nl 0), .int .u64 (nl 0), .int .u64 (nl 0)])]
def v65_2 : List VI := [.op (some 7) none (.p (.mov (.c (.int .u64 (nl 0)))))]
def v65_3 : List VI := [.op (some 9) none (.p (.mov (.c (.int .i64 0))))]
def v65_4 : List VI := [.op (some 10) none (.p (.bin .lss (.t 9) (.c (.int .i64 4))))]
def v65_5 : List VI := [.op (some 11) none (.p (.mov (.t 9))), .op (some 8) none (.p (.mov (.t 11)))]
def v65_6 : List DS := [.mk 0 true (.op (some 13) none (.p (.mov (.t 8)))) [] [], .mk 1 true (.op (some 14) none (.p (.mov (.t 8)))) [] [], .mk 2 true (.op (some 15) none (.p (.ixa 4 1 (.t 2) (.t 14)))) [] [], .mk 3 true (.op (some 16) none (.ld false 1 (.t 15))) [] [], .mk 4 true (.op (some 17) none (.p (.mov (.t 8)))) [] [], .mk 5 true (.op (some 18) none (.p (.ixa 4 1 (.t 3) (.t 17)))) [] [], .mk 6 true (.op (some 19) none (.ld false 1 (.t 18))) [] [], .mk 7 true (.op (some 20) none (.p (.mov (.t 7)))) [] [], .mk 8 false (.call (some 21) none (.fn 90) [.t 16, .t 19, .t 20]) [] [], .mk 9 true (.op (some 12) none (.p (.mov (.t 21)))) [] [], .mk 10 true (.op (some 22) none (.p (.ext (.t 12) 0))) [] [], .mk 11 true (.op (some 23) none (.p (.ext (.t 12) 1))) [] [], .mk 12 true (.op (some 24) none (.p (.ixa 4 1 (.t 6) (.t 13)))) [] [], .mk 13 false (.op none none (.st 1 (.t 24) (.t 22))) [] [], .mk 14 false (.op (some 7) none (.p (.mov (.t 23)))) [] []]
def v65_7 : VC := .seq (.reg v65_5) (.drw v65_6)
def v65_8 : List VI := [.op (some 25) none (.p (.bin .add (.t 9) (.c (.int .i64 1)))), .op (some 9) none (.p (.mov (.t 25)))]
def v65_9 : VC := .seq (.reg v65_4) (.seq (.cond (.t 10) .skip (.exit 0)) (.seq (.block 1 v65_7) (.reg v65_8)))
def v65_10 : VC := .loop v65_9
def v65_11 : List VI := [.op (some 26) none (.ld true 4 (.t 6)), .op (some 27) none (.p (.mov (.t 7))), .op none none (.st 4 (.t 4) (.t 26)), .op (some 5) none (.p (.mov (.t 27)))]
def v65 : VC := .seq (.reg v65_0) (.seq (.reg v65_1) (.seq (.reg v65_2) (.seq (.seq (.reg v65_3) (.block 0 v65_10)) (.seq (.reg v65_11) .ret))))
def rr65 : List RV := [.m 4 true 4, .t 5]
theorem code65 : (Tryd.f65.body).bind (cCode Tryd.prog) = some v65 := by kernel_rfl
theorem res65 : cRVs Tryd.prog (Tryd.f65.results.toList) = some rr65 := by kernel_rfl
theorem nt65 : Tryd.f65.ntmps = 28 := by kernel_rfl
theorem nm65 : (Tryd.f65.name == "runtime.NumGoroutine") = false := by kernel_rfl
def v66_0 : List VI := [.op (some 1) none (.box (.t 0)), .op (some 2) none (.new [.int .u64 (nl 0), .int .u64 (nl 0), .int .u64 (nl 0), .int .u64 (nl 0)])]
def v66_1 : List VI := [.op (some 6) none (.ld true 4 (.t 1)), .op (some 7) none (.p (.ixa 4 4 (.g 0) (.c (.int .i64 0)))), .op (some 8) none (.ld true 4 (.t 7)), .call (some 9) none (.fn 91) [.t 6, .t 8], .op (some 5) none (.p (.mov (.t 9))), .op (some 10) none (.p (.ext (.t 5) 0)), .op (some 11) none (.p (.ext (.t 5) 1)), .op (some 3) none (.new [.int .u64 (nl 0), .int .u64 (nl 0), .int .u64 (nl 0), .int .u64 (nl 0)]), .op none none (.st 4 (.t 3) (.t 10)), .op (some 4) none (.p (.mov (.t 11)))]
def v66_2 : List VI := [.op (some 12) none (.p (.mov (.t 4))), .op (some 13) none (.p (.un .neg (.t 12))), .op (some 14) none (.ld true 4 (.t 1)), .op (some 15) none (.ld true 4 (.t 3)), .call (some 16) none (.fn 92) [.t 13, .t 14, .t 15], .op none none (.st 4 (.t 2) (.t 16))]
def v66 : VC := .seq (.reg v66_0) (.seq (.reg v66_1) (.seq (.reg v66_2) .ret))
def rr66 : List RV := [.m 2 true 4]
theorem code66 : (Tryd.f66.body).bind (cCode Tryd.prog) = some v66 := by kernel_rfl
theorem res66 : cRVs Tryd.prog (Tryd.f66.results.toList) = some rr66 := by kernel_rfl
theorem nt66 : Tryd.f66.ntmps = 17 := by kernel_rfl
theorem nm66 : (Tryd.f66.name == "runtime.NumGoroutine") = false := by kernel_rfl
def v67_0 : List VI := [.op (some 2) none (.box (.t 0)), .op (some 3) none (.box (.t 1)), .op (some 4) none (.new [.int .u64 (nl 0), .int .u64 (nl 0), .int .u64 (nl 0), .int .u64 (nl 0)])]
def v67_1 : List VI := [.op (some 5) none (.new [.int .u64 (nl 0), .int .u64 (nl 0), .int .u64 (nl 0), .int .u64 (nl 0), .int .u64 (nl 0)])]
def v67_2 : List VI := [.op (some 13) none (.p (.mov (.c (.int .i64 0))))]
def v67_3 : List VI := [.op (some 14) none (.p (.bin .lss (.t 13) (.c (.int .i64 4))))]
def v67_4 : List VI := [.op (some 15) none (.p (.mov (.t 13))), .op (some 6) none (.p (.mov (.t 15)))]
def v67_5 : List VI := [.op (some 7) none (.p (.mov (.c (.int .u64 (nl 0))))), .op (some 8) none (.p (.mov (.c (.int .u64 (nl 0)))))]
def v67_6 : List VI := [.op (some 16) none (.p (.mov (.c (.int .i64 0))))]
def v67_7 : List VI := [.op (some 17) none (.p (.bin .lss (.t 16) (.c (.int .i64 4))))]
def v67_8 : List VI := [.op (some 18) none (.p (.mov (.t 16))), .op (some 9) none (.p (.mov (.t 18)))]
def v67_9 : List DS := [.mk 0 true (.op (some 20) none (.p (.mov (.t 9)))) [] [], .mk 1 true (.op (some 21) none (.p (.mov (.t 9)))) [] [], .mk 2 true (.op (some 22) none (.p (.ixa 4 1 (.t 2) (.t 21)))) [] [], .mk 3 true (.op (some 23) none (.ld false 1 (.t 22))) [] [], .mk 4 true (.op (some 24) none (.p (.mov (.t 6)))) [] [], .mk 5 true (.op (some 25) none (.p (.ixa 4 1 (.t 3) (.t 24)))) [] [], .mk 6 true (.op (some 26) none (.ld false 1 (.t 25))) [] [], .mk 7 true (.op (some 27) none (.p (.mov (.t 9)))) [] [], .mk 8 true (.op (some 28) none (.p (.ixa 5 1 (.t 5) (.t 27)))) [] [], .mk 9 true (.op (some 29) none (.ld false 1 (.t 28))) [] [], .mk 10 true (.op (some 30) none (.p (.mov (.t 7)))) [] [], .mk 11 false (.call (some 31) none (.fn 93) [.t 23, .t 26, .t 29, .t 30]) [] [], .mk 12 true (.op (some 19) none (.p (.mov (.t 31)))) [] [], .mk 13 true (.op (some 32) none (.p (.ext (.t 19) 0))) [] [], .mk 14 true (.op (some 33) none (.p (.ext (.t 19) 1))) [] [], .mk 15 true (.op (some 34) none (.p (.ixa 5 1 (.t 5) (.t 20)))) [] [], .mk 16 false (.op none none (.st 1 (.t 34) (.t 32))) [] [], .mk 17 false (.op (some 7) none (.p (.mov (.t 33)))) [] []]
def v67_10 : VC := .seq (.reg v67_8) (.drw v67_9)
def v67_11 : List VI := [.op (some 35) none (.p (.bin .add (.t 16) (.c (.int .i64 1)))), .op (some 16) none (.p (.mov (.t 35)))]
def v67_12 : VC := .seq (.reg v67_7) (.seq (.cond (.t 17) .skip (.exit 2)) (.seq (.block 3 v67_10) (.reg v67_11)))
def v67_13 : VC := .loop v67_12
def v67_14 : List VI := [.op (some 37) none (.p (.ixa 5 1 (.t 5) (.c (.int .i64 4)))), .op (some 38) none (.ld false 1 (.t 37)), .op (some 39) none (.p (.mov (.t 7))), .call (some 40) none (.fn 90) [.t 38, .t 39, .c (.int .u64 (nl 0))], .op (some 36) none (.p (.mov (.t 40))), .op (some 41) none (.p (.ext (.t 36) 0)), .op (some 42) none (.p (.ext (.t 36) 1)), .op (some 43) none (.p (.ixa 5 1 (.t 5) (.c (.int .i64 4)))), .op none none (.st 1 (.t 43) (.t 41)), .op (some 8) none (.p (.mov (.t 42)))]
def v67_15 : List VI := [.op (some 44) none (.p (.mov (.t 8))), .op (some 10) none (.p (.mov (.t 44)))]
def v67_16 : List VI := [.op (some 45) none (.p (.ixa 5 1 (.t 5) (.c (.int .i64 0)))), .op (some 46) none (.ld false 1 (.t 45)), .op (some 47) none (.p (.bin .mul (.t 46) (.c (.int .u64 (nl 15183074304973897243))))), .op (some 11) none (.p (.mov (.t 47)))]
def v67_17 : List VI := [.op (some 49) none (.p (.mov (.t 11))), .op (some 50) none (.p (.ixa 4 4 (.g 0) (.c (.int .i64 0)))), .op (some 51) none (.p (.ixa 4 1 (.t 50) (.c (.int .i64 0)))), .op (some 52) none (.ld false 1 (.t 51)), .op (some 53) none (.p (.ixa 5 1 (.t 5) (.c (.int .i64 0)))), .op (some 54) none (.ld false 1 (.t 53)), .call (some 55) none (.fn 93) [.t 49, .t 52, .t 54, .c (.int .u64 (nl 0))], .op (some 48) none (.p (.mov (.t 55))), .op (some 56) none (.p (.ext (.t 48) 0)), .op (some 57) none (.p (.ext (.t 48) 1)), .op (some 7) none (.p (.mov (.t 57)))]
def v67_18 : List VI := [.op (some 12) none (.p (.mov (.c (.int .i64 1))))]
def v67_19 : List VI := [.op (some 58) none (.p (.mov (.t 12))), .op (some 59) none (.p (.bin .lss (.t 58) (.c (.int .i64 4))))]
def v67_20 : List DS := [.mk 0 true (.op (some 63) none (.p (.mov (.t 12)))) [] [], .mk 1 true (.op (some 64) none (.p (.bin .sub (.t 63) (.c (.int .i64 1))))) [] [], .mk 2 true (.op (some 65) none (.p (.mov (.t 11)))) [] [], .mk 3 true (.op (some 66) none (.p (.mov (.t 12)))) [] [], .mk 4 true (.op (some 67) none (.p (.ixa 4 4 (.g 0) (.c (.int .i64 0))))) [] [], .mk 5 true (.op (some 68) none (.p (.ixa 4 1 (.t 67) (.t 66)))) [] [], .mk 6 true (.op (some 69) none (.ld false 1 (.t 68))) [] [], .mk 7 true (.op (some 70) none (.p (.mov (.t 12)))) [] [], .mk 8 true (.op (some 71) none (.p (.ixa 5 1 (.t 5) (.t 70)))) [] [], .mk 9 true (.op (some 72) none (.ld false 1 (.t 71))) [] [], .mk 10 true (.op (some 73) none (.p (.mov (.t 7)))) [] [], .mk 11 false (.call (some 74) none (.fn 93) [.t 65, .t 69, .t 72, .t 73]) [] [], .mk 12 true (.op (some 62) none (.p (.mov (.t 74)))) [] [], .mk 13 true (.op (some 75) none (.p (.ext (.t 62) 0))) [] [], .mk 14 true (.op (some 76) none (.p (.ext (.t 62) 1))) [] [], .mk 15 true (.op (some 77) none (.p (.ixa 5 1 (.t 5) (.t 64)))) [] [], .mk 16 false (.op none none (.st 1 (.t 77) (.t 75))) [] [], .mk 17 false (.op (some 7) none (.p (.mov (.t 76)))) [] []]
def v67_21 : VC := .drw v67_20
def v67_22 : List VI := [.op (some 60) none (.p (.mov (.t 12))), .op (some 61) none (.p (.bin .add (.t 60) (.c (.int .i64 1)))), .op (some 12) none (.p (.mov (.t 61)))]
def v67_23 : VC := .seq (.seq (.reg v67_19) (.cond (.t 59) .skip (.exit 4))) (.seq (.block 5 v67_21) (.reg v67_22))
def v67_24 : VC := .loop v67_23
def v67_25 : List VI := [.op (some 79) none (.p (.ixa 5 1 (.t 5) (.c (.int .i64 4)))), .op (some 80) none (.ld false 1 (.t 79)), .op (some 81) none (.p (.mov (.t 7))), .call (some 82) none (.fn 90) [.t 80, .t 81, .c (.int .u64 (nl 0))], .op (some 78) none (.p (.mov (.t 82))), .op (some 83) none (.p (.ext (.t 78) 0)), .op (some 84) none (.p (.ext (.t 78) 1)), .op (some 85) none (.p (.ixa 5 1 (.t 5) (.c (.int .i64 3)))), .op none none (.st 1 (.t 85) (.t 83)), .op (some 8) none (.p (.mov (.t 84)))]
def v67_26 : List VI := [.op (some 86) none (.p (.mov (.t 10))), .op (some 87) none (.p (.mov (.t 8))), .op (some 88) none (.p (.bin .add (.t 86) (.t 87))), .op (some 89) none (.p (.ixa 5 1 (.t 5) (.c (.int .i64 4)))), .op none none (.st 1 (.t 89) (.t 88))]
def v67_27 : VC := .seq (.reg v67_4) (.seq (.reg v67_5) (.seq (.seq (.reg v67_6) (.block 2 v67_13)) (.seq (.reg v67_14) (.seq (.reg v67_15) (.seq (.reg v67_16) (.seq (.reg v67_17) (.seq (.seq (.reg v67_18) (.block 4 v67_24)) (.seq (.reg v67_25) (.reg v67_26)))))))))
def v67_28 : List VI := [.op (some 90) none (.p (.bin .add (.t 13) (.c (.int .i64 1)))), .op (some 13) none (.p (.mov (.t 90)))]
def v67_29 : VC := .seq (.reg v67_3) (.seq (.cond (.t 14) .skip (.exit 0)) (.seq (.block 1 v67_27) (.reg v67_28)))
def v67_30 : VC := .loop v67_29
def v67_31 : List VI := [.op (some 91) none (.p (.ixa 5 1 (.t 5) (.c (.int .i64 0)))), .op (some 92) none (.ld false 1 (.t 91)), .op (some 93) none (.p (.ixa 5 1 (.t 5) (.c (.int .i64 1)))), .op (some 94) none (.ld false 1 (.t 93)), .op (some 95) none (.p (.ixa 5 1 (.t 5) (.c (.int .i64 2)))), .op (some 96) none (.ld false 1 (.t 95)), .op (some 97) none (.p (.ixa 5 1 (.t 5) (.c (.int .i64 3)))), .op (some 98) none (.ld false 1 (.t 97)), .op (some 99) none (.p (.bld [.int .u64 (nl 0), .int .u64 (nl 0), .int .u64 (nl 0), .int .u64 (nl 0)] [(0, 1, .t 92), (1, 1, .t 94), (2, 1, .t 96), (3, 1, .t 98)])), .call (some 100) none (.fn 66) [.t 99], .op none none (.st 4 (.t 4) (.t 100))]
def v67 : VC := .seq (.reg v67_0) (.seq (.reg v67_1) (.seq (.seq (.reg v67_2) (.block 0 v67_30)) (.seq (.reg v67_31) .ret)))
def rr67 : List RV := [.m 4 true 4]
theorem code67 : (Tryd.f67.body).bind (cCode Tryd.prog) = some v67 := by kernel_rfl
theorem res67 : cRVs Tryd.prog (Tryd.f67.results.toList) = some rr67 := by kernel_rfl
theorem nt67 : Tryd.f67.ntmps = 101 := by kernel_rfl
theorem nm67 : (Tryd.f67.name == "runtime.NumGoroutine") = false := by kernel_rfl
def v68_0 : List VI := [.op (some 3) none (.box (.t 0)), .op (some 4) none (.box (.t 1)), .op (some 6) none (.new [.int .u64 (nl 0), .int .u64 (nl 0), .int .u64 (nl 0), .int .u64 (nl 0)])]
def v68_1 : List DS := [.mk 0 true (.op (some 11) none (.ld true 4 (.t 3))) [] [], .mk 2 true (.op (some 13) none (.p (.ixa 4 4 (.g 0) (.c (.int .i64 2))))) [] [], .mk 3 true (.op (some 14) none (.ld true 4 (.t 13))) [] [], .mk 5 true (.op (some 7) none (.new [.int .u64 (nl 0), .int .u64 (nl 0), .int .u64 (nl 0), .int .u64 (nl 0)])) [] [], .mk 1 false (.call (some 12) none (.fn 64) [.t 11]) [13] [7], .mk 4 false (.call (some 15) none (.fn 67) [.t 12, .t 14]) [] [7], .mk 6 false (.op none none (.st 4 (.t 7) (.t 15))) [] []]
def v68_2 : List VI := [.op (some 16) none (.p (.ixa 4 4 (.g 0) (.c (.int .i64 1)))), .op (some 17) none (.ld true 4 (.t 16)), .op (some 8) none (.new [.int .u64 (nl 0), .int .u64 (nl 0), .int .u64 (nl 0), .int .u64 (nl 0)]), .op none none (.st 4 (.t 8) (.t 17))]
def v68_3 : List VI := [.op (some 9) none (.p (.mov (.c (.bool false))))]
def v68_4 : List VI := [.op (some 18) none (.p (.mov (.t 2))), .op (some 19) none (.p (.bin .sub (.t 18) (.c (.int .i64 1)))), .op (some 10) none (.p (.mov (.t 19)))]
def v68_5 : List VI := [.op (some 20) none (.p (.mov (.t 10))), .op (some 21) none (.p (.bin .geq (.t 20) (.c (.int .i64 0))))]
def v68_6 : List VI := [.op (some 24) none (.p (.mov (.t 9)))]
def v68_7 : List VI := [.op (some 25) none (.ld true 4 (.t 8)), .op (some 26) none (.ld true 4 (.t 8)), .call (some 27) none (.fn 67) [.t 25, .t 26], .op none none (.st 4 (.t 8) (.t 27))]
def v68_8 : List VI := [.op (some 28) none (.p (.mov (.t 10))), .op (some 29) none (.p (.bin .quo (.t 28) (.c (.int .i64 64)))), .op (some 30) none (.p (.ixa 4 1 (.t 4) (.t 29))), .op (some 31) none (.ld false 1 (.t 30)), .op (some 32) none (.p (.mov (.t 10))), .op (some 33) none (.p (.bin .rem (.t 32) (.c (.int .i64 64)))), .op (some 34) none (.p (.bin .shr (.t 31) (.t 33))), .op (some 35) none (.p (.bin .and (.t 34) (.c (.int .u64 (nl 1))))), .op (some 36) none (.p (.eq false .i (.t 35) (.c (.int .u64 (nl 1)))))]
def v68_9 : List VI := [.op (some 37) none (.ld true 4 (.t 8)), .op (some 38) none (.ld true 4 (.t 7)), .call (some 39) none (.fn 67) [.t 37, .t 38], .op none none (.st 4 (.t 8) (.t 39))]
def v68_10 : List VI := [.op (some 9) none (.p (.mov (.c (.bool true))))]
def v68_11 : VC := .seq (.seq (.reg v68_6) (.cond (.t 24) (.reg v68_7) .skip)) (.seq (.reg v68_8) (.cond (.t 36) (.seq (.reg v68_9) (.reg v68_10)) .skip))
def v68_12 : List VI := [.op (some 22) none (.p (.mov (.t 10))), .op (some 23) none (.p (.bin .sub (.t 22) (.c (.int .i64 1)))), .op (some 10) none (.p (.mov (.t 23)))]
def v68_13 : VC := .seq (.seq (.reg v68_5) (.cond (.t 21) .skip (.exit 0))) (.seq (.block 1 v68_11) (.reg v68_12))
def v68_14 : VC := .loop v68_13
def v68_15 : List VI := [.op (some 40) none (.ld true 4 (.t 8)), .op (some 41) none (.p (.bld [.int .u64 (nl 0), .int .u64 (nl 0), .int .u64 (nl 0), .int .u64 (nl 0)] [(0, 1, .c (.int .u64 (nl 1)))])), .call (some 42) none (.fn 67) [.t 40, .t 41], .op none none (.st 4 (.t 6) (.t 42))]
def v68 : VC := .seq (.reg v68_0) (.seq (.drw v68_1) (.seq (.reg v68_2) (.seq (.reg v68_3) (.seq (.seq (.reg v68_4) (.block 0 v68_14)) (.seq (.reg v68_15) .ret)))))
def rr68 : List RV := [.m 6 true 4]
theorem code68 : (Tryd.f68.body).bind (cCode Tryd.prog) = some v68 := by kernel_rfl
theorem res68 : cRVs Tryd.prog (Tryd.f68.results.toList) = some rr68 := by kernel_rfl
theorem nt68 : Tryd.f68.ntmps = 43 := by kernel_rfl
theorem nm68 : (Tryd.f68.name == "runtime.NumGoroutine") = false := by kernel_rfl
def v77_0 : List VI := [.op (some 2) none (.p (.mov (.c (.int .i64 0)))), .op (some 3) none (.p (.mov (.c (.bool false))))]
def v77_1 : List VI := [.op (some 5) none (.p (.mov (.t 0))), .op (some 6) none (.p (.bin .lss (.t 5) (.c (.int .i64 1)))), .op (some 7) none (.p (.mov (.t 6))), .op (some 8) (some (7, false)) (.p (.mov (.t 0))), .op (some 9) (some (7, false)) (.p (.bin .gtr (.t 8) (.c (.int .i64 1024)))), .op (some 10) none (.p (.pick (.t 7) (.c (.bool true)) (.t 9))), .op (some 11) none (.p (.mov (.t 10))), .op (some 12) (some (11, false)) (.p (.mov (.t 0))), .op (some 13) (some (11, false)) (.p (.mov (.t 0))), .op (some 14) (some (11, false)) (.p (.bin .sub (.t 13) (.c (.int .i64 1)))), .op (some 15) (some (11, false)) (.p (.bin .and (.t 12) (.t 14))), .op (some 16) (some (11, false)) (.p (.eq true .i (.t 15) (.c (.int .i64 0)))), .op (some 17) none (.p (.pick (.t 11) (.c (.bool true)) (.t 16)))]
def v77_2 : List VI := [.op (some 2) none (.p (.mov (.c (.int .i64 0)))), .op (some 3) none (.p (.mov (.c (.bool false))))]
def v77_3 : List VI := [.op (some 4) none (.p (.mov (.c (.int .i64 0))))]
def v77_4 : List VI := [.op (some 18) none (.p (.mov (.t 4))), .op (some 19) none (.p (.bin .shl (.c (.int .i64 1)) (.t 18))), .op (some 20) none (.p (.mov (.t 0))), .op (some 21) none (.p (.bin .lss (.t 19) (.t 20)))]
def v77_5 : List VI := [.op (some 22) none (.p (.mov (.t 4))), .op (some 23) none (.p (.bin .add (.t 22) (.c (.int .i64 1)))), .op (some 4) none (.p (.mov (.t 23)))]
def v77_6 : VC := .reg v77_5
def v77_7 : VC := .seq (.seq (.reg v77_4) (.cond (.t 21) .skip (.exit 0))) (.block 1 v77_6)
def v77_8 : VC := .loop v77_7
def v77_9 : List VI := [.op (some 24) none (.p (.mov (.t 4))), .op (some 2) none (.p (.mov (.t 24))), .op (some 3) none (.p (.mov (.c (.bool true))))]
def v77 : VC := .seq (.reg v77_0) (.seq (.seq (.reg v77_1) (.cond (.t 17) (.seq (.reg v77_2) .ret) .skip)) (.seq (.reg v77_3) (.seq (.block 0 v77_8) (.seq (.reg v77_9) .ret))))
def rr77 : List RV := [.t 2, .t 3]
theorem code77 : (Tryd.f77.body).bind (cCode Tryd.prog) = some v77 := by kernel_rfl
theorem res77 : cRVs Tryd.prog (Tryd.f77.results.toList) = some rr77 := by kernel_rfl
theorem nt77 : Tryd.f77.ntmps = 25 := by kernel_rfl
theorem nm77 : (Tryd.f77.name == "runtime.NumGoroutine") = false := by kernel_rfl
def v88_0 : List VI := [.op (some 3) none (.box (.t 0)), .op (some 5) none (.box (.t 2)), .op (some 6) none (.p (.mov (.c .nils)))]
def v88_1 : List VI := [.op (some 13) none (.p (.mov (.t 1))), .call (some 14) none (.fn 109) [.t 13], .op (some 12) none (.p (.mov (.t 14))), .op (some 15) none (.p (.ext (.t 12) 0)), .op (some 16) none (.p (.ext (.t 12) 1)), .op (some 7) none (.p (.mov (.t 15))), .op (some 8) none (.p (.mov (.t 16)))]
def v88_2 : List VI := [.op (some 17) none (.p (.mov (.t 7))), .op (some 18) none (.p (.len false (.t 17))), .op (some 19) none (.mks 4 32 [.int .u64 (nl 0), .int .u64 (nl 0), .int .u64 (nl 0), .int .u64 (nl 0)] (.t 18) (.t 18)), .op (some 9) none (.p (.mov (.t 19)))]
def v88_3 : List VI := [.op (some 20) none (.p (.mov (.t 7))), .op (some 21) none (.p (.len false (.t 20))), .op (some 22) none (.p (.mov (.c (.int .i64 0))))]
def v88_4 : List VI := [.op (some 23) none (.p (.bin .lss (.t 22) (.t 21)))]
def v88_5 : List VI := [.op (some 24) none (.p (.mov (.t 22))), .op (some 25) none (.p (.ixs 4 (.t 20) (.t 22))), .op (some 26) none (.ld true 4 (.t 25)), .op (some 11) none (.new [.int .u64 (nl 0), .int .u64 (nl 0), .int .u64 (nl 0), .int .u64 (nl 0)]), .op (some 10) none (.p (.mov (.t 24))), .op none none (.st 4 (.t 11) (.t 26))]
def v88_6 : List DS := [.mk 0 true (.op (some 27) none (.p (.mov (.t 9)))) [] [], .mk 1 true (.op (some 28) none (.p (.mov (.t 10)))) [] [], .mk 2 true (.op (some 29) none (.ld true 4 (.t 11))) [] [], .mk 3 true (.op (some 30) none (.p (.mkI 29 (.t 29)))) [] [], .mk 4 true (.op (some 31) none (.ld true 4 (.t 3))) [] [], .mk 7 true (.op (some 34) none (.p (.mov (.t 8)))) [] [], .mk 8 true (.op (some 35) none (.p (.mov (.t 10)))) [] [], .mk 9 true (.op (some 36) none (.p (.ixs 4 (.t 34) (.t 35)))) [] [], .mk 10 true (.op (some 37) none (.ld true 4 (.t 36))) [] [], .mk 11 true (.op (some 38) none (.p (.mkI 29 (.t 37)))) [] [], .mk 12 true (.op (some 39) none (.ld true 4 (.t 5))) [] [], .mk 5 false (.call (some 32) none (.inv (.t 30) "Times") [.t 31]) [36, 5] [], .mk 6 true (.op (some 33) none (.p (.mkI 29 (.t 32)))) [] [], .mk 13 false (.call (some 40) none (.inv (.t 38) "Times") [.t 39]) [] [], .mk 14 false (.call (some 41) none (.inv (.t 33) "Add") [.t 40]) [] [], .mk 15 true (.op (some 42) none (.p (.ixs 4 (.t 27) (.t 28)))) [] [], .mk 16 false (.op none none (.st 4 (.t 42) (.t 41))) [] []]
def v88_7 : VC := .seq (.reg v88_5) (.drw v88_6)
def v88_8 : List VI := [.op (some 43) none (.p (.bin .add (.t 22) (.c (.int .i64 1)))), .op (some 22) none (.p (.mov (.t 43)))]
def v88_9 : VC := .seq (.reg v88_4) (.seq (.cond (.t 23) .skip (.exit 0)) (.seq (.block 1 v88_7) (.reg v88_8)))
def v88_10 : VC := .loop v88_9
def v88_11 : List VI := [.op (some 44) none (.p (.mov (.t 9))), .op (some 6) none (.p (.mov (.t 44)))]
def v88 : VC := .seq (.reg v88_0) (.seq (.reg v88_1) (.seq (.reg v88_2) (.seq (.seq (.reg v88_3) (.block 0 v88_10)) (.seq (.reg v88_11) .ret))))
def rr88 : List RV := [.t 6]
theorem code88 : (Tryd.f88.body).bind (cCode Tryd.prog) = some v88 := by kernel_rfl
theorem res88 : cRVs Tryd.prog (Tryd.f88.results.toList) = some rr88 := by kernel_rfl
theorem nt88 : Tryd.f88.ntmps = 45 := by kernel_rfl
theorem nm88 : (Tryd.f88.name == "runtime.NumGoroutine") = false := by kernel_rfl
def v89_0 : List VI := [.op (some 4) none (.p (.mov (.c (.int .u64 (nl 0))))), .op (some 5) none (.p (.mov (.c (.int .u64 (nl 0)))))]
def v89_1 : List VI := [.op (some 14) none (.p (.mov (.t 0))), .op (some 15) none (.p (.bin .and (.t 14) (.c (.int .u64 (nl 4294967295))))), .op (some 6) none (.p (.mov (.t 15)))]
def v89_2 : List VI := [.op (some 16) none (.p (.mov (.t 0))), .op (some 17) none (.p (.bin .shr (.t 16) (.c (.int .u64 (nl 32))))), .op (some 7) none (.p (.mov (.t 17)))]
def v89_3 : List VI := [.op (some 18) none (.p (.mov (.t 1))), .op (some 19) none (.p (.bin .and (.t 18) (.c (.int .u64 (nl 4294967295))))), .op (some 8) none (.p (.mov (.t 19)))]
def v89_4 : List VI := [.op (some 20) none (.p (.mov (.t 1))), .op (some 21) none (.p (.bin .shr (.t 20) (.c (.int .u64 (nl 32))))), .op (some 9) none (.p (.mov (.t 21)))]
def v89_5 : List VI := [.op (some 22) none (.p (.mov (.t 6))), .op (some 23) none (.p (.mov (.t 8))), .op (some 24) none (.p (.bin .mul (.t 22) (.t 23))), .op (some 10) none (.p (.mov (.t 24)))]
def v89_6 : List VI := [.op (some 25) none (.p (.mov (.t 7))), .op (some 26) none (.p (.mov (.t 8))), .op (some 27) none (.p (.bin .mul (.t 25) (.t 26))), .op (some 28) none (.p (.mov (.t 10))), .op (some 29) none (.p (.bin .shr (.t 28) (.c (.int .u64 (nl 32))))), .op (some 30) none (.p (.bin .add (.t 27) (.t 29))), .op (some 11) none (.p (.mov (.t 30)))]
def v89_7 : List VI := [.op (some 31) none (.p (.mov (.t 11))), .op (some 32) none (.p (.bin .and (.t 31) (.c (.int .u64 (nl 4294967295))))), .op (some 12) none (.p (.mov (.t 32)))]
def v89_8 : List VI := [.op (some 33) none (.p (.mov (.t 11))), .op (some 34) none (.p (.bin .shr (.t 33) (.c (.int .u64 (nl 32))))), .op (some 13) none (.p (.mov (.t 34)))]
def v89_9 : List VI := [.op (some 35) none (.p (.mov (.t 12))), .op (some 36) none (.p (.mov (.t 6))), .op (some 37) none (.p (.mov (.t 9))), .op (some 38) none (.p (.bin .mul (.t 36) (.t 37))), .op (some 39) none (.p (.bin .add (.t 35) (.t 38))), .op (some 12) none (.p (.mov (.t 39)))]
def v89_10 : List VI := [.op (some 40) none (.p (.mov (.t 7))), .op (some 41) none (.p (.mov (.t 9))), .op (some 42) none (.p (.bin .mul (.t 40) (.t 41))), .op (some 43) none (.p (.mov (.t 13))), .op (some 44) none (.p (.bin .add (.t 42) (.t 43))), .op (some 45) none (.p (.mov (.t 12))), .op (some 46) none (.p (.bin .shr (.t 45) (.c (.int .u64 (nl 32))))), .op (some 47) none (.p (.bin .add (.t 44) (.t 46))), .op (some 4) none (.p (.mov (.t 47)))]
def v89_11 : List VI := [.op (some 48) none (.p (.mov (.t 0))), .op (some 49) none (.p (.mov (.t 1))), .op (some 50) none (.p (.bin .mul (.t 48) (.t 49))), .op (some 5) none (.p (.mov (.t 50)))]
def v89 : VC := .seq (.reg v89_0) (.seq (.reg v89_1) (.seq (.reg v89_2) (.seq (.reg v89_3) (.seq (.reg v89_4) (.seq (.reg v89_5) (.seq (.reg v89_6) (.seq (.reg v89_7) (.seq (.reg v89_8) (.seq (.reg v89_9) (.seq (.reg v89_10) (.seq (.reg v89_11) .ret)))))))))))
def rr89 : List RV := [.t 4, .t 5]
theorem code89 : (Tryd.f89.body).bind (cCode Tryd.prog) = some v89 := by kernel_rfl
theorem res89 : cRVs Tryd.prog (Tryd.f89.results.toList) = some rr89 := by kernel_rfl
theorem nt89 : Tryd.f89.ntmps = 51 := by kernel_rfl
theorem nm89 : (Tryd.f89.name == "runtime.NumGoroutine") = false := by kernel_rfl
def v91_0 : List VI := [.op (some 2) none (.box (.t 0)), .op (some 3) none (.box (.t 1)), .op (some 4) none (.new [.int .u64 (nl 0), .int .u64 (nl 0), .int .u64 (nl 0), .int .u64 (nl 0)]), .op (some 5) none (.p (.mov (.c (.int .u64 (nl 0)))))]
def v91_1 : List VI := [.op (some 6) none (.new [.int .u64 (nl 0), .int .u64 (nl 0), .int .u64 (nl 0), .int .u64 (nl 0)])]
def v91_2 : List VI := [.op (some 7) none (.p (.mov (.c (.int .u64 (nl 0)))))]
def v91_3 : List VI := [.op (some 9) none (.p (.mov (.c (.int .i64 0))))]
def v91_4 : List VI := [.op (some 10) none (.p (.bin .lss (.t 9) (.c (.int .i64 4))))]
def v91_5 : List VI := [.op (some 11) none (.p (.mov (.t 9))), .op (some 8) none (.p (.mov (.t 11)))]
def v91_6 : List DS := [.mk 0 true (.op (some 13) none (.p (.mov (.t 8)))) [] [], .mk 1 true (.op (some 14) none (.p (.mov (.t 8)))) [] [], .mk 2 true (.op (some 15) none (.p (.ixa 4 1 (.t 2) (.t 14)))) [] [], .mk 3 true (.op (some 16) none (.ld false 1 (.t 15))) [] [], .mk 4 true (.op (some 17) none (.p (.mov (.t 8)))) [] [], .mk 5 true (.op (some 18) none (.p (.ixa 4 1 (.t 3) (.t 17)))) [] [], .mk 6 true (.op (some 19) none (.ld false 1 (.t 18))) [] [], .mk 7 true (.op (some 20) none (.p (.mov (.t 7)))) [] [], .mk 8 false (.call (some 21) none (.fn 110) [.t 16, .t 19, .t 20]) [] [], .mk 9 true (.op (some 12) none (.p (.mov (.t 21)))) [] [], .mk 10 true (.op (some 22) none (.p (.ext (.t 12) 0))) [] [], .mk 11 true (.op (some 23) none (.p (.ext (.t 12) 1))) [] [], .mk 12 true (.op (some 24) none (.p (.ixa 4 1 (.t 6) (.t 13)))) [] [], .mk 13 false (.op none none (.st 1 (.t 24) (.t 22))) [] [], .mk 14 false (.op (some 7) none (.p (.mov (.t 23)))) [] []]
def v91_7 : VC := .seq (.reg v91_5) (.drw v91_6)
def v91_8 : List VI := [.op (some 25) none (.p (.bin .add (.t 9) (.c (.int .i64 1)))), .op (some 9) none (.p (.mov (.t 25)))]
def v91_9 : VC := .seq (.reg v91_4) (.seq (.cond (.t 10) .skip (.exit 0)) (.seq (.block 1 v91_7) (.reg v91_8)))
def v91_10 : VC := .loop v91_9
def v91_11 : List VI := [.op (some 26) none (.ld true 4 (.t 6)), .op (some 27) none (.p (.mov (.t 7))), .op none none (.st 4 (.t 4) (.t 26)), .op (some 5) none (.p (.mov (.t 27)))]
def v91 : VC := .seq (.reg v91_0) (.seq (.reg v91_1) (.seq (.reg v91_2) (.seq (.seq (.reg v91_3) (.block 0 v91_10)) (.seq (.reg v91_11) .ret))))
def rr91 : List RV := [.m 4 true 4, .t 5]
theorem code91 : (Tryd.f91.body).bind (cCode Tryd.prog) = some v91 := by kernel_rfl
theorem res91 : cRVs Tryd.prog (Tryd.f91.results.toList) = some rr91 := by kernel_rfl
theorem nt91 : Tryd.f91.ntmps = 28 := by kernel_rfl
theorem nm91 : (Tryd.f91.name == "runtime.NumGoroutine") = false := by kernel_rfl
def v92_0 : List VI := [.op (some 4) none (.box (.t 1)), .op (some 5) none (.box (.t 2)), .op (some 6) none (.new [.int .u64 (nl 0), .int .u64 (nl 0), .int .u64 (nl 0), .int .u64 (nl 0)])]
def v92_1 : List VI := [.op (some 8) none (.p (.mov (.c (.int .i64 0))))]
def v92_2 : List VI := [.op (some 9) none (.p (.bin .lss (.t 8) (.c (.int .i64 4))))]
def v92_3 : List VI := [.op (some 10) none (.p (.mov (.t 8))), .op (some 7) none (.p (.mov (.t 10)))]
def v92_4 : List DS := [.mk 0 true (.op (some 11) none (.p (.mov (.t 7)))) [] [], .mk 1 true (.op (some 12) none (.p (.mov (.t 7)))) [] [], .mk 2 true (.op (some 13) none (.p (.ixa 4 1 (.t 4) (.t 12)))) [] [], .mk 3 true (.op (some 14) none (.ld false 1 (.t 13))) [] [], .mk 4 true (.op (some 15) none (.p (.mov (.t 0)))) [] [], .mk 5 true (.op (some 16) none (.p (.bin .and (.t 14) (.t 15)))) [] [], .mk 6 true (.op (some 17) none (.p (.mov (.t 7)))) [] [], .mk 7 true (.op (some 18) none (.p (.ixa 4 1 (.t 5) (.t 17)))) [] [], .mk 8 true (.op (some 19) none (.ld false 1 (.t 18))) [] [], .mk 9 true (.op (some 20) none (.p (.mov (.t 0)))) [] [], .mk 10 true (.op (some 21) none (.p (.bin .andNot (.t 19) (.t 20)))) [] [], .mk 11 true (.op (some 22) none (.p (.bin .or (.t 16) (.t 21)))) [] [], .mk 12 true (.op (some 23) none (.p (.ixa 4 1 (.t 4) (.t 11)))) [] [], .mk 13 false (.op none none (.st 1 (.t 23) (.t 22))) [] []]
def v92_5 : VC := .seq (.reg v92_3) (.drw v92_4)
def v92_6 : List VI := [.op (some 24) none (.p (.bin .add (.t 8) (.c (.int .i64 1)))), .op (some 8) none (.p (.mov (.t 24)))]
def v92_7 : VC := .seq (.reg v92_2) (.seq (.cond (.t 9) .skip (.exit 0)) (.seq (.block 1 v92_5) (.reg v92_6)))
def v92_8 : VC := .loop v92_7
def v92_9 : List VI := [.op (some 25) none (.ld true 4 (.t 4)), .op none none (.st 4 (.t 6) (.t 25))]
def v92 : VC := .seq (.reg v92_0) (.seq (.seq (.reg v92_1) (.block 0 v92_8)) (.seq (.reg v92_9) .ret))
def rr92 : List RV := [.m 6 true 4]
theorem code92 : (Tryd.f92.body).bind (cCode Tryd.prog) = some v92 := by kernel_rfl
theorem res92 : cRVs Tryd.prog (Tryd.f92.results.toList) = some rr92 := by kernel_rfl
theorem nt92 : Tryd.f92.ntmps = 26 := by kernel_rfl
theorem nm92 : (Tryd.f92.name == "runtime.NumGoroutine") = false := by kernel_rfl
def v93_0 : List VI := [.op (some 8) none (.p (.mov (.c (.int .u64 (nl 0))))), .op (some 9) none (.p (.mov (.c (.int .u64 (nl 0)))))]
def v93_1 : List VI := [.op (some 14) none (.p (.mov (.t 0))), .op (some 15) none (.p (.mov (.t 1))), .call (some 16) none (.fn 89) [.t 14, .t 15], .op (some 13) none (.p (.mov (.t 16))), .op (some 17) none (.p (.ext (.t 13) 0)), .op (some 18) none (.p (.ext (.t 13) 1)), .op (some 10) none (.p (.mov (.t 17))), .op (some 11) none (.p (.mov (.t 18)))]
def v93_2 : List VI := [.op (some 20) none (.p (.mov (.t 11))), .op (some 21) none (.p (.mov (.t 2))), .call (some 22) none (.fn 90) [.t 20, .t 21, .c (.int .u64 (nl 0))], .op (some 19) none (.p (.mov (.t 22))), .op (some 23) none (.p (.ext (.t 19) 0)), .op (some 24) none (.p (.ext (.t 19) 1)), .op (some 11) none (.p (.mov (.t 23))), .op (some 12) none (.p (.mov (.t 24)))]
def v93_3 : List VI := [.op (some 25) none (.p (.mov (.t 10))), .op (some 26) none (.p (.mov (.t 12))), .op (some 27) none (.p (.bin .add (.t 25) (.t 26))), .op (some 10) none (.p (.mov (.t 27)))]
def v93_4 : List VI := [.op (some 29) none (.p (.mov (.t 11))), .op (some 30) none (.p (.mov (.t 3))), .call (some 31) none (.fn 90) [.t 29, .t 30, .c (.int .u64 (nl 0))], .op (some 28) none (.p (.mov (.t 31))), .op (some 32) none (.p (.ext (.t 28) 0)), .op (some 33) none (.p (.ext (.t 28) 1)), .op (some 11) none (.p (.mov (.t 32))), .op (some 12) none (.p (.mov (.t 33)))]
def v93_5 : List VI := [.op (some 34) none (.p (.mov (.t 11))), .op (some 35) none (.p (.mov (.t 10))), .op (some 36) none (.p (.mov (.t 12))), .op (some 37) none (.p (.bin .add (.t 35) (.t 36))), .op (some 8) none (.p (.mov (.t 34))), .op (some 9) none (.p (.mov (.t 37)))]
def v93 : VC := .seq (.reg v93_0) (.seq (.reg v93_1) (.seq (.reg v93_2) (.seq (.reg v93_3) (.seq (.reg v93_4) (.seq (.reg v93_5) .ret)))))
def rr93 : List RV := [.t 8, .t 9]
theorem code93 : (Tryd.f93.body).bind (cCode Tryd.prog) = some v93 := by kernel_rfl
theorem res93 : cRVs Tryd.prog (Tryd.f93.results.toList) = some rr93 := by kernel_rfl
theorem nt93 : Tryd.f93.ntmps = 38 := by kernel_rfl
theorem nm93 : (Tryd.f93.name == "runtime.NumGoroutine") = false := by kernel_rfl
def v109_0 : List VI := [.op (some 2) none (.p (.mov (.c .nils))), .op (some 3) none (.p (.mov (.c .nils)))]
def v109_1 : List VI := [.op (some 5) none (.p (.mov (.t 0))), .op (some 6) none (.p (.len false (.t 5))), .op (some 7) none (.p (.bin .quo (.t 6) (.c (.int .i64 2)))), .op (some 4) none (.p (.mov (.t 7)))]
def v109_2 : List DS := [.mk 0 true (.op (some 8) none (.p (.mov (.t 0)))) [] [], .mk 1 true (.op (some 9) none (.p (.mov (.t 4)))) [] [], .mk 2 true (.op (some 10) none (.p (.mov (.t 4)))) [] [], .mk 3 true (.op (some 11) none (.slx 4 (.t 8) none (some (.t 9)) (some (.t 10)))) [] [], .mk 4 true (.op (some 12) none (.p (.mov (.t 0)))) [] [], .mk 5 true (.op (some 13) none (.p (.mov (.t 4)))) [] [], .mk 6 true (.op (some 14) none (.p (.mov (.t 0)))) [] [], .mk 7 true (.op (some 15) none (.p (.len false (.t 14)))) [] [], .mk 8 true (.op (some 16) none (.p (.mov (.t 0)))) [] [], .mk 9 true (.op (some 17) none (.p (.len false (.t 16)))) [] [], .mk 10 true (.op (some 18) none (.slx 4 (.t 12) (some (.t 13)) (some (.t 15)) (some (.t 17)))) [] [], .mk 11 false (.op (some 2) none (.p (.mov (.t 11)))) [12] [], .mk 12 false (.op (some 3) none (.p (.mov (.t 18)))) [] []]
def v109 : VC := .seq (.reg v109_0) (.seq (.reg v109_1) (.seq (.drw v109_2) .ret))
def rr109 : List RV := [.t 2, .t 3]
theorem code109 : (Tryd.f109.body).bind (cCode Tryd.prog) = some v109 := by kernel_rfl
theorem res109 : cRVs Tryd.prog (Tryd.f109.results.toList) = some rr109 := by kernel_rfl
theorem nt109 : Tryd.f109.ntmps = 19 := by kernel_rfl
theorem nm109 : (Tryd.f109.name == "runtime.NumGoroutine") = false := by kernel_rfl
def v179_0 : List VI := [.op (some 1) none (.box (.t 0)), .op (some 2) none (.new [.int .u64 (nl 0), .int .u64 (nl 0), .int .u64 (nl 0), .int .u64 (nl 0)])]
def v179_1 : List VI := [.op (some 3) none (.p (.bld [.int .u64 (nl 0), .int .u64 (nl 0), .int .u64 (nl 0), .int .u64 (nl 0)] [(0, 1, .c (.int .u64 (nl 1)))])), .op none none (.st 4 (.t 2) (.t 3))]
def v179 : VC := .seq (.reg v179_0) (.seq (.reg v179_1) .ret)
def rr179 : List RV := [.m 2 true 4]
theorem code179 : (Tryd.f179.body).bind (cCode Tryd.prog) = some v179 := by kernel_rfl
theorem res179 : cRVs Tryd.prog (Tryd.f179.results.toList) = some rr179 := by kernel_rfl
theorem nt179 : Tryd.f179.ntmps = 4 := by kernel_rfl
theorem nm179 : (Tryd.f179.name == "runtime.NumGoroutine") = false := by kernel_rfl
def v180_0 : List VI := [.op (some 2) none (.box (.t 0)), .op (some 3) none (.box (.t 1)), .op (some 4) none (.new [.int .u64 (nl 0), .int .u64 (nl 0), .int .u64 (nl 0), .int .u64 (nl 0)])]
def v180_1 : List VI := [.op (some 5) none (.p (.fda 0 (.t 2))), .op (some 6) none (.ld true 4 (.t 5)), .op (some 7) none (.p (.fda 0 (.t 3))), .op (some 8) none (.ld true 4 (.t 7)), .call (some 9) none (.fn 28) [.t 6, .t 8], .op (some 10) none (.p (.bld [.int .u64 (nl 0), .int .u64 (nl 0), .int .u64 (nl 0), .int .u64 (nl 0)] [(0, 4, .t 9)])), .op none none (.st 4 (.t 4) (.t 10))]
def v180 : VC := .seq (.reg v180_0) (.seq (.reg v180_1) .ret)
def rr180 : List RV := [.m 4 true 4]
theorem code180 : (Tryd.f180.body).bind (cCode Tryd.prog) = some v180 := by kernel_rfl
theorem res180 : cRVs Tryd.prog (Tryd.f180.results.toList) = some rr180 := by kernel_rfl
theorem nt180 : Tryd.f180.ntmps = 11 := by kernel_rfl
theorem nm180 : (Tryd.f180.name == "runtime.NumGoroutine") = false := by kernel_rfl
def v182_0 : List VI := [.op (some 2) none (.box (.t 0)), .op (some 3) none (.box (.t 1)), .op (some 4) none (.new [.int .u64 (nl 0), .int .u64 (nl 0), .int .u64 (nl 0), .int .u64 (nl 0)])]
def v182_1 : List VI := [.op (some 5) none (.p (.fda 0 (.t 2))), .op (some 6) none (.ld true 4 (.t 5)), .op (some 7) none (.ld true 4 (.t 3)), .call (some 8) none (.fn 29) [.t 6, .t 7], .op (some 9) none (.p (.bld [.int .u64 (nl 0), .int .u64 (nl 0), .int .u64 (nl 0), .int .u64 (nl 0)] [(0, 4, .t 8)])), .op none none (.st 4 (.t 4) (.t 9))]
def v182 : VC := .seq (.reg v182_0) (.seq (.reg v182_1) .ret)
def rr182 : List RV := [.m 4 true 4]
theorem code182 : (Tryd.f182.body).bind (cCode Tryd.prog) = some v182 := by kernel_rfl
theorem res182 : cRVs Tryd.prog (Tryd.f182.results.toList) = some rr182 := by kernel_rfl
theorem nt182 : Tryd.f182.ntmps = 10 := by kernel_rfl
theorem nm182 : (Tryd.f182.name == "runtime.NumGoroutine") = false := by kernel_rfl
end Go.Vs.Tryd
namespace Go.Vs
theorem a64_mask (x k : Nat) (hk : k ≤ 63) (hx : x < 18446744073709551616) (m : Nat) (hm : m = 2 ^ k - 1) : a64 x m = x % 2 ^ k := by
  subst hm
  have h1 : 2 ^ k ≤ 2 ^ 63 := Nat.pow_le_pow_right (by decide) hk
  have h2 : 0 < 2 ^ k := Nat.two_pow_pos k
  unfold a64
  rw [Nat.mod_eq_of_lt hx, Nat.mod_eq_of_lt (a := 2 ^ k - 1) (by omega), Nat.and_two_pow_sub_one_eq_mod]
theorem mul64_law (x y : Nat) (hx : x < 18446744073709551616) (hy : y < 18446744073709551616) :
    x * y = 18446744073709551616 * w64 (w64 (w64 (r64 x 32 * r64 y 32) + r64 (w64 (w64 (r64 x 32 * a64 y 4294967295) + r64 (w64 (a64 x 4294967295 * a64 y 4294967295)) 32)) 32) + r64 (w64 (a64 (w64 (w64 (r64 x 32 * a64 y 4294967295) + r64 (w64 (a64 x 4294967295 * a64 y 4294967295)) 32)) 4294967295 + w64 (a64 x 4294967295 * r64 y 32))) 32) + w64 (x * y) := by
  have ex : x = x % 4294967296 + 4294967296 * (x / 4294967296) := (Nat.mod_add_div _ _).symm
  have ey : y = y % 4294967296 + 4294967296 * (y / 4294967296) := (Nat.mod_add_div _ _).symm
  have r1 : r64 x 32 = x / 4294967296 := rfl
  have r2 : r64 y 32 = y / 4294967296 := rfl
  have m1 : a64 x 4294967295 = x % 4294967296 := a64_mask x 32 (by decide) hx _ rfl
  have m2 : a64 y 4294967295 = y % 4294967296 := a64_mask y 32 (by decide) hy _ rfl
  have m3 : ∀ t, a64 (w64 t) 4294967295 = w64 t % 4294967296 := fun t => a64_mask _ 32 (by decide) (Nat.mod_lt _ (by decide)) _ rfl
  have hx0 : x % 4294967296 < 4294967296 := Nat.mod_lt _ (by decide)
  have hy0 : y % 4294967296 < 4294967296 := Nat.mod_lt _ (by decide)
  have hx1 : x / 4294967296 < 4294967296 := by omega
  have hy1 : y / 4294967296 < 4294967296 := by omega
  rw [r1, r2, m1, m2, m3]
  generalize x % 4294967296 = x0 at *
  generalize y % 4294967296 = y0 at *
  generalize x / 4294967296 = x1 at *
  generalize y / 4294967296 = y1 at *
  have bound : ∀ a b : Nat, a < 4294967296 → b < 4294967296 → a * b ≤ 18446744065119617025 := fun a b ha hb => by
    have := Nat.mul_le_mul (Nat.le_of_lt_succ ha) (Nat.le_of_lt_succ hb)
    exact this
  have b00 := bound x0 y0 hx0 hy0
  have b01 := bound x0 y1 hx0 hy1
  have b10 := bound x1 y0 hx1 hy0
  have b11 := bound x1 y1 hx1 hy1
  have hp : x * y = x0 * y0 + 4294967296 * (x0 * y1) + 4294967296 * (x1 * y0) + 18446744073709551616 * (x1 * y1) := by
    rw [ex, ey]; grind
  rw [hp]
  generalize x0 * y0 = p00 at *
  generalize x0 * y1 = p01 at *
  generalize x1 * y0 = p10 at *
  generalize x1 * y1 = p11 at *
  have rr : ∀ t, r64 t 32 = t / 4294967296 := fun _ => rfl
  simp only [rr, w64]
  omega
end Go.Vs
namespace Go.Vs.Tryd
open Go.Proofs
variable {G : Nat → List V}
set_option linter.unusedSimpArgs false
section
attribute [local go_sem] Option.isSome_some Option.isSome_none Kind.m Kind.w Kind.g look_ro look_rw look_grow lenO drive stepV exo expo evs fillV isNil nilKind eqV eqL optA optM sliceAtV ev kn V.known V.one ldc stc splice cellsOf asK asN asB asS asG asT appV srcV lenV setd wantV exitV rvs rv one List.length_cons List.length_nil List.cons_append List.nil_append List.append_nil List.replicate List.getD_cons_zero List.getD_cons_succ List.set_cons_zero List.set_cons_succ List.getElem?_cons_zero List.getElem?_cons_succ List.getElem?_nil List.take_succ_cons List.take_zero List.take_nil List.drop_succ_cons List.drop_zero List.drop_nil List.all_cons List.all_nil List.any_cons List.any_nil Bool.and_true Bool.true_and Bool.and_self Option.map_some Option.map_none Option.bind_some Option.some.injEq Nat.add_zero Nat.zero_add Int.toNat_zero Int.toNat_one Int.zero_add Int.add_zero if_true if_false ite_true ite_false and_true true_and and_self ne_eq not_false_eq_true not_true_eq_false decide_true decide_false Bool.false_eq_true Bool.not_true Bool.not_false beq_self_eq_true BEq.rfl Bool.not_eq_true Nat.le_refl Int.le_refl Nat.zero_le List.foldl List.map_cons List.map_nil Prod.mk.injEq Int.cast_ofNat_Int Int.zero_le_ofNat b_add_cc b_add_cl b_add_lc b_mul_cc b_mul_cl b_mul_lc b_sub_cc b_sub_cl b_sub_lc b_and_cc b_and_cl b_and_lc b_or_cc b_or_cl b_or_lc b_xor_cc b_xor_cl b_xor_lc b_andNot_cc b_andNot_cl b_andNot_lc b_shr_cc b_shr_cl b_shr_lc b_shl_cc b_shl_cl b_shl_lc b_lss b_leq b_gtr b_geq b_add_i b_sub_i b_mul_i beq_cc beq_cl beq_lc beq_ll b_quo_i b_rem_i neg_u64 wrap_i64 driveD stepD idsAt idOf maskH_nil restore_nil restore_mask List.filterMap_nil List.filterMap_cons VOp.looks VOp.makes exA
def u (n : Nat) : V := .int .u64 (n : Int)
def lc (n : Nat) : List V := [u (n % 18446744073709551616), u (n / 18446744073709551616 % 18446744073709551616), u (n / 340282366920938463463374607431768211456 % 18446744073709551616), u (n / 6277101735386680763835789423207666416102355444464034512896 % 18446744073709551616)]
def lw (n : Nat) : V := .agg (lc n)
noncomputable def sub64E : Array Value → Sem Value := (Extern.find Tryd.f110).getD fun _ => Pure.pure undef
theorem sub64E_run (P : Program) (x y b : Nat) (hb : b ≤ 1) (w : World) : (sub64E #[.int .u64 x, .int .u64 y, .int .u64 b]).run P w =
      .ok (.tuple #[.int .u64 (((x + 18446744073709551616 - y - b) % 18446744073709551616 : Nat) : Int), .int .u64 ((if x < y + b then 1 else 0 : Nat) : Int)]) w := by
  have : b = 0 ∨ b = 1 := by omega
  rcases this with rfl | rfl <;> rfl
theorem sub64 (x y c : Nat) (ci : Int) (hci : ci = (c : Int)) (hc : c ≤ 1) (hx : x < 18446744073709551616) (hy : y < 18446744073709551616) {h : Heap} {R : V → Heap → Prop} (hq : ∀ d b : Nat, d < 18446744073709551616 → b ≤ 1 → x + 18446744073709551616 * b = y + c + d → R (.tup [.int .u64 (d : Int), .int .u64 (b : Int)]) h) : VCall Tryd.prog G 110 [.int .u64 (x : Int), .int .u64 (y : Int), .int .u64 ci] h R := by
  subst hci
  refine vcall_plain (vcall_value (v := .tup [u ((x + 18446744073709551616 - y - c) % 18446744073709551616), u (if x < y + c then 1 else 0)]) [.int .u64 x, .int .u64 y, .int .u64 c] (.tuple #[.int .u64 ((x + 18446744073709551616 - y - c) % 18446744073709551616 : Nat), .int .u64 ((if x < y + c then 1 else 0 : Nat) : Int)]) (by simp only [concs, conc, Option.bind_some, Option.map_some]) (by simp only [u, concs, conc, Option.bind_some, Option.map_some]) fun w => ?_) (fun g => by simp only [rens, ren]) (fun v g hv => ?_) fun v hv => ?_
  · rw [run_callFunc_extern Tryd.func110 (by kernel_rfl) (by kernel_rfl) (by kernel_rfl) (e := sub64E) (by kernel_rfl)]
    rw [show (([.int .u64 x, .int .u64 y, .int .u64 c] : List Value).toArray) = #[.int .u64 (x : Int), .int .u64 (y : Int), .int .u64 (c : Int)] from rfl, sub64E_run _ x y c hc]
    rfl
  · subst hv; simp only [u, rens, ren]
  · subst hv
    refine hq _ _ (Nat.mod_lt _ (by decide)) (by split <;> omega) ?_
    split <;> omega
theorem lw_of {d0 d1 d2 d3 : Nat} (h0 : d0 < 18446744073709551616) (h1 : d1 < 18446744073709551616) (h2 : d2 < 18446744073709551616) (h3 : d3 < 18446744073709551616) :
    lw (d0 + 18446744073709551616 * d1 + 340282366920938463463374607431768211456 * d2 + 6277101735386680763835789423207666416102355444464034512896 * d3) = .agg [.int .u64 (d0 : Int), .int .u64 (d1 : Int), .int .u64 (d2 : Int), .int .u64 (d3 : Int)] := by
  have e0 : (d0 + 18446744073709551616 * d1 + 340282366920938463463374607431768211456 * d2 + 6277101735386680763835789423207666416102355444464034512896 * d3) % 18446744073709551616 = d0 := by omega
  have e1 : (d0 + 18446744073709551616 * d1 + 340282366920938463463374607431768211456 * d2 + 6277101735386680763835789423207666416102355444464034512896 * d3) / 18446744073709551616 % 18446744073709551616 = d1 := by omega
  have e2 : (d0 + 18446744073709551616 * d1 + 340282366920938463463374607431768211456 * d2 + 6277101735386680763835789423207666416102355444464034512896 * d3) / 340282366920938463463374607431768211456 % 18446744073709551616 = d2 := by omega
  have e3 : (d0 + 18446744073709551616 * d1 + 340282366920938463463374607431768211456 * d2 + 6277101735386680763835789423207666416102355444464034512896 * d3) / 6277101735386680763835789423207666416102355444464034512896 % 18446744073709551616 = d3 := by omega
  unfold lw lc u
  rw [e0, e1, e2, e3]
theorem limbs (A : Nat) : ∃ a0 a1 a2 a3 : Nat, a0 < 18446744073709551616 ∧ a1 < 18446744073709551616 ∧ a2 < 18446744073709551616 ∧ a3 < 18446744073709551616 ∧ lw A = .agg [.int .u64 (a0 : Int), .int .u64 (a1 : Int), .int .u64 (a2 : Int), .int .u64 (a3 : Int)] ∧
    (A < 115792089237316195423570985008687907853269984665640564039457584007913129639936 → A = a0 + 18446744073709551616 * a1 + 340282366920938463463374607431768211456 * a2 + 6277101735386680763835789423207666416102355444464034512896 * a3) := by
  refine ⟨_, _, _, _, Nat.mod_lt _ (by decide), Nat.mod_lt _ (by decide), Nat.mod_lt _ (by decide), Nat.mod_lt _ (by decide), rfl, fun h => ?_⟩
  omega
set_option maxHeartbeats 4000000
theorem minus (A B : Nat) (hA : A < 115792089237316195423570985008687907853269984665640564039457584007913129639936) (hB : B < 115792089237316195423570985008687907853269984665640564039457584007913129639936) (Q : V → Heap → Prop)
    (hQ : ∀ D b : Nat, D < 115792089237316195423570985008687907853269984665640564039457584007913129639936 → b ≤ 1 → A + 115792089237316195423570985008687907853269984665640564039457584007913129639936 * b = B + D → Q (.tup [lw D, u b]) []) : VCall Tryd.prog G 91 [lw A, lw B] [] Q := by
  refine vcall_body Tryd.func91 nm91 code91 nt91 ?_
  obtain ⟨a0, a1, a2, a3, ha0, ha1, ha2, ha3, ea, eA⟩ := limbs A
  obtain ⟨b0, b1, b2, b3, hb0, hb1, hb2, hb3, eb, eB⟩ := limbs B
  rw [ea, eb]
  refine run_drive 40 ?_
  simp only [go_sem, Nat.reduceAdd, Nat.reduceSub, Nat.reduceLeDiff, Nat.reduceMul, Nat.reduceLT, Nat.reduceEqDiff, Int.reduceLT, Int.reduceLE, Int.reduceAdd, Int.reduceSub, Int.reduceMul, Int.reduceToNat, reduceIte, reduceCtorEq, Nat.reduceBEq, v91, v91_0, v91_1, v91_2, v91_3, v91_10]
  refine run_loop ?_
  refine run_drive 40 ?_
  simp only [go_sem, Nat.reduceAdd, Nat.reduceSub, Nat.reduceLeDiff, Nat.reduceMul, Nat.reduceLT, Nat.reduceEqDiff, Int.reduceLT, Int.reduceLE, Int.reduceAdd, Int.reduceSub, Int.reduceMul, Int.reduceToNat, reduceIte, reduceCtorEq, Nat.reduceBEq, v91_9, v91_4, v91_5, v91_7]
  refine run_drw (by kernel_rfl) ?_
  refine drun_drive 20 (p := (_, _)) ?_
  simp only [go_sem, Nat.reduceAdd, Nat.reduceSub, Nat.reduceLeDiff, Nat.reduceMul, Nat.reduceLT, Nat.reduceEqDiff, Int.reduceLT, Int.reduceLE, Int.reduceAdd, Int.reduceSub, Int.reduceMul, Int.reduceToNat, reduceIte, reduceCtorEq, Nat.reduceBEq, v91_6]
  refine drun_call' ?_
  simp only [go_sem, Nat.reduceAdd, Nat.reduceSub, Nat.reduceLeDiff, Nat.reduceMul, Nat.reduceLT, Nat.reduceEqDiff, Int.reduceLT, Int.reduceLE, Int.reduceAdd, Int.reduceSub, Int.reduceMul, Int.reduceToNat, reduceIte, reduceCtorEq, Nat.reduceBEq, calV]
  refine sub64 _ _ _ _ (by first | exact Int.natCast_zero.symm | rfl) (by first | decide | assumption) (by assumption) (by assumption) ?_
  intro d0 c0 hd0 hc0 he0
  refine drun_drive 20 (p := (_, _)) ?_
  simp only [go_sem, Nat.reduceAdd, Nat.reduceSub, Nat.reduceLeDiff, Nat.reduceMul, Nat.reduceLT, Nat.reduceEqDiff, Int.reduceLT, Int.reduceLE, Int.reduceAdd, Int.reduceSub, Int.reduceMul, Int.reduceToNat, reduceIte, reduceCtorEq, Nat.reduceBEq]
  refine drun_end ?_
  refine run_drive 40 ?_
  simp only [go_sem, Nat.reduceAdd, Nat.reduceSub, Nat.reduceLeDiff, Nat.reduceMul, Nat.reduceLT, Nat.reduceEqDiff, Int.reduceLT, Int.reduceLE, Int.reduceAdd, Int.reduceSub, Int.reduceMul, Int.reduceToNat, reduceIte, reduceCtorEq, Nat.reduceBEq, v91_8]
  refine run_loop ?_
  refine run_drive 40 ?_
  simp only [go_sem, Nat.reduceAdd, Nat.reduceSub, Nat.reduceLeDiff, Nat.reduceMul, Nat.reduceLT, Nat.reduceEqDiff, Int.reduceLT, Int.reduceLE, Int.reduceAdd, Int.reduceSub, Int.reduceMul, Int.reduceToNat, reduceIte, reduceCtorEq, Nat.reduceBEq, v91_9, v91_4, v91_5, v91_7]
  refine run_drw (by kernel_rfl) ?_
  refine drun_drive 20 (p := (_, _)) ?_
  simp only [go_sem, Nat.reduceAdd, Nat.reduceSub, Nat.reduceLeDiff, Nat.reduceMul, Nat.reduceLT, Nat.reduceEqDiff, Int.reduceLT, Int.reduceLE, Int.reduceAdd, Int.reduceSub, Int.reduceMul, Int.reduceToNat, reduceIte, reduceCtorEq, Nat.reduceBEq, v91_6]
  refine drun_call' ?_
  simp only [go_sem, Nat.reduceAdd, Nat.reduceSub, Nat.reduceLeDiff, Nat.reduceMul, Nat.reduceLT, Nat.reduceEqDiff, Int.reduceLT, Int.reduceLE, Int.reduceAdd, Int.reduceSub, Int.reduceMul, Int.reduceToNat, reduceIte, reduceCtorEq, Nat.reduceBEq, calV]
  refine sub64 _ _ _ _ (by first | exact Int.natCast_zero.symm | rfl) (by first | decide | assumption) (by assumption) (by assumption) ?_
  intro d1 c1 hd1 hc1 he1
  refine drun_drive 20 (p := (_, _)) ?_
  simp only [go_sem, Nat.reduceAdd, Nat.reduceSub, Nat.reduceLeDiff, Nat.reduceMul, Nat.reduceLT, Nat.reduceEqDiff, Int.reduceLT, Int.reduceLE, Int.reduceAdd, Int.reduceSub, Int.reduceMul, Int.reduceToNat, reduceIte, reduceCtorEq, Nat.reduceBEq]
  refine drun_end ?_
  refine run_drive 40 ?_
  simp only [go_sem, Nat.reduceAdd, Nat.reduceSub, Nat.reduceLeDiff, Nat.reduceMul, Nat.reduceLT, Nat.reduceEqDiff, Int.reduceLT, Int.reduceLE, Int.reduceAdd, Int.reduceSub, Int.reduceMul, Int.reduceToNat, reduceIte, reduceCtorEq, Nat.reduceBEq, v91_8]
  refine run_loop ?_
  refine run_drive 40 ?_
  simp only [go_sem, Nat.reduceAdd, Nat.reduceSub, Nat.reduceLeDiff, Nat.reduceMul, Nat.reduceLT, Nat.reduceEqDiff, Int.reduceLT, Int.reduceLE, Int.reduceAdd, Int.reduceSub, Int.reduceMul, Int.reduceToNat, reduceIte, reduceCtorEq, Nat.reduceBEq, v91_9, v91_4, v91_5, v91_7]
  refine run_drw (by kernel_rfl) ?_
  refine drun_drive 20 (p := (_, _)) ?_
  simp only [go_sem, Nat.reduceAdd, Nat.reduceSub, Nat.reduceLeDiff, Nat.reduceMul, Nat.reduceLT, Nat.reduceEqDiff, Int.reduceLT, Int.reduceLE, Int.reduceAdd, Int.reduceSub, Int.reduceMul, Int.reduceToNat, reduceIte, reduceCtorEq, Nat.reduceBEq, v91_6]
  refine drun_call' ?_
  simp only [go_sem, Nat.reduceAdd, Nat.reduceSub, Nat.reduceLeDiff, Nat.reduceMul, Nat.reduceLT, Nat.reduceEqDiff, Int.reduceLT, Int.reduceLE, Int.reduceAdd, Int.reduceSub, Int.reduceMul, Int.reduceToNat, reduceIte, reduceCtorEq, Nat.reduceBEq, calV]
  refine sub64 _ _ _ _ (by first | exact Int.natCast_zero.symm | rfl) (by first | decide | assumption) (by assumption) (by assumption) ?_
  intro d2 c2 hd2 hc2 he2
  refine drun_drive 20 (p := (_, _)) ?_
  simp only [go_sem, Nat.reduceAdd, Nat.reduceSub, Nat.reduceLeDiff, Nat.reduceMul, Nat.reduceLT, Nat.reduceEqDiff, Int.reduceLT, Int.reduceLE, Int.reduceAdd, Int.reduceSub, Int.reduceMul, Int.reduceToNat, reduceIte, reduceCtorEq, Nat.reduceBEq]
  refine drun_end ?_
  refine run_drive 40 ?_
  simp only [go_sem, Nat.reduceAdd, Nat.reduceSub, Nat.reduceLeDiff, Nat.reduceMul, Nat.reduceLT, Nat.reduceEqDiff, Int.reduceLT, Int.reduceLE, Int.reduceAdd, Int.reduceSub, Int.reduceMul, Int.reduceToNat, reduceIte, reduceCtorEq, Nat.reduceBEq, v91_8]
  refine run_loop ?_
  refine run_drive 40 ?_
  simp only [go_sem, Nat.reduceAdd, Nat.reduceSub, Nat.reduceLeDiff, Nat.reduceMul, Nat.reduceLT, Nat.reduceEqDiff, Int.reduceLT, Int.reduceLE, Int.reduceAdd, Int.reduceSub, Int.reduceMul, Int.reduceToNat, reduceIte, reduceCtorEq, Nat.reduceBEq, v91_9, v91_4, v91_5, v91_7]
  refine run_drw (by kernel_rfl) ?_
  refine drun_drive 20 (p := (_, _)) ?_
  simp only [go_sem, Nat.reduceAdd, Nat.reduceSub, Nat.reduceLeDiff, Nat.reduceMul, Nat.reduceLT, Nat.reduceEqDiff, Int.reduceLT, Int.reduceLE, Int.reduceAdd, Int.reduceSub, Int.reduceMul, Int.reduceToNat, reduceIte, reduceCtorEq, Nat.reduceBEq, v91_6]
  refine drun_call' ?_
  simp only [go_sem, Nat.reduceAdd, Nat.reduceSub, Nat.reduceLeDiff, Nat.reduceMul, Nat.reduceLT, Nat.reduceEqDiff, Int.reduceLT, Int.reduceLE, Int.reduceAdd, Int.reduceSub, Int.reduceMul, Int.reduceToNat, reduceIte, reduceCtorEq, Nat.reduceBEq, calV]
  refine sub64 _ _ _ _ (by first | exact Int.natCast_zero.symm | rfl) (by first | decide | assumption) (by assumption) (by assumption) ?_
  intro d3 c3 hd3 hc3 he3
  refine drun_drive 20 (p := (_, _)) ?_
  simp only [go_sem, Nat.reduceAdd, Nat.reduceSub, Nat.reduceLeDiff, Nat.reduceMul, Nat.reduceLT, Nat.reduceEqDiff, Int.reduceLT, Int.reduceLE, Int.reduceAdd, Int.reduceSub, Int.reduceMul, Int.reduceToNat, reduceIte, reduceCtorEq, Nat.reduceBEq]
  refine drun_end ?_
  refine run_drive 40 ?_
  simp only [go_sem, Nat.reduceAdd, Nat.reduceSub, Nat.reduceLeDiff, Nat.reduceMul, Nat.reduceLT, Nat.reduceEqDiff, Int.reduceLT, Int.reduceLE, Int.reduceAdd, Int.reduceSub, Int.reduceMul, Int.reduceToNat, reduceIte, reduceCtorEq, Nat.reduceBEq, v91_8]
  refine run_loop ?_
  refine run_drive 40 ?_
  simp only [go_sem, Nat.reduceAdd, Nat.reduceSub, Nat.reduceLeDiff, Nat.reduceMul, Nat.reduceLT, Nat.reduceEqDiff, Int.reduceLT, Int.reduceLE, Int.reduceAdd, Int.reduceSub, Int.reduceMul, Int.reduceToNat, reduceIte, reduceCtorEq, Nat.reduceBEq, v91_9, v91_4, v91_11]
  refine run_ret_drop Tryd.func91 res91 [] (.tup [lw (d0 + 18446744073709551616 * d1 + 340282366920938463463374607431768211456 * d2 + 6277101735386680763835789423207666416102355444464034512896 * d3), u c3]) [] rfl (by simp) trivial (by simp [uniq]) ?_ (hQ _ _ ?_ hc3 ?_)
  · rw [lw_of hd0 hd1 hd2 hd3]
    simp only [go_sem, Nat.reduceAdd, Nat.reduceSub, Nat.reduceLeDiff, Nat.reduceMul, Nat.reduceLT, Nat.reduceEqDiff, Int.reduceLT, Int.reduceLE, Int.reduceAdd, Int.reduceSub, Int.reduceMul, Int.reduceToNat, reduceIte, reduceCtorEq, Nat.reduceBEq, rr91, ren, rens, u]
  · omega
  · rw [eA hA, eB hB]; omega
theorem mul64 (x y : Nat) (hx : x < 18446744073709551616) (hy : y < 18446744073709551616) {Q : V → Heap → Prop} (hQ : ∀ hi lo : Nat, hi < 18446744073709551616 → lo < 18446744073709551616 → x * y = 18446744073709551616 * hi + lo → Q (.tup [.int .u64 (hi : Int), .int .u64 (lo : Int)]) []) : VCall Tryd.prog G 89 [.int .u64 (x : Int), .int .u64 (y : Int)] [] Q := by
  refine vcall_body Tryd.func89 nm89 code89 nt89 ?_
  refine run_drive 100 ?_
  simp only [go_sem, Nat.reduceAdd, Nat.reduceSub, Nat.reduceLeDiff, Nat.reduceMul, Nat.reduceLT, Nat.reduceEqDiff, Int.reduceLT, Int.reduceLE, Int.reduceAdd, Int.reduceSub, Int.reduceMul, Int.reduceToNat, reduceIte, reduceCtorEq, Nat.reduceBEq, v89_0, v89_1, v89_2, v89_3, v89_4, v89_5, v89_6, v89_7, v89_8, v89_9, v89_10, v89_11, v89]
  refine run_ret' Tryd.func89 res89 ?_
  simp only [go_sem, Nat.reduceAdd, Nat.reduceSub, Nat.reduceLeDiff, Nat.reduceMul, Nat.reduceLT, Nat.reduceEqDiff, Int.reduceLT, Int.reduceLE, Int.reduceAdd, Int.reduceSub, Int.reduceMul, Int.reduceToNat, reduceIte, reduceCtorEq, Nat.reduceBEq, rr89]
  exact hQ _ _ (Nat.mod_lt _ (by decide)) (Nat.mod_lt _ (by decide)) (mul64_law x y hx hy)
noncomputable def add64E : Array Value → Sem Value := (Extern.find Tryd.f90).getD fun _ => Pure.pure undef
theorem add64E_run (P : Program) (x y b : Nat) (hb : b ≤ 1) (w : World) : (add64E #[.int .u64 x, .int .u64 y, .int .u64 b]).run P w =
      .ok (.tuple #[.int .u64 (((x + y + b) % 18446744073709551616 : Nat) : Int), .int .u64 (((x + y + b) / 18446744073709551616 : Nat) : Int)]) w := by
  have : b = 0 ∨ b = 1 := by omega
  rcases this with rfl | rfl <;> rfl
theorem add64 (x y c : Nat) (ci : Int) (hci : ci = (c : Int)) (hc : c ≤ 1) (hx : x < 18446744073709551616) (hy : y < 18446744073709551616) {h : Heap} {R : V → Heap → Prop} (hq : ∀ d b : Nat, d < 18446744073709551616 → b ≤ 1 → x + y + c = 18446744073709551616 * b + d → R (.tup [.int .u64 (d : Int), .int .u64 (b : Int)]) h) : VCall Tryd.prog G 90 [.int .u64 (x : Int), .int .u64 (y : Int), .int .u64 ci] h R := by
  subst hci
  refine vcall_plain (vcall_value (v := .tup [u ((x + y + c) % 18446744073709551616), u ((x + y + c) / 18446744073709551616)]) [.int .u64 x, .int .u64 y, .int .u64 c] (.tuple #[.int .u64 ((x + y + c) % 18446744073709551616 : Nat), .int .u64 (((x + y + c) / 18446744073709551616 : Nat) : Int)]) (by simp only [concs, conc, Option.bind_some, Option.map_some]) (by simp only [u, concs, conc, Option.bind_some, Option.map_some]) fun w => ?_) (fun g => by simp only [rens, ren]) (fun v g hv => ?_) fun v hv => ?_
  · rw [run_callFunc_extern Tryd.func90 (by kernel_rfl) (by kernel_rfl) (by kernel_rfl) (e := add64E) (by kernel_rfl)]
    rw [show (([.int .u64 x, .int .u64 y, .int .u64 c] : List Value).toArray) = #[.int .u64 (x : Int), .int .u64 (y : Int), .int .u64 (c : Int)] from rfl, add64E_run _ x y c hc]
    rfl
  · subst hv; simp only [u, rens, ren]
  · subst hv
    exact hq _ _ (Nat.mod_lt _ (by decide)) (by omega) (by omega)
theorem mul64' (x y : Nat) (hx : x < 18446744073709551616) (hy : y < 18446744073709551616) {h : Heap} {R : V → Heap → Prop} (hQ : ∀ hi lo : Nat, hi < 18446744073709551616 → lo < 18446744073709551616 → x * y = 18446744073709551616 * hi + lo → R (.tup [.int .u64 (hi : Int), .int .u64 (lo : Int)]) h) : VCall Tryd.prog G 89 [.int .u64 (x : Int), .int .u64 (y : Int)] h R := by
  refine vcall_plain (Q := fun v => ∃ hi lo : Nat, hi < 18446744073709551616 ∧ lo < 18446744073709551616 ∧ x * y = 18446744073709551616 * hi + lo ∧ v = .tup [.int .u64 (hi : Int), .int .u64 (lo : Int)]) (mul64 x y hx hy fun hi lo h1 h2 h3 => ⟨⟨hi, lo, h1, h2, h3, rfl⟩, rfl⟩) (fun g => by simp only [rens, ren]) ?_ ?_
  · rintro v g ⟨hi, lo, _, _, _, rfl⟩; simp only [rens, ren]
  · rintro v ⟨hi, lo, h1, h2, h3, rfl⟩; exact hQ hi lo h1 h2 h3
theorem into (x y z c : Nat) (hx : x < 18446744073709551616) (hy : y < 18446744073709551616) (hz : z < 18446744073709551616) (hc : c < 18446744073709551616) {Q : V → Heap → Prop} (hQ : ∀ lo hi : Nat, lo < 18446744073709551616 → hi < 18446744073709551616 → x * y + z + c = 18446744073709551616 * hi + lo → Q (.tup [.int .u64 (lo : Int), .int .u64 (hi : Int)]) []) :
    VCall Tryd.prog G 93 [.int .u64 (x : Int), .int .u64 (y : Int), .int .u64 (z : Int), .int .u64 (c : Int)] [] Q := by
  refine vcall_body Tryd.func93 nm93 code93 nt93 ?_
  refine run_drive 100 ?_
  simp only [go_sem, Nat.reduceAdd, Nat.reduceSub, Nat.reduceLeDiff, Nat.reduceMul, Nat.reduceLT, Nat.reduceEqDiff, Int.reduceLT, Int.reduceLE, Int.reduceAdd, Int.reduceSub, Int.reduceMul, Int.reduceToNat, reduceIte, reduceCtorEq, Nat.reduceBEq, v93_0, v93_1, v93_2, v93_3, v93_4, v93_5, v93]
  refine run_call' rfl ?_
  simp only [go_sem, Nat.reduceAdd, Nat.reduceSub, Nat.reduceLeDiff, Nat.reduceMul, Nat.reduceLT, Nat.reduceEqDiff, Int.reduceLT, Int.reduceLE, Int.reduceAdd, Int.reduceSub, Int.reduceMul, Int.reduceToNat, reduceIte, reduceCtorEq, Nat.reduceBEq, calV]
  refine mul64' _ _ hx hy ?_
  intro h1 l1 hh1 hl1 e1
  refine run_drive 100 ?_
  simp only [go_sem, Nat.reduceAdd, Nat.reduceSub, Nat.reduceLeDiff, Nat.reduceMul, Nat.reduceLT, Nat.reduceEqDiff, Int.reduceLT, Int.reduceLE, Int.reduceAdd, Int.reduceSub, Int.reduceMul, Int.reduceToNat, reduceIte, reduceCtorEq, Nat.reduceBEq]
  refine run_call' rfl ?_
  simp only [go_sem, Nat.reduceAdd, Nat.reduceSub, Nat.reduceLeDiff, Nat.reduceMul, Nat.reduceLT, Nat.reduceEqDiff, Int.reduceLT, Int.reduceLE, Int.reduceAdd, Int.reduceSub, Int.reduceMul, Int.reduceToNat, reduceIte, reduceCtorEq, Nat.reduceBEq, calV]
  refine add64 _ _ 0 _ rfl (by decide) hl1 hz ?_
  intro l2 k2 hl2 hk2 e2
  refine run_drive 100 ?_
  simp only [go_sem, Nat.reduceAdd, Nat.reduceSub, Nat.reduceLeDiff, Nat.reduceMul, Nat.reduceLT, Nat.reduceEqDiff, Int.reduceLT, Int.reduceLE, Int.reduceAdd, Int.reduceSub, Int.reduceMul, Int.reduceToNat, reduceIte, reduceCtorEq, Nat.reduceBEq]
  refine run_call' rfl ?_
  simp only [go_sem, Nat.reduceAdd, Nat.reduceSub, Nat.reduceLeDiff, Nat.reduceMul, Nat.reduceLT, Nat.reduceEqDiff, Int.reduceLT, Int.reduceLE, Int.reduceAdd, Int.reduceSub, Int.reduceMul, Int.reduceToNat, reduceIte, reduceCtorEq, Nat.reduceBEq, calV]
  refine add64 _ _ 0 _ rfl (by decide) hl2 hc ?_
  intro l3 k3 hl3 hk3 e3
  refine run_drive 100 ?_
  simp only [go_sem, Nat.reduceAdd, Nat.reduceSub, Nat.reduceLeDiff, Nat.reduceMul, Nat.reduceLT, Nat.reduceEqDiff, Int.reduceLT, Int.reduceLE, Int.reduceAdd, Int.reduceSub, Int.reduceMul, Int.reduceToNat, reduceIte, reduceCtorEq, Nat.reduceBEq]
  refine run_ret' Tryd.func93 res93 ?_
  simp only [go_sem, Nat.reduceAdd, Nat.reduceSub, Nat.reduceLeDiff, Nat.reduceMul, Nat.reduceLT, Nat.reduceEqDiff, Int.reduceLT, Int.reduceLE, Int.reduceAdd, Int.reduceSub, Int.reduceMul, Int.reduceToNat, reduceIte, reduceCtorEq, Nat.reduceBEq, rr93]
  have hb : x * y ≤ 18446744073709551615 * 18446744073709551615 := Nat.mul_le_mul (by omega) (by omega)
  generalize x * y = p at *
  refine hQ _ _ hl3 (Nat.mod_lt _ (by decide)) ?_
  simp only [w64]
  omega
theorem into' (x y z c : Nat) (hx : x < 18446744073709551616) (hy : y < 18446744073709551616) (hz : z < 18446744073709551616) (hc : c < 18446744073709551616) (ci : Int) (hci : ci = (c : Int)) (zi : Int) (hzi : zi = (z : Int)) {h : Heap} {R : V → Heap → Prop} (hQ : ∀ lo hi : Nat, lo < 18446744073709551616 → hi < 18446744073709551616 → x * y + z + c = 18446744073709551616 * hi + lo → R (.tup [.int .u64 (lo : Int), .int .u64 (hi : Int)]) h) :
    VCall Tryd.prog G 93 [.int .u64 (x : Int), .int .u64 (y : Int), .int .u64 zi, .int .u64 ci] h R := by
  subst hci; subst hzi
  refine vcall_plain (Q := fun v => ∃ lo hi : Nat, lo < 18446744073709551616 ∧ hi < 18446744073709551616 ∧ x * y + z + c = 18446744073709551616 * hi + lo ∧ v = .tup [.int .u64 (lo : Int), .int .u64 (hi : Int)]) (into x y z c hx hy hz hc fun lo hi h1 h2 h3 => ⟨⟨lo, hi, h1, h2, h3, rfl⟩, rfl⟩) (fun g => by simp only [rens, ren]) ?_ ?_
  · rintro v g ⟨hi, lo, _, _, _, rfl⟩; simp only [rens, ren]
  · rintro v ⟨hi, lo, h1, h2, h3, rfl⟩; exact hQ hi lo h1 h2 h3
theorem minus' (A B : Nat) (hA : A < 115792089237316195423570985008687907853269984665640564039457584007913129639936) (hB : B < 115792089237316195423570985008687907853269984665640564039457584007913129639936) {h : Heap} {R : V → Heap → Prop}
    (hQ : ∀ D b : Nat, D < 115792089237316195423570985008687907853269984665640564039457584007913129639936 → b ≤ 1 → A + 115792089237316195423570985008687907853269984665640564039457584007913129639936 * b = B + D → R (.tup [lw D, u b]) h) : VCall Tryd.prog G 91 [lw A, lw B] h R := by
  refine vcall_plain (Q := fun v => ∃ D b : Nat, D < 115792089237316195423570985008687907853269984665640564039457584007913129639936 ∧ b ≤ 1 ∧ A + 115792089237316195423570985008687907853269984665640564039457584007913129639936 * b = B + D ∧ v = .tup [lw D, u b]) (minus A B hA hB _ fun D b h1 h2 h3 => ⟨⟨D, b, h1, h2, h3, rfl⟩, rfl⟩) (fun g => by simp only [rens, ren, lw, lc, u]) ?_ ?_
  · rintro v g ⟨hi, lo, _, _, _, rfl⟩; simp only [rens, ren, lw, lc, u]
  · rintro v ⟨hi, lo, h1, h2, h3, rfl⟩; exact hQ hi lo h1 h2 h3
end
section
attribute [local go_sem] Option.isSome_some Option.isSome_none Kind.m Kind.w Kind.g look_ro look_rw look_grow lenO drive stepV exo expo evs fillV isNil nilKind eqV eqL optA optM sliceAtV ev kn V.known V.one ldc stc splice cellsOf asK asN asB asS asG asT appV srcV lenV setd wantV exitV rvs rv one List.length_cons List.length_nil List.cons_append List.nil_append List.append_nil List.replicate List.getD_cons_zero List.getD_cons_succ List.set_cons_zero List.set_cons_succ List.getElem?_cons_zero List.getElem?_cons_succ List.getElem?_nil List.take_succ_cons List.take_zero List.take_nil List.drop_succ_cons List.drop_zero List.drop_nil List.all_cons List.all_nil List.any_cons List.any_nil Bool.and_true Bool.true_and Bool.and_self Option.map_some Option.map_none Option.bind_some Option.some.injEq Nat.add_zero Nat.zero_add Int.toNat_zero Int.toNat_one Int.zero_add Int.add_zero if_true if_false ite_true ite_false and_true true_and and_self ne_eq not_false_eq_true not_true_eq_false decide_true decide_false Bool.false_eq_true Bool.not_true Bool.not_false beq_self_eq_true BEq.rfl Bool.not_eq_true Nat.le_refl Int.le_refl Nat.zero_le List.foldl List.map_cons List.map_nil Prod.mk.injEq Int.cast_ofNat_Int Int.zero_le_ofNat b_add_cc b_add_cl b_add_lc b_mul_cc b_mul_cl b_mul_lc b_sub_cc b_sub_cl b_sub_lc b_and_cc b_and_cl b_and_lc b_or_cc b_or_cl b_or_lc b_xor_cc b_xor_cl b_xor_lc b_andNot_cc b_andNot_cl b_andNot_lc b_shr_cc b_shr_cl b_shr_lc b_shl_cc b_shl_cl b_shl_lc b_lss b_leq b_gtr b_geq b_add_i b_sub_i b_mul_i beq_cc beq_cl beq_lc beq_ll b_quo_i b_rem_i neg_u64 wrap_i64 driveD stepD idsAt idOf maskH_nil restore_nil restore_mask List.filterMap_nil List.filterMap_cons VOp.looks VOp.makes exA
theorem lw_plain (n : Nat) (g : Nat → Nat) : ren g (lw n) = lw n := by simp only [rens, ren, lw, lc, u]
@[simp] theorem lc_len (n : Nat) : (lc n).length = 4 := rfl
theorem lc_take (n : Nat) : (lc n).take 4 = lc n := rfl
theorem lc_drop (n : Nat) : (lc n).drop 4 = [] := rfl
theorem lc_known (n : Nat) : (lc n).all V.known = true := rfl
theorem lc_one (n : Nat) : (lc n).all V.one = true := rfl
theorem lc_rens (n : Nat) (g : Nat → Nat) : rens g (lc n) = lc n := by simp only [rens, ren, lc, u]
theorem lc_cells (n : Nat) : cellsOf (lw n) = lc n := rfl
theorem lw_known (n : Nat) : (lw n).known = true := rfl
theorem lw_asG (n : Nat) : asG (lw n) = some (lc n) := rfl
theorem lw_agg (n : Nat) : V.agg (lc n) = lw n := rfl
theorem lc_zero : [V.int .u64 (nl 0), V.int .u64 (nl 0), V.int .u64 (nl 0), V.int .u64 (nl 0)] = lc 0 := rfl
theorem lc_fit (g : Nat → Nat) (n : Nat) : fit g (lc n) (lc n) := by simp only [fit, lc, u, ren, or_true, and_self]
set_option maxRecDepth 100000
set_option maxHeartbeats 1000000
theorem plus (A B : Nat) (hA : A < 115792089237316195423570985008687907853269984665640564039457584007913129639936) (hB : B < 115792089237316195423570985008687907853269984665640564039457584007913129639936) (Q : V → Heap → Prop)
    (hQ : ∀ D b : Nat, D < 115792089237316195423570985008687907853269984665640564039457584007913129639936 → b ≤ 1 → A + B = 115792089237316195423570985008687907853269984665640564039457584007913129639936 * b + D → Q (.tup [lw D, u b]) []) : VCall Tryd.prog G 65 [lw A, lw B] [] Q := by
  refine vcall_body Tryd.func65 nm65 code65 nt65 ?_
  obtain ⟨a0, a1, a2, a3, ha0, ha1, ha2, ha3, ea, eA⟩ := limbs A
  obtain ⟨b0, b1, b2, b3, hb0, hb1, hb2, hb3, eb, eB⟩ := limbs B
  rw [ea, eb]
  refine run_drive 40 ?_
  simp only [go_sem, Nat.reduceAdd, Nat.reduceSub, Nat.reduceLeDiff, Nat.reduceMul, Nat.reduceLT, Nat.reduceEqDiff, Int.reduceLT, Int.reduceLE, Int.reduceAdd, Int.reduceSub, Int.reduceMul, Int.reduceToNat, reduceIte, reduceCtorEq, Nat.reduceBEq, v65, v65_0, v65_1, v65_2, v65_3, v65_10]
  refine run_loop ?_
  refine run_drive 40 ?_
  simp only [go_sem, Nat.reduceAdd, Nat.reduceSub, Nat.reduceLeDiff, Nat.reduceMul, Nat.reduceLT, Nat.reduceEqDiff, Int.reduceLT, Int.reduceLE, Int.reduceAdd, Int.reduceSub, Int.reduceMul, Int.reduceToNat, reduceIte, reduceCtorEq, Nat.reduceBEq, v65_9, v65_4, v65_5, v65_7]
  refine run_drw (by kernel_rfl) ?_
  refine drun_drive 20 (p := (_, _)) ?_
  simp only [go_sem, Nat.reduceAdd, Nat.reduceSub, Nat.reduceLeDiff, Nat.reduceMul, Nat.reduceLT, Nat.reduceEqDiff, Int.reduceLT, Int.reduceLE, Int.reduceAdd, Int.reduceSub, Int.reduceMul, Int.reduceToNat, reduceIte, reduceCtorEq, Nat.reduceBEq, v65_6]
  refine drun_call' ?_
  simp only [go_sem, Nat.reduceAdd, Nat.reduceSub, Nat.reduceLeDiff, Nat.reduceMul, Nat.reduceLT, Nat.reduceEqDiff, Int.reduceLT, Int.reduceLE, Int.reduceAdd, Int.reduceSub, Int.reduceMul, Int.reduceToNat, reduceIte, reduceCtorEq, Nat.reduceBEq, calV]
  refine add64 _ _ _ _ (by first | exact Int.natCast_zero.symm | rfl) (by first | decide | assumption) (by assumption) (by assumption) ?_
  intro d0 c0 hd0 hc0 he0
  refine drun_drive 20 (p := (_, _)) ?_
  simp only [go_sem, Nat.reduceAdd, Nat.reduceSub, Nat.reduceLeDiff, Nat.reduceMul, Nat.reduceLT, Nat.reduceEqDiff, Int.reduceLT, Int.reduceLE, Int.reduceAdd, Int.reduceSub, Int.reduceMul, Int.reduceToNat, reduceIte, reduceCtorEq, Nat.reduceBEq]
  refine drun_end ?_
  refine run_drive 40 ?_
  simp only [go_sem, Nat.reduceAdd, Nat.reduceSub, Nat.reduceLeDiff, Nat.reduceMul, Nat.reduceLT, Nat.reduceEqDiff, Int.reduceLT, Int.reduceLE, Int.reduceAdd, Int.reduceSub, Int.reduceMul, Int.reduceToNat, reduceIte, reduceCtorEq, Nat.reduceBEq, v65_8]
  refine run_loop ?_
  refine run_drive 40 ?_
  simp only [go_sem, Nat.reduceAdd, Nat.reduceSub, Nat.reduceLeDiff, Nat.reduceMul, Nat.reduceLT, Nat.reduceEqDiff, Int.reduceLT, Int.reduceLE, Int.reduceAdd, Int.reduceSub, Int.reduceMul, Int.reduceToNat, reduceIte, reduceCtorEq, Nat.reduceBEq, v65_9, v65_4, v65_5, v65_7]
  refine run_drw (by kernel_rfl) ?_
  refine drun_drive 20 (p := (_, _)) ?_
  simp only [go_sem, Nat.reduceAdd, Nat.reduceSub, Nat.reduceLeDiff, Nat.reduceMul, Nat.reduceLT, Nat.reduceEqDiff, Int.reduceLT, Int.reduceLE, Int.reduceAdd, Int.reduceSub, Int.reduceMul, Int.reduceToNat, reduceIte, reduceCtorEq, Nat.reduceBEq, v65_6]
  refine drun_call' ?_
  simp only [go_sem, Nat.reduceAdd, Nat.reduceSub, Nat.reduceLeDiff, Nat.reduceMul, Nat.reduceLT, Nat.reduceEqDiff, Int.reduceLT, Int.reduceLE, Int.reduceAdd, Int.reduceSub, Int.reduceMul, Int.reduceToNat, reduceIte, reduceCtorEq, Nat.reduceBEq, calV]
  refine add64 _ _ _ _ (by first | exact Int.natCast_zero.symm | rfl) (by first | decide | assumption) (by assumption) (by assumption) ?_
  intro d1 c1 hd1 hc1 he1
  refine drun_drive 20 (p := (_, _)) ?_
  simp only [go_sem, Nat.reduceAdd, Nat.reduceSub, Nat.reduceLeDiff, Nat.reduceMul, Nat.reduceLT, Nat.reduceEqDiff, Int.reduceLT, Int.reduceLE, Int.reduceAdd, Int.reduceSub, Int.reduceMul, Int.reduceToNat, reduceIte, reduceCtorEq, Nat.reduceBEq]
  refine drun_end ?_
  refine run_drive 40 ?_
  simp only [go_sem, Nat.reduceAdd, Nat.reduceSub, Nat.reduceLeDiff, Nat.reduceMul, Nat.reduceLT, Nat.reduceEqDiff, Int.reduceLT, Int.reduceLE, Int.reduceAdd, Int.reduceSub, Int.reduceMul, Int.reduceToNat, reduceIte, reduceCtorEq, Nat.reduceBEq, v65_8]
  refine run_loop ?_
  refine run_drive 40 ?_
  simp only [go_sem, Nat.reduceAdd, Nat.reduceSub, Nat.reduceLeDiff, Nat.reduceMul, Nat.reduceLT, Nat.reduceEqDiff, Int.reduceLT, Int.reduceLE, Int.reduceAdd, Int.reduceSub, Int.reduceMul, Int.reduceToNat, reduceIte, reduceCtorEq, Nat.reduceBEq, v65_9, v65_4, v65_5, v65_7]
  refine run_drw (by kernel_rfl) ?_
  refine drun_drive 20 (p := (_, _)) ?_
  simp only [go_sem, Nat.reduceAdd, Nat.reduceSub, Nat.reduceLeDiff, Nat.reduceMul, Nat.reduceLT, Nat.reduceEqDiff, Int.reduceLT, Int.reduceLE, Int.reduceAdd, Int.reduceSub, Int.reduceMul, Int.reduceToNat, reduceIte, reduceCtorEq, Nat.reduceBEq, v65_6]
  refine drun_call' ?_
  simp only [go_sem, Nat.reduceAdd, Nat.reduceSub, Nat.reduceLeDiff, Nat.reduceMul, Nat.reduceLT, Nat.reduceEqDiff, Int.reduceLT, Int.reduceLE, Int.reduceAdd, Int.reduceSub, Int.reduceMul, Int.reduceToNat, reduceIte, reduceCtorEq, Nat.reduceBEq, calV]
  refine add64 _ _ _ _ (by first | exact Int.natCast_zero.symm | rfl) (by first | decide | assumption) (by assumption) (by assumption) ?_
  intro d2 c2 hd2 hc2 he2
  refine drun_drive 20 (p := (_, _)) ?_
  simp only [go_sem, Nat.reduceAdd, Nat.reduceSub, Nat.reduceLeDiff, Nat.reduceMul, Nat.reduceLT, Nat.reduceEqDiff, Int.reduceLT, Int.reduceLE, Int.reduceAdd, Int.reduceSub, Int.reduceMul, Int.reduceToNat, reduceIte, reduceCtorEq, Nat.reduceBEq]
  refine drun_end ?_
  refine run_drive 40 ?_
  simp only [go_sem, Nat.reduceAdd, Nat.reduceSub, Nat.reduceLeDiff, Nat.reduceMul, Nat.reduceLT, Nat.reduceEqDiff, Int.reduceLT, Int.reduceLE, Int.reduceAdd, Int.reduceSub, Int.reduceMul, Int.reduceToNat, reduceIte, reduceCtorEq, Nat.reduceBEq, v65_8]
  refine run_loop ?_
  refine run_drive 40 ?_
  simp only [go_sem, Nat.reduceAdd, Nat.reduceSub, Nat.reduceLeDiff, Nat.reduceMul, Nat.reduceLT, Nat.reduceEqDiff, Int.reduceLT, Int.reduceLE, Int.reduceAdd, Int.reduceSub, Int.reduceMul, Int.reduceToNat, reduceIte, reduceCtorEq, Nat.reduceBEq, v65_9, v65_4, v65_5, v65_7]
  refine run_drw (by kernel_rfl) ?_
  refine drun_drive 20 (p := (_, _)) ?_
  simp only [go_sem, Nat.reduceAdd, Nat.reduceSub, Nat.reduceLeDiff, Nat.reduceMul, Nat.reduceLT, Nat.reduceEqDiff, Int.reduceLT, Int.reduceLE, Int.reduceAdd, Int.reduceSub, Int.reduceMul, Int.reduceToNat, reduceIte, reduceCtorEq, Nat.reduceBEq, v65_6]
  refine drun_call' ?_
  simp only [go_sem, Nat.reduceAdd, Nat.reduceSub, Nat.reduceLeDiff, Nat.reduceMul, Nat.reduceLT, Nat.reduceEqDiff, Int.reduceLT, Int.reduceLE, Int.reduceAdd, Int.reduceSub, Int.reduceMul, Int.reduceToNat, reduceIte, reduceCtorEq, Nat.reduceBEq, calV]
  refine add64 _ _ _ _ (by first | exact Int.natCast_zero.symm | rfl) (by first | decide | assumption) (by assumption) (by assumption) ?_
  intro d3 c3 hd3 hc3 he3
  refine drun_drive 20 (p := (_, _)) ?_
  simp only [go_sem, Nat.reduceAdd, Nat.reduceSub, Nat.reduceLeDiff, Nat.reduceMul, Nat.reduceLT, Nat.reduceEqDiff, Int.reduceLT, Int.reduceLE, Int.reduceAdd, Int.reduceSub, Int.reduceMul, Int.reduceToNat, reduceIte, reduceCtorEq, Nat.reduceBEq]
  refine drun_end ?_
  refine run_drive 40 ?_
  simp only [go_sem, Nat.reduceAdd, Nat.reduceSub, Nat.reduceLeDiff, Nat.reduceMul, Nat.reduceLT, Nat.reduceEqDiff, Int.reduceLT, Int.reduceLE, Int.reduceAdd, Int.reduceSub, Int.reduceMul, Int.reduceToNat, reduceIte, reduceCtorEq, Nat.reduceBEq, v65_8]
  refine run_loop ?_
  refine run_drive 40 ?_
  simp only [go_sem, Nat.reduceAdd, Nat.reduceSub, Nat.reduceLeDiff, Nat.reduceMul, Nat.reduceLT, Nat.reduceEqDiff, Int.reduceLT, Int.reduceLE, Int.reduceAdd, Int.reduceSub, Int.reduceMul, Int.reduceToNat, reduceIte, reduceCtorEq, Nat.reduceBEq, v65_9, v65_4, v65_11]
  refine run_ret_drop Tryd.func65 res65 [] (.tup [lw (d0 + 18446744073709551616 * d1 + 340282366920938463463374607431768211456 * d2 + 6277101735386680763835789423207666416102355444464034512896 * d3), u c3]) [] rfl (by simp) trivial (by simp [uniq]) ?_ (hQ _ _ ?_ hc3 ?_)
  · rw [lw_of hd0 hd1 hd2 hd3]
    simp only [go_sem, Nat.reduceAdd, Nat.reduceSub, Nat.reduceLeDiff, Nat.reduceMul, Nat.reduceLT, Nat.reduceEqDiff, Int.reduceLT, Int.reduceLE, Int.reduceAdd, Int.reduceSub, Int.reduceMul, Int.reduceToNat, reduceIte, reduceCtorEq, Nat.reduceBEq, rr65, ren, rens, u]
  · omega
  · rw [eA hA, eB hB]; omega
theorem choose (m : Bool) (A B : Nat) (mi : Int) (hm : mi = (if m = true then 18446744073709551615 else 0 : Nat)) (Q : V → Heap → Prop) (hQ : Q (if m = true then lw A else lw B) []) : VCall Tryd.prog G 92 [.int .u64 mi, lw A, lw B] [] Q := by
  subst hm
  refine vcall_body Tryd.func92 nm92 code92 nt92 ?_
  obtain ⟨a0, a1, a2, a3, ha0, ha1, ha2, ha3, ea, eA⟩ := limbs A
  obtain ⟨b0, b1, b2, b3, hb0, hb1, hb2, hb3, eb, eB⟩ := limbs B
  rw [ea, eb]
  generalize hk : (if m = true then 18446744073709551615 else 0 : Nat) = k
  refine run_drive 40 ?_
  simp only [go_sem, Nat.reduceAdd, Nat.reduceSub, Nat.reduceLeDiff, Nat.reduceMul, Nat.reduceLT, Nat.reduceEqDiff, Int.reduceLT, Int.reduceLE, Int.reduceAdd, Int.reduceSub, Int.reduceMul, Int.reduceToNat, reduceIte, reduceCtorEq, Nat.reduceBEq, v92, v92_0, v92_1, v92_8]
  refine run_loop ?_
  refine run_drive 40 ?_
  simp only [go_sem, Nat.reduceAdd, Nat.reduceSub, Nat.reduceLeDiff, Nat.reduceMul, Nat.reduceLT, Nat.reduceEqDiff, Int.reduceLT, Int.reduceLE, Int.reduceAdd, Int.reduceSub, Int.reduceMul, Int.reduceToNat, reduceIte, reduceCtorEq, Nat.reduceBEq, v92_7, v92_2, v92_3, v92_5]
  refine run_drw (by kernel_rfl) ?_
  refine drun_drive 20 (p := (_, _)) ?_
  simp only [go_sem, Nat.reduceAdd, Nat.reduceSub, Nat.reduceLeDiff, Nat.reduceMul, Nat.reduceLT, Nat.reduceEqDiff, Int.reduceLT, Int.reduceLE, Int.reduceAdd, Int.reduceSub, Int.reduceMul, Int.reduceToNat, reduceIte, reduceCtorEq, Nat.reduceBEq, v92_4]
  refine drun_end ?_
  refine run_drive 40 ?_
  simp only [go_sem, Nat.reduceAdd, Nat.reduceSub, Nat.reduceLeDiff, Nat.reduceMul, Nat.reduceLT, Nat.reduceEqDiff, Int.reduceLT, Int.reduceLE, Int.reduceAdd, Int.reduceSub, Int.reduceMul, Int.reduceToNat, reduceIte, reduceCtorEq, Nat.reduceBEq, v92_6]
  refine run_loop ?_
  refine run_drive 40 ?_
  simp only [go_sem, Nat.reduceAdd, Nat.reduceSub, Nat.reduceLeDiff, Nat.reduceMul, Nat.reduceLT, Nat.reduceEqDiff, Int.reduceLT, Int.reduceLE, Int.reduceAdd, Int.reduceSub, Int.reduceMul, Int.reduceToNat, reduceIte, reduceCtorEq, Nat.reduceBEq, v92_7, v92_2, v92_3, v92_5]
  refine run_drw (by kernel_rfl) ?_
  refine drun_drive 20 (p := (_, _)) ?_
  simp only [go_sem, Nat.reduceAdd, Nat.reduceSub, Nat.reduceLeDiff, Nat.reduceMul, Nat.reduceLT, Nat.reduceEqDiff, Int.reduceLT, Int.reduceLE, Int.reduceAdd, Int.reduceSub, Int.reduceMul, Int.reduceToNat, reduceIte, reduceCtorEq, Nat.reduceBEq, v92_4]
  refine drun_end ?_
  refine run_drive 40 ?_
  simp only [go_sem, Nat.reduceAdd, Nat.reduceSub, Nat.reduceLeDiff, Nat.reduceMul, Nat.reduceLT, Nat.reduceEqDiff, Int.reduceLT, Int.reduceLE, Int.reduceAdd, Int.reduceSub, Int.reduceMul, Int.reduceToNat, reduceIte, reduceCtorEq, Nat.reduceBEq, v92_6]
  refine run_loop ?_
  refine run_drive 40 ?_
  simp only [go_sem, Nat.reduceAdd, Nat.reduceSub, Nat.reduceLeDiff, Nat.reduceMul, Nat.reduceLT, Nat.reduceEqDiff, Int.reduceLT, Int.reduceLE, Int.reduceAdd, Int.reduceSub, Int.reduceMul, Int.reduceToNat, reduceIte, reduceCtorEq, Nat.reduceBEq, v92_7, v92_2, v92_3, v92_5]
  refine run_drw (by kernel_rfl) ?_
  refine drun_drive 20 (p := (_, _)) ?_
  simp only [go_sem, Nat.reduceAdd, Nat.reduceSub, Nat.reduceLeDiff, Nat.reduceMul, Nat.reduceLT, Nat.reduceEqDiff, Int.reduceLT, Int.reduceLE, Int.reduceAdd, Int.reduceSub, Int.reduceMul, Int.reduceToNat, reduceIte, reduceCtorEq, Nat.reduceBEq, v92_4]
  refine drun_end ?_
  refine run_drive 40 ?_
  simp only [go_sem, Nat.reduceAdd, Nat.reduceSub, Nat.reduceLeDiff, Nat.reduceMul, Nat.reduceLT, Nat.reduceEqDiff, Int.reduceLT, Int.reduceLE, Int.reduceAdd, Int.reduceSub, Int.reduceMul, Int.reduceToNat, reduceIte, reduceCtorEq, Nat.reduceBEq, v92_6]
  refine run_loop ?_
  refine run_drive 40 ?_
  simp only [go_sem, Nat.reduceAdd, Nat.reduceSub, Nat.reduceLeDiff, Nat.reduceMul, Nat.reduceLT, Nat.reduceEqDiff, Int.reduceLT, Int.reduceLE, Int.reduceAdd, Int.reduceSub, Int.reduceMul, Int.reduceToNat, reduceIte, reduceCtorEq, Nat.reduceBEq, v92_7, v92_2, v92_3, v92_5]
  refine run_drw (by kernel_rfl) ?_
  refine drun_drive 20 (p := (_, _)) ?_
  simp only [go_sem, Nat.reduceAdd, Nat.reduceSub, Nat.reduceLeDiff, Nat.reduceMul, Nat.reduceLT, Nat.reduceEqDiff, Int.reduceLT, Int.reduceLE, Int.reduceAdd, Int.reduceSub, Int.reduceMul, Int.reduceToNat, reduceIte, reduceCtorEq, Nat.reduceBEq, v92_4]
  refine drun_end ?_
  refine run_drive 40 ?_
  simp only [go_sem, Nat.reduceAdd, Nat.reduceSub, Nat.reduceLeDiff, Nat.reduceMul, Nat.reduceLT, Nat.reduceEqDiff, Int.reduceLT, Int.reduceLE, Int.reduceAdd, Int.reduceSub, Int.reduceMul, Int.reduceToNat, reduceIte, reduceCtorEq, Nat.reduceBEq, v92_6]
  refine run_loop ?_
  refine run_drive 40 ?_
  simp only [go_sem, Nat.reduceAdd, Nat.reduceSub, Nat.reduceLeDiff, Nat.reduceMul, Nat.reduceLT, Nat.reduceEqDiff, Int.reduceLT, Int.reduceLE, Int.reduceAdd, Int.reduceSub, Int.reduceMul, Int.reduceToNat, reduceIte, reduceCtorEq, Nat.reduceBEq, v92_7, v92_2, v92_9]
  have key : ∀ a b : Nat, a < 18446744073709551616 → b < 18446744073709551616 → o64 (a64 a k) (n64 b k) = if m = true then a else b := by
    intro a b ha hb
    subst hk
    unfold o64 a64 n64
    rw [Nat.mod_eq_of_lt ha, Nat.mod_eq_of_lt hb]
    cases m
    · simp only [Bool.false_eq_true, if_false]
      rw [Nat.zero_mod, Nat.and_zero, Nat.zero_mod, Nat.zero_or, Nat.sub_zero, show (18446744073709551615 : Nat) = 2 ^ 64 - 1 from rfl, Nat.and_two_pow_sub_one_eq_mod]
      omega
    · simp only [if_true]
      rw [show 18446744073709551615 - 18446744073709551615 % 18446744073709551616 = 0 from rfl, Nat.and_zero, Nat.zero_mod, Nat.or_zero, show 18446744073709551615 % 18446744073709551616 = 2 ^ 64 - 1 from rfl, Nat.and_two_pow_sub_one_eq_mod]
      omega
  refine run_ret_drop Tryd.func92 res92 [] (if m = true then lw A else lw B) [] rfl (by simp) trivial (by simp [uniq]) ?_ hQ
  simp only [go_sem, Nat.reduceAdd, Nat.reduceSub, Nat.reduceLeDiff, Nat.reduceMul, Nat.reduceLT, Nat.reduceEqDiff, Int.reduceLT, Int.reduceLE, Int.reduceAdd, Int.reduceSub, Int.reduceMul, Int.reduceToNat, reduceIte, reduceCtorEq, Nat.reduceBEq, rr92, key _ _ ha0 hb0, key _ _ ha1 hb1, key _ _ ha2 hb2, key _ _ ha3 hb3]
  cases m <;> simp only [Bool.false_eq_true, if_false, if_true, ea, eb, ren, rens]
end
section
attribute [local go_sem] Option.isSome_some Option.isSome_none Kind.m Kind.w Kind.g look_ro look_rw look_grow lenO drive stepV exo expo evs fillV isNil nilKind eqV eqL optA optM sliceAtV ev kn V.known V.one ldc stc splice cellsOf asK asN asB asS asG asT appV srcV lenV setd wantV exitV rvs rv one List.length_cons List.length_nil List.cons_append List.nil_append List.append_nil List.replicate List.getD_cons_zero List.getD_cons_succ List.set_cons_zero List.set_cons_succ List.getElem?_cons_zero List.getElem?_cons_succ List.getElem?_nil List.take_succ_cons List.take_zero List.take_nil List.drop_succ_cons List.drop_zero List.drop_nil List.all_cons List.all_nil List.any_cons List.any_nil Bool.and_true Bool.true_and Bool.and_self Option.map_some Option.map_none Option.bind_some Option.some.injEq Nat.add_zero Nat.zero_add Int.toNat_zero Int.toNat_one Int.zero_add Int.add_zero if_true if_false ite_true ite_false and_true true_and and_self ne_eq not_false_eq_true not_true_eq_false decide_true decide_false Bool.false_eq_true Bool.not_true Bool.not_false beq_self_eq_true BEq.rfl Bool.not_eq_true Nat.le_refl Int.le_refl Nat.zero_le List.foldl List.map_cons List.map_nil Prod.mk.injEq Int.cast_ofNat_Int Int.zero_le_ofNat b_add_cc b_add_cl b_add_lc b_mul_cc b_mul_cl b_mul_lc b_sub_cc b_sub_cl b_sub_lc b_and_cc b_and_cl b_and_lc b_or_cc b_or_cl b_or_lc b_xor_cc b_xor_cl b_xor_lc b_andNot_cc b_andNot_cl b_andNot_lc b_shr_cc b_shr_cl b_shr_lc b_shl_cc b_shl_cl b_shl_lc b_lss b_leq b_gtr b_geq b_add_i b_sub_i b_mul_i beq_cc beq_cl beq_lc beq_ll b_quo_i b_rem_i neg_u64 wrap_i64 driveD stepD idsAt idOf maskH_nil restore_nil restore_mask List.filterMap_nil List.filterMap_cons VOp.looks VOp.makes exA
def ell : Nat := 7237005577332262213973186563042994240857116359379907606001950938285454250989
def tbl : List V := [.int .u64 (nl 6346243789798364141), .int .u64 (nl 1503914060200516822), .int .u64 (nl 0), .int .u64 (nl 1152921504606846976),
  .int .u64 (nl 15486807595281847581), .int .u64 (nl 14334777244411350896), .int .u64 (nl 18446744073709551614), .int .u64 (nl 1152921504606846975),
  .int .u64 (nl 11819153939886771969), .int .u64 (nl 14991950615390032711), .int .u64 (nl 14910419812499177061), .int .u64 (nl 259310039853996605),
  .int .u64 (nl 6346243789798364139), .int .u64 (nl 1503914060200516822), .int .u64 (nl 0), .int .u64 (nl 1152921504606846976)]
theorem lw_ell : V.agg [.int .u64 (nl 6346243789798364141), .int .u64 (nl 1503914060200516822), .int .u64 (nl 0), .int .u64 (nl 1152921504606846976)] = lw ell := rfl
theorem choose' (m : Bool) (A B : Nat) (mi : Int) (hm : mi = (if m = true then 18446744073709551615 else 0 : Nat)) {h : Heap} {R : V → Heap → Prop} (hQ : R (if m = true then lw A else lw B) h) : VCall Tryd.prog G 92 [.int .u64 mi, lw A, lw B] h R := by
  refine vcall_plain (Q := fun v => v = if m = true then lw A else lw B) (choose m A B mi hm _ ⟨rfl, rfl⟩) (fun g => by simp only [rens, ren, lw, lc, u]) ?_ ?_
  · rintro v g rfl; cases m <;> simp only [Bool.false_eq_true, if_false, if_true, lw_plain]
  · rintro v rfl; exact hQ
theorem plus' (A B : Nat) (hA : A < 115792089237316195423570985008687907853269984665640564039457584007913129639936) (hB : B < 115792089237316195423570985008687907853269984665640564039457584007913129639936) {h : Heap} {R : V → Heap → Prop}
    (hQ : ∀ D b : Nat, D < 115792089237316195423570985008687907853269984665640564039457584007913129639936 → b ≤ 1 → A + B = 115792089237316195423570985008687907853269984665640564039457584007913129639936 * b + D → R (.tup [lw D, u b]) h) : VCall Tryd.prog G 65 [lw A, lw B] h R := by
  refine vcall_plain (Q := fun v => ∃ D b : Nat, D < 115792089237316195423570985008687907853269984665640564039457584007913129639936 ∧ b ≤ 1 ∧ A + B = 115792089237316195423570985008687907853269984665640564039457584007913129639936 * b + D ∧ v = .tup [lw D, u b]) (plus A B hA hB _ fun D b h1 h2 h3 => ⟨⟨D, b, h1, h2, h3, rfl⟩, rfl⟩) (fun g => by simp only [rens, ren, lw, lc, u]) ?_ ?_
  · rintro v g ⟨hi, lo, _, _, _, rfl⟩; simp only [rens, ren, lw, lc, u]
  · rintro v ⟨hi, lo, h1, h2, h3, rfl⟩; exact hQ hi lo h1 h2 h3
theorem mask_of {b : Nat} (hb : b ≤ 1) : ((s64 0 b : Nat) : Int) = ((if decide (b = 1) = true then 18446744073709551615 else 0 : Nat) : Int) := by
  have : b = 0 ∨ b = 1 := by omega
  rcases this with rfl | rfl <;> rfl
set_option maxRecDepth 100000
set_option maxHeartbeats 1000000
theorem lower (hG : G 0 = tbl) (A : Nat) (hA : A < 115792089237316195423570985008687907853269984665640564039457584007913129639936) (Q : V → Heap → Prop) (hQ : Q (lw (if ell ≤ A then A - ell else A)) []) : VCall Tryd.prog G 66 [lw A] [] Q := by
  refine vcall_body Tryd.func66 nm66 code66 nt66 ?_
  obtain ⟨a0, a1, a2, a3, ha0, ha1, ha2, ha3, ea, eA⟩ := limbs A
  rw [ea]
  refine run_drive 40 ?_
  simp only [go_sem, Nat.reduceAdd, Nat.reduceSub, Nat.reduceLeDiff, Nat.reduceMul, Nat.reduceLT, Nat.reduceEqDiff, Int.reduceLT, Int.reduceLE, Int.reduceAdd, Int.reduceSub, Int.reduceMul, Int.reduceToNat, reduceIte, reduceCtorEq, Nat.reduceBEq, v66_0, v66_1, v66_2, v66, hG, tbl]
  refine run_call' rfl ?_
  simp only [go_sem, Nat.reduceAdd, Nat.reduceSub, Nat.reduceLeDiff, Nat.reduceMul, Nat.reduceLT, Nat.reduceEqDiff, Int.reduceLT, Int.reduceLE, Int.reduceAdd, Int.reduceSub, Int.reduceMul, Int.reduceToNat, reduceIte, reduceCtorEq, Nat.reduceBEq, calV, lw_ell]
  rw [← ea]
  refine minus' A ell hA (by decide) ?_
  intro D b hD hb he
  obtain ⟨d0, d1, d2, d3, hd0, hd1, hd2, hd3, ed, eD⟩ := limbs D
  rw [ed, ea]
  simp only [u]
  refine run_drive 40 ?_
  simp only [go_sem, Nat.reduceAdd, Nat.reduceSub, Nat.reduceLeDiff, Nat.reduceMul, Nat.reduceLT, Nat.reduceEqDiff, Int.reduceLT, Int.reduceLE, Int.reduceAdd, Int.reduceSub, Int.reduceMul, Int.reduceToNat, reduceIte, reduceCtorEq, Nat.reduceBEq]
  refine run_call' rfl ?_
  simp only [go_sem, Nat.reduceAdd, Nat.reduceSub, Nat.reduceLeDiff, Nat.reduceMul, Nat.reduceLT, Nat.reduceEqDiff, Int.reduceLT, Int.reduceLE, Int.reduceAdd, Int.reduceSub, Int.reduceMul, Int.reduceToNat, reduceIte, reduceCtorEq, Nat.reduceBEq, calV]
  rw [← ed, ← ea]
  refine choose' (decide (b = 1)) A D _ (mask_of hb) ?_
  have hR : (if decide (b = 1) = true then lw A else lw D) = lw (if ell ≤ A then A - ell else A) := by
    have hell : ell < 115792089237316195423570985008687907853269984665640564039457584007913129639936 := by decide
    by_cases h1 : b = 1
    · subst h1
      rw [if_pos (by decide), if_neg (by omega)]
    · rw [if_neg (by simpa using h1), if_pos (by omega)]
      have h0 : b = 0 := by omega
      subst h0
      exact congrArg lw (by omega)
  rw [hR]
  obtain ⟨r0, r1, r2, r3, hr0, hr1, hr2, hr3, er, eR⟩ := limbs (if ell ≤ A then A - ell else A)
  rw [er, ea, ed]
  refine run_drive 40 ?_
  simp only [go_sem, Nat.reduceAdd, Nat.reduceSub, Nat.reduceLeDiff, Nat.reduceMul, Nat.reduceLT, Nat.reduceEqDiff, Int.reduceLT, Int.reduceLE, Int.reduceAdd, Int.reduceSub, Int.reduceMul, Int.reduceToNat, reduceIte, reduceCtorEq, Nat.reduceBEq]
  refine run_ret_drop Tryd.func66 res66 [] (lw (if ell ≤ A then A - ell else A)) [] rfl (by simp) trivial (by simp [uniq]) ?_ hQ
  simp only [go_sem, Nat.reduceAdd, Nat.reduceSub, Nat.reduceLeDiff, Nat.reduceMul, Nat.reduceLT, Nat.reduceEqDiff, Int.reduceLT, Int.reduceLE, Int.reduceAdd, Int.reduceSub, Int.reduceMul, Int.reduceToNat, reduceIte, reduceCtorEq, Nat.reduceBEq, rr66, er, ren, rens]
end
section
attribute [local go_sem] Option.isSome_some Option.isSome_none Kind.m Kind.w Kind.g look_ro look_rw look_grow lenO drive stepV exo expo evs fillV isNil nilKind eqV eqL optA optM sliceAtV ev kn V.known V.one ldc stc splice cellsOf asK asN asB asS asG asT appV srcV lenV setd wantV exitV rvs rv one List.length_cons List.length_nil List.cons_append List.nil_append List.append_nil List.replicate List.getD_cons_zero List.getD_cons_succ List.set_cons_zero List.set_cons_succ List.getElem?_cons_zero List.getElem?_cons_succ List.getElem?_nil List.take_succ_cons List.take_zero List.take_nil List.drop_succ_cons List.drop_zero List.drop_nil List.all_cons List.all_nil List.any_cons List.any_nil Bool.and_true Bool.true_and Bool.and_self Option.map_some Option.map_none Option.bind_some Option.some.injEq Nat.add_zero Nat.zero_add Int.toNat_zero Int.toNat_one Int.zero_add Int.add_zero if_true if_false ite_true ite_false and_true true_and and_self ne_eq not_false_eq_true not_true_eq_false decide_true decide_false Bool.false_eq_true Bool.not_true Bool.not_false beq_self_eq_true BEq.rfl Bool.not_eq_true Nat.le_refl Int.le_refl Nat.zero_le List.foldl List.map_cons List.map_nil Prod.mk.injEq Int.cast_ofNat_Int Int.zero_le_ofNat b_add_cc b_add_cl b_add_lc b_mul_cc b_mul_cl b_mul_lc b_sub_cc b_sub_cl b_sub_lc b_and_cc b_and_cl b_and_lc b_or_cc b_or_cl b_or_lc b_xor_cc b_xor_cl b_xor_lc b_andNot_cc b_andNot_cl b_andNot_lc b_shr_cc b_shr_cl b_shr_lc b_shl_cc b_shl_cl b_shl_lc b_lss b_leq b_gtr b_geq b_add_i b_sub_i b_mul_i beq_cc beq_cl beq_lc beq_ll b_quo_i b_rem_i neg_u64 wrap_i64 driveD stepD idsAt idOf maskH_nil restore_nil restore_mask List.filterMap_nil List.filterMap_cons VOp.looks VOp.makes exA
set_option maxRecDepth 100000
theorem limbs4 (D : Nat) (hD : D < 115792089237316195423570985008687907853269984665640564039457584007913129639936) : ∃ d0 d1 d2 d3 : Nat, d0 < 18446744073709551616 ∧ d1 < 18446744073709551616 ∧ d2 < 18446744073709551616 ∧ d3 < 18446744073709551616 ∧ lw D = .agg [.int .u64 (d0 : Int), .int .u64 (d1 : Int), .int .u64 (d2 : Int), .int .u64 (d3 : Int)] ∧ D = (d0 + 18446744073709551616 * d1 + 340282366920938463463374607431768211456 * d2 + 6277101735386680763835789423207666416102355444464034512896 * d3) := by
  obtain ⟨d0, d1, d2, d3, h0, h1, h2, h3, e, E⟩ := limbs D
  exact ⟨d0, d1, d2, d3, h0, h1, h2, h3, e, E hD⟩
theorem minus_c (a0 a1 a2 a3 b0 b1 b2 b3 : Nat) (ha0 : a0 < 18446744073709551616) (ha1 : a1 < 18446744073709551616) (ha2 : a2 < 18446744073709551616) (ha3 : a3 < 18446744073709551616) (hb0 : b0 < 18446744073709551616) (hb1 : b1 < 18446744073709551616) (hb2 : b2 < 18446744073709551616) (hb3 : b3 < 18446744073709551616) {h : Heap} {R : V → Heap → Prop}
    (hQ : ∀ d0 d1 d2 d3 k : Nat, d0 < 18446744073709551616 → d1 < 18446744073709551616 → d2 < 18446744073709551616 → d3 < 18446744073709551616 → k ≤ 1 → (a0 + 18446744073709551616 * a1 + 340282366920938463463374607431768211456 * a2 + 6277101735386680763835789423207666416102355444464034512896 * a3) + 115792089237316195423570985008687907853269984665640564039457584007913129639936 * k = (b0 + 18446744073709551616 * b1 + 340282366920938463463374607431768211456 * b2 + 6277101735386680763835789423207666416102355444464034512896 * b3) + (d0 + 18446744073709551616 * d1 + 340282366920938463463374607431768211456 * d2 + 6277101735386680763835789423207666416102355444464034512896 * d3) → R (.tup [.agg [.int .u64 (d0 : Int), .int .u64 (d1 : Int), .int .u64 (d2 : Int), .int .u64 (d3 : Int)], .int .u64 (k : Int)]) h) :
    VCall Tryd.prog G 91 [.agg [.int .u64 (a0 : Int), .int .u64 (a1 : Int), .int .u64 (a2 : Int), .int .u64 (a3 : Int)], .agg [.int .u64 (b0 : Int), .int .u64 (b1 : Int), .int .u64 (b2 : Int), .int .u64 (b3 : Int)]] h R := by
  rw [← lw_of ha0 ha1 ha2 ha3, ← lw_of hb0 hb1 hb2 hb3]
  refine minus' _ _ (by omega) (by omega) fun D k hD hk e => ?_
  obtain ⟨d0, d1, d2, d3, h0, h1, h2, h3, ed, eD⟩ := limbs4 D hD
  rw [ed]
  exact hQ d0 d1 d2 d3 k h0 h1 h2 h3 hk (by rw [← eD]; exact e)
theorem plus_c (a0 a1 a2 a3 b0 b1 b2 b3 : Nat) (ha0 : a0 < 18446744073709551616) (ha1 : a1 < 18446744073709551616) (ha2 : a2 < 18446744073709551616) (ha3 : a3 < 18446744073709551616) (hb0 : b0 < 18446744073709551616) (hb1 : b1 < 18446744073709551616) (hb2 : b2 < 18446744073709551616) (hb3 : b3 < 18446744073709551616) {h : Heap} {R : V → Heap → Prop}
    (hQ : ∀ d0 d1 d2 d3 k : Nat, d0 < 18446744073709551616 → d1 < 18446744073709551616 → d2 < 18446744073709551616 → d3 < 18446744073709551616 → k ≤ 1 → (a0 + 18446744073709551616 * a1 + 340282366920938463463374607431768211456 * a2 + 6277101735386680763835789423207666416102355444464034512896 * a3) + (b0 + 18446744073709551616 * b1 + 340282366920938463463374607431768211456 * b2 + 6277101735386680763835789423207666416102355444464034512896 * b3) = 115792089237316195423570985008687907853269984665640564039457584007913129639936 * k + (d0 + 18446744073709551616 * d1 + 340282366920938463463374607431768211456 * d2 + 6277101735386680763835789423207666416102355444464034512896 * d3) → R (.tup [.agg [.int .u64 (d0 : Int), .int .u64 (d1 : Int), .int .u64 (d2 : Int), .int .u64 (d3 : Int)], .int .u64 (k : Int)]) h) :
    VCall Tryd.prog G 65 [.agg [.int .u64 (a0 : Int), .int .u64 (a1 : Int), .int .u64 (a2 : Int), .int .u64 (a3 : Int)], .agg [.int .u64 (b0 : Int), .int .u64 (b1 : Int), .int .u64 (b2 : Int), .int .u64 (b3 : Int)]] h R := by
  rw [← lw_of ha0 ha1 ha2 ha3, ← lw_of hb0 hb1 hb2 hb3]
  refine plus' _ _ (by omega) (by omega) fun D k hD hk e => ?_
  obtain ⟨d0, d1, d2, d3, h0, h1, h2, h3, ed, eD⟩ := limbs4 D hD
  rw [ed]
  exact hQ d0 d1 d2 d3 k h0 h1 h2 h3 hk (by rw [← eD]; exact e)
theorem choose_c (a0 a1 a2 a3 b0 b1 b2 b3 : Nat) (ha0 : a0 < 18446744073709551616) (ha1 : a1 < 18446744073709551616) (ha2 : a2 < 18446744073709551616) (ha3 : a3 < 18446744073709551616) (hb0 : b0 < 18446744073709551616) (hb1 : b1 < 18446744073709551616) (hb2 : b2 < 18446744073709551616) (hb3 : b3 < 18446744073709551616) (k : Nat) (hk : k ≤ 1) {h : Heap} {R : V → Heap → Prop}
    (hQ : ∀ d0 d1 d2 d3 : Nat, d0 < 18446744073709551616 → d1 < 18446744073709551616 → d2 < 18446744073709551616 → d3 < 18446744073709551616 → (k = 1 → (d0 + 18446744073709551616 * d1 + 340282366920938463463374607431768211456 * d2 + 6277101735386680763835789423207666416102355444464034512896 * d3) = (a0 + 18446744073709551616 * a1 + 340282366920938463463374607431768211456 * a2 + 6277101735386680763835789423207666416102355444464034512896 * a3)) → (k = 0 → (d0 + 18446744073709551616 * d1 + 340282366920938463463374607431768211456 * d2 + 6277101735386680763835789423207666416102355444464034512896 * d3) = (b0 + 18446744073709551616 * b1 + 340282366920938463463374607431768211456 * b2 + 6277101735386680763835789423207666416102355444464034512896 * b3)) → R (.agg [.int .u64 (d0 : Int), .int .u64 (d1 : Int), .int .u64 (d2 : Int), .int .u64 (d3 : Int)]) h) :
    VCall Tryd.prog G 92 [.int .u64 ((s64 0 k : Nat) : Int), .agg [.int .u64 (a0 : Int), .int .u64 (a1 : Int), .int .u64 (a2 : Int), .int .u64 (a3 : Int)], .agg [.int .u64 (b0 : Int), .int .u64 (b1 : Int), .int .u64 (b2 : Int), .int .u64 (b3 : Int)]] h R := by
  rw [← lw_of ha0 ha1 ha2 ha3, ← lw_of hb0 hb1 hb2 hb3]
  refine choose' (decide (k = 1)) _ _ _ (mask_of hk) ?_
  have : k = 0 ∨ k = 1 := by omega
  rcases this with rfl | rfl
  · rw [if_neg (by decide), lw_of hb0 hb1 hb2 hb3]
    exact hQ _ _ _ _ hb0 hb1 hb2 hb3 (fun e => by cases e) (fun _ => rfl)
  · rw [if_pos (by decide), lw_of ha0 ha1 ha2 ha3]
    exact hQ _ _ _ _ ha0 ha1 ha2 ha3 (fun _ => rfl) (fun e => by cases e)
theorem lower' (hG : G 0 = tbl) (A : Nat) (hA : A < 115792089237316195423570985008687907853269984665640564039457584007913129639936) {h : Heap} {R : V → Heap → Prop} (hQ : R (lw (if ell ≤ A then A - ell else A)) h) : VCall Tryd.prog G 66 [lw A] h R := by
  refine vcall_plain (Q := fun v => v = lw (if ell ≤ A then A - ell else A)) (lower hG A hA _ ⟨rfl, rfl⟩) (fun g => by simp only [rens, ren, lw, lc, u]) ?_ ?_
  · rintro v g rfl; exact lw_plain _ g
  · rintro v rfl; exact hQ
theorem lower_c (hG : G 0 = tbl) (a0 a1 a2 a3 : Nat) (ha0 : a0 < 18446744073709551616) (ha1 : a1 < 18446744073709551616) (ha2 : a2 < 18446744073709551616) (ha3 : a3 < 18446744073709551616) {h : Heap} {R : V → Heap → Prop}
    (hQ : ∀ d0 d1 d2 d3 : Nat, d0 < 18446744073709551616 → d1 < 18446744073709551616 → d2 < 18446744073709551616 → d3 < 18446744073709551616 → (d0 + 18446744073709551616 * d1 + 340282366920938463463374607431768211456 * d2 + 6277101735386680763835789423207666416102355444464034512896 * d3) = (if ell ≤ (a0 + 18446744073709551616 * a1 + 340282366920938463463374607431768211456 * a2 + 6277101735386680763835789423207666416102355444464034512896 * a3) then (a0 + 18446744073709551616 * a1 + 340282366920938463463374607431768211456 * a2 + 6277101735386680763835789423207666416102355444464034512896 * a3) - ell else (a0 + 18446744073709551616 * a1 + 340282366920938463463374607431768211456 * a2 + 6277101735386680763835789423207666416102355444464034512896 * a3)) → R (.agg [.int .u64 (d0 : Int), .int .u64 (d1 : Int), .int .u64 (d2 : Int), .int .u64 (d3 : Int)]) h) :
    VCall Tryd.prog G 66 [.agg [.int .u64 (a0 : Int), .int .u64 (a1 : Int), .int .u64 (a2 : Int), .int .u64 (a3 : Int)]] h R := by
  rw [← lw_of ha0 ha1 ha2 ha3]
  refine lower' hG _ (by omega) ?_
  obtain ⟨d0, d1, d2, d3, h0, h1, h2, h3, ed, eD⟩ := limbs4 (if ell ≤ (a0 + 18446744073709551616 * a1 + 340282366920938463463374607431768211456 * a2 + 6277101735386680763835789423207666416102355444464034512896 * a3) then (a0 + 18446744073709551616 * a1 + 340282366920938463463374607431768211456 * a2 + 6277101735386680763835789423207666416102355444464034512896 * a3) - ell else (a0 + 18446744073709551616 * a1 + 340282366920938463463374607431768211456 * a2 + 6277101735386680763835789423207666416102355444464034512896 * a3)) (by split <;> omega)
  rw [ed]
  exact hQ d0 d1 d2 d3 h0 h1 h2 h3 eD.symm
theorem mul64_c (x y : Nat) (hx : x < 18446744073709551616) (hy : y < 18446744073709551616) (yi : Int) (hyi : yi = (y : Int)) {h : Heap} {R : V → Heap → Prop} (hQ : ∀ hi lo : Nat, hi < 18446744073709551616 → lo < 18446744073709551616 → x * y = 18446744073709551616 * hi + lo → R (.tup [.int .u64 (hi : Int), .int .u64 (lo : Int)]) h) : VCall Tryd.prog G 89 [.int .u64 (x : Int), .int .u64 yi] h R := by
  subst hyi; exact mul64' x y hx hy hQ
set_option maxHeartbeats 2000000 in
theorem least (hG : G 0 = tbl) (A : Nat) (hA : A < 115792089237316195423570985008687907853269984665640564039457584007913129639936) (Q : V → Heap → Prop) (hQ : Q (lw (A % ell)) []) : VCall Tryd.prog G 64 [lw A] [] Q := by
  refine vcall_body Tryd.func64 nm64 code64 nt64 ?_
  obtain ⟨a0, a1, a2, a3, ha0, ha1, ha2, ha3, ea, eA⟩ := limbs4 A hA
  rw [ea]
  by_cases h3 : a3 < 1152921504606846976
  · have hd : decide ((a3 : Int) < nl 1152921504606846976) = true := decide_eq_true (by unfold nl; omega)
    refine run_drive 12 ?_
    simp only [go_sem, Nat.reduceAdd, Nat.reduceSub, Nat.reduceLeDiff, Nat.reduceMul, Nat.reduceLT, Nat.reduceEqDiff, Int.reduceLT, Int.reduceLE, Int.reduceAdd, Int.reduceSub, Int.reduceMul, Int.reduceToNat, reduceIte, reduceCtorEq, Nat.reduceBEq, v64, v64_0, v64_1, hd]
    refine run_cond_t rfl ?_
    refine run_drive 60 ?_
    simp only [go_sem, Nat.reduceAdd, Nat.reduceSub, Nat.reduceLeDiff, Nat.reduceMul, Nat.reduceLT, Nat.reduceEqDiff, Int.reduceLT, Int.reduceLE, Int.reduceAdd, Int.reduceSub, Int.reduceMul, Int.reduceToNat, reduceIte, reduceCtorEq, Nat.reduceBEq, v64_2]
    refine run_ret_drop Tryd.func64 res64 [] (lw (A % ell)) [] rfl (by simp) trivial (by simp [uniq]) ?_ hQ
    have : A % ell = A := Nat.mod_eq_of_lt (by unfold ell; omega)
    rw [this, ea]
    simp only [go_sem, Nat.reduceAdd, Nat.reduceSub, Nat.reduceLeDiff, Nat.reduceMul, Nat.reduceLT, Nat.reduceEqDiff, Int.reduceLT, Int.reduceLE, Int.reduceAdd, Int.reduceSub, Int.reduceMul, Int.reduceToNat, reduceIte, reduceCtorEq, Nat.reduceBEq, rr64, ren, rens]
  · have hd : decide ((a3 : Int) < nl 1152921504606846976) = false := decide_eq_false (by unfold nl; omega)
    refine run_drive 12 ?_
    simp only [go_sem, Nat.reduceAdd, Nat.reduceSub, Nat.reduceLeDiff, Nat.reduceMul, Nat.reduceLT, Nat.reduceEqDiff, Int.reduceLT, Int.reduceLE, Int.reduceAdd, Int.reduceSub, Int.reduceMul, Int.reduceToNat, reduceIte, reduceCtorEq, Nat.reduceBEq, v64, v64_0, v64_1, hd]
    refine run_cond_f rfl ?_
    refine run_drive 60 ?_
    simp only [go_sem, Nat.reduceAdd, Nat.reduceSub, Nat.reduceLeDiff, Nat.reduceMul, Nat.reduceLT, Nat.reduceEqDiff, Int.reduceLT, Int.reduceLE, Int.reduceAdd, Int.reduceSub, Int.reduceMul, Int.reduceToNat, reduceIte, reduceCtorEq, Nat.reduceBEq, v64_0, v64_1, v64_2, v64_3, v64_4, v64_5, v64_6, v64_7, v64_8, v64_9, v64_10, v64_11, v64_12, v64_13, v64_14, v64, hG, tbl]
    have hq : r64 a3 60 = a3 / 1152921504606846976 := rfl
    have hm : a64 a3 1152921504606846975 = a3 % 1152921504606846976 := a64_mask a3 60 (by decide) ha3 _ rfl
    rw [hq, hm]
    have hq15 : a3 / 1152921504606846976 ≤ 15 := by omega
    have hml : a3 % 1152921504606846976 < 1152921504606846976 := Nat.mod_lt _ (by decide)
    have hsplit : a3 = a3 % 1152921504606846976 + 1152921504606846976 * (a3 / 1152921504606846976) := (Nat.mod_add_div _ _).symm
    generalize a3 / 1152921504606846976 = q at *
    generalize a3 % 1152921504606846976 = l3 at *
    refine run_call' rfl ?_
    simp only [go_sem, Nat.reduceAdd, Nat.reduceSub, Nat.reduceLeDiff, Nat.reduceMul, Nat.reduceLT, Nat.reduceEqDiff, Int.reduceLT, Int.reduceLE, Int.reduceAdd, Int.reduceSub, Int.reduceMul, Int.reduceToNat, reduceIte, reduceCtorEq, Nat.reduceBEq, calV]
    refine mul64_c q 6346243789798364141 (by omega) (by decide) _ rfl ?_
    intro p1 p0 hp1 hp0 ep
    refine run_drive 60 ?_
    simp only [go_sem, Nat.reduceAdd, Nat.reduceSub, Nat.reduceLeDiff, Nat.reduceMul, Nat.reduceLT, Nat.reduceEqDiff, Int.reduceLT, Int.reduceLE, Int.reduceAdd, Int.reduceSub, Int.reduceMul, Int.reduceToNat, reduceIte, reduceCtorEq, Nat.reduceBEq, tbl, hG]
    refine run_call' rfl ?_
    simp only [go_sem, Nat.reduceAdd, Nat.reduceSub, Nat.reduceLeDiff, Nat.reduceMul, Nat.reduceLT, Nat.reduceEqDiff, Int.reduceLT, Int.reduceLE, Int.reduceAdd, Int.reduceSub, Int.reduceMul, Int.reduceToNat, reduceIte, reduceCtorEq, Nat.reduceBEq, calV]
    refine mul64_c q 1503914060200516822 (by omega) (by decide) _ rfl ?_
    intro s1 s0 hs1 hs0 es
    refine run_drive 60 ?_
    simp only [go_sem, Nat.reduceAdd, Nat.reduceSub, Nat.reduceLeDiff, Nat.reduceMul, Nat.reduceLT, Nat.reduceEqDiff, Int.reduceLT, Int.reduceLE, Int.reduceAdd, Int.reduceSub, Int.reduceMul, Int.reduceToNat, reduceIte, reduceCtorEq, Nat.reduceBEq, tbl, hG]
    refine run_call' rfl ?_
    simp only [go_sem, Nat.reduceAdd, Nat.reduceSub, Nat.reduceLeDiff, Nat.reduceMul, Nat.reduceLT, Nat.reduceEqDiff, Int.reduceLT, Int.reduceLE, Int.reduceAdd, Int.reduceSub, Int.reduceMul, Int.reduceToNat, reduceIte, reduceCtorEq, Nat.reduceBEq, calV]
    refine add64 s0 p1 0 _ rfl (by decide) hs0 hp1 ?_
    intro t1 k1 ht1 hk1 et
    refine run_drive 60 ?_
    simp only [go_sem, Nat.reduceAdd, Nat.reduceSub, Nat.reduceLeDiff, Nat.reduceMul, Nat.reduceLT, Nat.reduceEqDiff, Int.reduceLT, Int.reduceLE, Int.reduceAdd, Int.reduceSub, Int.reduceMul, Int.reduceToNat, reduceIte, reduceCtorEq, Nat.reduceBEq, tbl, hG]
    have hw : w64 (s1 + k1) = s1 + k1 := Nat.mod_eq_of_lt (by omega)
    rw [hw]
    refine run_call' rfl ?_
    simp only [go_sem, Nat.reduceAdd, Nat.reduceSub, Nat.reduceLeDiff, Nat.reduceMul, Nat.reduceLT, Nat.reduceEqDiff, Int.reduceLT, Int.reduceLE, Int.reduceAdd, Int.reduceSub, Int.reduceMul, Int.reduceToNat, reduceIte, reduceCtorEq, Nat.reduceBEq, calV]
    refine minus_c a0 a1 a2 l3 p0 t1 (s1 + k1) 0 ha0 ha1 ha2 (by omega) hp0 ht1 (by omega) (by omega) ?_
    intro d0 d1 d2 d3 k hd0 hd1 hd2 hd3 hk ed
    refine run_drive 60 ?_
    simp only [go_sem, Nat.reduceAdd, Nat.reduceSub, Nat.reduceLeDiff, Nat.reduceMul, Nat.reduceLT, Nat.reduceEqDiff, Int.reduceLT, Int.reduceLE, Int.reduceAdd, Int.reduceSub, Int.reduceMul, Int.reduceToNat, reduceIte, reduceCtorEq, Nat.reduceBEq, tbl, hG]
    refine run_call' rfl ?_
    simp only [go_sem, Nat.reduceAdd, Nat.reduceSub, Nat.reduceLeDiff, Nat.reduceMul, Nat.reduceLT, Nat.reduceEqDiff, Int.reduceLT, Int.reduceLE, Int.reduceAdd, Int.reduceSub, Int.reduceMul, Int.reduceToNat, reduceIte, reduceCtorEq, Nat.reduceBEq, calV]
    refine plus_c d0 d1 d2 d3 6346243789798364141 1503914060200516822 0 1152921504606846976 hd0 hd1 hd2 hd3 (by decide) (by decide) (by decide) (by decide) ?_
    intro e0 e1 e2 e3 k' he0 he1 he2 he3 hk' ee
    refine run_drive 60 ?_
    simp only [go_sem, Nat.reduceAdd, Nat.reduceSub, Nat.reduceLeDiff, Nat.reduceMul, Nat.reduceLT, Nat.reduceEqDiff, Int.reduceLT, Int.reduceLE, Int.reduceAdd, Int.reduceSub, Int.reduceMul, Int.reduceToNat, reduceIte, reduceCtorEq, Nat.reduceBEq, tbl, hG]
    refine run_call' rfl ?_
    simp only [go_sem, Nat.reduceAdd, Nat.reduceSub, Nat.reduceLeDiff, Nat.reduceMul, Nat.reduceLT, Nat.reduceEqDiff, Int.reduceLT, Int.reduceLE, Int.reduceAdd, Int.reduceSub, Int.reduceMul, Int.reduceToNat, reduceIte, reduceCtorEq, Nat.reduceBEq, calV]
    refine choose_c e0 e1 e2 e3 d0 d1 d2 d3 he0 he1 he2 he3 hd0 hd1 hd2 hd3 k hk ?_
    intro f0 f1 f2 f3 hf0 hf1 hf2 hf3 hfe hfd
    refine run_drive 60 ?_
    simp only [go_sem, Nat.reduceAdd, Nat.reduceSub, Nat.reduceLeDiff, Nat.reduceMul, Nat.reduceLT, Nat.reduceEqDiff, Int.reduceLT, Int.reduceLE, Int.reduceAdd, Int.reduceSub, Int.reduceMul, Int.reduceToNat, reduceIte, reduceCtorEq, Nat.reduceBEq, tbl, hG]
    refine run_call' rfl ?_
    simp only [go_sem, Nat.reduceAdd, Nat.reduceSub, Nat.reduceLeDiff, Nat.reduceMul, Nat.reduceLT, Nat.reduceEqDiff, Int.reduceLT, Int.reduceLE, Int.reduceAdd, Int.reduceSub, Int.reduceMul, Int.reduceToNat, reduceIte, reduceCtorEq, Nat.reduceBEq, calV]
    refine lower_c hG f0 f1 f2 f3 hf0 hf1 hf2 hf3 ?_
    intro g0 g1 g2 g3 hg0 hg1 hg2 hg3 eg
    refine run_drive 60 ?_
    simp only [go_sem, Nat.reduceAdd, Nat.reduceSub, Nat.reduceLeDiff, Nat.reduceMul, Nat.reduceLT, Nat.reduceEqDiff, Int.reduceLT, Int.reduceLE, Int.reduceAdd, Int.reduceSub, Int.reduceMul, Int.reduceToNat, reduceIte, reduceCtorEq, Nat.reduceBEq, tbl, hG]
    refine run_ret_drop Tryd.func64 res64 [] (lw (A % ell)) [] rfl (by simp) trivial (by simp [uniq]) ?_ hQ
    have key : A % ell = (g0 + 18446744073709551616 * g1 + 340282366920938463463374607431768211456 * g2 + 6277101735386680763835789423207666416102355444464034512896 * g3) := by
      have hf : (f0 + 18446744073709551616 * f1 + 340282366920938463463374607431768211456 * f2 + 6277101735386680763835789423207666416102355444464034512896 * f3) < 7237005577332262213973186563042994240857116359379907606001950938285454250989 ∧ (A = (f0 + 18446744073709551616 * f1 + 340282366920938463463374607431768211456 * f2 + 6277101735386680763835789423207666416102355444464034512896 * f3) + 7237005577332262213973186563042994240857116359379907606001950938285454250989 * q ∨ A + 7237005577332262213973186563042994240857116359379907606001950938285454250989 = (f0 + 18446744073709551616 * f1 + 340282366920938463463374607431768211456 * f2 + 6277101735386680763835789423207666416102355444464034512896 * f3) + 7237005577332262213973186563042994240857116359379907606001950938285454250989 * q) := by
        have : k = 0 ∨ k = 1 := by omega
        rcases this with rfl | rfl
        · have := hfd rfl
          omega
        · have := hfe rfl
          omega
      have hn : ¬ ell ≤ (f0 + 18446744073709551616 * f1 + 340282366920938463463374607431768211456 * f2 + 6277101735386680763835789423207666416102355444464034512896 * f3) := by unfold ell; omega
      rw [eg, if_neg hn]
      unfold ell
      omega
    rw [key, lw_of hg0 hg1 hg2 hg3]
    simp only [go_sem, Nat.reduceAdd, Nat.reduceSub, Nat.reduceLeDiff, Nat.reduceMul, Nat.reduceLT, Nat.reduceEqDiff, Int.reduceLT, Int.reduceLE, Int.reduceAdd, Int.reduceSub, Int.reduceMul, Int.reduceToNat, reduceIte, reduceCtorEq, Nat.reduceBEq, rr64, ren, rens]
end
end Go.Vs.Tryd
namespace Go.Vs
theorem z_zero {s0 m d0 z0 : Nat} (hm : m = s0 * 15183074304973897243 % 18446744073709551616) (f0 : m * 6346243789798364141 + s0 + 0 = 18446744073709551616 * d0 + z0) (hz0 : z0 < 18446744073709551616) : z0 = 0 := by omega
theorem sum_eq {p0 p1 p2 p3 t0 t1 t2 t3 s0 s1 s2 s3 s4 c0 c1 c2 c3 k4 z0 z1 z2 z3 z4 d0 d1 d2 d3 k5 m : Nat} (e0 : p0 + t0 + 0 = 18446744073709551616 * c0 + s0) (e1 : p1 + t1 + c0 = 18446744073709551616 * c1 + s1) (e2 : p2 + t2 + c1 = 18446744073709551616 * c2 + s2) (e3 : p3 + t3 + c2 = 18446744073709551616 * c3 + s3) (e4 : 0 + c3 + 0 = 18446744073709551616 * k4 + s4)
    (f0 : m * 6346243789798364141 + s0 + 0 = 18446744073709551616 * d0 + z0) (f1 : m * 1503914060200516822 + s1 + d0 = 18446744073709551616 * d1 + z1) (f2 : m * 0 + s2 + d1 = 18446744073709551616 * d2 + z2) (f3 : m * 1152921504606846976 + s3 + d2 = 18446744073709551616 * d3 + z3) (f4 : s4 + d3 + 0 = 18446744073709551616 * k5 + z4) (hz : z0 = 0) :
    18446744073709551616 * ((z1 + 18446744073709551616 * z2 + 340282366920938463463374607431768211456 * z3 + 6277101735386680763835789423207666416102355444464034512896 * z4) + 115792089237316195423570985008687907853269984665640564039457584007913129639936 * (k4 + k5)) = (t0 + 18446744073709551616 * t1 + 340282366920938463463374607431768211456 * t2 + 6277101735386680763835789423207666416102355444464034512896 * t3) + (p0 + 18446744073709551616 * p1 + 340282366920938463463374607431768211456 * p2 + 6277101735386680763835789423207666416102355444464034512896 * p3) + m * 7237005577332262213973186563042994240857116359379907606001950938285454250989 := by omega
theorem round_law (a0 a1 a2 a3 b t0 t1 t2 t3 s0 s1 s2 s3 s4 c0 c1 c2 c3 k4 z0 z1 z2 z3 z4 d0 d1 d2 d3 k5 : Nat) (hb : b < 18446744073709551616) (hA : (a0 + 18446744073709551616 * a1 + 340282366920938463463374607431768211456 * a2 + 6277101735386680763835789423207666416102355444464034512896 * a3) < 7237005577332262213973186563042994240857116359379907606001950938285454250989) (hT : (t0 + 18446744073709551616 * t1 + 340282366920938463463374607431768211456 * t2 + 6277101735386680763835789423207666416102355444464034512896 * t3) < 2 * 7237005577332262213973186563042994240857116359379907606001950938285454250989)
    (hs0 : s0 < 18446744073709551616) (hz0 : z0 < 18446744073709551616) (hz1 : z1 < 18446744073709551616) (hz2 : z2 < 18446744073709551616) (hz3 : z3 < 18446744073709551616) (hz4 : z4 < 18446744073709551616)
    (e0 : a0 * b + t0 + 0 = 18446744073709551616 * c0 + s0) (e1 : a1 * b + t1 + c0 = 18446744073709551616 * c1 + s1) (e2 : a2 * b + t2 + c1 = 18446744073709551616 * c2 + s2) (e3 : a3 * b + t3 + c2 = 18446744073709551616 * c3 + s3) (e4 : 0 + c3 + 0 = 18446744073709551616 * k4 + s4)
    (f0 : w64 (s0 * 15183074304973897243) * 6346243789798364141 + s0 + 0 = 18446744073709551616 * d0 + z0) (f1 : w64 (s0 * 15183074304973897243) * 1503914060200516822 + s1 + d0 = 18446744073709551616 * d1 + z1) (f2 : w64 (s0 * 15183074304973897243) * 0 + s2 + d1 = 18446744073709551616 * d2 + z2) (f3 : w64 (s0 * 15183074304973897243) * 1152921504606846976 + s3 + d2 = 18446744073709551616 * d3 + z3) (f4 : s4 + d3 + 0 = 18446744073709551616 * k5 + z4) :
    w64 (k4 + k5) = 0 ∧ (z1 + 18446744073709551616 * z2 + 340282366920938463463374607431768211456 * z3 + 6277101735386680763835789423207666416102355444464034512896 * z4) < 2 * 7237005577332262213973186563042994240857116359379907606001950938285454250989 ∧ ∃ m : Nat, 18446744073709551616 * (z1 + 18446744073709551616 * z2 + 340282366920938463463374607431768211456 * z3 + 6277101735386680763835789423207666416102355444464034512896 * z4) = (t0 + 18446744073709551616 * t1 + 340282366920938463463374607431768211456 * t2 + 6277101735386680763835789423207666416102355444464034512896 * t3) + (a0 + 18446744073709551616 * a1 + 340282366920938463463374607431768211456 * a2 + 6277101735386680763835789423207666416102355444464034512896 * a3) * b + m * 7237005577332262213973186563042994240857116359379907606001950938285454250989 := by
  have hm : w64 (s0 * 15183074304973897243) = s0 * 15183074304973897243 % 18446744073709551616 := rfl
  have hml : w64 (s0 * 15183074304973897243) < 18446744073709551616 := Nat.mod_lt _ (by decide)
  have hz : z0 = 0 := z_zero hm f0 hz0
  have hab : (a0 + 18446744073709551616 * a1 + 340282366920938463463374607431768211456 * a2 + 6277101735386680763835789423207666416102355444464034512896 * a3) * b = a0 * b + 18446744073709551616 * (a1 * b) + 340282366920938463463374607431768211456 * (a2 * b) + 6277101735386680763835789423207666416102355444464034512896 * (a3 * b) := by grind
  have hbd2 : (a0 + 18446744073709551616 * a1 + 340282366920938463463374607431768211456 * a2 + 6277101735386680763835789423207666416102355444464034512896 * a3) * b ≤ (7237005577332262213973186563042994240857116359379907606001950938285454250989 - 1) * (18446744073709551616 - 1) := Nat.mul_le_mul (by clear e0 e1 e2 e3 e4 f0 f1 f2 f3 f4; omega) (by clear e0 e1 e2 e3 e4 f0 f1 f2 f3 f4; omega)
  generalize w64 (s0 * 15183074304973897243) = m at *
  have sum : 18446744073709551616 * ((z1 + 18446744073709551616 * z2 + 340282366920938463463374607431768211456 * z3 + 6277101735386680763835789423207666416102355444464034512896 * z4) + 115792089237316195423570985008687907853269984665640564039457584007913129639936 * (k4 + k5)) = (t0 + 18446744073709551616 * t1 + 340282366920938463463374607431768211456 * t2 + 6277101735386680763835789423207666416102355444464034512896 * t3) + (a0 + 18446744073709551616 * a1 + 340282366920938463463374607431768211456 * a2 + 6277101735386680763835789423207666416102355444464034512896 * a3) * b + m * 7237005577332262213973186563042994240857116359379907606001950938285454250989 := by
    rw [hab]
    exact sum_eq e0 e1 e2 e3 e4 f0 f1 f2 f3 f4 hz
  generalize (a0 + 18446744073709551616 * a1 + 340282366920938463463374607431768211456 * a2 + 6277101735386680763835789423207666416102355444464034512896 * a3) * b = P at *
  generalize (t0 + 18446744073709551616 * t1 + 340282366920938463463374607431768211456 * t2 + 6277101735386680763835789423207666416102355444464034512896 * t3) = T at *
  generalize hZ : (z1 + 18446744073709551616 * z2 + 340282366920938463463374607431768211456 * z3 + 6277101735386680763835789423207666416102355444464034512896 * z4) = Z at *
  clear e0 e1 e2 e3 e4 f0 f1 f2 f3 f4 hab
  have hk : k4 + k5 = 0 := by omega
  refine ⟨by rw [hk]; rfl, by omega, m, ?_⟩
  rw [hk] at sum
  omega
end Go.Vs

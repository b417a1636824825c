/- Text 5 of 11 of this claim: a machine of plain values beside the model, what the functions of the program and of the reference answer over it, and last the row and its card. -/
import Derived.Test.YtgppccahbcbanaaDoorK4
import Derived.Test.YtgppccahbcbanaaDoorProg
import Derived.KernelRfl
set_option linter.unusedVariables false
set_option linter.unusedSimpArgs false
set_option maxRecDepth 1000000
namespace Go.Vs.Tryd
open Go.Proofs
def v3_0 : List VI := [.op (some 1) none (.box (.t 0)), .op (some 2) none (.p (.mov (.c (.bool false))))]
def v3_1 : List VI := [.op (some 24) none (.p (.fda 8 (.t 1))), .op (some 25) none (.ld false 1 (.t 24)), .op (some 26) none (.p (.len false (.t 25))), .call (some 27) none (.fn 4) [.t 26, .c (.int .i64 8)], .op (some 3) none (.p (.mov (.t 27)))]
def v3_2 : List VI := [.op (some 28) none (.p (.mov (.t 3))), .op (some 29) none (.p (.bin .lss (.t 28) (.c (.int .i64 2))))]
def v3_3 : List VI := [.op (some 3) none (.p (.mov (.c (.int .i64 2))))]
def v3_4 : List VI := [.op (some 30) none (.p (.fda 8 (.t 1))), .op (some 31) none (.ld false 1 (.t 30)), .op (some 32) none (.p (.mov (.t 3))), .call (some 33) none (.fn 6) [.t 31, .t 32], .call (some 34) none (.fn 5) [.t 33], .op (some 4) none (.p (.mov (.t 34)))]
def v3_5 : List VI := [.op (some 35) none (.p (.fda 9 (.t 1))), .op (some 36) none (.ld false 1 (.t 35)), .op (some 37) none (.p (.mov (.t 3))), .call (some 38) none (.fn 6) [.t 36, .t 37], .call (some 39) none (.fn 5) [.t 38], .op (some 5) none (.p (.mov (.t 39)))]
def v3_6 : List DS := [.mk 0 true (.op (some 40) none (.p (.fda 4 (.t 1)))) [] [], .mk 1 true (.op (some 41) none (.ld true 4 (.t 40))) [] [], .mk 3 true (.op (some 43) none (.p (.fda 0 (.t 1)))) [] [], .mk 4 true (.op (some 44) none (.ld true 4 (.t 43))) [] [], .mk 6 true (.op (some 46) none (.p (.mov (.t 4)))) [] [], .mk 7 true (.op (some 47) none (.p (.mov (.t 5)))) [] [], .mk 9 true (.op (some 6) none (.new [.int .u64 (nl 0), .int .u64 (nl 0), .int .u64 (nl 0), .int .u64 (nl 0), .int .u64 (nl 0), .int .u64 (nl 0), .int .u64 (nl 0), .int .u64 (nl 0), .nils, .nils])) [] [], .mk 2 false (.call (some 42) none (.fn 7) [.t 41]) [43] [6], .mk 5 false (.call (some 45) none (.fn 7) [.t 44]) [] [6], .mk 8 true (.op (some 48) none (.p (.bld [.int .u64 (nl 0), .int .u64 (nl 0), .int .u64 (nl 0), .int .u64 (nl 0), .int .u64 (nl 0), .int .u64 (nl 0), .int .u64 (nl 0), .int .u64 (nl 0), .nils, .nils] [(0, 4, .t 42), (4, 4, .t 45), (8, 1, .t 46), (9, 1, .t 47)]))) [] [], .mk 10 false (.op none none (.st 10 (.t 6) (.t 48))) [] []]
def v3_7 : List VI := [.op (some 49) none (.p (.fda 12 (.t 1))), .op (some 50) none (.ld false 1 (.t 49)), .call (some 51) none (.fn 6) [.t 50, .c (.int .i64 1)], .call (some 52) none (.fn 5) [.t 51], .op (some 53) none (.p (.ixs 4 (.t 52) (.c (.int .i64 0)))), .op (some 54) none (.ld true 4 (.t 53)), .op (some 7) none (.new [.int .u64 (nl 0), .int .u64 (nl 0), .int .u64 (nl 0), .int .u64 (nl 0)]), .op none none (.st 4 (.t 7) (.t 54))]
def v3_8 : List VI := [.op (some 55) none (.p (.fda 13 (.t 1))), .op (some 56) none (.ld false 1 (.t 55)), .call (some 57) none (.fn 6) [.t 56, .c (.int .i64 1)], .call (some 58) none (.fn 5) [.t 57], .op (some 59) none (.p (.ixs 4 (.t 58) (.c (.int .i64 0)))), .op (some 60) none (.ld true 4 (.t 59)), .op (some 8) none (.new [.int .u64 (nl 0), .int .u64 (nl 0), .int .u64 (nl 0), .int .u64 (nl 0)]), .op none none (.st 4 (.t 8) (.t 60))]
def v3_9 : List VI := [.op (some 61) none (.p (.fda 23 (.t 1))), .op (some 62) none (.ld false 1 (.t 61)), .call (some 63) none (.fn 8) [.t 62], .op (some 9) none (.p (.mov (.t 63)))]
def v3_10 : List VI := [.op (some 10) none (.p (.mov (.c .nils)))]
def v3_11 : List VI := [.op (some 11) none (.p (.mov (.c (.int .i64 0))))]
def v3_12 : List VI := [.op (some 64) none (.p (.mov (.t 11))), .op (some 65) none (.p (.bin .lss (.t 64) (.c (.int .i64 4))))]
def v3_13 : List VI := [.op (some 68) none (.p (.fda 10 (.t 1))), .op (some 69) none (.ld false 1 (.t 68)), .op (some 70) none (.p (.mov (.t 3))), .call (some 71) none (.fn 6) [.t 69, .t 70], .op (some 12) none (.p (.mov (.t 71)))]
def v3_14 : List DS := [.mk 0 true (.op (some 73) none (.ld true 10 (.t 6))) [] [], .mk 1 true (.op (some 74) none (.ld true 4 (.t 7))) [] [], .mk 2 true (.op (some 75) none (.ld true 4 (.t 8))) [] [], .mk 3 true (.op (some 76) none (.p (.mov (.t 9)))) [] [], .mk 4 true (.op (some 77) none (.p (.mov (.t 11)))) [] [], .mk 5 true (.op (some 78) none (.p (.ixs 4 (.t 76) (.t 77)))) [] [], .mk 6 true (.op (some 79) none (.ld true 4 (.t 78))) [] [], .mk 7 true (.op (some 80) none (.p (.mov (.t 12)))) [] [], .mk 8 true (.op (some 81) none (.p (.mov (.t 3)))) [] [], .mk 9 true (.op (some 82) none (.p (.bin .quo (.t 81) (.c (.int .i64 2))))) [] [], .mk 10 true (.op (some 83) none (.slx 4 (.t 80) none (some (.t 82)) none)) [] [], .mk 11 true (.op (some 84) none (.p (.fda 11 (.t 1)))) [] [], .mk 12 true (.op (some 85) none (.ld false 1 (.t 84))) [] [], .mk 13 true (.op (some 86) none (.p (.mov (.t 3)))) [] [], .mk 15 true (.op (some 88) none (.p (.mov (.t 3)))) [] [], .mk 16 true (.op (some 89) none (.p (.bin .quo (.t 88) (.c (.int .i64 2))))) [] [], .mk 22 true (.op (some 13) none (.new [.int .u64 (nl 0), .int .u64 (nl 0), .int .u64 (nl 0), .int .u64 (nl 0), .nils, .nils])) [] [], .mk 14 false (.call (some 87) none (.fn 6) [.t 85, .t 86]) [6, 7, 8, 78, 80] [13], .mk 17 true (.op (some 90) none (.slx 4 (.t 87) (some (.t 89)) none none)) [] [], .mk 18 false (.call (some 91) none (.fn 9) [.t 73, .t 74, .t 75, .t 79, .t 83, .t 90]) [] [13], .mk 19 true (.op (some 72) none (.p (.mov (.t 91)))) [] [], .mk 20 true (.op (some 92) none (.p (.ext (.t 72) 0))) [] [], .mk 21 true (.op (some 93) none (.p (.ext (.t 72) 1))) [] [], .mk 23 false (.op none none (.st 6 (.t 13) (.t 92))) [] [], .mk 24 false (.op (some 14) none (.p (.mov (.t 93)))) [] []]
def v3_15 : List VI := [.op (some 94) none (.p (.mov (.t 14))), .op (some 95) none (.p (.un .not (.t 94)))]
def v3_16 : List VI := [.op (some 2) none (.p (.mov (.c (.bool true))))]
def v3_17 : List VI := [.op (some 96) none (.p (.mov (.t 10))), .op (some 97) none (.ld true 6 (.t 13)), .op (some 98) none (.bsl 1 [.int .u64 (nl 0), .int .u64 (nl 0), .int .u64 (nl 0), .int .u64 (nl 0), .nils, .nils] [(0, 6, .t 97)]), .op (some 99) none (.app 6 80 false (.t 96) (.t 98)), .op (some 10) none (.p (.mov (.t 99)))]
def v3_18 : VC := .seq (.reg v3_13) (.seq (.drw v3_14) (.seq (.seq (.reg v3_15) (.cond (.t 95) (.seq (.reg v3_16) .ret) .skip)) (.reg v3_17)))
def v3_19 : List VI := [.op (some 66) none (.p (.mov (.t 11))), .op (some 67) none (.p (.bin .add (.t 66) (.c (.int .i64 1)))), .op (some 11) none (.p (.mov (.t 67)))]
def v3_20 : VC := .seq (.seq (.reg v3_12) (.cond (.t 65) .skip (.exit 0))) (.seq (.block 1 v3_18) (.reg v3_19))
def v3_21 : VC := .loop v3_20
def v3_22 : List VI := [.op (some 101) none (.ld true 10 (.t 6)), .op (some 102) none (.ld true 4 (.t 7)), .op (some 103) none (.ld true 4 (.t 8)), .op (some 104) none (.p (.mov (.t 10))), .call (some 105) none (.fn 10) [.t 101, .t 102, .t 103, .t 104], .op (some 100) none (.p (.mov (.t 105))), .op (some 106) none (.p (.ext (.t 100) 0)), .op (some 107) none (.p (.ext (.t 100) 1)), .op (some 108) none (.p (.ext (.t 100) 2)), .op (some 109) none (.p (.ext (.t 100) 3)), .op (some 15) none (.p (.mov (.t 106))), .op (some 16) none (.p (.mov (.t 107))), .op (some 17) none (.p (.mov (.t 108))), .op (some 18) none (.p (.mov (.t 109)))]
def v3_23 : List VI := [.op (some 110) none (.p (.mov (.t 18))), .op (some 111) none (.p (.eq true .i (.t 110) (.c (.int .i64 0))))]
def v3_24 : List VI := [.op (some 2) none (.p (.mov (.c (.bool false))))]
def v3_25 : List VI := [.op (some 112) none (.p (.mov (.t 17))), .op (some 113) none (.p (.len false (.t 112))), .op (some 114) none (.p (.eq false .i (.t 113) (.c (.int .i64 0))))]
def v3_26 : List VI := [.op (some 116) none (.p (.fda 4 (.t 6))), .op (some 117) none (.ld true 4 (.t 116)), .op (some 118) none (.p (.mov (.t 4))), .op (some 119) none (.p (.mov (.t 5))), .op (some 120) none (.p (.mov (.t 15))), .op (some 121) none (.p (.mov (.t 16))), .call (some 122) none (.fn 11) [.t 117, .t 118, .t 119, .t 120, .t 121], .op (some 115) none (.p (.mov (.t 122))), .op (some 123) none (.p (.ext (.t 115) 0)), .op (some 124) none (.p (.ext (.t 115) 1)), .op (some 19) none (.new [.int .u64 (nl 0), .int .u64 (nl 0), .int .u64 (nl 0), .int .u64 (nl 0)]), .op none none (.st 4 (.t 19) (.t 123)), .op (some 20) none (.p (.mov (.t 124)))]
def v3_27 : List VI := [.op (some 125) none (.p (.mov (.t 20))), .op (some 126) none (.p (.eq false .i (.t 125) (.c (.int .i64 0)))), .op (some 127) none (.p (.mov (.t 126))), .op (some 128) (some (127, true)) (.ld true 4 (.t 19)), .op (some 129) (some (127, true)) (.p (.fda 0 (.t 6))), .op (some 130) (some (127, true)) (.ld true 4 (.t 129)), .call (some 131) (some (127, true)) (.fn 12) [.t 128, .t 130], .op (some 132) none (.p (.pick (.t 127) (.t 131) (.c (.bool false)))), .op (some 2) none (.p (.mov (.t 132)))]
def v3_28 : List VI := [.op (some 133) none (.p (.mov (.t 15))), .op (some 134) none (.p (.len false (.t 133))), .op (some 135) none (.p (.eq true .i (.t 134) (.c (.int .i64 0)))), .op (some 136) none (.p (.mov (.t 135))), .op (some 137) (some (136, false)) (.p (.mov (.t 16))), .op (some 138) (some (136, false)) (.p (.len false (.t 137))), .op (some 139) (some (136, false)) (.p (.eq true .i (.t 138) (.c (.int .i64 0)))), .op (some 140) none (.p (.pick (.t 136) (.c (.bool true)) (.t 139))), .op (some 141) none (.p (.mov (.t 140))), .op (some 142) (some (141, false)) (.p (.mov (.t 17))), .op (some 143) (some (141, false)) (.p (.len false (.t 142))), .op (some 144) (some (141, false)) (.p (.mov (.t 3))), .op (some 145) (some (141, false)) (.p (.bin .mul (.c (.int .i64 2)) (.t 144))), .op (some 146) (some (141, false)) (.p (.bin .add (.c (.int .i64 1)) (.t 145))), .op (some 147) (some (141, false)) (.p (.eq true .i (.t 143) (.t 146))), .op (some 148) none (.p (.pick (.t 141) (.c (.bool true)) (.t 147)))]
def v3_29 : List VI := [.op (some 2) none (.p (.mov (.c (.bool false))))]
def v3_30 : List DS := [.mk 0 true (.op (some 149) none (.p (.fda 4 (.t 6)))) [] [], .mk 1 true (.op (some 150) none (.p (.fda 0 (.t 149)))) [] [], .mk 2 true (.op (some 151) none (.ld true 4 (.t 150))) [] [], .mk 3 true (.op (some 152) none (.p (.mov (.t 17)))) [] [], .mk 4 true (.op (some 153) none (.p (.ixs 4 (.t 152) (.c (.int .i64 0))))) [] [], .mk 5 true (.op (some 154) none (.ld true 4 (.t 153))) [] [], .mk 7 true (.op (some 21) none (.new [.int .u64 (nl 0), .int .u64 (nl 0), .int .u64 (nl 0), .int .u64 (nl 0)])) [] [], .mk 6 false (.call (some 155) none (.fn 13) [.t 151, .t 154]) [] [21], .mk 8 false (.op none none (.st 4 (.t 21) (.t 155))) [] []]
def v3_31 : List VI := [.op (some 156) none (.p (.mov (.t 17))), .op (some 157) none (.p (.ixs 4 (.t 156) (.c (.int .i64 0)))), .op (some 158) none (.ld true 4 (.t 157)), .call (some 159) none (.fn 14) [.t 158], .op (some 160) none (.p (.un .not (.t 159))), .op (some 22) none (.p (.mov (.t 160)))]
def v3_32 : List VI := [.op (some 23) none (.p (.mov (.c (.int .i64 0))))]
def v3_33 : List VI := [.op (some 161) none (.p (.mov (.t 23))), .op (some 162) none (.p (.mov (.t 3))), .op (some 163) none (.p (.bin .lss (.t 161) (.t 162)))]
def v3_34 : List DS := [.mk 0 true (.op (some 166) none (.ld true 4 (.t 21))) [] [], .mk 1 true (.op (some 167) none (.p (.mov (.t 4)))) [] [], .mk 2 true (.op (some 168) none (.p (.mov (.t 23)))) [] [], .mk 3 true (.op (some 169) none (.p (.ixs 4 (.t 167) (.t 168)))) [] [], .mk 4 true (.op (some 170) none (.p (.fda 0 (.t 169)))) [] [], .mk 5 true (.op (some 171) none (.ld true 4 (.t 170))) [] [], .mk 6 true (.op (some 172) none (.p (.mov (.t 17)))) [] [], .mk 7 true (.op (some 173) none (.p (.mov (.t 23)))) [] [], .mk 8 true (.op (some 174) none (.p (.bin .add (.c (.int .i64 1)) (.t 173)))) [] [], .mk 9 true (.op (some 175) none (.p (.ixs 4 (.t 172) (.t 174)))) [] [], .mk 10 true (.op (some 176) none (.ld true 4 (.t 175))) [] [], .mk 13 true (.op (some 179) none (.p (.mov (.t 5)))) [] [], .mk 14 true (.op (some 180) none (.p (.mov (.t 23)))) [] [], .mk 15 true (.op (some 181) none (.p (.ixs 4 (.t 179) (.t 180)))) [] [], .mk 16 true (.op (some 182) none (.p (.fda 0 (.t 181)))) [] [], .mk 17 true (.op (some 183) none (.ld true 4 (.t 182))) [] [], .mk 18 true (.op (some 184) none (.p (.mov (.t 17)))) [] [], .mk 19 true (.op (some 185) none (.p (.mov (.t 3)))) [] [], .mk 20 true (.op (some 186) none (.p (.bin .add (.c (.int .i64 1)) (.t 185)))) [] [], .mk 21 true (.op (some 187) none (.p (.mov (.t 23)))) [] [], .mk 22 true (.op (some 188) none (.p (.bin .add (.t 186) (.t 187)))) [] [], .mk 23 true (.op (some 189) none (.p (.ixs 4 (.t 184) (.t 188)))) [] [], .mk 24 true (.op (some 190) none (.ld true 4 (.t 189))) [] [], .mk 11 false (.call (some 177) none (.fn 13) [.t 171, .t 176]) [21, 182, 189] [], .mk 12 false (.call (some 178) none (.fn 15) [.t 166, .t 177]) [182, 189] [], .mk 25 false (.call (some 191) none (.fn 13) [.t 183, .t 190]) [] [], .mk 26 false (.call (some 192) none (.fn 15) [.t 178, .t 191]) [] [], .mk 27 false (.op none none (.st 4 (.t 21) (.t 192))) [] []]
def v3_35 : List VI := [.op (some 193) none (.p (.mov (.t 22))), .op (some 194) none (.p (.mov (.t 193))), .op (some 195) (some (194, false)) (.p (.mov (.t 17))), .op (some 196) (some (194, false)) (.p (.mov (.t 23))), .op (some 197) (some (194, false)) (.p (.bin .add (.c (.int .i64 1)) (.t 196))), .op (some 198) (some (194, false)) (.p (.ixs 4 (.t 195) (.t 197))), .op (some 199) (some (194, false)) (.ld true 4 (.t 198)), .call (some 200) (some (194, false)) (.fn 14) [.t 199], .op (some 201) (some (194, false)) (.p (.un .not (.t 200))), .op (some 202) none (.p (.pick (.t 194) (.c (.bool true)) (.t 201))), .op (some 203) none (.p (.mov (.t 202))), .op (some 204) (some (203, false)) (.p (.mov (.t 17))), .op (some 205) (some (203, false)) (.p (.mov (.t 3))), .op (some 206) (some (203, false)) (.p (.bin .add (.c (.int .i64 1)) (.t 205))), .op (some 207) (some (203, false)) (.p (.mov (.t 23))), .op (some 208) (some (203, false)) (.p (.bin .add (.t 206) (.t 207))), .op (some 209) (some (203, false)) (.p (.ixs 4 (.t 204) (.t 208))), .op (some 210) (some (203, false)) (.ld true 4 (.t 209)), .call (some 211) (some (203, false)) (.fn 14) [.t 210], .op (some 212) (some (203, false)) (.p (.un .not (.t 211))), .op (some 213) none (.p (.pick (.t 203) (.c (.bool true)) (.t 212))), .op (some 22) none (.p (.mov (.t 213)))]
def v3_36 : VC := .seq (.drw v3_34) (.reg v3_35)
def v3_37 : List VI := [.op (some 164) none (.p (.mov (.t 23))), .op (some 165) none (.p (.bin .add (.t 164) (.c (.int .i64 1)))), .op (some 23) none (.p (.mov (.t 165)))]
def v3_38 : VC := .seq (.seq (.reg v3_33) (.cond (.t 163) .skip (.exit 2))) (.seq (.block 3 v3_36) (.reg v3_37))
def v3_39 : VC := .loop v3_38
def v3_40 : List VI := [.op (some 214) none (.p (.mov (.t 22))), .op (some 215) none (.p (.mov (.t 214))), .op (some 216) (some (215, true)) (.ld true 4 (.t 21)), .call (some 217) (some (215, true)) (.fn 14) [.t 216], .op (some 218) none (.p (.pick (.t 215) (.t 217) (.c (.bool false)))), .op (some 2) none (.p (.mov (.t 218)))]
def v3 : VC := .seq (.reg v3_0) (.seq (.reg v3_1) (.seq (.seq (.reg v3_2) (.cond (.t 29) (.reg v3_3) .skip)) (.seq (.reg v3_4) (.seq (.reg v3_5) (.seq (.drw v3_6) (.seq (.reg v3_7) (.seq (.reg v3_8) (.seq (.reg v3_9) (.seq (.reg v3_10) (.seq (.seq (.reg v3_11) (.block 0 v3_21)) (.seq (.reg v3_22) (.seq (.seq (.reg v3_23) (.cond (.t 111) (.seq (.reg v3_24) .ret) .skip)) (.seq (.seq (.reg v3_25) (.cond (.t 114) (.seq (.reg v3_26) (.seq (.reg v3_27) .ret)) .skip)) (.seq (.seq (.reg v3_28) (.cond (.t 148) (.seq (.reg v3_29) .ret) .skip)) (.seq (.drw v3_30) (.seq (.reg v3_31) (.seq (.seq (.reg v3_32) (.block 2 v3_39)) (.seq (.reg v3_40) .ret))))))))))))))))))
def rr3 : List RV := [.t 2]
theorem code3 : (Tryd.f3.body).bind (cCode Tryd.prog) = some v3 := by kernel_rfl
theorem res3 : cRVs Tryd.prog (Tryd.f3.results.toList) = some rr3 := by kernel_rfl
theorem nt3 : Tryd.f3.ntmps = 219 := by kernel_rfl
theorem nm3 : (Tryd.f3.name == "runtime.NumGoroutine") = false := by kernel_rfl
def v4_0 : List VI := [.op (some 4) none (.p (.mov (.c (.int .i64 0))))]
def v4_1 : List VI := [.op (some 5) none (.p (.mov (.c (.int .i64 1))))]
def v4_2 : List VI := [.op (some 6) none (.p (.mov (.t 5))), .op (some 7) none (.p (.bin .mul (.c (.int .i64 2)) (.t 6))), .op (some 8) none (.p (.mov (.t 0))), .op (some 9) none (.p (.bin .leq (.t 7) (.t 8))), .op (some 10) none (.p (.mov (.t 9))), .op (some 11) (some (10, true)) (.p (.mov (.t 5))), .op (some 12) (some (10, true)) (.p (.bin .mul (.c (.int .i64 2)) (.t 11))), .op (some 13) (some (10, true)) (.p (.mov (.t 1))), .op (some 14) (some (10, true)) (.p (.bin .leq (.t 12) (.t 13))), .op (some 15) none (.p (.pick (.t 10) (.t 14) (.c (.bool false))))]
def v4_3 : List VI := [.op (some 16) none (.p (.mov (.t 5))), .op (some 17) none (.p (.bin .mul (.c (.int .i64 2)) (.t 16))), .op (some 5) none (.p (.mov (.t 17)))]
def v4_4 : VC := .reg v4_3
def v4_5 : VC := .seq (.seq (.reg v4_2) (.cond (.t 15) .skip (.exit 0))) (.block 1 v4_4)
def v4_6 : VC := .loop v4_5
def v4_7 : List VI := [.op (some 18) none (.p (.mov (.t 5))), .op (some 4) none (.p (.mov (.t 18)))]
def v4 : VC := .seq (.reg v4_0) (.seq (.reg v4_1) (.seq (.block 0 v4_6) (.seq (.reg v4_7) .ret)))
def rr4 : List RV := [.t 4]
theorem code4 : (Tryd.f4.body).bind (cCode Tryd.prog) = some v4 := by kernel_rfl
theorem res4 : cRVs Tryd.prog (Tryd.f4.results.toList) = some rr4 := by kernel_rfl
theorem nt4 : Tryd.f4.ntmps = 19 := by kernel_rfl
theorem nm4 : (Tryd.f4.name == "runtime.NumGoroutine") = false := by kernel_rfl
def v5_0 : List VI := [.op (some 2) none (.p (.mov (.c .nils)))]
def v5_1 : List VI := [.op (some 3) none (.p (.mov (.c .nils)))]
def v5_2 : List VI := [.op (some 4) none (.p (.mov (.c (.int .i64 0))))]
def v5_3 : List VI := [.op (some 5) none (.p (.mov (.t 4))), .op (some 6) none (.p (.mov (.t 0))), .op (some 7) none (.p (.len false (.t 6))), .op (some 8) none (.p (.bin .lss (.t 5) (.t 7)))]
def v5_4 : List VI := [.op (some 11) none (.p (.mov (.t 3))), .op (some 12) none (.p (.mov (.t 0))), .op (some 13) none (.p (.mov (.t 4))), .op (some 14) none (.p (.ixs 4 (.t 12) (.t 13))), .op (some 15) none (.ld true 4 (.t 14)), .op (some 16) none (.p (.bld [.int .u64 (nl 0), .int .u64 (nl 0), .int .u64 (nl 0), .int .u64 (nl 0)] [(0, 4, .t 15)])), .op (some 17) none (.bsl 1 [.int .u64 (nl 0), .int .u64 (nl 0), .int .u64 (nl 0), .int .u64 (nl 0)] [(0, 4, .t 16)]), .op (some 18) none (.app 4 32 false (.t 11) (.t 17)), .op (some 3) none (.p (.mov (.t 18)))]
def v5_5 : VC := .reg v5_4
def v5_6 : List VI := [.op (some 9) none (.p (.mov (.t 4))), .op (some 10) none (.p (.bin .add (.t 9) (.c (.int .i64 1)))), .op (some 4) none (.p (.mov (.t 10)))]
def v5_7 : VC := .seq (.seq (.reg v5_3) (.cond (.t 8) .skip (.exit 0))) (.seq (.block 1 v5_5) (.reg v5_6))
def v5_8 : VC := .loop v5_7
def v5_9 : List VI := [.op (some 19) none (.p (.mov (.t 3))), .op (some 2) none (.p (.mov (.t 19)))]
def v5 : VC := .seq (.reg v5_0) (.seq (.reg v5_1) (.seq (.seq (.reg v5_2) (.block 0 v5_8)) (.seq (.reg v5_9) .ret)))
def rr5 : List RV := [.t 2]
theorem code5 : (Tryd.f5.body).bind (cCode Tryd.prog) = some v5 := by kernel_rfl
theorem res5 : cRVs Tryd.prog (Tryd.f5.results.toList) = some rr5 := by kernel_rfl
theorem nt5 : Tryd.f5.ntmps = 20 := by kernel_rfl
theorem nm5 : (Tryd.f5.name == "runtime.NumGoroutine") = false := by kernel_rfl
def v6_0 : List VI := [.op (some 4) none (.p (.mov (.c .nils)))]
def v6_1 : List VI := [.op (some 5) none (.p (.mov (.c .nils)))]
def v6_2 : List VI := [.op (some 6) none (.p (.mov (.c (.int .i64 0))))]
def v6_3 : List VI := [.op (some 7) none (.p (.mov (.t 6))), .op (some 8) none (.p (.mov (.t 1))), .op (some 9) none (.p (.bin .lss (.t 7) (.t 8)))]
def v6_4 : List VI := [.op (some 12) none (.p (.mov (.t 6))), .op (some 13) none (.p (.mov (.t 0))), .op (some 14) none (.p (.len false (.t 13))), .op (some 15) none (.p (.bin .lss (.t 12) (.t 14)))]
def v6_5 : List VI := [.op (some 16) none (.p (.mov (.t 5))), .op (some 17) none (.p (.mov (.t 0))), .op (some 18) none (.p (.mov (.t 6))), .op (some 19) none (.p (.ixs 4 (.t 17) (.t 18))), .op (some 20) none (.ld true 4 (.t 19)), .op (some 21) none (.bsl 1 [.int .u64 (nl 0), .int .u64 (nl 0), .int .u64 (nl 0), .int .u64 (nl 0)] [(0, 4, .t 20)]), .op (some 22) none (.app 4 32 false (.t 16) (.t 21)), .op (some 5) none (.p (.mov (.t 22)))]
def v6_6 : List VI := [.op (some 23) none (.p (.mov (.t 5))), .op (some 24) none (.p (.mov (.t 6))), .op (some 25) none (.p (.bin .mul (.c (.int .i64 3)) (.t 24))), .op (some 26) none (.p (.bin .add (.t 25) (.c (.int .i64 2)))), .op (some 27) none (.p (.cvi .u64 (.t 26))), .call (some 28) none (.fn 16) [.t 27], .op (some 29) none (.bsl 1 [.int .u64 (nl 0), .int .u64 (nl 0), .int .u64 (nl 0), .int .u64 (nl 0)] [(0, 4, .t 28)]), .op (some 30) none (.app 4 32 false (.t 23) (.t 29)), .op (some 5) none (.p (.mov (.t 30)))]
def v6_7 : VC := .seq (.reg v6_4) (.cond (.t 15) (.reg v6_5) (.reg v6_6))
def v6_8 : List VI := [.op (some 10) none (.p (.mov (.t 6))), .op (some 11) none (.p (.bin .add (.t 10) (.c (.int .i64 1)))), .op (some 6) none (.p (.mov (.t 11)))]
def v6_9 : VC := .seq (.seq (.reg v6_3) (.cond (.t 9) .skip (.exit 0))) (.seq (.block 1 v6_7) (.reg v6_8))
def v6_10 : VC := .loop v6_9
def v6_11 : List VI := [.op (some 31) none (.p (.mov (.t 5))), .op (some 4) none (.p (.mov (.t 31)))]
def v6 : VC := .seq (.reg v6_0) (.seq (.reg v6_1) (.seq (.seq (.reg v6_2) (.block 0 v6_10)) (.seq (.reg v6_11) .ret)))
def rr6 : List RV := [.t 4]
theorem code6 : (Tryd.f6.body).bind (cCode Tryd.prog) = some v6 := by kernel_rfl
theorem res6 : cRVs Tryd.prog (Tryd.f6.results.toList) = some rr6 := by kernel_rfl
theorem nt6 : Tryd.f6.ntmps = 32 := by kernel_rfl
theorem nm6 : (Tryd.f6.name == "runtime.NumGoroutine") = false := by kernel_rfl
def v7_0 : List VI := [.op (some 1) none (.box (.t 0)), .op (some 2) none (.new [.int .u64 (nl 0), .int .u64 (nl 0), .int .u64 (nl 0), .int .u64 (nl 0)])]
def v7_1 : List VI := [.op (some 3) none (.ld true 4 (.t 1)), .op (some 4) none (.p (.bld [.int .u64 (nl 0), .int .u64 (nl 0), .int .u64 (nl 0), .int .u64 (nl 0)] [(0, 4, .t 3)])), .op none none (.st 4 (.t 2) (.t 4))]
def v7 : VC := .seq (.reg v7_0) (.seq (.reg v7_1) .ret)
def rr7 : List RV := [.m 2 true 4]
theorem code7 : (Tryd.f7.body).bind (cCode Tryd.prog) = some v7 := by kernel_rfl
theorem res7 : cRVs Tryd.prog (Tryd.f7.results.toList) = some rr7 := by kernel_rfl
theorem nt7 : Tryd.f7.ntmps = 5 := by kernel_rfl
theorem nm7 : (Tryd.f7.name == "runtime.NumGoroutine") = false := by kernel_rfl
def v8_0 : List VI := [.op (some 2) none (.p (.mov (.c .nils)))]
def v8_1 : List VI := [.op (some 3) none (.p (.mov (.c .nils)))]
def v8_2 : List VI := [.op (some 4) none (.p (.mov (.c (.int .u64 (nl 2)))))]
def v8_3 : List VI := [.op (some 5) none (.p (.mov (.c (.int .i64 0))))]
def v8_4 : List VI := [.op (some 9) none (.p (.mov (.t 3))), .op (some 10) none (.p (.len false (.t 9))), .op (some 11) none (.p (.bin .lss (.t 10) (.c (.int .i64 4)))), .op (some 12) none (.p (.mov (.t 11))), .op (some 13) (some (12, true)) (.p (.mov (.t 5))), .op (some 14) (some (12, true)) (.p (.mov (.t 0))), .op (some 15) (some (12, true)) (.p (.len false (.t 14))), .op (some 16) (some (12, true)) (.p (.bin .add (.t 15) (.c (.int .i64 1000)))), .op (some 17) (some (12, true)) (.p (.bin .lss (.t 13) (.t 16))), .op (some 18) none (.p (.pick (.t 12) (.t 17) (.c (.bool false))))]
def v8_5 : List VI := [.op (some 21) none (.p (.mov (.t 4))), .call (some 22) none (.fn 16) [.t 21], .op (some 6) none (.new [.int .u64 (nl 0), .int .u64 (nl 0), .int .u64 (nl 0), .int .u64 (nl 0)]), .op none none (.st 4 (.t 6) (.t 22))]
def v8_6 : List VI := [.op (some 23) none (.p (.mov (.t 5))), .op (some 24) none (.p (.mov (.t 0))), .op (some 25) none (.p (.len false (.t 24))), .op (some 26) none (.p (.bin .lss (.t 23) (.t 25)))]
def v8_7 : List VI := [.op (some 27) none (.p (.mov (.t 0))), .op (some 28) none (.p (.mov (.t 5))), .op (some 29) none (.p (.ixs 4 (.t 27) (.t 28))), .op (some 30) none (.ld true 4 (.t 29)), .op none none (.st 4 (.t 6) (.t 30))]
def v8_8 : List VI := [.op (some 31) none (.p (.mov (.t 4))), .op (some 32) none (.p (.bin .add (.t 31) (.c (.int .u64 (nl 1))))), .op (some 4) none (.p (.mov (.t 32)))]
def v8_9 : List VI := [.op (some 33) none (.ld true 4 (.t 6)), .call (some 34) none (.fn 14) [.t 33], .op (some 35) none (.p (.un .not (.t 34))), .op (some 7) none (.p (.mov (.t 35)))]
def v8_10 : List VI := [.op (some 8) none (.p (.mov (.c (.int .i64 0))))]
def v8_11 : List VI := [.op (some 36) none (.p (.mov (.t 8))), .op (some 37) none (.p (.mov (.t 3))), .op (some 38) none (.p (.len false (.t 37))), .op (some 39) none (.p (.bin .lss (.t 36) (.t 38)))]
def v8_12 : List DS := [.mk 0 true (.op (some 42) none (.p (.mov (.t 7)))) [] [], .mk 1 true (.op (some 43) none (.p (.mov (.t 42)))) [] [], .mk 2 true (.op (some 44) (some (43, true)) (.p (.mov (.t 3)))) [] [], .mk 3 true (.op (some 45) (some (43, true)) (.p (.mov (.t 8)))) [] [], .mk 4 true (.op (some 46) (some (43, true)) (.p (.ixs 4 (.t 44) (.t 45)))) [] [], .mk 5 true (.op (some 47) (some (43, true)) (.ld true 4 (.t 46))) [] [], .mk 6 true (.op (some 48) (some (43, true)) (.p (.mov (.t 3)))) [] [], .mk 7 true (.op (some 49) (some (43, true)) (.p (.mov (.t 8)))) [] [], .mk 8 true (.op (some 50) (some (43, true)) (.p (.ixs 4 (.t 48) (.t 49)))) [] [], .mk 9 true (.op (some 51) (some (43, true)) (.ld true 4 (.t 50))) [] [], .mk 11 true (.op (some 53) (some (43, true)) (.ld true 4 (.t 6))) [] [], .mk 12 true (.op (some 54) (some (43, true)) (.ld true 4 (.t 6))) [] [], .mk 10 false (.call (some 52) (some (43, true)) (.fn 13) [.t 47, .t 51]) [6, 6] [], .mk 13 false (.call (some 55) (some (43, true)) (.fn 13) [.t 53, .t 54]) [] [], .mk 14 false (.call (some 56) (some (43, true)) (.fn 17) [.t 52, .t 55]) [] [], .mk 15 true (.op (some 57) (some (43, true)) (.p (.un .not (.t 56)))) [] [], .mk 16 true (.op (some 58) none (.p (.pick (.t 43) (.t 57) (.c (.bool false))))) [] [], .mk 17 false (.op (some 7) none (.p (.mov (.t 58)))) [] []]
def v8_13 : VC := .drw v8_12
def v8_14 : List VI := [.op (some 40) none (.p (.mov (.t 8))), .op (some 41) none (.p (.bin .add (.t 40) (.c (.int .i64 1)))), .op (some 8) none (.p (.mov (.t 41)))]
def v8_15 : VC := .seq (.seq (.reg v8_11) (.cond (.t 39) .skip (.exit 2))) (.seq (.block 3 v8_13) (.reg v8_14))
def v8_16 : VC := .loop v8_15
def v8_17 : List VI := [.op (some 59) none (.p (.mov (.t 7)))]
def v8_18 : List VI := [.op (some 60) none (.p (.mov (.t 3))), .op (some 61) none (.ld true 4 (.t 6)), .op (some 62) none (.bsl 1 [.int .u64 (nl 0), .int .u64 (nl 0), .int .u64 (nl 0), .int .u64 (nl 0)] [(0, 4, .t 61)]), .op (some 63) none (.app 4 32 false (.t 60) (.t 62)), .op (some 3) none (.p (.mov (.t 63)))]
def v8_19 : VC := .seq (.reg v8_5) (.seq (.seq (.reg v8_6) (.cond (.t 26) (.reg v8_7) (.reg v8_8))) (.seq (.reg v8_9) (.seq (.seq (.reg v8_10) (.block 2 v8_16)) (.seq (.reg v8_17) (.cond (.t 59) (.reg v8_18) .skip)))))
def v8_20 : List VI := [.op (some 19) none (.p (.mov (.t 5))), .op (some 20) none (.p (.bin .add (.t 19) (.c (.int .i64 1)))), .op (some 5) none (.p (.mov (.t 20)))]
def v8_21 : VC := .seq (.seq (.reg v8_4) (.cond (.t 18) .skip (.exit 0))) (.seq (.block 1 v8_19) (.reg v8_20))
def v8_22 : VC := .loop v8_21
def v8_23 : List VI := [.op (some 64) none (.p (.mov (.t 3))), .op (some 65) none (.p (.len false (.t 64))), .op (some 66) none (.p (.bin .lss (.t 65) (.c (.int .i64 4))))]
def v8_24 : List VI := [.op (some 67) none (.p (.mov (.t 3))), .op (some 68) none (.p (.bld [.int .u64 (nl 0), .int .u64 (nl 0), .int .u64 (nl 0), .int .u64 (nl 0)] [(0, 1, .c (.int .u64 (nl 2)))])), .op (some 69) none (.bsl 1 [.int .u64 (nl 0), .int .u64 (nl 0), .int .u64 (nl 0), .int .u64 (nl 0)] [(0, 4, .t 68)]), .op (some 70) none (.app 4 32 false (.t 67) (.t 69)), .op (some 3) none (.p (.mov (.t 70)))]
def v8_25 : VC := .reg v8_24
def v8_26 : VC := .seq (.seq (.reg v8_23) (.cond (.t 66) .skip (.exit 4))) (.block 5 v8_25)
def v8_27 : VC := .loop v8_26
def v8_28 : List VI := [.op (some 71) none (.p (.mov (.t 3))), .op (some 2) none (.p (.mov (.t 71)))]
def v8 : VC := .seq (.reg v8_0) (.seq (.reg v8_1) (.seq (.reg v8_2) (.seq (.seq (.reg v8_3) (.block 0 v8_22)) (.seq (.block 4 v8_27) (.seq (.reg v8_28) .ret)))))
def rr8 : List RV := [.t 2]
theorem code8 : (Tryd.f8.body).bind (cCode Tryd.prog) = some v8 := by kernel_rfl
theorem res8 : cRVs Tryd.prog (Tryd.f8.results.toList) = some rr8 := by kernel_rfl
theorem nt8 : Tryd.f8.ntmps = 72 := by kernel_rfl
theorem nm8 : (Tryd.f8.name == "runtime.NumGoroutine") = false := by kernel_rfl
def v9_0 : List VI := [.op (some 6) none (.box (.t 0)), .op (some 7) none (.box (.t 1)), .op (some 8) none (.box (.t 2)), .op (some 9) none (.box (.t 3)), .op (some 12) none (.new [.int .u64 (nl 0), .int .u64 (nl 0), .int .u64 (nl 0), .int .u64 (nl 0), .nils, .nils]), .op (some 13) none (.p (.mov (.c (.bool false))))]
def v9_1 : List VI := [.op (some 23) none (.p (.mov (.t 4))), .op (some 24) none (.p (.len false (.t 23))), .op (some 14) none (.p (.mov (.t 24)))]
def v9_2 : List VI := [.op (some 25) none (.ld true 4 (.t 9)), .call (some 26) none (.fn 18) [.t 25], .op (some 15) none (.new [.int .u64 (nl 0), .int .u64 (nl 0), .int .u64 (nl 0), .int .u64 (nl 0)]), .op none none (.st 4 (.t 15) (.t 26))]
def v9_3 : List DS := [.mk 0 true (.op (some 27) none (.p (.fda 0 (.t 7)))) [] [], .mk 1 true (.op (some 28) none (.ld true 4 (.t 27))) [] [], .mk 2 true (.op (some 29) none (.ld true 4 (.t 9))) [] [], .mk 4 true (.op (some 31) none (.ld true 4 (.t 9))) [] [], .mk 6 true (.op (some 33) none (.p (.fda 0 (.t 6)))) [] [], .mk 7 true (.op (some 34) none (.p (.fda 0 (.t 33)))) [] [], .mk 8 true (.op (some 35) none (.ld true 4 (.t 34))) [] [], .mk 10 true (.op (some 37) none (.p (.fda 0 (.t 8)))) [] [], .mk 11 true (.op (some 38) none (.ld true 4 (.t 37))) [] [], .mk 12 true (.op (some 39) none (.ld true 4 (.t 15))) [] [], .mk 14 true (.op (some 41) none (.ld true 4 (.t 15))) [] [], .mk 17 true (.op (some 16) none (.new [.int .u64 (nl 0), .int .u64 (nl 0), .int .u64 (nl 0), .int .u64 (nl 0)])) [] [], .mk 3 false (.call (some 30) none (.fn 13) [.t 28, .t 29]) [9, 34, 37, 15, 15] [16], .mk 5 false (.call (some 32) none (.fn 13) [.t 30, .t 31]) [34, 37, 15, 15] [16], .mk 9 false (.call (some 36) none (.fn 15) [.t 32, .t 35]) [37, 15, 15] [16], .mk 13 false (.call (some 40) none (.fn 13) [.t 38, .t 39]) [15] [16], .mk 15 false (.call (some 42) none (.fn 13) [.t 40, .t 41]) [] [16], .mk 16 false (.call (some 43) none (.fn 15) [.t 36, .t 42]) [] [16], .mk 18 false (.op none none (.st 4 (.t 16) (.t 43))) [] []]
def v9_4 : List VI := [.op (some 17) none (.p (.mov (.c .nils))), .op (some 18) none (.p (.mov (.c .nils)))]
def v9_5 : List VI := [.op (some 19) none (.p (.mov (.c (.int .i64 0))))]
def v9_6 : List VI := [.op (some 44) none (.p (.mov (.t 19))), .op (some 45) none (.p (.mov (.t 14))), .op (some 46) none (.p (.bin .lss (.t 44) (.t 45)))]
def v9_7 : List DS := [.mk 0 true (.op (some 49) none (.p (.mov (.t 17)))) [] [], .mk 1 true (.op (some 50) none (.ld true 4 (.t 15))) [] [], .mk 2 true (.op (some 51) none (.p (.fda 8 (.t 6)))) [] [], .mk 3 true (.op (some 52) none (.ld false 1 (.t 51))) [] [], .mk 4 true (.op (some 53) none (.p (.mov (.t 19)))) [] [], .mk 5 true (.op (some 54) none (.p (.ixs 4 (.t 52) (.t 53)))) [] [], .mk 6 true (.op (some 55) none (.p (.fda 0 (.t 54)))) [] [], .mk 7 true (.op (some 56) none (.ld true 4 (.t 55))) [] [], .mk 9 true (.op (some 58) none (.ld true 4 (.t 9))) [] [], .mk 10 true (.op (some 59) none (.p (.fda 8 (.t 6)))) [] [], .mk 11 true (.op (some 60) none (.ld false 1 (.t 59))) [] [], .mk 12 true (.op (some 61) none (.p (.mov (.t 14)))) [] [], .mk 13 true (.op (some 62) none (.p (.mov (.t 19)))) [] [], .mk 14 true (.op (some 63) none (.p (.bin .add (.t 61) (.t 62)))) [] [], .mk 15 true (.op (some 64) none (.p (.ixs 4 (.t 60) (.t 63)))) [] [], .mk 16 true (.op (some 65) none (.p (.fda 0 (.t 64)))) [] [], .mk 17 true (.op (some 66) none (.ld true 4 (.t 65))) [] [], .mk 8 false (.call (some 57) none (.fn 13) [.t 50, .t 56]) [9, 59, 65] [], .mk 18 false (.call (some 67) none (.fn 13) [.t 58, .t 66]) [] [], .mk 19 false (.call (some 68) none (.fn 15) [.t 57, .t 67]) [] [], .mk 20 true (.op (some 69) none (.bsl 1 [.int .u64 (nl 0), .int .u64 (nl 0), .int .u64 (nl 0), .int .u64 (nl 0)] [(0, 4, .t 68)])) [] [], .mk 21 false (.op (some 70) none (.app 4 32 false (.t 49) (.t 69))) [] [], .mk 22 false (.op (some 17) none (.p (.mov (.t 70)))) [] []]
def v9_8 : List DS := [.mk 0 true (.op (some 71) none (.p (.mov (.t 18)))) [] [], .mk 1 true (.op (some 72) none (.ld true 4 (.t 9))) [] [], .mk 2 true (.op (some 73) none (.p (.fda 9 (.t 6)))) [] [], .mk 3 true (.op (some 74) none (.ld false 1 (.t 73))) [] [], .mk 4 true (.op (some 75) none (.p (.mov (.t 19)))) [] [], .mk 5 true (.op (some 76) none (.p (.ixs 4 (.t 74) (.t 75)))) [] [], .mk 6 true (.op (some 77) none (.p (.fda 0 (.t 76)))) [] [], .mk 7 true (.op (some 78) none (.ld true 4 (.t 77))) [] [], .mk 9 true (.op (some 80) none (.ld true 4 (.t 15))) [] [], .mk 10 true (.op (some 81) none (.p (.fda 9 (.t 6)))) [] [], .mk 11 true (.op (some 82) none (.ld false 1 (.t 81))) [] [], .mk 12 true (.op (some 83) none (.p (.mov (.t 14)))) [] [], .mk 13 true (.op (some 84) none (.p (.mov (.t 19)))) [] [], .mk 14 true (.op (some 85) none (.p (.bin .add (.t 83) (.t 84)))) [] [], .mk 15 true (.op (some 86) none (.p (.ixs 4 (.t 82) (.t 85)))) [] [], .mk 16 true (.op (some 87) none (.p (.fda 0 (.t 86)))) [] [], .mk 17 true (.op (some 88) none (.ld true 4 (.t 87))) [] [], .mk 8 false (.call (some 79) none (.fn 13) [.t 72, .t 78]) [15, 81, 87] [], .mk 18 false (.call (some 89) none (.fn 13) [.t 80, .t 88]) [] [], .mk 19 false (.call (some 90) none (.fn 15) [.t 79, .t 89]) [] [], .mk 20 true (.op (some 91) none (.bsl 1 [.int .u64 (nl 0), .int .u64 (nl 0), .int .u64 (nl 0), .int .u64 (nl 0)] [(0, 4, .t 90)])) [] [], .mk 21 false (.op (some 92) none (.app 4 32 false (.t 71) (.t 91))) [] [], .mk 22 false (.op (some 18) none (.p (.mov (.t 92)))) [] []]
def v9_9 : VC := .seq (.drw v9_7) (.drw v9_8)
def v9_10 : List VI := [.op (some 47) none (.p (.mov (.t 19))), .op (some 48) none (.p (.bin .add (.t 47) (.c (.int .i64 1)))), .op (some 19) none (.p (.mov (.t 48)))]
def v9_11 : VC := .seq (.seq (.reg v9_6) (.cond (.t 46) .skip (.exit 0))) (.seq (.block 1 v9_9) (.reg v9_10))
def v9_12 : VC := .loop v9_11
def v9_13 : List VI := [.op (some 20) none (.p (.mov (.c (.int .i64 0))))]
def v9_14 : List VI := [.op (some 93) none (.p (.mov (.t 20))), .op (some 94) none (.p (.mov (.t 14))), .op (some 95) none (.p (.bin .lss (.t 93) (.t 94)))]
def v9_15 : List DS := [.mk 0 true (.op (some 98) none (.ld true 4 (.t 16))) [] [], .mk 1 true (.op (some 99) none (.p (.mov (.t 5)))) [] [], .mk 2 true (.op (some 100) none (.p (.mov (.t 20)))) [] [], .mk 3 true (.op (some 101) none (.p (.ixs 4 (.t 99) (.t 100)))) [] [], .mk 4 true (.op (some 102) none (.ld true 4 (.t 101))) [] [], .mk 5 true (.op (some 103) none (.p (.mov (.t 18)))) [] [], .mk 6 true (.op (some 104) none (.p (.mov (.t 20)))) [] [], .mk 7 true (.op (some 105) none (.p (.ixs 4 (.t 103) (.t 104)))) [] [], .mk 8 true (.op (some 106) none (.ld true 4 (.t 105))) [] [], .mk 9 false (.call (some 107) none (.fn 13) [.t 102, .t 106]) [16] [], .mk 10 false (.call (some 108) none (.fn 19) [.t 98, .t 107]) [] [], .mk 11 false (.op none none (.st 4 (.t 16) (.t 108))) [] []]
def v9_16 : List VI := [.op (some 109) none (.p (.mov (.t 20))), .op (some 110) none (.p (.bin .gtr (.t 109) (.c (.int .i64 0))))]
def v9_17 : List DS := [.mk 0 true (.op (some 111) none (.ld true 4 (.t 16))) [] [], .mk 1 true (.op (some 112) none (.p (.mov (.t 4)))) [] [], .mk 2 true (.op (some 113) none (.p (.mov (.t 20)))) [] [], .mk 3 true (.op (some 114) none (.p (.ixs 4 (.t 112) (.t 113)))) [] [], .mk 4 true (.op (some 115) none (.ld true 4 (.t 114))) [] [], .mk 5 true (.op (some 116) none (.p (.mov (.t 17)))) [] [], .mk 6 true (.op (some 117) none (.p (.mov (.t 20)))) [] [], .mk 7 true (.op (some 118) none (.p (.ixs 4 (.t 116) (.t 117)))) [] [], .mk 8 true (.op (some 119) none (.ld true 4 (.t 118))) [] [], .mk 11 true (.op (some 122) none (.p (.mov (.t 4)))) [] [], .mk 12 true (.op (some 123) none (.p (.mov (.t 20)))) [] [], .mk 13 true (.op (some 124) none (.p (.ixs 4 (.t 122) (.t 123)))) [] [], .mk 14 true (.op (some 125) none (.ld true 4 (.t 124))) [] [], .mk 15 true (.op (some 126) none (.p (.mov (.t 5)))) [] [], .mk 16 true (.op (some 127) none (.p (.mov (.t 20)))) [] [], .mk 17 true (.op (some 128) none (.p (.ixs 4 (.t 126) (.t 127)))) [] [], .mk 18 true (.op (some 129) none (.ld true 4 (.t 128))) [] [], .mk 20 true (.op (some 131) none (.p (.fda 4 (.t 6)))) [] [], .mk 21 true (.op (some 132) none (.p (.fda 0 (.t 131)))) [] [], .mk 22 true (.op (some 133) none (.ld true 4 (.t 132))) [] [], .mk 9 false (.call (some 120) none (.fn 13) [.t 115, .t 119]) [16, 124, 128, 132] [], .mk 10 false (.call (some 121) none (.fn 19) [.t 111, .t 120]) [124, 128, 132] [], .mk 19 false (.call (some 130) none (.fn 13) [.t 125, .t 129]) [132] [], .mk 23 false (.call (some 134) none (.fn 13) [.t 130, .t 133]) [] [], .mk 24 false (.call (some 135) none (.fn 19) [.t 121, .t 134]) [] [], .mk 25 false (.op none none (.st 4 (.t 16) (.t 135))) [] []]
def v9_18 : VC := .seq (.drw v9_15) (.seq (.reg v9_16) (.cond (.t 110) (.drw v9_17) .skip))
def v9_19 : List VI := [.op (some 96) none (.p (.mov (.t 20))), .op (some 97) none (.p (.bin .add (.t 96) (.c (.int .i64 1)))), .op (some 20) none (.p (.mov (.t 97)))]
def v9_20 : VC := .seq (.seq (.reg v9_14) (.cond (.t 95) .skip (.exit 2))) (.seq (.block 3 v9_18) (.reg v9_19))
def v9_21 : VC := .loop v9_20
def v9_22 : List DS := [.mk 0 true (.op (some 136) none (.p (.mov (.t 17)))) [] [], .mk 1 true (.op (some 137) none (.p (.ixs 4 (.t 136) (.c (.int .i64 0))))) [] [], .mk 2 true (.op (some 138) none (.ld true 4 (.t 137))) [] [], .mk 3 true (.op (some 139) none (.p (.mov (.t 5)))) [] [], .mk 4 true (.op (some 140) none (.p (.ixs 4 (.t 139) (.c (.int .i64 0))))) [] [], .mk 5 true (.op (some 141) none (.ld true 4 (.t 140))) [] [], .mk 6 true (.op (some 142) none (.p (.fda 4 (.t 6)))) [] [], .mk 7 true (.op (some 143) none (.p (.fda 0 (.t 142)))) [] [], .mk 8 true (.op (some 144) none (.ld true 4 (.t 143))) [] [], .mk 11 true (.op (some 21) none (.new [.int .u64 (nl 0), .int .u64 (nl 0), .int .u64 (nl 0), .int .u64 (nl 0)])) [] [], .mk 9 false (.call (some 145) none (.fn 13) [.t 141, .t 144]) [137] [21], .mk 10 false (.call (some 146) none (.fn 15) [.t 138, .t 145]) [] [21], .mk 12 false (.op none none (.st 4 (.t 21) (.t 146))) [] []]
def v9_23 : List VI := [.op (some 147) none (.ld true 4 (.t 21)), .call (some 148) none (.fn 14) [.t 147]]
def v9_24 : List VI := [.op (some 149) none (.p (.bld [.int .u64 (nl 0), .int .u64 (nl 0), .int .u64 (nl 0), .int .u64 (nl 0), .nils, .nils] [])), .op none none (.st 6 (.t 12) (.t 149)), .op (some 13) none (.p (.mov (.c (.bool false))))]
def v9_25 : List DS := [.mk 0 true (.op (some 150) none (.ld true 4 (.t 9))) [] [], .mk 1 true (.op (some 151) none (.ld true 4 (.t 16))) [] [], .mk 2 true (.op (some 152) none (.ld true 4 (.t 21))) [] [], .mk 6 true (.op (some 156) none (.p (.mov (.t 4)))) [] [], .mk 7 true (.op (some 157) none (.slx 4 (.t 156) (some (.c (.int .i64 1))) none none)) [] [], .mk 9 true (.op (some 159) none (.bsl 0 [] [])) [] [], .mk 10 true (.op (some 160) none (.p (.mov (.t 5)))) [] [], .mk 13 true (.op (some 22) none (.new [.int .u64 (nl 0), .int .u64 (nl 0), .int .u64 (nl 0), .int .u64 (nl 0), .nils, .nils])) [] [], .mk 3 false (.call (some 153) none (.fn 18) [.t 152]) [9, 16, 156] [159, 22], .mk 4 false (.call (some 154) none (.fn 13) [.t 151, .t 153]) [9, 156] [159, 22], .mk 5 true (.op (some 155) none (.bsl 1 [.int .u64 (nl 0), .int .u64 (nl 0), .int .u64 (nl 0), .int .u64 (nl 0)] [(0, 4, .t 154)])) [] [], .mk 8 false (.op (some 158) none (.app 4 32 false (.t 155) (.t 157))) [9] [159, 22], .mk 11 false (.op (some 161) none (.app 4 32 false (.t 159) (.t 160))) [9] [22], .mk 12 true (.op (some 162) none (.p (.bld [.int .u64 (nl 0), .int .u64 (nl 0), .int .u64 (nl 0), .int .u64 (nl 0), .nils, .nils] [(0, 4, .t 150), (4, 1, .t 158), (5, 1, .t 161)]))) [] [], .mk 14 false (.op none none (.st 6 (.t 22) (.t 162))) [] []]
def v9_26 : List VI := [.op (some 163) none (.ld true 6 (.t 22)), .op none none (.st 6 (.t 12) (.t 163)), .op (some 13) none (.p (.mov (.c (.bool true))))]
def v9 : VC := .seq (.reg v9_0) (.seq (.reg v9_1) (.seq (.reg v9_2) (.seq (.drw v9_3) (.seq (.reg v9_4) (.seq (.seq (.reg v9_5) (.block 0 v9_12)) (.seq (.seq (.reg v9_13) (.block 2 v9_21)) (.seq (.drw v9_22) (.seq (.seq (.reg v9_23) (.cond (.t 148) (.seq (.reg v9_24) .ret) .skip)) (.seq (.drw v9_25) (.seq (.reg v9_26) .ret))))))))))
def rr9 : List RV := [.m 12 true 6, .t 13]
theorem code9 : (Tryd.f9.body).bind (cCode Tryd.prog) = some v9 := by kernel_rfl
theorem res9 : cRVs Tryd.prog (Tryd.f9.results.toList) = some rr9 := by kernel_rfl
theorem nt9 : Tryd.f9.ntmps = 164 := by kernel_rfl
theorem nm9 : (Tryd.f9.name == "runtime.NumGoroutine") = false := by kernel_rfl
def v10_0 : List VI := [.op (some 4) none (.box (.t 0)), .op (some 5) none (.box (.t 1)), .op (some 6) none (.box (.t 2)), .op (some 8) none (.p (.mov (.c .nils))), .op (some 9) none (.p (.mov (.c .nils))), .op (some 10) none (.p (.mov (.c .nils))), .op (some 11) none (.p (.mov (.c (.int .i64 0))))]
def v10_1 : List VI := [.op (some 26) none (.ld true 10 (.t 4)), .op (some 27) none (.ld true 4 (.t 5)), .op (some 28) none (.ld true 4 (.t 6)), .op (some 29) none (.p (.mov (.t 3))), .call (some 30) none (.fn 20) [.t 26, .t 27, .t 28, .t 29], .op (some 12) none (.p (.mov (.t 30)))]
def v10_2 : List VI := [.op (some 31) none (.p (.mov (.t 12))), .op (some 32) none (.p (.eq true .i (.t 31) (.c (.int .i64 0))))]
def v10_3 : List VI := [.op (some 33) none (.p (.mov (.t 12))), .op (some 8) none (.p (.mov (.c .nils))), .op (some 9) none (.p (.mov (.c .nils))), .op (some 10) none (.p (.mov (.c .nils))), .op (some 11) none (.p (.mov (.t 33)))]
def v10_4 : List VI := [.op (some 13) none (.new [.nils, .nils, .nils])]
def v10_5 : List VI := [.op (some 14) none (.new [.nils, .nils, .nils, .nils])]
def v10_6 : List VI := [.op (some 34) none (.p (.mov (.t 3))), .op (some 35) none (.p (.len false (.t 34))), .op (some 36) none (.p (.mov (.c (.int .i64 0))))]
def v10_7 : List VI := [.op (some 37) none (.p (.bin .lss (.t 36) (.t 35)))]
def v10_8 : List VI := [.op (some 38) none (.p (.mov (.t 36))), .op (some 39) none (.p (.ixs 6 (.t 34) (.t 36))), .op (some 40) none (.ld true 6 (.t 39)), .op (some 16) none (.new [.int .u64 (nl 0), .int .u64 (nl 0), .int .u64 (nl 0), .int .u64 (nl 0), .nils, .nils]), .op (some 15) none (.p (.mov (.t 38))), .op none none (.st 6 (.t 16) (.t 40))]
def v10_9 : List VI := [.op (some 41) none (.p (.mov (.t 15))), .op (some 42) none (.ld true 6 (.t 16)), .call (some 43) none (.fn 21) [.t 42], .op (some 44) none (.p (.ixa 4 1 (.t 14) (.t 41))), .op none none (.st 1 (.t 44) (.t 43))]
def v10_10 : List VI := [.op (some 45) none (.p (.mov (.t 15))), .op (some 46) none (.p (.bin .lss (.t 45) (.c (.int .i64 3))))]
def v10_11 : List VI := [.op (some 47) none (.p (.mov (.t 15))), .op (some 48) none (.ld true 6 (.t 16)), .call (some 49) none (.fn 22) [.t 48], .op (some 50) none (.p (.ixa 3 1 (.t 13) (.t 47))), .op none none (.st 1 (.t 50) (.t 49))]
def v10_12 : VC := .seq (.reg v10_8) (.seq (.reg v10_9) (.seq (.reg v10_10) (.cond (.t 46) (.reg v10_11) .skip)))
def v10_13 : List VI := [.op (some 51) none (.p (.bin .add (.t 36) (.c (.int .i64 1)))), .op (some 36) none (.p (.mov (.t 51)))]
def v10_14 : VC := .seq (.reg v10_7) (.seq (.cond (.t 37) .skip (.exit 0)) (.seq (.block 1 v10_12) (.reg v10_13)))
def v10_15 : VC := .loop v10_14
def v10_16 : List VI := [.op (some 52) none (.p (.mkF (Fn.func 23) [] [.t 13, .t 14])), .op (some 17) none (.p (.mov (.t 52)))]
def v10_17 : List VI := [.op (some 53) none (.p (.mov (.t 17))), .call (some 54) none (.val (.t 53)) [.c (.int .i64 0)], .op (some 55) none (.p (.mov (.t 17))), .call (some 56) none (.val (.t 55)) [.c (.int .i64 1)], .op (some 57) none (.p (.mov (.t 17))), .call (some 58) none (.val (.t 57)) [.c (.int .i64 2)], .op (some 18) none (.p (.mov (.t 54))), .op (some 19) none (.p (.mov (.t 56))), .op (some 20) none (.p (.mov (.t 58)))]
def v10_18 : List VI := [.op (some 59) none (.p (.mov (.t 3))), .op (some 60) none (.p (.ixs 6 (.t 59) (.c (.int .i64 3)))), .op (some 61) none (.ld true 6 (.t 60)), .call (some 62) none (.fn 22) [.t 61], .op (some 21) none (.p (.mov (.t 62)))]
def v10_19 : List VI := [.op (some 22) none (.p (.mov (.c (.bool false))))]
def v10_20 : List VI := [.op (some 63) none (.p (.mov (.t 19))), .op (some 64) none (.p (.len false (.t 63))), .op (some 65) none (.mks 4 32 [.int .u64 (nl 0), .int .u64 (nl 0), .int .u64 (nl 0), .int .u64 (nl 0)] (.t 64) (.t 64)), .op (some 10) none (.p (.mov (.t 65)))]
def v10_21 : List VI := [.op (some 66) none (.p (.ixa 4 1 (.t 14) (.c (.int .i64 3)))), .op (some 67) none (.ld false 1 (.t 66)), .op (some 68) none (.p (.len false (.t 67))), .op (some 69) none (.p (.mov (.c (.int .i64 0))))]
def v10_22 : List VI := [.op (some 70) none (.p (.bin .lss (.t 69) (.t 68)))]
def v10_23 : List VI := [.op (some 71) none (.p (.mov (.t 69))), .op (some 72) none (.p (.ixs 4 (.t 67) (.t 69))), .op (some 73) none (.ld true 4 (.t 72)), .op (some 24) none (.new [.int .u64 (nl 0), .int .u64 (nl 0), .int .u64 (nl 0), .int .u64 (nl 0)]), .op (some 23) none (.p (.mov (.t 71))), .op none none (.st 4 (.t 24) (.t 73))]
def v10_24 : List DS := [.mk 0 true (.op (some 74) none (.p (.mov (.t 10)))) [] [], .mk 1 true (.op (some 75) none (.p (.mov (.t 23)))) [] [], .mk 2 true (.op (some 76) none (.p (.mov (.t 21)))) [] [], .mk 3 true (.op (some 77) none (.p (.ixs 4 (.t 76) (.c (.int .i64 0))))) [] [], .mk 4 true (.op (some 78) none (.ld true 4 (.t 77))) [] [], .mk 5 true (.op (some 79) none (.p (.mov (.t 18)))) [] [], .mk 6 true (.op (some 80) none (.p (.mov (.t 23)))) [] [], .mk 7 true (.op (some 81) none (.p (.ixs 4 (.t 79) (.t 80)))) [] [], .mk 8 true (.op (some 82) none (.ld true 4 (.t 81))) [] [], .mk 10 true (.op (some 84) none (.p (.mov (.t 19)))) [] [], .mk 11 true (.op (some 85) none (.p (.mov (.t 23)))) [] [], .mk 12 true (.op (some 86) none (.p (.ixs 4 (.t 84) (.t 85)))) [] [], .mk 13 true (.op (some 87) none (.ld true 4 (.t 86))) [] [], .mk 15 true (.op (some 89) none (.p (.mov (.t 21)))) [] [], .mk 16 true (.op (some 90) none (.p (.ixs 4 (.t 89) (.c (.int .i64 2))))) [] [], .mk 17 true (.op (some 91) none (.ld true 4 (.t 90))) [] [], .mk 18 true (.op (some 92) none (.p (.mov (.t 20)))) [] [], .mk 19 true (.op (some 93) none (.p (.mov (.t 23)))) [] [], .mk 20 true (.op (some 94) none (.p (.ixs 4 (.t 92) (.t 93)))) [] [], .mk 21 true (.op (some 95) none (.ld true 4 (.t 94))) [] [], .mk 24 true (.op (some 98) none (.ld true 4 (.t 24))) [] [], .mk 9 false (.call (some 83) none (.fn 13) [.t 78, .t 82]) [86, 90, 94, 24] [], .mk 14 false (.call (some 88) none (.fn 15) [.t 83, .t 87]) [90, 94, 24] [], .mk 22 false (.call (some 96) none (.fn 13) [.t 91, .t 95]) [24] [], .mk 23 false (.call (some 97) none (.fn 15) [.t 88, .t 96]) [24] [], .mk 25 false (.call (some 99) none (.fn 19) [.t 97, .t 98]) [] [], .mk 26 true (.op (some 100) none (.p (.ixs 4 (.t 74) (.t 75)))) [] [], .mk 27 false (.op none none (.st 4 (.t 100) (.t 99))) [] []]
def v10_25 : List VI := [.op (some 101) none (.p (.mov (.t 22))), .op (some 102) none (.p (.mov (.t 101))), .op (some 103) (some (102, false)) (.p (.mov (.t 10))), .op (some 104) (some (102, false)) (.p (.mov (.t 23))), .op (some 105) (some (102, false)) (.p (.ixs 4 (.t 103) (.t 104))), .op (some 106) (some (102, false)) (.ld true 4 (.t 105)), .call (some 107) (some (102, false)) (.fn 14) [.t 106], .op (some 108) (some (102, false)) (.p (.un .not (.t 107))), .op (some 109) none (.p (.pick (.t 102) (.c (.bool true)) (.t 108))), .op (some 22) none (.p (.mov (.t 109)))]
def v10_26 : VC := .seq (.reg v10_23) (.seq (.drw v10_24) (.reg v10_25))
def v10_27 : List VI := [.op (some 110) none (.p (.bin .add (.t 69) (.c (.int .i64 1)))), .op (some 69) none (.p (.mov (.t 110)))]
def v10_28 : VC := .seq (.reg v10_22) (.seq (.cond (.t 70) .skip (.exit 2)) (.seq (.block 3 v10_26) (.reg v10_27)))
def v10_29 : VC := .loop v10_28
def v10_30 : List VI := [.op (some 111) none (.p (.mov (.t 22)))]
def v10_31 : List VI := [.op (some 112) none (.p (.mov (.t 10))), .op (some 8) none (.p (.mov (.c .nils))), .op (some 9) none (.p (.mov (.c .nils))), .op (some 10) none (.p (.mov (.t 112))), .op (some 11) none (.p (.mov (.c (.int .i64 0))))]
def v10_32 : List VI := [.op (some 113) none (.p (.fda 8 (.t 4))), .op (some 114) none (.ld false 1 (.t 113)), .op (some 115) none (.p (.len false (.t 114))), .op (some 25) none (.p (.mov (.t 115)))]
def v10_33 : List DS := [.mk 0 true (.op (some 116) none (.p (.mov (.t 19)))) [] [], .mk 1 true (.op (some 117) none (.p (.mov (.t 25)))) [] [], .mk 2 true (.op (some 118) none (.p (.bin .add (.c (.int .i64 1)) (.t 117)))) [] [], .mk 3 true (.op (some 119) none (.p (.mov (.t 25)))) [] [], .mk 4 true (.op (some 120) none (.p (.bin .add (.c (.int .i64 1)) (.t 119)))) [] [], .mk 5 true (.op (some 121) none (.slx 4 (.t 116) (some (.c (.int .i64 1))) (some (.t 118)) (some (.t 120)))) [] [], .mk 6 true (.op (some 122) none (.p (.mov (.t 19)))) [] [], .mk 7 true (.op (some 123) none (.p (.mov (.t 25)))) [] [], .mk 8 true (.op (some 124) none (.p (.bin .add (.c (.int .i64 1)) (.t 123)))) [] [], .mk 9 true (.op (some 125) none (.slx 4 (.t 122) (some (.t 124)) none none)) [] [], .mk 10 false (.op (some 8) none (.p (.mov (.t 121)))) [122] [], .mk 11 false (.op (some 9) none (.p (.mov (.t 125)))) [] [], .mk 12 false (.op (some 10) none (.p (.mov (.c .nils)))) [] [], .mk 13 false (.op (some 11) none (.p (.mov (.c (.int .i64 0))))) [] []]
def v10 : VC := .seq (.reg v10_0) (.seq (.seq (.reg v10_1) (.seq (.reg v10_2) (.cond (.t 32) (.seq (.reg v10_3) .ret) .skip))) (.seq (.reg v10_4) (.seq (.reg v10_5) (.seq (.seq (.reg v10_6) (.block 0 v10_15)) (.seq (.reg v10_16) (.seq (.reg v10_17) (.seq (.reg v10_18) (.seq (.reg v10_19) (.seq (.reg v10_20) (.seq (.seq (.reg v10_21) (.block 2 v10_29)) (.seq (.seq (.reg v10_30) (.cond (.t 111) (.seq (.reg v10_31) .ret) .skip)) (.seq (.reg v10_32) (.seq (.drw v10_33) .ret)))))))))))))
def rr10 : List RV := [.t 8, .t 9, .t 10, .t 11]
theorem code10 : (Tryd.f10.body).bind (cCode Tryd.prog) = some v10 := by kernel_rfl
theorem res10 : cRVs Tryd.prog (Tryd.f10.results.toList) = some rr10 := by kernel_rfl
theorem nt10 : Tryd.f10.ntmps = 126 := by kernel_rfl
theorem nm10 : (Tryd.f10.name == "runtime.NumGoroutine") = false := by kernel_rfl
def v11_0 : List VI := [.op (some 5) none (.box (.t 0)), .op (some 10) none (.new [.int .u64 (nl 0), .int .u64 (nl 0), .int .u64 (nl 0), .int .u64 (nl 0)]), .op (some 11) none (.p (.mov (.c (.int .i64 0))))]
def v11_1 : List VI := [.op (some 15) none (.p (.mov (.t 1))), .op (some 16) none (.p (.len false (.t 15))), .op (some 17) none (.p (.mov (.t 2))), .op (some 18) none (.p (.len false (.t 17))), .op (some 19) none (.p (.eq true .i (.t 16) (.t 18))), .op (some 20) none (.p (.mov (.t 19))), .op (some 21) (some (20, false)) (.p (.mov (.t 3))), .op (some 22) (some (20, false)) (.p (.len false (.t 21))), .op (some 23) (some (20, false)) (.p (.mov (.t 4))), .op (some 24) (some (20, false)) (.p (.len false (.t 23))), .op (some 25) (some (20, false)) (.p (.eq true .i (.t 22) (.t 24))), .op (some 26) none (.p (.pick (.t 20) (.c (.bool true)) (.t 25))), .op (some 27) none (.p (.mov (.t 26))), .op (some 28) (some (27, false)) (.p (.mov (.t 3))), .op (some 29) (some (27, false)) (.p (.len false (.t 28))), .op (some 30) (some (27, false)) (.p (.mov (.t 1))), .op (some 31) (some (27, false)) (.p (.len false (.t 30))), .op (some 32) (some (27, false)) (.p (.eq true .i (.t 29) (.t 31))), .op (some 33) none (.p (.pick (.t 27) (.c (.bool true)) (.t 32)))]
def v11_2 : List VI := [.op (some 12) none (.new [.int .u64 (nl 0), .int .u64 (nl 0), .int .u64 (nl 0), .int .u64 (nl 0)])]
def v11_3 : List VI := [.op (some 34) none (.ld true 4 (.t 12)), .op none none (.st 4 (.t 10) (.t 34)), .op (some 11) none (.p (.mov (.c (.int .i64 2))))]
def v11_4 : List VI := [.op (some 36) none (.p (.mov (.t 3))), .op (some 37) none (.p (.mov (.t 4))), .call (some 38) none (.fn 25) [.t 36, .t 37], .op (some 35) none (.p (.mov (.t 38))), .op (some 39) none (.p (.ext (.t 35) 0)), .op (some 40) none (.p (.ext (.t 35) 1)), .op (some 13) none (.new [.int .u64 (nl 0), .int .u64 (nl 0), .int .u64 (nl 0), .int .u64 (nl 0)]), .op none none (.st 4 (.t 13) (.t 39)), .op (some 14) none (.p (.mov (.t 40)))]
def v11_5 : List VI := [.op (some 41) none (.ld true 4 (.t 5)), .op (some 42) none (.p (.mov (.t 1))), .op (some 43) none (.p (.mov (.t 2))), .op (some 44) none (.p (.mov (.t 3))), .op (some 45) none (.p (.mov (.t 4))), .op (some 46) none (.ld true 4 (.t 13)), .call (some 47) none (.fn 26) [.t 41, .t 42, .t 43, .t 44, .t 45, .t 46], .op (some 48) none (.p (.mov (.t 14))), .op none none (.st 4 (.t 10) (.t 47)), .op (some 11) none (.p (.mov (.t 48)))]
def v11 : VC := .seq (.reg v11_0) (.seq (.seq (.reg v11_1) (.cond (.t 33) (.seq (.reg v11_2) (.seq (.reg v11_3) .ret)) .skip)) (.seq (.reg v11_4) (.seq (.reg v11_5) .ret)))
def rr11 : List RV := [.m 10 true 4, .t 11]
theorem code11 : (Tryd.f11.body).bind (cCode Tryd.prog) = some v11 := by kernel_rfl
theorem res11 : cRVs Tryd.prog (Tryd.f11.results.toList) = some rr11 := by kernel_rfl
theorem nt11 : Tryd.f11.ntmps = 49 := by kernel_rfl
theorem nm11 : (Tryd.f11.name == "runtime.NumGoroutine") = false := by kernel_rfl
def v12_0 : List VI := [.op (some 2) none (.box (.t 0)), .op (some 3) none (.box (.t 1)), .op (some 4) none (.p (.mov (.c (.bool false))))]
def v12_1 : List VI := [.op (some 5) none (.p (.fda 0 (.t 2))), .op (some 6) none (.ld true 4 (.t 5)), .op (some 7) none (.p (.fda 0 (.t 3))), .op (some 8) none (.ld true 4 (.t 7)), .call (some 9) none (.fn 17) [.t 6, .t 8], .op (some 4) none (.p (.mov (.t 9)))]
def v12 : VC := .seq (.reg v12_0) (.seq (.reg v12_1) .ret)
def rr12 : List RV := [.t 4]
theorem code12 : (Tryd.f12.body).bind (cCode Tryd.prog) = some v12 := by kernel_rfl
theorem res12 : cRVs Tryd.prog (Tryd.f12.results.toList) = some rr12 := by kernel_rfl
theorem nt12 : Tryd.f12.ntmps = 10 := by kernel_rfl
theorem nm12 : (Tryd.f12.name == "runtime.NumGoroutine") = false := by kernel_rfl
def v13_0 : List VI := [.op (some 2) none (.box (.t 0)), .op (some 3) none (.box (.t 1)), .op (some 4) none (.new [.int .u64 (nl 0), .int .u64 (nl 0), .int .u64 (nl 0), .int .u64 (nl 0)])]
def v13_1 : List DS := [.mk 0 true (.op (some 5) none (.ld true 4 (.t 2))) [] [], .mk 2 true (.op (some 7) none (.ld true 4 (.t 3))) [] [], .mk 5 true (.op (some 10) none (.p (.ixa 4 4 (.g 0) (.c (.int .i64 2))))) [] [], .mk 6 true (.op (some 11) none (.ld true 4 (.t 10))) [] [], .mk 1 false (.call (some 6) none (.fn 28) [.t 5]) [3, 10] [], .mk 3 false (.call (some 8) none (.fn 28) [.t 7]) [10] [], .mk 4 false (.call (some 9) none (.fn 27) [.t 6, .t 8]) [10] [], .mk 7 false (.call (some 12) none (.fn 27) [.t 9, .t 11]) [] [], .mk 8 false (.op none none (.st 4 (.t 4) (.t 12))) [] []]
def v13 : VC := .seq (.reg v13_0) (.seq (.drw v13_1) .ret)
def rr13 : List RV := [.m 4 true 4]
theorem code13 : (Tryd.f13.body).bind (cCode Tryd.prog) = some v13 := by kernel_rfl
theorem res13 : cRVs Tryd.prog (Tryd.f13.results.toList) = some rr13 := by kernel_rfl
theorem nt13 : Tryd.f13.ntmps = 13 := by kernel_rfl
theorem nm13 : (Tryd.f13.name == "runtime.NumGoroutine") = false := by kernel_rfl
def v14_0 : List VI := [.op (some 1) none (.box (.t 0)), .op (some 2) none (.p (.mov (.c (.bool false))))]
def v14_1 : List VI := [.op (some 3) none (.ld true 4 (.t 1)), .call (some 4) none (.fn 28) [.t 3], .op (some 5) none (.p (.bld [.int .u64 (nl 0), .int .u64 (nl 0), .int .u64 (nl 0), .int .u64 (nl 0)] [])), .op (some 6) none (.p (.eqa false [.i, .i, .i, .i] (.t 4) (.t 5))), .op (some 2) none (.p (.mov (.t 6)))]
def v14 : VC := .seq (.reg v14_0) (.seq (.reg v14_1) .ret)
def rr14 : List RV := [.t 2]
theorem code14 : (Tryd.f14.body).bind (cCode Tryd.prog) = some v14 := by kernel_rfl
theorem res14 : cRVs Tryd.prog (Tryd.f14.results.toList) = some rr14 := by kernel_rfl
theorem nt14 : Tryd.f14.ntmps = 7 := by kernel_rfl
theorem nm14 : (Tryd.f14.name == "runtime.NumGoroutine") = false := by kernel_rfl
def v15_0 : List VI := [.op (some 2) none (.box (.t 0)), .op (some 3) none (.box (.t 1)), .op (some 4) none (.new [.int .u64 (nl 0), .int .u64 (nl 0), .int .u64 (nl 0), .int .u64 (nl 0)])]
def v15_1 : List DS := [.mk 0 true (.op (some 8) none (.ld true 4 (.t 2))) [] [], .mk 2 true (.op (some 10) none (.ld true 4 (.t 3))) [] [], .mk 8 true (.op (some 5) none (.new [.int .u64 (nl 0), .int .u64 (nl 0), .int .u64 (nl 0), .int .u64 (nl 0)])) [] [], .mk 1 false (.call (some 9) none (.fn 28) [.t 8]) [3] [5], .mk 3 false (.call (some 11) none (.fn 28) [.t 10]) [] [5], .mk 4 false (.call (some 12) none (.fn 29) [.t 9, .t 11]) [] [5], .mk 5 true (.op (some 7) none (.p (.mov (.t 12)))) [] [], .mk 6 true (.op (some 13) none (.p (.ext (.t 7) 0))) [] [], .mk 7 true (.op (some 14) none (.p (.ext (.t 7) 1))) [] [], .mk 9 false (.op none none (.st 4 (.t 5) (.t 13))) [] [], .mk 10 false (.op (some 6) none (.p (.mov (.t 14)))) [] []]
def v15_2 : List VI := [.op (some 15) none (.ld true 4 (.t 5)), .call (some 16) none (.fn 30) [.t 15], .op none none (.st 4 (.t 4) (.t 16))]
def v15 : VC := .seq (.reg v15_0) (.seq (.drw v15_1) (.seq (.reg v15_2) .ret))
def rr15 : List RV := [.m 4 true 4]
theorem code15 : (Tryd.f15.body).bind (cCode Tryd.prog) = some v15 := by kernel_rfl
theorem res15 : cRVs Tryd.prog (Tryd.f15.results.toList) = some rr15 := by kernel_rfl
theorem nt15 : Tryd.f15.ntmps = 17 := by kernel_rfl
theorem nm15 : (Tryd.f15.name == "runtime.NumGoroutine") = false := by kernel_rfl
def v16_0 : List VI := [.op (some 2) none (.new [.int .u64 (nl 0), .int .u64 (nl 0), .int .u64 (nl 0), .int .u64 (nl 0)])]
def v16_1 : List VI := [.op (some 3) none (.p (.mov (.t 0))), .op (some 4) none (.p (.bld [.int .u64 (nl 0), .int .u64 (nl 0), .int .u64 (nl 0), .int .u64 (nl 0)] [(0, 1, .t 3)])), .op none none (.st 4 (.t 2) (.t 4))]
def v16 : VC := .seq (.reg v16_0) (.seq (.reg v16_1) .ret)
def rr16 : List RV := [.m 2 true 4]
theorem code16 : (Tryd.f16.body).bind (cCode Tryd.prog) = some v16 := by kernel_rfl
theorem res16 : cRVs Tryd.prog (Tryd.f16.results.toList) = some rr16 := by kernel_rfl
theorem nt16 : Tryd.f16.ntmps = 5 := by kernel_rfl
theorem nm16 : (Tryd.f16.name == "runtime.NumGoroutine") = false := by kernel_rfl
def v17_0 : List VI := [.op (some 2) none (.box (.t 0)), .op (some 3) none (.box (.t 1)), .op (some 4) none (.p (.mov (.c (.bool false))))]
def v17_1 : List DS := [.mk 0 true (.op (some 5) none (.ld true 4 (.t 2))) [] [], .mk 2 true (.op (some 7) none (.ld true 4 (.t 3))) [] [], .mk 1 false (.call (some 6) none (.fn 28) [.t 5]) [3] [], .mk 3 false (.call (some 8) none (.fn 28) [.t 7]) [] [], .mk 4 true (.op (some 9) none (.p (.eqa false [.i, .i, .i, .i] (.t 6) (.t 8)))) [] [], .mk 5 false (.op (some 4) none (.p (.mov (.t 9)))) [] []]
def v17 : VC := .seq (.reg v17_0) (.seq (.drw v17_1) .ret)
def rr17 : List RV := [.t 4]
theorem code17 : (Tryd.f17.body).bind (cCode Tryd.prog) = some v17 := by kernel_rfl
theorem res17 : cRVs Tryd.prog (Tryd.f17.results.toList) = some rr17 := by kernel_rfl
theorem nt17 : Tryd.f17.ntmps = 10 := by kernel_rfl
theorem nm17 : (Tryd.f17.name == "runtime.NumGoroutine") = false := by kernel_rfl
def v18_0 : List VI := [.op (some 1) none (.box (.t 0)), .op (some 2) none (.new [.int .u64 (nl 0), .int .u64 (nl 0), .int .u64 (nl 0), .int .u64 (nl 0)])]
def v18_1 : List VI := [.op (some 3) none (.ld true 4 (.t 1)), .op (some 4) none (.p (.ixa 4 4 (.g 0) (.c (.int .i64 3)))), .op (some 5) none (.ld true 4 (.t 4)), .call (some 6) none (.fn 31) [.t 3, .t 5, .c (.int .i64 253)], .op none none (.st 4 (.t 2) (.t 6))]
def v18 : VC := .seq (.reg v18_0) (.seq (.reg v18_1) .ret)
def rr18 : List RV := [.m 2 true 4]
theorem code18 : (Tryd.f18.body).bind (cCode Tryd.prog) = some v18 := by kernel_rfl
theorem res18 : cRVs Tryd.prog (Tryd.f18.results.toList) = some rr18 := by kernel_rfl
theorem nt18 : Tryd.f18.ntmps = 7 := by kernel_rfl
theorem nm18 : (Tryd.f18.name == "runtime.NumGoroutine") = false := by kernel_rfl
def v19_0 : List VI := [.op (some 2) none (.box (.t 0)), .op (some 3) none (.box (.t 1)), .op (some 4) none (.new [.int .u64 (nl 0), .int .u64 (nl 0), .int .u64 (nl 0), .int .u64 (nl 0)])]
def v19_1 : List DS := [.mk 0 true (.op (some 10) none (.ld true 4 (.t 2))) [] [], .mk 2 true (.op (some 12) none (.ld true 4 (.t 3))) [] [], .mk 8 true (.op (some 5) none (.new [.int .u64 (nl 0), .int .u64 (nl 0), .int .u64 (nl 0), .int .u64 (nl 0)])) [] [], .mk 1 false (.call (some 11) none (.fn 28) [.t 10]) [3] [5], .mk 3 false (.call (some 13) none (.fn 28) [.t 12]) [] [5], .mk 4 false (.call (some 14) none (.fn 32) [.t 11, .t 13]) [] [5], .mk 5 true (.op (some 9) none (.p (.mov (.t 14)))) [] [], .mk 6 true (.op (some 15) none (.p (.ext (.t 9) 0))) [] [], .mk 7 true (.op (some 16) none (.p (.ext (.t 9) 1))) [] [], .mk 9 false (.op none none (.st 4 (.t 5) (.t 15))) [] [], .mk 10 false (.op (some 6) none (.p (.mov (.t 16)))) [] []]
def v19_2 : List VI := [.op (some 18) none (.ld true 4 (.t 5)), .op (some 19) none (.p (.ixa 4 4 (.g 0) (.c (.int .i64 0)))), .op (some 20) none (.ld true 4 (.t 19)), .call (some 21) none (.fn 29) [.t 18, .t 20], .op (some 17) none (.p (.mov (.t 21))), .op (some 22) none (.p (.ext (.t 17) 0)), .op (some 23) none (.p (.ext (.t 17) 1)), .op (some 7) none (.new [.int .u64 (nl 0), .int .u64 (nl 0), .int .u64 (nl 0), .int .u64 (nl 0)]), .op none none (.st 4 (.t 7) (.t 22)), .op (some 8) none (.p (.mov (.t 23)))]
def v19_3 : List VI := [.op (some 24) none (.p (.mov (.t 6))), .op (some 25) none (.p (.un .neg (.t 24))), .op (some 26) none (.ld true 4 (.t 7)), .op (some 27) none (.ld true 4 (.t 5)), .call (some 28) none (.fn 33) [.t 25, .t 26, .t 27], .op none none (.st 4 (.t 4) (.t 28))]
def v19 : VC := .seq (.reg v19_0) (.seq (.drw v19_1) (.seq (.reg v19_2) (.seq (.reg v19_3) .ret)))
def rr19 : List RV := [.m 4 true 4]
theorem code19 : (Tryd.f19.body).bind (cCode Tryd.prog) = some v19 := by kernel_rfl
theorem res19 : cRVs Tryd.prog (Tryd.f19.results.toList) = some rr19 := by kernel_rfl
theorem nt19 : Tryd.f19.ntmps = 29 := by kernel_rfl
theorem nm19 : (Tryd.f19.name == "runtime.NumGoroutine") = false := by kernel_rfl
def v20_0 : List VI := [.op (some 4) none (.box (.t 0)), .op (some 5) none (.box (.t 1)), .op (some 6) none (.box (.t 2)), .op (some 8) none (.p (.mov (.c (.int .i64 0))))]
def v20_1 : List VI := [.op (some 25) none (.p (.fda 8 (.t 4))), .op (some 26) none (.ld false 1 (.t 25)), .op (some 27) none (.p (.len false (.t 26))), .op (some 9) none (.p (.mov (.t 27)))]
def v20_2 : List VI := [.op (some 29) none (.p (.mov (.t 9))), .call (some 30) none (.fn 34) [.t 29], .op (some 28) none (.p (.mov (.t 30))), .op (some 31) none (.p (.ext (.t 28) 0)), .op (some 32) none (.p (.ext (.t 28) 1)), .op (some 10) none (.p (.mov (.t 31))), .op (some 11) none (.p (.mov (.t 32)))]
def v20_3 : List VI := [.op (some 33) none (.p (.mov (.t 11))), .op (some 34) none (.p (.un .not (.t 33))), .op (some 35) none (.p (.mov (.t 34))), .op (some 36) (some (35, false)) (.p (.mov (.t 9))), .op (some 37) (some (35, false)) (.p (.bin .lss (.t 36) (.c (.int .i64 2)))), .op (some 38) none (.p (.pick (.t 35) (.c (.bool true)) (.t 37))), .op (some 39) none (.p (.mov (.t 38))), .op (some 40) (some (39, false)) (.p (.fda 9 (.t 4))), .op (some 41) (some (39, false)) (.ld false 1 (.t 40)), .op (some 42) (some (39, false)) (.p (.len false (.t 41))), .op (some 43) (some (39, false)) (.p (.mov (.t 9))), .op (some 44) (some (39, false)) (.p (.eq true .i (.t 42) (.t 43))), .op (some 45) none (.p (.pick (.t 39) (.c (.bool true)) (.t 44))), .op (some 46) none (.p (.mov (.t 45))), .op (some 47) (some (46, false)) (.p (.mov (.t 3))), .op (some 48) (some (46, false)) (.p (.len false (.t 47))), .op (some 49) (some (46, false)) (.p (.eq true .i (.t 48) (.c (.int .i64 4)))), .op (some 50) none (.p (.pick (.t 46) (.c (.bool true)) (.t 49)))]
def v20_4 : List VI := [.op (some 8) none (.p (.mov (.c (.int .i64 2))))]
def v20_5 : List VI := [.op (some 51) none (.p (.mov (.t 3))), .op (some 52) none (.p (.len false (.t 51))), .op (some 53) none (.p (.mov (.c (.int .i64 0))))]
def v20_6 : List VI := [.op (some 54) none (.p (.bin .lss (.t 53) (.t 52)))]
def v20_7 : List VI := [.op (some 55) none (.p (.ixs 6 (.t 51) (.t 53))), .op (some 56) none (.ld true 6 (.t 55)), .op (some 13) none (.new [.int .u64 (nl 0), .int .u64 (nl 0), .int .u64 (nl 0), .int .u64 (nl 0), .nils, .nils]), .op none none (.st 6 (.t 13) (.t 56))]
def v20_8 : List VI := [.op (some 57) none (.p (.fda 4 (.t 13))), .op (some 58) none (.ld false 1 (.t 57)), .op (some 59) none (.p (.len false (.t 58))), .op (some 60) none (.p (.bin .mul (.c (.int .i64 2)) (.t 59))), .op (some 61) none (.p (.mov (.t 9))), .op (some 62) none (.p (.eq true .i (.t 60) (.t 61))), .op (some 63) none (.p (.mov (.t 62))), .op (some 64) (some (63, false)) (.p (.fda 5 (.t 13))), .op (some 65) (some (63, false)) (.ld false 1 (.t 64)), .op (some 66) (some (63, false)) (.p (.len false (.t 65))), .op (some 67) (some (63, false)) (.p (.bin .mul (.c (.int .i64 2)) (.t 66))), .op (some 68) (some (63, false)) (.p (.mov (.t 9))), .op (some 69) (some (63, false)) (.p (.eq true .i (.t 67) (.t 68))), .op (some 70) none (.p (.pick (.t 63) (.c (.bool true)) (.t 69)))]
def v20_9 : List VI := [.op (some 8) none (.p (.mov (.c (.int .i64 2))))]
def v20_10 : VC := .seq (.reg v20_7) (.seq (.reg v20_8) (.cond (.t 70) (.seq (.reg v20_9) .ret) .skip))
def v20_11 : List VI := [.op (some 71) none (.p (.bin .add (.t 53) (.c (.int .i64 1)))), .op (some 53) none (.p (.mov (.t 71)))]
def v20_12 : VC := .seq (.reg v20_6) (.seq (.cond (.t 54) .skip (.exit 0)) (.seq (.block 1 v20_10) (.reg v20_11)))
def v20_13 : VC := .loop v20_12
def v20_14 : List VI := [.op (some 72) none (.p (.mov (.t 3))), .op (some 73) none (.p (.len false (.t 72))), .op (some 74) none (.p (.mov (.c (.int .i64 0))))]
def v20_15 : List VI := [.op (some 75) none (.p (.bin .lss (.t 74) (.t 73)))]
def v20_16 : List VI := [.op (some 76) none (.p (.ixs 6 (.t 72) (.t 74))), .op (some 77) none (.ld true 6 (.t 76)), .op (some 15) none (.new [.int .u64 (nl 0), .int .u64 (nl 0), .int .u64 (nl 0), .int .u64 (nl 0), .nils, .nils]), .op none none (.st 6 (.t 15) (.t 77))]
def v20_17 : List VI := [.op (some 78) none (.p (.fda 0 (.t 15))), .op (some 79) none (.ld true 4 (.t 78)), .call (some 80) none (.fn 14) [.t 79]]
def v20_18 : List VI := [.op (some 8) none (.p (.mov (.c (.int .i64 4))))]
def v20_19 : VC := .seq (.reg v20_16) (.seq (.reg v20_17) (.cond (.t 80) (.seq (.reg v20_18) .ret) .skip))
def v20_20 : List VI := [.op (some 81) none (.p (.bin .add (.t 74) (.c (.int .i64 1)))), .op (some 74) none (.p (.mov (.t 81)))]
def v20_21 : VC := .seq (.reg v20_15) (.seq (.cond (.t 75) .skip (.exit 2)) (.seq (.block 3 v20_19) (.reg v20_20)))
def v20_22 : VC := .loop v20_21
def v20_23 : List VI := [.op (some 82) none (.p (.mov (.t 3))), .op (some 83) none (.p (.len false (.t 82))), .op (some 84) none (.p (.mov (.c (.int .i64 0))))]
def v20_24 : List VI := [.op (some 85) none (.p (.bin .lss (.t 84) (.t 83)))]
def v20_25 : List VI := [.op (some 86) none (.p (.mov (.t 84))), .op (some 87) none (.p (.ixs 6 (.t 82) (.t 84))), .op (some 88) none (.ld true 6 (.t 87)), .op (some 17) none (.new [.int .u64 (nl 0), .int .u64 (nl 0), .int .u64 (nl 0), .int .u64 (nl 0), .nils, .nils]), .op (some 16) none (.p (.mov (.t 86))), .op none none (.st 6 (.t 17) (.t 88))]
def v20_26 : List VI := [.op (some 89) none (.p (.mov (.t 3))), .op (some 90) none (.p (.mov (.t 16))), .op (some 91) none (.slx 6 (.t 89) none (some (.t 90)) none), .op (some 92) none (.p (.len false (.t 91))), .op (some 93) none (.p (.mov (.c (.int .i64 0))))]
def v20_27 : List VI := [.op (some 94) none (.p (.bin .lss (.t 93) (.t 92)))]
def v20_28 : List VI := [.op (some 95) none (.p (.ixs 6 (.t 91) (.t 93))), .op (some 96) none (.ld true 6 (.t 95)), .op (some 19) none (.new [.int .u64 (nl 0), .int .u64 (nl 0), .int .u64 (nl 0), .int .u64 (nl 0), .nils, .nils]), .op none none (.st 6 (.t 19) (.t 96))]
def v20_29 : List DS := [.mk 0 true (.op (some 97) none (.p (.fda 0 (.t 17)))) [] [], .mk 1 true (.op (some 98) none (.ld true 4 (.t 97))) [] [], .mk 2 true (.op (some 99) none (.p (.fda 0 (.t 17)))) [] [], .mk 3 true (.op (some 100) none (.ld true 4 (.t 99))) [] [], .mk 5 true (.op (some 102) none (.p (.fda 0 (.t 19)))) [] [], .mk 6 true (.op (some 103) none (.ld true 4 (.t 102))) [] [], .mk 7 true (.op (some 104) none (.p (.fda 0 (.t 19)))) [] [], .mk 8 true (.op (some 105) none (.ld true 4 (.t 104))) [] [], .mk 4 false (.call (some 101) none (.fn 13) [.t 98, .t 100]) [102, 104] [], .mk 9 false (.call (some 106) none (.fn 13) [.t 103, .t 105]) [] [], .mk 10 true (.op (some 107) none (.p (.eqa false [.i, .i, .i, .i] (.t 101) (.t 106)))) [] []]
def v20_30 : List VI := [.op (some 8) none (.p (.mov (.c (.int .i64 112))))]
def v20_31 : VC := .seq (.reg v20_28) (.seq (.drw v20_29) (.cond (.t 107) (.seq (.reg v20_30) .ret) .skip))
def v20_32 : List VI := [.op (some 108) none (.p (.bin .add (.t 93) (.c (.int .i64 1)))), .op (some 93) none (.p (.mov (.t 108)))]
def v20_33 : VC := .seq (.reg v20_27) (.seq (.cond (.t 94) .skip (.exit 6)) (.seq (.block 7 v20_31) (.reg v20_32)))
def v20_34 : VC := .loop v20_33
def v20_35 : VC := .seq (.reg v20_25) (.seq (.reg v20_26) (.block 6 v20_34))
def v20_36 : List VI := [.op (some 109) none (.p (.bin .add (.t 84) (.c (.int .i64 1)))), .op (some 84) none (.p (.mov (.t 109)))]
def v20_37 : VC := .seq (.reg v20_24) (.seq (.cond (.t 85) .skip (.exit 4)) (.seq (.block 5 v20_35) (.reg v20_36)))
def v20_38 : VC := .loop v20_37
def v20_39 : List VI := [.op (some 110) none (.p (.mov (.t 3))), .op (some 111) none (.p (.len false (.t 110))), .op (some 112) none (.p (.mov (.c (.int .i64 0))))]
def v20_40 : List VI := [.op (some 113) none (.p (.bin .lss (.t 112) (.t 111)))]
def v20_41 : List VI := [.op (some 114) none (.p (.ixs 6 (.t 110) (.t 112))), .op (some 115) none (.ld true 6 (.t 114)), .op (some 21) none (.new [.int .u64 (nl 0), .int .u64 (nl 0), .int .u64 (nl 0), .int .u64 (nl 0), .nils, .nils]), .op none none (.st 6 (.t 21) (.t 115))]
def v20_42 : List VI := [.op (some 116) none (.ld true 10 (.t 4)), .op (some 117) none (.ld true 4 (.t 5)), .op (some 118) none (.ld true 4 (.t 6)), .op (some 119) none (.p (.fda 0 (.t 21))), .op (some 120) none (.ld true 4 (.t 119)), .call (some 121) none (.fn 35) [.t 116, .t 117, .t 118, .t 120], .op (some 22) none (.new [.int .u64 (nl 0), .int .u64 (nl 0), .int .u64 (nl 0), .int .u64 (nl 0), .int .u64 (nl 0), .int .u64 (nl 0), .int .u64 (nl 0), .int .u64 (nl 0), .nils, .nils]), .op none none (.st 10 (.t 22) (.t 121))]
def v20_43 : List VI := [.op (some 123) none (.p (.fda 4 (.t 22))), .op (some 124) none (.ld true 4 (.t 123)), .op (some 125) none (.p (.fda 8 (.t 22))), .op (some 126) none (.ld false 1 (.t 125)), .op (some 127) none (.p (.fda 9 (.t 22))), .op (some 128) none (.ld false 1 (.t 127)), .op (some 129) none (.p (.fda 4 (.t 21))), .op (some 130) none (.ld false 1 (.t 129)), .op (some 131) none (.p (.fda 5 (.t 21))), .op (some 132) none (.ld false 1 (.t 131)), .call (some 133) none (.fn 11) [.t 124, .t 126, .t 128, .t 130, .t 132], .op (some 122) none (.p (.mov (.t 133))), .op (some 134) none (.p (.ext (.t 122) 0)), .op (some 135) none (.p (.ext (.t 122) 1)), .op (some 23) none (.new [.int .u64 (nl 0), .int .u64 (nl 0), .int .u64 (nl 0), .int .u64 (nl 0)]), .op none none (.st 4 (.t 23) (.t 134)), .op (some 24) none (.p (.mov (.t 135)))]
def v20_44 : List VI := [.op (some 136) none (.ld true 4 (.t 23)), .op (some 137) none (.p (.mkI 34 (.t 136))), .op (some 138) none (.p (.fda 0 (.t 22))), .op (some 139) none (.ld true 4 (.t 138)), .call (some 140) none (.inv (.t 137) "Same") [.t 139], .op (some 141) none (.p (.un .not (.t 140)))]
def v20_45 : List VI := [.op (some 8) none (.p (.mov (.c (.int .i64 121))))]
def v20_46 : VC := .seq (.reg v20_41) (.seq (.reg v20_42) (.seq (.reg v20_43) (.seq (.reg v20_44) (.cond (.t 141) (.seq (.reg v20_45) .ret) .skip))))
def v20_47 : List VI := [.op (some 142) none (.p (.bin .add (.t 112) (.c (.int .i64 1)))), .op (some 112) none (.p (.mov (.t 142)))]
def v20_48 : VC := .seq (.reg v20_40) (.seq (.cond (.t 113) .skip (.exit 8)) (.seq (.block 9 v20_46) (.reg v20_47)))
def v20_49 : VC := .loop v20_48
def v20_50 : List VI := [.op (some 8) none (.p (.mov (.c (.int .i64 0))))]
def v20 : VC := .seq (.reg v20_0) (.seq (.reg v20_1) (.seq (.seq (.reg v20_2) (.seq (.reg v20_3) (.cond (.t 50) (.seq (.reg v20_4) .ret) .skip))) (.seq (.seq (.reg v20_5) (.block 0 v20_13)) (.seq (.seq (.reg v20_14) (.block 2 v20_22)) (.seq (.seq (.reg v20_23) (.block 4 v20_38)) (.seq (.seq (.reg v20_39) (.block 8 v20_49)) (.seq (.reg v20_50) .ret)))))))
def rr20 : List RV := [.t 8]
theorem code20 : (Tryd.f20.body).bind (cCode Tryd.prog) = some v20 := by kernel_rfl
theorem res20 : cRVs Tryd.prog (Tryd.f20.results.toList) = some rr20 := by kernel_rfl
theorem nt20 : Tryd.f20.ntmps = 143 := by kernel_rfl
theorem nm20 : (Tryd.f20.name == "runtime.NumGoroutine") = false := by kernel_rfl
def v21_0 : List VI := [.op (some 1) none (.box (.t 0)), .op (some 2) none (.p (.mov (.c .nils)))]
def v21_1 : List VI := [.op (some 11) none (.p (.fda 0 (.t 1))), .op (some 12) none (.ld true 4 (.t 11)), .call (some 13) none (.fn 18) [.t 12], .op (some 3) none (.new [.int .u64 (nl 0), .int .u64 (nl 0), .int .u64 (nl 0), .int .u64 (nl 0)]), .op none none (.st 4 (.t 3) (.t 13))]
def v21_2 : List VI := [.op (some 15) none (.p (.fda 4 (.t 1))), .op (some 16) none (.ld false 1 (.t 15)), .op (some 17) none (.p (.fda 5 (.t 1))), .op (some 18) none (.ld false 1 (.t 17)), .call (some 19) none (.fn 25) [.t 16, .t 18], .op (some 14) none (.p (.mov (.t 19))), .op (some 20) none (.p (.ext (.t 14) 0)), .op (some 21) none (.p (.ext (.t 14) 1)), .op (some 4) none (.new [.int .u64 (nl 0), .int .u64 (nl 0), .int .u64 (nl 0), .int .u64 (nl 0)]), .op none none (.st 4 (.t 4) (.t 20)), .op (some 5) none (.p (.mov (.t 21)))]
def v21_3 : List VI := [.op (some 22) none (.ld true 4 (.t 4)), .op (some 23) none (.bsl 1 [.int .u64 (nl 0), .int .u64 (nl 0), .int .u64 (nl 0), .int .u64 (nl 0)] [(0, 4, .t 22)]), .op (some 6) none (.p (.mov (.t 23)))]
def v21_4 : List VI := [.op (some 24) none (.ld true 4 (.t 3)), .op (some 25) none (.p (.fda 4 (.t 1))), .op (some 26) none (.ld false 1 (.t 25)), .op (some 27) none (.p (.bld [.int .u64 (nl 0), .int .u64 (nl 0), .int .u64 (nl 0), .int .u64 (nl 0), .nils] [(0, 4, .t 24), (4, 1, .t 26)])), .op (some 28) none (.p (.fda 0 (.t 1))), .op (some 29) none (.ld true 4 (.t 28)), .op (some 30) none (.p (.fda 4 (.t 1))), .op (some 31) none (.ld false 1 (.t 30)), .op (some 32) none (.p (.bld [.int .u64 (nl 0), .int .u64 (nl 0), .int .u64 (nl 0), .int .u64 (nl 0), .nils] [(0, 4, .t 29), (4, 1, .t 31)])), .op (some 33) none (.p (.fda 0 (.t 1))), .op (some 34) none (.ld true 4 (.t 33)), .op (some 35) none (.p (.fda 5 (.t 1))), .op (some 36) none (.ld false 1 (.t 35)), .op (some 37) none (.p (.bld [.int .u64 (nl 0), .int .u64 (nl 0), .int .u64 (nl 0), .int .u64 (nl 0), .nils] [(0, 4, .t 34), (4, 1, .t 36)])), .op (some 38) none (.ld true 4 (.t 3)), .op (some 39) none (.p (.fda 5 (.t 1))), .op (some 40) none (.ld false 1 (.t 39)), .op (some 41) none (.p (.bld [.int .u64 (nl 0), .int .u64 (nl 0), .int .u64 (nl 0), .int .u64 (nl 0), .nils] [(0, 4, .t 38), (4, 1, .t 40)])), .op (some 42) none (.bsl 4 [.int .u64 (nl 0), .int .u64 (nl 0), .int .u64 (nl 0), .int .u64 (nl 0), .nils, .int .u64 (nl 0), .int .u64 (nl 0), .int .u64 (nl 0), .int .u64 (nl 0), .nils, .int .u64 (nl 0), .int .u64 (nl 0), .int .u64 (nl 0), .int .u64 (nl 0), .nils, .int .u64 (nl 0), .int .u64 (nl 0), .int .u64 (nl 0), .int .u64 (nl 0), .nils] [(0, 5, .t 27), (5, 5, .t 32), (10, 5, .t 37), (15, 5, .t 41)]), .op (some 43) none (.p (.len false (.t 42))), .op (some 44) none (.p (.mov (.c (.int .i64 0))))]
def v21_5 : List VI := [.op (some 45) none (.p (.bin .lss (.t 44) (.t 43)))]
def v21_6 : List VI := [.op (some 46) none (.p (.ixs 5 (.t 42) (.t 44))), .op (some 47) none (.ld true 5 (.t 46)), .op (some 8) none (.new [.int .u64 (nl 0), .int .u64 (nl 0), .int .u64 (nl 0), .int .u64 (nl 0), .nils]), .op none none (.st 5 (.t 8) (.t 47))]
def v21_7 : List VI := [.op (some 48) none (.p (.fda 4 (.t 8))), .op (some 49) none (.ld false 1 (.t 48)), .op (some 50) none (.p (.len false (.t 49))), .op (some 51) none (.p (.mov (.c (.int .i64 0))))]
def v21_8 : List VI := [.op (some 52) none (.p (.bin .lss (.t 51) (.t 50)))]
def v21_9 : List VI := [.op (some 53) none (.p (.ixs 4 (.t 49) (.t 51))), .op (some 54) none (.ld true 4 (.t 53)), .op (some 10) none (.new [.int .u64 (nl 0), .int .u64 (nl 0), .int .u64 (nl 0), .int .u64 (nl 0)]), .op none none (.st 4 (.t 10) (.t 54))]
def v21_10 : List VI := [.op (some 55) none (.p (.mov (.t 6))), .op (some 56) none (.p (.fda 0 (.t 8))), .op (some 57) none (.ld true 4 (.t 56)), .op (some 58) none (.ld true 4 (.t 10)), .call (some 59) none (.fn 13) [.t 57, .t 58], .op (some 60) none (.bsl 1 [.int .u64 (nl 0), .int .u64 (nl 0), .int .u64 (nl 0), .int .u64 (nl 0)] [(0, 4, .t 59)]), .op (some 61) none (.app 4 32 false (.t 55) (.t 60)), .op (some 6) none (.p (.mov (.t 61)))]
def v21_11 : VC := .seq (.reg v21_9) (.reg v21_10)
def v21_12 : List VI := [.op (some 62) none (.p (.bin .add (.t 51) (.c (.int .i64 1)))), .op (some 51) none (.p (.mov (.t 62)))]
def v21_13 : VC := .seq (.reg v21_8) (.seq (.cond (.t 52) .skip (.exit 2)) (.seq (.block 3 v21_11) (.reg v21_12)))
def v21_14 : VC := .loop v21_13
def v21_15 : VC := .seq (.reg v21_6) (.seq (.reg v21_7) (.block 2 v21_14))
def v21_16 : List VI := [.op (some 63) none (.p (.bin .add (.t 44) (.c (.int .i64 1)))), .op (some 44) none (.p (.mov (.t 63)))]
def v21_17 : VC := .seq (.reg v21_5) (.seq (.cond (.t 45) .skip (.exit 0)) (.seq (.block 1 v21_15) (.reg v21_16)))
def v21_18 : VC := .loop v21_17
def v21_19 : List VI := [.op (some 64) none (.p (.mov (.t 6))), .op (some 2) none (.p (.mov (.t 64)))]
def v21 : VC := .seq (.reg v21_0) (.seq (.reg v21_1) (.seq (.reg v21_2) (.seq (.reg v21_3) (.seq (.seq (.reg v21_4) (.block 0 v21_18)) (.seq (.reg v21_19) .ret)))))
def rr21 : List RV := [.t 2]
theorem code21 : (Tryd.f21.body).bind (cCode Tryd.prog) = some v21 := by kernel_rfl
theorem res21 : cRVs Tryd.prog (Tryd.f21.results.toList) = some rr21 := by kernel_rfl
theorem nt21 : Tryd.f21.ntmps = 65 := by kernel_rfl
theorem nm21 : (Tryd.f21.name == "runtime.NumGoroutine") = false := by kernel_rfl
def v22_0 : List VI := [.op (some 1) none (.box (.t 0)), .op (some 2) none (.p (.mov (.c .nils)))]
def v22_1 : List VI := [.op (some 4) none (.p (.fda 0 (.t 1))), .op (some 5) none (.ld true 4 (.t 4)), .op (some 6) none (.p (.fda 0 (.t 1))), .op (some 7) none (.ld true 4 (.t 6)), .call (some 8) none (.fn 13) [.t 5, .t 7], .op (some 3) none (.new [.int .u64 (nl 0), .int .u64 (nl 0), .int .u64 (nl 0), .int .u64 (nl 0)]), .op none none (.st 4 (.t 3) (.t 8))]
def v22_2 : List DS := [.mk 0 true (.op (some 9) none (.ld true 4 (.t 3))) [] [], .mk 2 true (.op (some 11) none (.ld true 4 (.t 3))) [] [], .mk 1 false (.call (some 10) none (.fn 16) [.c (.int .u64 (nl 1))]) [3, 3] [], .mk 3 false (.call (some 12) none (.fn 18) [.t 11]) [3] [], .mk 4 true (.op (some 13) none (.bsl 3 [.int .u64 (nl 0), .int .u64 (nl 0), .int .u64 (nl 0), .int .u64 (nl 0), .int .u64 (nl 0), .int .u64 (nl 0), .int .u64 (nl 0), .int .u64 (nl 0), .int .u64 (nl 0), .int .u64 (nl 0), .int .u64 (nl 0), .int .u64 (nl 0)] [(0, 4, .t 9), (4, 4, .t 10), (8, 4, .t 12)])) [] [], .mk 5 false (.op (some 2) none (.p (.mov (.t 13)))) [] []]
def v22 : VC := .seq (.reg v22_0) (.seq (.reg v22_1) (.seq (.drw v22_2) .ret))
def rr22 : List RV := [.t 2]
theorem code22 : (Tryd.f22.body).bind (cCode Tryd.prog) = some v22 := by kernel_rfl
theorem res22 : cRVs Tryd.prog (Tryd.f22.results.toList) = some rr22 := by kernel_rfl
theorem nt22 : Tryd.f22.ntmps = 14 := by kernel_rfl
theorem nm22 : (Tryd.f22.name == "runtime.NumGoroutine") = false := by kernel_rfl
def v23_0 : List VI := [.op (some 4) none (.p (.mov (.c .nils)))]
def v23_1 : List VI := [.op (some 5) none (.p (.mov (.c .nils)))]
def v23_2 : List VI := [.op (some 15) none (.mks 4 32 [.int .u64 (nl 0), .int .u64 (nl 0), .int .u64 (nl 0), .int .u64 (nl 0)] (.c (.int .i64 3)) (.c (.int .i64 3))), .op (some 6) none (.p (.mov (.t 15)))]
def v23_3 : List VI := [.op (some 16) none (.p (.mov (.t 6))), .op (some 17) none (.p (.mov (.t 0))), .call (some 18) none (.fn 16) [.c (.int .u64 (nl 1))], .op (some 19) none (.p (.ixs 4 (.t 16) (.t 17))), .op none none (.st 4 (.t 19) (.t 18))]
def v23_4 : List VI := [.op (some 20) none (.p (.mov (.c (.int .i64 0))))]
def v23_5 : List VI := [.op (some 21) none (.p (.bin .lss (.t 20) (.c (.int .i64 3))))]
def v23_6 : List VI := [.op (some 22) none (.p (.mov (.t 20))), .op (some 7) none (.p (.mov (.t 22)))]
def v23_7 : List DS := [.mk 0 true (.op (some 23) none (.p (.mov (.t 5)))) [] [], .mk 1 true (.op (some 24) none (.p (.ixa 3 1 (.t 1) (.c (.int .i64 0))))) [] [], .mk 2 true (.op (some 25) none (.ld false 1 (.t 24))) [] [], .mk 3 true (.op (some 26) none (.p (.mov (.t 7)))) [] [], .mk 4 true (.op (some 27) none (.p (.ixs 4 (.t 25) (.t 26)))) [] [], .mk 5 true (.op (some 28) none (.ld true 4 (.t 27))) [] [], .mk 6 true (.op (some 29) none (.p (.ixa 3 1 (.t 1) (.c (.int .i64 1))))) [] [], .mk 7 true (.op (some 30) none (.ld false 1 (.t 29))) [] [], .mk 8 true (.op (some 31) none (.p (.mov (.t 7)))) [] [], .mk 9 true (.op (some 32) none (.p (.ixs 4 (.t 30) (.t 31)))) [] [], .mk 10 true (.op (some 33) none (.ld true 4 (.t 32))) [] [], .mk 11 true (.op (some 34) none (.p (.ixa 3 1 (.t 1) (.c (.int .i64 2))))) [] [], .mk 12 true (.op (some 35) none (.ld false 1 (.t 34))) [] [], .mk 13 true (.op (some 36) none (.p (.mov (.t 7)))) [] [], .mk 14 true (.op (some 37) none (.p (.ixs 4 (.t 35) (.t 36)))) [] [], .mk 15 true (.op (some 38) none (.ld true 4 (.t 37))) [] [], .mk 16 true (.op (some 39) none (.bsl 3 [.int .u64 (nl 0), .int .u64 (nl 0), .int .u64 (nl 0), .int .u64 (nl 0), .int .u64 (nl 0), .int .u64 (nl 0), .int .u64 (nl 0), .int .u64 (nl 0), .int .u64 (nl 0), .int .u64 (nl 0), .int .u64 (nl 0), .int .u64 (nl 0)] [(0, 4, .t 28), (4, 4, .t 33), (8, 4, .t 38)])) [] [], .mk 17 true (.op (some 40) none (.bsl 1 [.nils] [(0, 1, .t 39)])) [] [], .mk 18 false (.op (some 41) none (.app 1 24 false (.t 23) (.t 40))) [] [], .mk 19 false (.op (some 5) none (.p (.mov (.t 41)))) [] []]
def v23_8 : VC := .seq (.reg v23_6) (.drw v23_7)
def v23_9 : List VI := [.op (some 42) none (.p (.bin .add (.t 20) (.c (.int .i64 1)))), .op (some 20) none (.p (.mov (.t 42)))]
def v23_10 : VC := .seq (.reg v23_5) (.seq (.cond (.t 21) .skip (.exit 0)) (.seq (.block 1 v23_8) (.reg v23_9)))
def v23_11 : VC := .loop v23_10
def v23_12 : List VI := [.op (some 44) none (.p (.mov (.t 5))), .op (some 45) none (.p (.mov (.t 6))), .call (some 46) none (.fn 24) [.t 44, .t 45], .op (some 43) none (.p (.mov (.t 46))), .op (some 47) none (.p (.ext (.t 43) 0)), .op (some 48) none (.p (.ext (.t 43) 1)), .op (some 8) none (.p (.mov (.t 47))), .op (some 9) none (.p (.mov (.t 48)))]
def v23_13 : List VI := [.op (some 49) none (.p (.ixa 4 1 (.t 2) (.c (.int .i64 0)))), .op (some 50) none (.ld false 1 (.t 49)), .op (some 51) none (.p (.len false (.t 50))), .op (some 52) none (.mks 4 32 [.int .u64 (nl 0), .int .u64 (nl 0), .int .u64 (nl 0), .int .u64 (nl 0)] (.t 51) (.t 51)), .op (some 10) none (.p (.mov (.t 52)))]
def v23_14 : List VI := [.op (some 53) none (.p (.mov (.t 8))), .op (some 54) none (.p (.len false (.t 53))), .op (some 55) none (.p (.mov (.c (.int .i64 0))))]
def v23_15 : List VI := [.op (some 56) none (.p (.bin .lss (.t 55) (.t 54)))]
def v23_16 : List VI := [.op (some 57) none (.p (.mov (.t 55))), .op (some 58) none (.p (.ixs 4 (.t 53) (.t 55))), .op (some 59) none (.ld true 4 (.t 58)), .op (some 12) none (.new [.int .u64 (nl 0), .int .u64 (nl 0), .int .u64 (nl 0), .int .u64 (nl 0)]), .op (some 11) none (.p (.mov (.t 57))), .op none none (.st 4 (.t 12) (.t 59))]
def v23_17 : List VI := [.op (some 60) none (.p (.mov (.t 11))), .op (some 61) none (.p (.ixa 4 1 (.t 2) (.t 60))), .op (some 62) none (.ld false 1 (.t 61)), .op (some 63) none (.p (.len false (.t 62))), .op (some 64) none (.p (.mov (.c (.int .i64 0))))]
def v23_18 : List VI := [.op (some 65) none (.p (.bin .lss (.t 64) (.t 63)))]
def v23_19 : List VI := [.op (some 66) none (.p (.mov (.t 64))), .op (some 67) none (.p (.ixs 4 (.t 62) (.t 64))), .op (some 68) none (.ld true 4 (.t 67)), .op (some 14) none (.new [.int .u64 (nl 0), .int .u64 (nl 0), .int .u64 (nl 0), .int .u64 (nl 0)]), .op (some 13) none (.p (.mov (.t 66))), .op none none (.st 4 (.t 14) (.t 68))]
def v23_20 : List DS := [.mk 0 true (.op (some 69) none (.p (.mov (.t 10)))) [] [], .mk 1 true (.op (some 70) none (.p (.mov (.t 13)))) [] [], .mk 2 true (.op (some 71) none (.p (.mov (.t 10)))) [] [], .mk 3 true (.op (some 72) none (.p (.mov (.t 13)))) [] [], .mk 4 true (.op (some 73) none (.p (.ixs 4 (.t 71) (.t 72)))) [] [], .mk 5 true (.op (some 74) none (.ld true 4 (.t 73))) [] [], .mk 6 true (.op (some 75) none (.ld true 4 (.t 12))) [] [], .mk 7 true (.op (some 76) none (.ld true 4 (.t 14))) [] [], .mk 8 false (.call (some 77) none (.fn 13) [.t 75, .t 76]) [73] [], .mk 9 false (.call (some 78) none (.fn 15) [.t 74, .t 77]) [] [], .mk 10 true (.op (some 79) none (.p (.ixs 4 (.t 69) (.t 70)))) [] [], .mk 11 false (.op none none (.st 4 (.t 79) (.t 78))) [] []]
def v23_21 : VC := .seq (.reg v23_19) (.drw v23_20)
def v23_22 : List VI := [.op (some 80) none (.p (.bin .add (.t 64) (.c (.int .i64 1)))), .op (some 64) none (.p (.mov (.t 80)))]
def v23_23 : VC := .seq (.reg v23_18) (.seq (.cond (.t 65) .skip (.exit 4)) (.seq (.block 5 v23_21) (.reg v23_22)))
def v23_24 : VC := .loop v23_23
def v23_25 : VC := .seq (.reg v23_16) (.seq (.reg v23_17) (.block 4 v23_24))
def v23_26 : List VI := [.op (some 81) none (.p (.bin .add (.t 55) (.c (.int .i64 1)))), .op (some 55) none (.p (.mov (.t 81)))]
def v23_27 : VC := .seq (.reg v23_15) (.seq (.cond (.t 56) .skip (.exit 2)) (.seq (.block 3 v23_25) (.reg v23_26)))
def v23_28 : VC := .loop v23_27
def v23_29 : List VI := [.op (some 82) none (.p (.mov (.t 10))), .op (some 4) none (.p (.mov (.t 82)))]
def v23 : VC := .seq (.reg v23_0) (.seq (.reg v23_1) (.seq (.reg v23_2) (.seq (.reg v23_3) (.seq (.seq (.reg v23_4) (.block 0 v23_11)) (.seq (.reg v23_12) (.seq (.reg v23_13) (.seq (.seq (.reg v23_14) (.block 2 v23_28)) (.seq (.reg v23_29) .ret))))))))
def rr23 : List RV := [.t 4]
theorem code23 : (Tryd.f23.body).bind (cCode Tryd.prog) = some v23 := by kernel_rfl
theorem res23 : cRVs Tryd.prog (Tryd.f23.results.toList) = some rr23 := by kernel_rfl
theorem nt23 : Tryd.f23.ntmps = 83 := by kernel_rfl
theorem nm23 : (Tryd.f23.name == "runtime.NumGoroutine") = false := by kernel_rfl
def v24_0 : List VI := [.op (some 4) none (.new [.nils]), .op (some 5) none (.new [.int .i64 0])]
def v24_1 : List VI := [.op (some 13) none (.p (.mov (.t 1))), .op (some 14) none (.p (.len false (.t 13))), .op (some 6) none (.p (.mov (.t 14)))]
def v24_2 : List VI := [.op (some 15) none (.p (.mov (.t 0))), .op (some 16) none (.p (.len false (.t 15))), .op (some 17) none (.p (.mov (.t 6))), .op (some 18) none (.p (.eq true .i (.t 16) (.t 17)))]
def v24_3 : List VI := [.op none none (.st 1 (.t 4) (.c .nils)), .op none none (.st 1 (.t 5) (.c (.int .i64 2)))]
def v24_4 : List VI := [.op (some 19) none (.p (.mov (.t 6))), .op (some 20) none (.mks 1 24 [.nils] (.t 19) (.t 19)), .op (some 7) none (.p (.mov (.t 20)))]
def v24_5 : List VI := [.op (some 21) none (.p (.mov (.t 0))), .op (some 22) none (.p (.len false (.t 21))), .op (some 23) none (.p (.mov (.c (.int .i64 0))))]
def v24_6 : List VI := [.op (some 24) none (.p (.bin .lss (.t 23) (.t 22)))]
def v24_7 : List VI := [.op (some 25) none (.p (.mov (.t 23))), .op (some 26) none (.p (.ixs 1 (.t 21) (.t 23))), .op (some 27) none (.ld false 1 (.t 26)), .op (some 8) none (.p (.mov (.t 25))), .op (some 9) none (.p (.mov (.t 27)))]
def v24_8 : List VI := [.op (some 28) none (.p (.mov (.t 9))), .op (some 29) none (.p (.len false (.t 28))), .op (some 30) none (.p (.mov (.t 6))), .op (some 31) none (.p (.eq true .i (.t 29) (.t 30)))]
def v24_9 : List VI := [.op none none (.st 1 (.t 4) (.c .nils)), .op none none (.st 1 (.t 5) (.c (.int .i64 2)))]
def v24_10 : List DS := [.mk 0 true (.op (some 32) none (.p (.mov (.t 7)))) [] [], .mk 1 true (.op (some 33) none (.p (.mov (.t 8)))) [] [], .mk 2 true (.op (some 34) none (.p (.mov (.t 6)))) [] [], .mk 3 true (.op (some 35) none (.p (.bin .add (.t 34) (.c (.int .i64 1))))) [] [], .mk 4 true (.op (some 36) none (.mks 4 32 [.int .u64 (nl 0), .int .u64 (nl 0), .int .u64 (nl 0), .int .u64 (nl 0)] (.c (.int .i64 0)) (.t 35))) [] [], .mk 5 true (.op (some 37) none (.p (.mov (.t 9)))) [] [], .mk 7 true (.op (some 39) none (.p (.mov (.t 1)))) [] [], .mk 8 true (.op (some 40) none (.p (.mov (.t 8)))) [] [], .mk 9 true (.op (some 41) none (.p (.ixs 4 (.t 39) (.t 40)))) [] [], .mk 10 true (.op (some 42) none (.ld true 4 (.t 41))) [] [], .mk 11 true (.op (some 43) none (.bsl 1 [.int .u64 (nl 0), .int .u64 (nl 0), .int .u64 (nl 0), .int .u64 (nl 0)] [(0, 4, .t 42)])) [] [], .mk 6 false (.op (some 38) none (.app 4 32 false (.t 36) (.t 37))) [41] [43], .mk 12 false (.op (some 44) none (.app 4 32 false (.t 38) (.t 43))) [] [], .mk 13 true (.op (some 45) none (.p (.ixs 1 (.t 32) (.t 33)))) [] [], .mk 14 false (.op none none (.st 1 (.t 45) (.t 44))) [] []]
def v24_11 : VC := .seq (.reg v24_7) (.seq (.seq (.reg v24_8) (.cond (.t 31) (.seq (.reg v24_9) .ret) .skip)) (.drw v24_10))
def v24_12 : List VI := [.op (some 46) none (.p (.bin .add (.t 23) (.c (.int .i64 1)))), .op (some 23) none (.p (.mov (.t 46)))]
def v24_13 : VC := .seq (.reg v24_6) (.seq (.cond (.t 24) .skip (.exit 0)) (.seq (.block 1 v24_11) (.reg v24_12)))
def v24_14 : VC := .loop v24_13
def v24_15 : List VI := [.op (some 47) none (.p (.mkF (Fn.func 36) [] [.t 4, .t 5])), .dfr none (.t 47)]
def v24_16 : List VI := [.op (some 48) none (.p (.mov (.t 6))), .op (some 49) none (.p (.mov (.c (.int .i64 0))))]
def v24_17 : List VI := [.op (some 50) none (.p (.bin .lss (.t 49) (.t 48)))]
def v24_18 : List VI := [.op (some 51) none (.p (.mov (.t 49))), .op (some 10) none (.p (.mov (.t 51)))]
def v24_19 : List VI := [.op (some 52) none (.p (.mov (.t 7))), .op (some 53) none (.p (.mov (.t 10))), .call (some 54) none (.fn 37) [.t 52, .t 53]]
def v24_20 : VC := .seq (.reg v24_18) (.reg v24_19)
def v24_21 : List VI := [.op (some 55) none (.p (.bin .add (.t 49) (.c (.int .i64 1)))), .op (some 49) none (.p (.mov (.t 55)))]
def v24_22 : VC := .seq (.reg v24_17) (.seq (.cond (.t 50) .skip (.exit 2)) (.seq (.block 3 v24_20) (.reg v24_21)))
def v24_23 : VC := .loop v24_22
def v24_24 : List VI := [.op (some 56) none (.p (.mov (.t 7))), .op (some 57) none (.p (.len false (.t 56))), .op (some 58) none (.p (.mov (.c (.int .i64 0))))]
def v24_25 : List VI := [.op (some 59) none (.p (.bin .lss (.t 58) (.t 57)))]
def v24_26 : List VI := [.op (some 60) none (.p (.ixs 1 (.t 56) (.t 58))), .op (some 61) none (.ld false 1 (.t 60)), .op (some 12) none (.p (.mov (.t 61)))]
def v24_27 : List DS := [.mk 0 true (.op (some 62) none (.ld false 1 (.t 4))) [] [], .mk 1 true (.op (some 63) none (.p (.mov (.t 12)))) [] [], .mk 2 true (.op (some 64) none (.p (.mov (.t 6)))) [] [], .mk 3 true (.op (some 65) none (.p (.ixs 4 (.t 63) (.t 64)))) [] [], .mk 4 true (.op (some 66) none (.ld true 4 (.t 65))) [] [], .mk 5 true (.op (some 67) none (.bsl 1 [.int .u64 (nl 0), .int .u64 (nl 0), .int .u64 (nl 0), .int .u64 (nl 0)] [(0, 4, .t 66)])) [] [], .mk 6 false (.op (some 68) none (.app 4 32 false (.t 62) (.t 67))) [] [], .mk 7 false (.op none none (.st 1 (.t 4) (.t 68))) [] []]
def v24_28 : VC := .seq (.reg v24_26) (.drw v24_27)
def v24_29 : List VI := [.op (some 69) none (.p (.bin .add (.t 58) (.c (.int .i64 1)))), .op (some 58) none (.p (.mov (.t 69)))]
def v24_30 : VC := .seq (.reg v24_25) (.seq (.cond (.t 59) .skip (.exit 4)) (.seq (.block 5 v24_28) (.reg v24_29)))
def v24_31 : VC := .loop v24_30
def v24_32 : List VI := [.op (some 70) none (.ld false 1 (.t 4)), .op none none (.st 1 (.t 4) (.t 70)), .op none none (.st 1 (.t 5) (.c (.int .i64 0)))]
def v24 : VC := .seq (.reg v24_0) (.seq (.reg v24_1) (.seq (.seq (.reg v24_2) (.cond (.t 18) (.seq (.reg v24_3) .ret) .skip)) (.seq (.reg v24_4) (.seq (.seq (.reg v24_5) (.block 0 v24_14)) (.seq (.reg v24_15) (.seq (.seq (.reg v24_16) (.block 2 v24_23)) (.seq (.seq (.reg v24_24) (.block 4 v24_31)) (.seq (.reg v24_32) .ret))))))))
def rr24 : List RV := [.m 4 false 1, .m 5 false 1]
theorem code24 : (Tryd.f24.body).bind (cCode Tryd.prog) = some v24 := by kernel_rfl
theorem res24 : cRVs Tryd.prog (Tryd.f24.results.toList) = some rr24 := by kernel_rfl
theorem nt24 : Tryd.f24.ntmps = 71 := by kernel_rfl
theorem nm24 : (Tryd.f24.name == "runtime.NumGoroutine") = false := by kernel_rfl
def v25_0 : List VI := [.op (some 4) none (.new [.int .u64 (nl 0), .int .u64 (nl 0), .int .u64 (nl 0), .int .u64 (nl 0)]), .op (some 5) none (.p (.mov (.c (.int .i64 0))))]
def v25_1 : List VI := [.op (some 6) none (.new [.int .u64 (nl 0), .int .u64 (nl 0), .int .u64 (nl 0), .int .u64 (nl 0)])]
def v25_2 : List VI := [.op (some 9) none (.p (.mov (.t 0))), .op (some 10) none (.p (.len false (.t 9))), .op (some 11) none (.p (.mov (.t 1))), .op (some 12) none (.p (.len false (.t 11))), .op (some 13) none (.p (.eq true .i (.t 10) (.t 12)))]
def v25_3 : List VI := [.op (some 14) none (.ld true 4 (.t 6)), .op none none (.st 4 (.t 4) (.t 14)), .op (some 5) none (.p (.mov (.c (.int .i64 2))))]
def v25_4 : List VI := [.op (some 15) none (.p (.mov (.t 0))), .op (some 16) none (.p (.len false (.t 15))), .op (some 17) none (.p (.mov (.c (.int .i64 0))))]
def v25_5 : List VI := [.op (some 18) none (.p (.bin .lss (.t 17) (.t 16)))]
def v25_6 : List VI := [.op (some 19) none (.p (.mov (.t 17))), .op (some 20) none (.p (.ixs 4 (.t 15) (.t 17))), .op (some 21) none (.ld true 4 (.t 20)), .op (some 8) none (.new [.int .u64 (nl 0), .int .u64 (nl 0), .int .u64 (nl 0), .int .u64 (nl 0)]), .op (some 7) none (.p (.mov (.t 19))), .op none none (.st 4 (.t 8) (.t 21))]
def v25_7 : List DS := [.mk 0 true (.op (some 22) none (.ld true 4 (.t 6))) [] [], .mk 1 true (.op (some 23) none (.p (.mkI 32 (.t 22)))) [] [], .mk 2 true (.op (some 24) none (.ld true 4 (.t 8))) [] [], .mk 3 true (.op (some 25) none (.p (.mkI 32 (.t 24)))) [] [], .mk 4 true (.op (some 26) none (.p (.mov (.t 1)))) [] [], .mk 5 true (.op (some 27) none (.p (.mov (.t 7)))) [] [], .mk 6 true (.op (some 28) none (.p (.ixs 4 (.t 26) (.t 27)))) [] [], .mk 7 true (.op (some 29) none (.ld true 4 (.t 28))) [] [], .mk 8 false (.call (some 30) none (.inv (.t 25) "Mul") [.t 29]) [6] [], .mk 9 false (.call (some 31) none (.inv (.t 23) "Add") [.t 30]) [] [], .mk 10 false (.op none none (.st 4 (.t 6) (.t 31))) [] []]
def v25_8 : VC := .seq (.reg v25_6) (.drw v25_7)
def v25_9 : List VI := [.op (some 32) none (.p (.bin .add (.t 17) (.c (.int .i64 1)))), .op (some 17) none (.p (.mov (.t 32)))]
def v25_10 : VC := .seq (.reg v25_5) (.seq (.cond (.t 18) .skip (.exit 0)) (.seq (.block 1 v25_8) (.reg v25_9)))
def v25_11 : VC := .loop v25_10
def v25_12 : List VI := [.op (some 33) none (.ld true 4 (.t 6)), .op none none (.st 4 (.t 4) (.t 33)), .op (some 5) none (.p (.mov (.c (.int .i64 0))))]
def v25 : VC := .seq (.reg v25_0) (.seq (.reg v25_1) (.seq (.seq (.reg v25_2) (.cond (.t 13) (.seq (.reg v25_3) .ret) .skip)) (.seq (.seq (.reg v25_4) (.block 0 v25_11)) (.seq (.reg v25_12) .ret))))
def rr25 : List RV := [.m 4 true 4, .t 5]
theorem code25 : (Tryd.f25.body).bind (cCode Tryd.prog) = some v25 := by kernel_rfl
theorem res25 : cRVs Tryd.prog (Tryd.f25.results.toList) = some rr25 := by kernel_rfl
theorem nt25 : Tryd.f25.ntmps = 34 := by kernel_rfl
theorem nm25 : (Tryd.f25.name == "runtime.NumGoroutine") = false := by kernel_rfl
def v26_0 : List VI := [.op (some 6) none (.box (.t 0)), .op (some 11) none (.box (.t 5)), .op (some 12) none (.new [.int .u64 (nl 0), .int .u64 (nl 0), .int .u64 (nl 0), .int .u64 (nl 0)])]
def v26_1 : List VI := [.op (some 18) none (.ld true 4 (.t 11)), .op (some 19) none (.ld true 4 (.t 6)), .op (some 20) none (.p (.bld [.int .u64 (nl 0), .int .u64 (nl 0), .int .u64 (nl 0), .int .u64 (nl 0), .int .u64 (nl 0), .int .u64 (nl 0), .int .u64 (nl 0), .int .u64 (nl 0)] [(0, 4, .t 18), (4, 4, .t 19)])), .op (some 21) none (.bsl 1 [.int .u64 (nl 0), .int .u64 (nl 0), .int .u64 (nl 0), .int .u64 (nl 0), .int .u64 (nl 0), .int .u64 (nl 0), .int .u64 (nl 0), .int .u64 (nl 0)] [(0, 8, .t 20)]), .op (some 13) none (.p (.mov (.t 21)))]
def v26_2 : List VI := [.op (some 22) none (.p (.mov (.t 3))), .op (some 23) none (.p (.len false (.t 22))), .op (some 24) none (.p (.mov (.c (.int .i64 0))))]
def v26_3 : List VI := [.op (some 25) none (.p (.bin .lss (.t 24) (.t 23)))]
def v26_4 : List VI := [.op (some 26) none (.p (.mov (.t 24))), .op (some 27) none (.p (.ixs 4 (.t 22) (.t 24))), .op (some 28) none (.ld true 4 (.t 27)), .op (some 15) none (.new [.int .u64 (nl 0), .int .u64 (nl 0), .int .u64 (nl 0), .int .u64 (nl 0)]), .op (some 14) none (.p (.mov (.t 26))), .op none none (.st 4 (.t 15) (.t 28))]
def v26_5 : List DS := [.mk 0 true (.op (some 29) none (.p (.mov (.t 13)))) [] [], .mk 1 true (.op (some 30) none (.ld true 4 (.t 15))) [] [], .mk 2 true (.op (some 31) none (.p (.mov (.t 1)))) [] [], .mk 3 true (.op (some 32) none (.p (.mov (.t 14)))) [] [], .mk 4 true (.op (some 33) none (.p (.ixs 4 (.t 31) (.t 32)))) [] [], .mk 5 true (.op (some 34) none (.ld true 4 (.t 33))) [] [], .mk 6 true (.op (some 35) none (.p (.bld [.int .u64 (nl 0), .int .u64 (nl 0), .int .u64 (nl 0), .int .u64 (nl 0), .int .u64 (nl 0), .int .u64 (nl 0), .int .u64 (nl 0), .int .u64 (nl 0)] [(0, 4, .t 30), (4, 4, .t 34)]))) [] [], .mk 7 true (.op (some 36) none (.p (.mov (.t 4)))) [] [], .mk 8 true (.op (some 37) none (.p (.mov (.t 14)))) [] [], .mk 9 true (.op (some 38) none (.p (.ixs 4 (.t 36) (.t 37)))) [] [], .mk 10 true (.op (some 39) none (.ld true 4 (.t 38))) [] [], .mk 11 true (.op (some 40) none (.p (.mov (.t 2)))) [] [], .mk 12 true (.op (some 41) none (.p (.mov (.t 14)))) [] [], .mk 13 true (.op (some 42) none (.p (.ixs 4 (.t 40) (.t 41)))) [] [], .mk 14 true (.op (some 43) none (.ld true 4 (.t 42))) [] [], .mk 15 true (.op (some 44) none (.p (.bld [.int .u64 (nl 0), .int .u64 (nl 0), .int .u64 (nl 0), .int .u64 (nl 0), .int .u64 (nl 0), .int .u64 (nl 0), .int .u64 (nl 0), .int .u64 (nl 0)] [(0, 4, .t 39), (4, 4, .t 43)]))) [] [], .mk 16 true (.op (some 45) none (.bsl 2 [.int .u64 (nl 0), .int .u64 (nl 0), .int .u64 (nl 0), .int .u64 (nl 0), .int .u64 (nl 0), .int .u64 (nl 0), .int .u64 (nl 0), .int .u64 (nl 0), .int .u64 (nl 0), .int .u64 (nl 0), .int .u64 (nl 0), .int .u64 (nl 0), .int .u64 (nl 0), .int .u64 (nl 0), .int .u64 (nl 0), .int .u64 (nl 0)] [(0, 8, .t 35), (8, 8, .t 44)])) [] [], .mk 17 false (.op (some 46) none (.app 8 64 false (.t 29) (.t 45))) [] [], .mk 18 false (.op (some 13) none (.p (.mov (.t 46)))) [] []]
def v26_6 : VC := .seq (.reg v26_4) (.drw v26_5)
def v26_7 : List VI := [.op (some 47) none (.p (.bin .add (.t 24) (.c (.int .i64 1)))), .op (some 24) none (.p (.mov (.t 47)))]
def v26_8 : VC := .seq (.reg v26_3) (.seq (.cond (.t 25) .skip (.exit 0)) (.seq (.block 1 v26_6) (.reg v26_7)))
def v26_9 : VC := .loop v26_8
def v26_10 : List VI := [.op (some 48) none (.p (.mov (.t 13))), .op (some 49) none (.p (.len false (.t 48))), .op (some 50) none (.p (.bin .lss (.t 49) (.c (.int .i64 24))))]
def v26_11 : List VI := [.op (some 51) none (.p (.mov (.t 13))), .call (some 52) none (.fn 38) [.t 51], .op none none (.st 4 (.t 12) (.t 52))]
def v26_12 : List VI := [.op (some 54) none (.p (.mov (.t 13))), .call (some 55) none (.fn 39) [.t 54], .op (some 53) none (.p (.mov (.t 55))), .op (some 56) none (.p (.ext (.t 53) 0)), .op (some 57) none (.p (.ext (.t 53) 1)), .op (some 16) none (.new [.int .u64 (nl 0), .int .u64 (nl 0), .int .u64 (nl 0), .int .u64 (nl 0)]), .op (some 17) none (.new [.int .i64 0, .int .i64 0]), .op none none (.st 4 (.t 16) (.t 56)), .op none none (.st 2 (.t 17) (.t 57))]
def v26_13 : List VI := [.op (some 58) none (.ld true 4 (.t 16)), .op none none (.st 4 (.t 12) (.t 58))]
def v26 : VC := .seq (.reg v26_0) (.seq (.reg v26_1) (.seq (.seq (.reg v26_2) (.block 0 v26_9)) (.seq (.seq (.reg v26_10) (.cond (.t 50) (.seq (.reg v26_11) .ret) .skip)) (.seq (.reg v26_12) (.seq (.reg v26_13) .ret)))))
def rr26 : List RV := [.m 12 true 4]
theorem code26 : (Tryd.f26.body).bind (cCode Tryd.prog) = some v26 := by kernel_rfl
theorem res26 : cRVs Tryd.prog (Tryd.f26.results.toList) = some rr26 := by kernel_rfl
theorem nt26 : Tryd.f26.ntmps = 59 := by kernel_rfl
theorem nm26 : (Tryd.f26.name == "runtime.NumGoroutine") = false := by kernel_rfl
def v27_0 : List VI := [.op (some 2) none (.box (.t 0)), .op (some 3) none (.box (.t 1)), .op (some 4) none (.new [.int .u64 (nl 0), .int .u64 (nl 0), .int .u64 (nl 0), .int .u64 (nl 0)])]
def v27_1 : List VI := [.op (some 5) none (.new [.int .u64 (nl 0), .int .u64 (nl 0), .int .u64 (nl 0), .int .u64 (nl 0), .int .u64 (nl 0)])]
def v27_2 : List VI := [.op (some 13) none (.p (.mov (.c (.int .i64 0))))]
def v27_3 : List VI := [.op (some 14) none (.p (.bin .lss (.t 13) (.c (.int .i64 4))))]
def v27_4 : List VI := [.op (some 15) none (.p (.mov (.t 13))), .op (some 6) none (.p (.mov (.t 15)))]
def v27_5 : List VI := [.op (some 7) none (.p (.mov (.c (.int .u64 (nl 0))))), .op (some 8) none (.p (.mov (.c (.int .u64 (nl 0)))))]
def v27_6 : List VI := [.op (some 16) none (.p (.mov (.c (.int .i64 0))))]
def v27_7 : List VI := [.op (some 17) none (.p (.bin .lss (.t 16) (.c (.int .i64 4))))]
def v27_8 : List VI := [.op (some 18) none (.p (.mov (.t 16))), .op (some 9) none (.p (.mov (.t 18)))]
def v27_9 : List DS := [.mk 0 true (.op (some 20) none (.p (.mov (.t 9)))) [] [], .mk 1 true (.op (some 21) none (.p (.mov (.t 9)))) [] [], .mk 2 true (.op (some 22) none (.p (.ixa 4 1 (.t 2) (.t 21)))) [] [], .mk 3 true (.op (some 23) none (.ld false 1 (.t 22))) [] [], .mk 4 true (.op (some 24) none (.p (.mov (.t 6)))) [] [], .mk 5 true (.op (some 25) none (.p (.ixa 4 1 (.t 3) (.t 24)))) [] [], .mk 6 true (.op (some 26) none (.ld false 1 (.t 25))) [] [], .mk 7 true (.op (some 27) none (.p (.mov (.t 9)))) [] [], .mk 8 true (.op (some 28) none (.p (.ixa 5 1 (.t 5) (.t 27)))) [] [], .mk 9 true (.op (some 29) none (.ld false 1 (.t 28))) [] [], .mk 10 true (.op (some 30) none (.p (.mov (.t 7)))) [] [], .mk 11 false (.call (some 31) none (.fn 40) [.t 23, .t 26, .t 29, .t 30]) [] [], .mk 12 true (.op (some 19) none (.p (.mov (.t 31)))) [] [], .mk 13 true (.op (some 32) none (.p (.ext (.t 19) 0))) [] [], .mk 14 true (.op (some 33) none (.p (.ext (.t 19) 1))) [] [], .mk 15 true (.op (some 34) none (.p (.ixa 5 1 (.t 5) (.t 20)))) [] [], .mk 16 false (.op none none (.st 1 (.t 34) (.t 32))) [] [], .mk 17 false (.op (some 7) none (.p (.mov (.t 33)))) [] []]
def v27_10 : VC := .seq (.reg v27_8) (.drw v27_9)
def v27_11 : List VI := [.op (some 35) none (.p (.bin .add (.t 16) (.c (.int .i64 1)))), .op (some 16) none (.p (.mov (.t 35)))]
def v27_12 : VC := .seq (.reg v27_7) (.seq (.cond (.t 17) .skip (.exit 2)) (.seq (.block 3 v27_10) (.reg v27_11)))
def v27_13 : VC := .loop v27_12
def v27_14 : List VI := [.op (some 37) none (.p (.ixa 5 1 (.t 5) (.c (.int .i64 4)))), .op (some 38) none (.ld false 1 (.t 37)), .op (some 39) none (.p (.mov (.t 7))), .call (some 40) none (.fn 41) [.t 38, .t 39, .c (.int .u64 (nl 0))], .op (some 36) none (.p (.mov (.t 40))), .op (some 41) none (.p (.ext (.t 36) 0)), .op (some 42) none (.p (.ext (.t 36) 1)), .op (some 43) none (.p (.ixa 5 1 (.t 5) (.c (.int .i64 4)))), .op none none (.st 1 (.t 43) (.t 41)), .op (some 8) none (.p (.mov (.t 42)))]
def v27_15 : List VI := [.op (some 44) none (.p (.mov (.t 8))), .op (some 10) none (.p (.mov (.t 44)))]
def v27_16 : List VI := [.op (some 45) none (.p (.ixa 5 1 (.t 5) (.c (.int .i64 0)))), .op (some 46) none (.ld false 1 (.t 45)), .op (some 47) none (.p (.bin .mul (.t 46) (.c (.int .u64 (nl 15183074304973897243))))), .op (some 11) none (.p (.mov (.t 47)))]
def v27_17 : List VI := [.op (some 49) none (.p (.mov (.t 11))), .op (some 50) none (.p (.ixa 4 4 (.g 0) (.c (.int .i64 0)))), .op (some 51) none (.p (.ixa 4 1 (.t 50) (.c (.int .i64 0)))), .op (some 52) none (.ld false 1 (.t 51)), .op (some 53) none (.p (.ixa 5 1 (.t 5) (.c (.int .i64 0)))), .op (some 54) none (.ld false 1 (.t 53)), .call (some 55) none (.fn 40) [.t 49, .t 52, .t 54, .c (.int .u64 (nl 0))], .op (some 48) none (.p (.mov (.t 55))), .op (some 56) none (.p (.ext (.t 48) 0)), .op (some 57) none (.p (.ext (.t 48) 1)), .op (some 7) none (.p (.mov (.t 57)))]
def v27_18 : List VI := [.op (some 12) none (.p (.mov (.c (.int .i64 1))))]
def v27_19 : List VI := [.op (some 58) none (.p (.mov (.t 12))), .op (some 59) none (.p (.bin .lss (.t 58) (.c (.int .i64 4))))]
def v27_20 : List DS := [.mk 0 true (.op (some 63) none (.p (.mov (.t 12)))) [] [], .mk 1 true (.op (some 64) none (.p (.bin .sub (.t 63) (.c (.int .i64 1))))) [] [], .mk 2 true (.op (some 65) none (.p (.mov (.t 11)))) [] [], .mk 3 true (.op (some 66) none (.p (.mov (.t 12)))) [] [], .mk 4 true (.op (some 67) none (.p (.ixa 4 4 (.g 0) (.c (.int .i64 0))))) [] [], .mk 5 true (.op (some 68) none (.p (.ixa 4 1 (.t 67) (.t 66)))) [] [], .mk 6 true (.op (some 69) none (.ld false 1 (.t 68))) [] [], .mk 7 true (.op (some 70) none (.p (.mov (.t 12)))) [] [], .mk 8 true (.op (some 71) none (.p (.ixa 5 1 (.t 5) (.t 70)))) [] [], .mk 9 true (.op (some 72) none (.ld false 1 (.t 71))) [] [], .mk 10 true (.op (some 73) none (.p (.mov (.t 7)))) [] [], .mk 11 false (.call (some 74) none (.fn 40) [.t 65, .t 69, .t 72, .t 73]) [] [], .mk 12 true (.op (some 62) none (.p (.mov (.t 74)))) [] [], .mk 13 true (.op (some 75) none (.p (.ext (.t 62) 0))) [] [], .mk 14 true (.op (some 76) none (.p (.ext (.t 62) 1))) [] [], .mk 15 true (.op (some 77) none (.p (.ixa 5 1 (.t 5) (.t 64)))) [] [], .mk 16 false (.op none none (.st 1 (.t 77) (.t 75))) [] [], .mk 17 false (.op (some 7) none (.p (.mov (.t 76)))) [] []]
def v27_21 : VC := .drw v27_20
def v27_22 : List VI := [.op (some 60) none (.p (.mov (.t 12))), .op (some 61) none (.p (.bin .add (.t 60) (.c (.int .i64 1)))), .op (some 12) none (.p (.mov (.t 61)))]
def v27_23 : VC := .seq (.seq (.reg v27_19) (.cond (.t 59) .skip (.exit 4))) (.seq (.block 5 v27_21) (.reg v27_22))
def v27_24 : VC := .loop v27_23
def v27_25 : List VI := [.op (some 79) none (.p (.ixa 5 1 (.t 5) (.c (.int .i64 4)))), .op (some 80) none (.ld false 1 (.t 79)), .op (some 81) none (.p (.mov (.t 7))), .call (some 82) none (.fn 41) [.t 80, .t 81, .c (.int .u64 (nl 0))], .op (some 78) none (.p (.mov (.t 82))), .op (some 83) none (.p (.ext (.t 78) 0)), .op (some 84) none (.p (.ext (.t 78) 1)), .op (some 85) none (.p (.ixa 5 1 (.t 5) (.c (.int .i64 3)))), .op none none (.st 1 (.t 85) (.t 83)), .op (some 8) none (.p (.mov (.t 84)))]
def v27_26 : List VI := [.op (some 86) none (.p (.mov (.t 10))), .op (some 87) none (.p (.mov (.t 8))), .op (some 88) none (.p (.bin .add (.t 86) (.t 87))), .op (some 89) none (.p (.ixa 5 1 (.t 5) (.c (.int .i64 4)))), .op none none (.st 1 (.t 89) (.t 88))]
def v27_27 : VC := .seq (.reg v27_4) (.seq (.reg v27_5) (.seq (.seq (.reg v27_6) (.block 2 v27_13)) (.seq (.reg v27_14) (.seq (.reg v27_15) (.seq (.reg v27_16) (.seq (.reg v27_17) (.seq (.seq (.reg v27_18) (.block 4 v27_24)) (.seq (.reg v27_25) (.reg v27_26)))))))))
def v27_28 : List VI := [.op (some 90) none (.p (.bin .add (.t 13) (.c (.int .i64 1)))), .op (some 13) none (.p (.mov (.t 90)))]
def v27_29 : VC := .seq (.reg v27_3) (.seq (.cond (.t 14) .skip (.exit 0)) (.seq (.block 1 v27_27) (.reg v27_28)))
def v27_30 : VC := .loop v27_29
def v27_31 : List VI := [.op (some 91) none (.p (.ixa 5 1 (.t 5) (.c (.int .i64 0)))), .op (some 92) none (.ld false 1 (.t 91)), .op (some 93) none (.p (.ixa 5 1 (.t 5) (.c (.int .i64 1)))), .op (some 94) none (.ld false 1 (.t 93)), .op (some 95) none (.p (.ixa 5 1 (.t 5) (.c (.int .i64 2)))), .op (some 96) none (.ld false 1 (.t 95)), .op (some 97) none (.p (.ixa 5 1 (.t 5) (.c (.int .i64 3)))), .op (some 98) none (.ld false 1 (.t 97)), .op (some 99) none (.p (.bld [.int .u64 (nl 0), .int .u64 (nl 0), .int .u64 (nl 0), .int .u64 (nl 0)] [(0, 1, .t 92), (1, 1, .t 94), (2, 1, .t 96), (3, 1, .t 98)])), .call (some 100) none (.fn 30) [.t 99], .op none none (.st 4 (.t 4) (.t 100))]
def v27 : VC := .seq (.reg v27_0) (.seq (.reg v27_1) (.seq (.seq (.reg v27_2) (.block 0 v27_30)) (.seq (.reg v27_31) .ret)))
def rr27 : List RV := [.m 4 true 4]
theorem code27 : (Tryd.f27.body).bind (cCode Tryd.prog) = some v27 := by kernel_rfl
theorem res27 : cRVs Tryd.prog (Tryd.f27.results.toList) = some rr27 := by kernel_rfl
theorem nt27 : Tryd.f27.ntmps = 101 := by kernel_rfl
theorem nm27 : (Tryd.f27.name == "runtime.NumGoroutine") = false := by kernel_rfl
def v28_0 : List VI := [.op (some 1) none (.box (.t 0)), .op (some 2) none (.new [.int .u64 (nl 0), .int .u64 (nl 0), .int .u64 (nl 0), .int .u64 (nl 0)])]
def v28_1 : List VI := [.op (some 14) none (.p (.ixa 4 1 (.t 1) (.c (.int .i64 3)))), .op (some 15) none (.ld false 1 (.t 14)), .op (some 16) none (.p (.bin .lss (.t 15) (.c (.int .u64 (nl 1152921504606846976)))))]
def v28_2 : List VI := [.op (some 17) none (.ld true 4 (.t 1)), .op none none (.st 4 (.t 2) (.t 17))]
def v28_3 : List VI := [.op (some 18) none (.p (.ixa 4 1 (.t 1) (.c (.int .i64 3)))), .op (some 19) none (.ld false 1 (.t 18)), .op (some 20) none (.p (.bin .shr (.t 19) (.c (.int .u64 (nl 60))))), .op (some 3) none (.p (.mov (.t 20)))]
def v28_4 : List VI := [.op (some 21) none (.p (.ixa 4 1 (.t 1) (.c (.int .i64 3)))), .op (some 22) none (.ld false 1 (.t 21)), .op (some 23) none (.p (.bin .and (.t 22) (.c (.int .u64 (nl 1152921504606846975))))), .op (some 24) none (.p (.ixa 4 1 (.t 1) (.c (.int .i64 3)))), .op none none (.st 1 (.t 24) (.t 23))]
def v28_5 : List VI := [.op (some 4) none (.new [.int .u64 (nl 0), .int .u64 (nl 0), .int .u64 (nl 0), .int .u64 (nl 0)])]
def v28_6 : List VI := [.op (some 26) none (.p (.mov (.t 3))), .op (some 27) none (.p (.ixa 4 4 (.g 0) (.c (.int .i64 0)))), .op (some 28) none (.p (.ixa 4 1 (.t 27) (.c (.int .i64 0)))), .op (some 29) none (.ld false 1 (.t 28)), .call (some 30) none (.fn 42) [.t 26, .t 29], .op (some 25) none (.p (.mov (.t 30))), .op (some 31) none (.p (.ext (.t 25) 0)), .op (some 32) none (.p (.ext (.t 25) 1)), .op (some 5) none (.p (.mov (.t 31))), .op (some 6) none (.p (.mov (.t 32)))]
def v28_7 : List VI := [.op (some 33) none (.p (.mov (.t 6))), .op (some 34) none (.p (.ixa 4 1 (.t 4) (.c (.int .i64 0)))), .op none none (.st 1 (.t 34) (.t 33))]
def v28_8 : List VI := [.op (some 36) none (.p (.mov (.t 3))), .op (some 37) none (.p (.ixa 4 4 (.g 0) (.c (.int .i64 0)))), .op (some 38) none (.p (.ixa 4 1 (.t 37) (.c (.int .i64 1)))), .op (some 39) none (.ld false 1 (.t 38)), .call (some 40) none (.fn 42) [.t 36, .t 39], .op (some 35) none (.p (.mov (.t 40))), .op (some 41) none (.p (.ext (.t 35) 0)), .op (some 42) none (.p (.ext (.t 35) 1)), .op (some 7) none (.p (.mov (.t 41))), .op (some 8) none (.p (.mov (.t 42)))]
def v28_9 : List VI := [.op (some 9) none (.p (.mov (.c (.int .u64 (nl 0)))))]
def v28_10 : List VI := [.op (some 44) none (.p (.mov (.t 8))), .op (some 45) none (.p (.mov (.t 5))), .call (some 46) none (.fn 41) [.t 44, .t 45, .c (.int .u64 (nl 0))], .op (some 43) none (.p (.mov (.t 46))), .op (some 47) none (.p (.ext (.t 43) 0)), .op (some 48) none (.p (.ext (.t 43) 1)), .op (some 49) none (.p (.ixa 4 1 (.t 4) (.c (.int .i64 1)))), .op none none (.st 1 (.t 49) (.t 47)), .op (some 9) none (.p (.mov (.t 48)))]
def v28_11 : List VI := [.op (some 50) none (.p (.mov (.t 7))), .op (some 51) none (.p (.mov (.t 9))), .op (some 52) none (.p (.bin .add (.t 50) (.t 51))), .op (some 53) none (.p (.ixa 4 1 (.t 4) (.c (.int .i64 2)))), .op none none (.st 1 (.t 53) (.t 52))]
def v28_12 : List VI := [.op (some 55) none (.ld true 4 (.t 1)), .op (some 56) none (.ld true 4 (.t 4)), .call (some 57) none (.fn 32) [.t 55, .t 56], .op (some 54) none (.p (.mov (.t 57))), .op (some 58) none (.p (.ext (.t 54) 0)), .op (some 59) none (.p (.ext (.t 54) 1)), .op (some 10) none (.new [.int .u64 (nl 0), .int .u64 (nl 0), .int .u64 (nl 0), .int .u64 (nl 0)]), .op none none (.st 4 (.t 10) (.t 58)), .op (some 11) none (.p (.mov (.t 59)))]
def v28_13 : List VI := [.op (some 61) none (.ld true 4 (.t 10)), .op (some 62) none (.p (.ixa 4 4 (.g 0) (.c (.int .i64 0)))), .op (some 63) none (.ld true 4 (.t 62)), .call (some 64) none (.fn 29) [.t 61, .t 63], .op (some 60) none (.p (.mov (.t 64))), .op (some 65) none (.p (.ext (.t 60) 0)), .op (some 66) none (.p (.ext (.t 60) 1)), .op (some 12) none (.new [.int .u64 (nl 0), .int .u64 (nl 0), .int .u64 (nl 0), .int .u64 (nl 0)]), .op none none (.st 4 (.t 12) (.t 65)), .op (some 13) none (.p (.mov (.t 66)))]
def v28_14 : List VI := [.op (some 67) none (.p (.mov (.t 11))), .op (some 68) none (.p (.un .neg (.t 67))), .op (some 69) none (.ld true 4 (.t 12)), .op (some 70) none (.ld true 4 (.t 10)), .call (some 71) none (.fn 33) [.t 68, .t 69, .t 70], .call (some 72) none (.fn 30) [.t 71], .op none none (.st 4 (.t 2) (.t 72))]
def v28 : VC := .seq (.reg v28_0) (.seq (.seq (.reg v28_1) (.cond (.t 16) (.seq (.reg v28_2) .ret) .skip)) (.seq (.reg v28_3) (.seq (.reg v28_4) (.seq (.reg v28_5) (.seq (.reg v28_6) (.seq (.reg v28_7) (.seq (.reg v28_8) (.seq (.reg v28_9) (.seq (.reg v28_10) (.seq (.reg v28_11) (.seq (.reg v28_12) (.seq (.reg v28_13) (.seq (.reg v28_14) .ret)))))))))))))
def rr28 : List RV := [.m 2 true 4]
theorem code28 : (Tryd.f28.body).bind (cCode Tryd.prog) = some v28 := by kernel_rfl
theorem res28 : cRVs Tryd.prog (Tryd.f28.results.toList) = some rr28 := by kernel_rfl
theorem nt28 : Tryd.f28.ntmps = 73 := by kernel_rfl
theorem nm28 : (Tryd.f28.name == "runtime.NumGoroutine") = false := by kernel_rfl
def v29_0 : List VI := [.op (some 2) none (.box (.t 0)), .op (some 3) none (.box (.t 1)), .op (some 4) none (.new [.int .u64 (nl 0), .int .u64 (nl 0), .int .u64 (nl 0), .int .u64 (nl 0)]), .op (some 5) none (.p (.mov (.c (.int .u64 (nl 0)))))]
def v29_1 : List VI := [.op (some 6) none (.new [.int .u64 (nl 0), .int .u64 (nl 0), .int .u64 (nl 0), .int .u64 (nl 0)])]
def v29_2 : List VI := [.op (some 7) none (.p (.mov (.c (.int .u64 (nl 0)))))]
def v29_3 : List VI := [.op (some 9) none (.p (.mov (.c (.int .i64 0))))]
def v29_4 : List VI := [.op (some 10) none (.p (.bin .lss (.t 9) (.c (.int .i64 4))))]
def v29_5 : List VI := [.op (some 11) none (.p (.mov (.t 9))), .op (some 8) none (.p (.mov (.t 11)))]
def v29_6 : List DS := [.mk 0 true (.op (some 13) none (.p (.mov (.t 8)))) [] [], .mk 1 true (.op (some 14) none (.p (.mov (.t 8)))) [] [], .mk 2 true (.op (some 15) none (.p (.ixa 4 1 (.t 2) (.t 14)))) [] [], .mk 3 true (.op (some 16) none (.ld false 1 (.t 15))) [] [], .mk 4 true (.op (some 17) none (.p (.mov (.t 8)))) [] [], .mk 5 true (.op (some 18) none (.p (.ixa 4 1 (.t 3) (.t 17)))) [] [], .mk 6 true (.op (some 19) none (.ld false 1 (.t 18))) [] [], .mk 7 true (.op (some 20) none (.p (.mov (.t 7)))) [] [], .mk 8 false (.call (some 21) none (.fn 41) [.t 16, .t 19, .t 20]) [] [], .mk 9 true (.op (some 12) none (.p (.mov (.t 21)))) [] [], .mk 10 true (.op (some 22) none (.p (.ext (.t 12) 0))) [] [], .mk 11 true (.op (some 23) none (.p (.ext (.t 12) 1))) [] [], .mk 12 true (.op (some 24) none (.p (.ixa 4 1 (.t 6) (.t 13)))) [] [], .mk 13 false (.op none none (.st 1 (.t 24) (.t 22))) [] [], .mk 14 false (.op (some 7) none (.p (.mov (.t 23)))) [] []]
def v29_7 : VC := .seq (.reg v29_5) (.drw v29_6)
def v29_8 : List VI := [.op (some 25) none (.p (.bin .add (.t 9) (.c (.int .i64 1)))), .op (some 9) none (.p (.mov (.t 25)))]
def v29_9 : VC := .seq (.reg v29_4) (.seq (.cond (.t 10) .skip (.exit 0)) (.seq (.block 1 v29_7) (.reg v29_8)))
def v29_10 : VC := .loop v29_9
def v29_11 : List VI := [.op (some 26) none (.ld true 4 (.t 6)), .op (some 27) none (.p (.mov (.t 7))), .op none none (.st 4 (.t 4) (.t 26)), .op (some 5) none (.p (.mov (.t 27)))]
def v29 : VC := .seq (.reg v29_0) (.seq (.reg v29_1) (.seq (.reg v29_2) (.seq (.seq (.reg v29_3) (.block 0 v29_10)) (.seq (.reg v29_11) .ret))))
def rr29 : List RV := [.m 4 true 4, .t 5]
theorem code29 : (Tryd.f29.body).bind (cCode Tryd.prog) = some v29 := by kernel_rfl
theorem res29 : cRVs Tryd.prog (Tryd.f29.results.toList) = some rr29 := by kernel_rfl
theorem nt29 : Tryd.f29.ntmps = 28 := by kernel_rfl
theorem nm29 : (Tryd.f29.name == "runtime.NumGoroutine") = false := by kernel_rfl
def v30_0 : List VI := [.op (some 1) none (.box (.t 0)), .op (some 2) none (.new [.int .u64 (nl 0), .int .u64 (nl 0), .int .u64 (nl 0), .int .u64 (nl 0)])]
def v30_1 : List VI := [.op (some 6) none (.ld true 4 (.t 1)), .op (some 7) none (.p (.ixa 4 4 (.g 0) (.c (.int .i64 0)))), .op (some 8) none (.ld true 4 (.t 7)), .call (some 9) none (.fn 32) [.t 6, .t 8], .op (some 5) none (.p (.mov (.t 9))), .op (some 10) none (.p (.ext (.t 5) 0)), .op (some 11) none (.p (.ext (.t 5) 1)), .op (some 3) none (.new [.int .u64 (nl 0), .int .u64 (nl 0), .int .u64 (nl 0), .int .u64 (nl 0)]), .op none none (.st 4 (.t 3) (.t 10)), .op (some 4) none (.p (.mov (.t 11)))]
def v30_2 : List VI := [.op (some 12) none (.p (.mov (.t 4))), .op (some 13) none (.p (.un .neg (.t 12))), .op (some 14) none (.ld true 4 (.t 1)), .op (some 15) none (.ld true 4 (.t 3)), .call (some 16) none (.fn 33) [.t 13, .t 14, .t 15], .op none none (.st 4 (.t 2) (.t 16))]
def v30 : VC := .seq (.reg v30_0) (.seq (.reg v30_1) (.seq (.reg v30_2) .ret))
def rr30 : List RV := [.m 2 true 4]
theorem code30 : (Tryd.f30.body).bind (cCode Tryd.prog) = some v30 := by kernel_rfl
theorem res30 : cRVs Tryd.prog (Tryd.f30.results.toList) = some rr30 := by kernel_rfl
theorem nt30 : Tryd.f30.ntmps = 17 := by kernel_rfl
theorem nm30 : (Tryd.f30.name == "runtime.NumGoroutine") = false := by kernel_rfl
def v31_0 : List VI := [.op (some 3) none (.box (.t 0)), .op (some 4) none (.box (.t 1)), .op (some 6) none (.new [.int .u64 (nl 0), .int .u64 (nl 0), .int .u64 (nl 0), .int .u64 (nl 0)])]
def v31_1 : List DS := [.mk 0 true (.op (some 11) none (.ld true 4 (.t 3))) [] [], .mk 2 true (.op (some 13) none (.p (.ixa 4 4 (.g 0) (.c (.int .i64 2))))) [] [], .mk 3 true (.op (some 14) none (.ld true 4 (.t 13))) [] [], .mk 5 true (.op (some 7) none (.new [.int .u64 (nl 0), .int .u64 (nl 0), .int .u64 (nl 0), .int .u64 (nl 0)])) [] [], .mk 1 false (.call (some 12) none (.fn 28) [.t 11]) [13] [7], .mk 4 false (.call (some 15) none (.fn 27) [.t 12, .t 14]) [] [7], .mk 6 false (.op none none (.st 4 (.t 7) (.t 15))) [] []]
def v31_2 : List VI := [.op (some 16) none (.p (.ixa 4 4 (.g 0) (.c (.int .i64 1)))), .op (some 17) none (.ld true 4 (.t 16)), .op (some 8) none (.new [.int .u64 (nl 0), .int .u64 (nl 0), .int .u64 (nl 0), .int .u64 (nl 0)]), .op none none (.st 4 (.t 8) (.t 17))]
def v31_3 : List VI := [.op (some 9) none (.p (.mov (.c (.bool false))))]
def v31_4 : List VI := [.op (some 18) none (.p (.mov (.t 2))), .op (some 19) none (.p (.bin .sub (.t 18) (.c (.int .i64 1)))), .op (some 10) none (.p (.mov (.t 19)))]
def v31_5 : List VI := [.op (some 20) none (.p (.mov (.t 10))), .op (some 21) none (.p (.bin .geq (.t 20) (.c (.int .i64 0))))]
def v31_6 : List VI := [.op (some 24) none (.p (.mov (.t 9)))]
def v31_7 : List VI := [.op (some 25) none (.ld true 4 (.t 8)), .op (some 26) none (.ld true 4 (.t 8)), .call (some 27) none (.fn 27) [.t 25, .t 26], .op none none (.st 4 (.t 8) (.t 27))]
def v31_8 : List VI := [.op (some 28) none (.p (.mov (.t 10))), .op (some 29) none (.p (.bin .quo (.t 28) (.c (.int .i64 64)))), .op (some 30) none (.p (.ixa 4 1 (.t 4) (.t 29))), .op (some 31) none (.ld false 1 (.t 30)), .op (some 32) none (.p (.mov (.t 10))), .op (some 33) none (.p (.bin .rem (.t 32) (.c (.int .i64 64)))), .op (some 34) none (.p (.bin .shr (.t 31) (.t 33))), .op (some 35) none (.p (.bin .and (.t 34) (.c (.int .u64 (nl 1))))), .op (some 36) none (.p (.eq false .i (.t 35) (.c (.int .u64 (nl 1)))))]
def v31_9 : List VI := [.op (some 37) none (.ld true 4 (.t 8)), .op (some 38) none (.ld true 4 (.t 7)), .call (some 39) none (.fn 27) [.t 37, .t 38], .op none none (.st 4 (.t 8) (.t 39))]
def v31_10 : List VI := [.op (some 9) none (.p (.mov (.c (.bool true))))]
def v31_11 : VC := .seq (.seq (.reg v31_6) (.cond (.t 24) (.reg v31_7) .skip)) (.seq (.reg v31_8) (.cond (.t 36) (.seq (.reg v31_9) (.reg v31_10)) .skip))
def v31_12 : List VI := [.op (some 22) none (.p (.mov (.t 10))), .op (some 23) none (.p (.bin .sub (.t 22) (.c (.int .i64 1)))), .op (some 10) none (.p (.mov (.t 23)))]
def v31_13 : VC := .seq (.seq (.reg v31_5) (.cond (.t 21) .skip (.exit 0))) (.seq (.block 1 v31_11) (.reg v31_12))
def v31_14 : VC := .loop v31_13
def v31_15 : List VI := [.op (some 40) none (.ld true 4 (.t 8)), .op (some 41) none (.p (.bld [.int .u64 (nl 0), .int .u64 (nl 0), .int .u64 (nl 0), .int .u64 (nl 0)] [(0, 1, .c (.int .u64 (nl 1)))])), .call (some 42) none (.fn 27) [.t 40, .t 41], .op none none (.st 4 (.t 6) (.t 42))]
def v31 : VC := .seq (.reg v31_0) (.seq (.drw v31_1) (.seq (.reg v31_2) (.seq (.reg v31_3) (.seq (.seq (.reg v31_4) (.block 0 v31_14)) (.seq (.reg v31_15) .ret)))))
def rr31 : List RV := [.m 6 true 4]
theorem code31 : (Tryd.f31.body).bind (cCode Tryd.prog) = some v31 := by kernel_rfl
theorem res31 : cRVs Tryd.prog (Tryd.f31.results.toList) = some rr31 := by kernel_rfl
theorem nt31 : Tryd.f31.ntmps = 43 := by kernel_rfl
theorem nm31 : (Tryd.f31.name == "runtime.NumGoroutine") = false := by kernel_rfl
def v32_0 : List VI := [.op (some 2) none (.box (.t 0)), .op (some 3) none (.box (.t 1)), .op (some 4) none (.new [.int .u64 (nl 0), .int .u64 (nl 0), .int .u64 (nl 0), .int .u64 (nl 0)]), .op (some 5) none (.p (.mov (.c (.int .u64 (nl 0)))))]
def v32_1 : List VI := [.op (some 6) none (.new [.int .u64 (nl 0), .int .u64 (nl 0), .int .u64 (nl 0), .int .u64 (nl 0)])]
def v32_2 : List VI := [.op (some 7) none (.p (.mov (.c (.int .u64 (nl 0)))))]
def v32_3 : List VI := [.op (some 9) none (.p (.mov (.c (.int .i64 0))))]
def v32_4 : List VI := [.op (some 10) none (.p (.bin .lss (.t 9) (.c (.int .i64 4))))]
def v32_5 : List VI := [.op (some 11) none (.p (.mov (.t 9))), .op (some 8) none (.p (.mov (.t 11)))]
def v32_6 : List DS := [.mk 0 true (.op (some 13) none (.p (.mov (.t 8)))) [] [], .mk 1 true (.op (some 14) none (.p (.mov (.t 8)))) [] [], .mk 2 true (.op (some 15) none (.p (.ixa 4 1 (.t 2) (.t 14)))) [] [], .mk 3 true (.op (some 16) none (.ld false 1 (.t 15))) [] [], .mk 4 true (.op (some 17) none (.p (.mov (.t 8)))) [] [], .mk 5 true (.op (some 18) none (.p (.ixa 4 1 (.t 3) (.t 17)))) [] [], .mk 6 true (.op (some 19) none (.ld false 1 (.t 18))) [] [], .mk 7 true (.op (some 20) none (.p (.mov (.t 7)))) [] [], .mk 8 false (.call (some 21) none (.fn 43) [.t 16, .t 19, .t 20]) [] [], .mk 9 true (.op (some 12) none (.p (.mov (.t 21)))) [] [], .mk 10 true (.op (some 22) none (.p (.ext (.t 12) 0))) [] [], .mk 11 true (.op (some 23) none (.p (.ext (.t 12) 1))) [] [], .mk 12 true (.op (some 24) none (.p (.ixa 4 1 (.t 6) (.t 13)))) [] [], .mk 13 false (.op none none (.st 1 (.t 24) (.t 22))) [] [], .mk 14 false (.op (some 7) none (.p (.mov (.t 23)))) [] []]
def v32_7 : VC := .seq (.reg v32_5) (.drw v32_6)
def v32_8 : List VI := [.op (some 25) none (.p (.bin .add (.t 9) (.c (.int .i64 1)))), .op (some 9) none (.p (.mov (.t 25)))]
def v32_9 : VC := .seq (.reg v32_4) (.seq (.cond (.t 10) .skip (.exit 0)) (.seq (.block 1 v32_7) (.reg v32_8)))
def v32_10 : VC := .loop v32_9
def v32_11 : List VI := [.op (some 26) none (.ld true 4 (.t 6)), .op (some 27) none (.p (.mov (.t 7))), .op none none (.st 4 (.t 4) (.t 26)), .op (some 5) none (.p (.mov (.t 27)))]
def v32 : VC := .seq (.reg v32_0) (.seq (.reg v32_1) (.seq (.reg v32_2) (.seq (.seq (.reg v32_3) (.block 0 v32_10)) (.seq (.reg v32_11) .ret))))
def rr32 : List RV := [.m 4 true 4, .t 5]
theorem code32 : (Tryd.f32.body).bind (cCode Tryd.prog) = some v32 := by kernel_rfl
theorem res32 : cRVs Tryd.prog (Tryd.f32.results.toList) = some rr32 := by kernel_rfl
theorem nt32 : Tryd.f32.ntmps = 28 := by kernel_rfl
theorem nm32 : (Tryd.f32.name == "runtime.NumGoroutine") = false := by kernel_rfl
def v33_0 : List VI := [.op (some 4) none (.box (.t 1)), .op (some 5) none (.box (.t 2)), .op (some 6) none (.new [.int .u64 (nl 0), .int .u64 (nl 0), .int .u64 (nl 0), .int .u64 (nl 0)])]
def v33_1 : List VI := [.op (some 8) none (.p (.mov (.c (.int .i64 0))))]
def v33_2 : List VI := [.op (some 9) none (.p (.bin .lss (.t 8) (.c (.int .i64 4))))]
def v33_3 : List VI := [.op (some 10) none (.p (.mov (.t 8))), .op (some 7) none (.p (.mov (.t 10)))]
def v33_4 : List DS := [.mk 0 true (.op (some 11) none (.p (.mov (.t 7)))) [] [], .mk 1 true (.op (some 12) none (.p (.mov (.t 7)))) [] [], .mk 2 true (.op (some 13) none (.p (.ixa 4 1 (.t 4) (.t 12)))) [] [], .mk 3 true (.op (some 14) none (.ld false 1 (.t 13))) [] [], .mk 4 true (.op (some 15) none (.p (.mov (.t 0)))) [] [], .mk 5 true (.op (some 16) none (.p (.bin .and (.t 14) (.t 15)))) [] [], .mk 6 true (.op (some 17) none (.p (.mov (.t 7)))) [] [], .mk 7 true (.op (some 18) none (.p (.ixa 4 1 (.t 5) (.t 17)))) [] [], .mk 8 true (.op (some 19) none (.ld false 1 (.t 18))) [] [], .mk 9 true (.op (some 20) none (.p (.mov (.t 0)))) [] [], .mk 10 true (.op (some 21) none (.p (.bin .andNot (.t 19) (.t 20)))) [] [], .mk 11 true (.op (some 22) none (.p (.bin .or (.t 16) (.t 21)))) [] [], .mk 12 true (.op (some 23) none (.p (.ixa 4 1 (.t 4) (.t 11)))) [] [], .mk 13 false (.op none none (.st 1 (.t 23) (.t 22))) [] []]
def v33_5 : VC := .seq (.reg v33_3) (.drw v33_4)
def v33_6 : List VI := [.op (some 24) none (.p (.bin .add (.t 8) (.c (.int .i64 1)))), .op (some 8) none (.p (.mov (.t 24)))]
def v33_7 : VC := .seq (.reg v33_2) (.seq (.cond (.t 9) .skip (.exit 0)) (.seq (.block 1 v33_5) (.reg v33_6)))
def v33_8 : VC := .loop v33_7
def v33_9 : List VI := [.op (some 25) none (.ld true 4 (.t 4)), .op none none (.st 4 (.t 6) (.t 25))]
def v33 : VC := .seq (.reg v33_0) (.seq (.seq (.reg v33_1) (.block 0 v33_8)) (.seq (.reg v33_9) .ret))
def rr33 : List RV := [.m 6 true 4]
theorem code33 : (Tryd.f33.body).bind (cCode Tryd.prog) = some v33 := by kernel_rfl
theorem res33 : cRVs Tryd.prog (Tryd.f33.results.toList) = some rr33 := by kernel_rfl
theorem nt33 : Tryd.f33.ntmps = 26 := by kernel_rfl
theorem nm33 : (Tryd.f33.name == "runtime.NumGoroutine") = false := by kernel_rfl
def v34_0 : List VI := [.op (some 2) none (.p (.mov (.c (.int .i64 0)))), .op (some 3) none (.p (.mov (.c (.bool false))))]
def v34_1 : List VI := [.op (some 5) none (.p (.mov (.t 0))), .op (some 6) none (.p (.bin .lss (.t 5) (.c (.int .i64 1)))), .op (some 7) none (.p (.mov (.t 6))), .op (some 8) (some (7, false)) (.p (.mov (.t 0))), .op (some 9) (some (7, false)) (.p (.bin .gtr (.t 8) (.c (.int .i64 1024)))), .op (some 10) none (.p (.pick (.t 7) (.c (.bool true)) (.t 9))), .op (some 11) none (.p (.mov (.t 10))), .op (some 12) (some (11, false)) (.p (.mov (.t 0))), .op (some 13) (some (11, false)) (.p (.mov (.t 0))), .op (some 14) (some (11, false)) (.p (.bin .sub (.t 13) (.c (.int .i64 1)))), .op (some 15) (some (11, false)) (.p (.bin .and (.t 12) (.t 14))), .op (some 16) (some (11, false)) (.p (.eq true .i (.t 15) (.c (.int .i64 0)))), .op (some 17) none (.p (.pick (.t 11) (.c (.bool true)) (.t 16)))]
def v34_2 : List VI := [.op (some 2) none (.p (.mov (.c (.int .i64 0)))), .op (some 3) none (.p (.mov (.c (.bool false))))]
def v34_3 : List VI := [.op (some 4) none (.p (.mov (.c (.int .i64 0))))]
def v34_4 : List VI := [.op (some 18) none (.p (.mov (.t 4))), .op (some 19) none (.p (.bin .shl (.c (.int .i64 1)) (.t 18))), .op (some 20) none (.p (.mov (.t 0))), .op (some 21) none (.p (.bin .lss (.t 19) (.t 20)))]
def v34_5 : List VI := [.op (some 22) none (.p (.mov (.t 4))), .op (some 23) none (.p (.bin .add (.t 22) (.c (.int .i64 1)))), .op (some 4) none (.p (.mov (.t 23)))]
def v34_6 : VC := .reg v34_5
def v34_7 : VC := .seq (.seq (.reg v34_4) (.cond (.t 21) .skip (.exit 0))) (.block 1 v34_6)
def v34_8 : VC := .loop v34_7
def v34_9 : List VI := [.op (some 24) none (.p (.mov (.t 4))), .op (some 2) none (.p (.mov (.t 24))), .op (some 3) none (.p (.mov (.c (.bool true))))]
def v34 : VC := .seq (.reg v34_0) (.seq (.seq (.reg v34_1) (.cond (.t 17) (.seq (.reg v34_2) .ret) .skip)) (.seq (.reg v34_3) (.seq (.block 0 v34_8) (.seq (.reg v34_9) .ret))))
def rr34 : List RV := [.t 2, .t 3]
theorem code34 : (Tryd.f34.body).bind (cCode Tryd.prog) = some v34 := by kernel_rfl
theorem res34 : cRVs Tryd.prog (Tryd.f34.results.toList) = some rr34 := by kernel_rfl
theorem nt34 : Tryd.f34.ntmps = 25 := by kernel_rfl
theorem nm34 : (Tryd.f34.name == "runtime.NumGoroutine") = false := by kernel_rfl
def v35_0 : List VI := [.op (some 4) none (.box (.t 0)), .op (some 5) none (.box (.t 1)), .op (some 6) none (.box (.t 2)), .op (some 7) none (.box (.t 3)), .op (some 8) none (.new [.int .u64 (nl 0), .int .u64 (nl 0), .int .u64 (nl 0), .int .u64 (nl 0), .int .u64 (nl 0), .int .u64 (nl 0), .int .u64 (nl 0), .int .u64 (nl 0), .nils, .nils])]
def v35_1 : List VI := [.op (some 10) none (.ld true 4 (.t 7)), .call (some 11) none (.fn 18) [.t 10], .op (some 9) none (.new [.int .u64 (nl 0), .int .u64 (nl 0), .int .u64 (nl 0), .int .u64 (nl 0)]), .op none none (.st 4 (.t 9) (.t 11))]
def v35_2 : List DS := [.mk 0 true (.op (some 12) none (.ld true 4 (.t 5))) [] [], .mk 1 true (.op (some 13) none (.p (.mkI 34 (.t 12)))) [] [], .mk 2 true (.op (some 14) none (.ld true 4 (.t 7))) [] [], .mk 3 true (.op (some 15) none (.ld true 4 (.t 7))) [] [], .mk 7 true (.op (some 19) none (.p (.fda 0 (.t 4)))) [] [], .mk 8 true (.op (some 20) none (.ld true 4 (.t 19))) [] [], .mk 11 true (.op (some 23) none (.ld true 4 (.t 6))) [] [], .mk 12 true (.op (some 24) none (.p (.mkI 34 (.t 23)))) [] [], .mk 13 true (.op (some 25) none (.ld true 4 (.t 9))) [] [], .mk 14 true (.op (some 26) none (.ld true 4 (.t 9))) [] [], .mk 18 true (.op (some 30) none (.p (.fda 4 (.t 4)))) [] [], .mk 19 true (.op (some 31) none (.ld true 4 (.t 30))) [] [], .mk 20 true (.op (some 32) none (.ld true 4 (.t 9))) [] [], .mk 21 true (.op (some 33) none (.p (.fda 8 (.t 4)))) [] [], .mk 22 true (.op (some 34) none (.ld false 1 (.t 33))) [] [], .mk 23 true (.op (some 35) none (.ld true 4 (.t 7))) [] [], .mk 25 true (.op (some 37) none (.ld true 4 (.t 7))) [] [], .mk 26 true (.op (some 38) none (.p (.fda 9 (.t 4)))) [] [], .mk 27 true (.op (some 39) none (.ld false 1 (.t 38))) [] [], .mk 28 true (.op (some 40) none (.ld true 4 (.t 9))) [] [], .mk 4 false (.call (some 16) none (.fn 13) [.t 14, .t 15]) [5, 19, 6, 9, 9, 30, 9, 33, 7, 7, 38, 9] [], .mk 5 false (.call (some 17) none (.inv (.t 13) "Times") [.t 16]) [19, 6, 9, 9, 30, 9, 33, 7, 7, 38, 9] [], .mk 6 true (.op (some 18) none (.p (.mkI 34 (.t 17)))) [] [], .mk 9 false (.call (some 21) none (.inv (.t 18) "Add") [.t 20]) [6, 9, 9, 30, 9, 33, 7, 7, 38, 9] [], .mk 10 true (.op (some 22) none (.p (.mkI 34 (.t 21)))) [] [], .mk 15 false (.call (some 27) none (.fn 13) [.t 25, .t 26]) [6, 30, 9, 33, 7, 7, 38, 9] [], .mk 16 false (.call (some 28) none (.inv (.t 24) "Times") [.t 27]) [30, 9, 33, 7, 7, 38, 9] [], .mk 17 false (.call (some 29) none (.inv (.t 22) "Add") [.t 28]) [30, 9, 33, 7, 7, 38, 9] [], .mk 24 false (.call (some 36) none (.fn 44) [.t 32, .t 34, .t 35]) [30, 7, 38, 9] [], .mk 29 false (.call (some 41) none (.fn 44) [.t 37, .t 39, .t 40]) [30] [], .mk 30 true (.op (some 42) none (.p (.bld [.int .u64 (nl 0), .int .u64 (nl 0), .int .u64 (nl 0), .int .u64 (nl 0), .int .u64 (nl 0), .int .u64 (nl 0), .int .u64 (nl 0), .int .u64 (nl 0), .nils, .nils] [(0, 4, .t 29), (4, 4, .t 31), (8, 1, .t 36), (9, 1, .t 41)]))) [] [], .mk 31 false (.op none none (.st 10 (.t 8) (.t 42))) [] []]
def v35 : VC := .seq (.reg v35_0) (.seq (.reg v35_1) (.seq (.drw v35_2) .ret))
def rr35 : List RV := [.m 8 true 10]
theorem code35 : (Tryd.f35.body).bind (cCode Tryd.prog) = some v35 := by kernel_rfl
theorem res35 : cRVs Tryd.prog (Tryd.f35.results.toList) = some rr35 := by kernel_rfl
theorem nt35 : Tryd.f35.ntmps = 43 := by kernel_rfl
theorem nm35 : (Tryd.f35.name == "runtime.NumGoroutine") = false := by kernel_rfl
def v36_0 : List VI := [.op (some 6) none (.p (.mov (.t 2))), .op (some 7) none (.p (.eqn true 3 (.t 6) (.c .nili)))]
def v36_1 : List VI := [.op (some 13) none (.p (.mov (.t 4))), .op (some 14) none (.p (.un .not (.t 13)))]
def v36_2 : List VI := [.op none none (.st 1 (.t 0) (.c .nils)), .op none none (.st 1 (.t 1) (.c (.int .i64 61)))]
def v36 : VC := .seq .bad (.seq (.reg v36_0) (.cond (.t 7) (.seq (.seq .bad (.seq (.reg v36_1) (.cond (.t 14) .bad .skip))) (.reg v36_2)) .skip))
theorem code36 : (Tryd.f36.body).bind (cCode Tryd.prog) = some v36 := by kernel_rfl
theorem nm36 : (Tryd.f36.name == "runtime.NumGoroutine") = false := by kernel_rfl
def v37_0 : List VI := [.op (some 11) none (.p (.mov (.t 1))), .op (some 4) none (.p (.mov (.t 11)))]
def v37_1 : List VI := [.op (some 12) none (.p (.mov (.t 4))), .op (some 13) none (.p (.mov (.t 0))), .op (some 14) none (.p (.len false (.t 13))), .op (some 15) none (.p (.bin .lss (.t 12) (.t 14))), .op (some 16) none (.p (.mov (.t 15))), .op (some 17) (some (16, true)) (.p (.mov (.t 0))), .op (some 18) (some (16, true)) (.p (.mov (.t 4))), .op (some 19) (some (16, true)) (.p (.ixs 1 (.t 17) (.t 18))), .op (some 20) (some (16, true)) (.ld false 1 (.t 19)), .op (some 21) (some (16, true)) (.p (.mov (.t 1))), .op (some 22) (some (16, true)) (.p (.ixs 4 (.t 20) (.t 21))), .op (some 23) (some (16, true)) (.ld true 4 (.t 22)), .op (some 24) (some (16, true)) (.p (.mkI 32 (.t 23))), .call (some 25) (some (16, true)) (.inv (.t 24) "IsZero") [], .op (some 26) none (.p (.pick (.t 16) (.t 25) (.c (.bool false))))]
def v37_2 : List VI := [.op (some 27) none (.p (.mov (.t 4))), .op (some 28) none (.p (.bin .add (.t 27) (.c (.int .i64 1)))), .op (some 4) none (.p (.mov (.t 28)))]
def v37_3 : VC := .reg v37_2
def v37_4 : VC := .seq (.seq (.reg v37_1) (.cond (.t 26) .skip (.exit 0))) (.block 1 v37_3)
def v37_5 : VC := .loop v37_4
def v37_6 : List VI := [.op (some 29) none (.p (.mov (.t 4))), .op (some 30) none (.p (.mov (.t 0))), .op (some 31) none (.p (.len false (.t 30))), .op (some 32) none (.p (.eq false .i (.t 29) (.t 31)))]
def v37_7 : List DS := [.mk 0 true (.op (some 35) none (.p (.mov (.t 0)))) [] [], .mk 1 true (.op (some 36) none (.p (.mov (.t 1)))) [] [], .mk 2 true (.op (some 37) none (.p (.mov (.t 0)))) [] [], .mk 3 true (.op (some 38) none (.p (.mov (.t 4)))) [] [], .mk 4 true (.op (some 39) none (.p (.mov (.t 0)))) [] [], .mk 5 true (.op (some 40) none (.p (.mov (.t 4)))) [] [], .mk 6 true (.op (some 41) none (.p (.ixs 1 (.t 39) (.t 40)))) [] [], .mk 7 true (.op (some 42) none (.ld false 1 (.t 41))) [] [], .mk 8 true (.op (some 43) none (.p (.mov (.t 0)))) [] [], .mk 9 true (.op (some 44) none (.p (.mov (.t 1)))) [] [], .mk 10 true (.op (some 45) none (.p (.ixs 1 (.t 43) (.t 44)))) [] [], .mk 11 true (.op (some 46) none (.ld false 1 (.t 45))) [] [], .mk 12 true (.op (some 47) none (.p (.ixs 1 (.t 35) (.t 36)))) [] [], .mk 13 false (.op none none (.st 1 (.t 47) (.t 42))) [] [], .mk 14 true (.op (some 48) none (.p (.ixs 1 (.t 37) (.t 38)))) [] [], .mk 15 false (.op none none (.st 1 (.t 48) (.t 46))) [] []]
def v37_8 : List VI := [.op (some 49) none (.p (.mov (.t 0))), .op (some 50) none (.p (.mov (.t 1))), .op (some 51) none (.p (.ixs 1 (.t 49) (.t 50))), .op (some 52) none (.ld false 1 (.t 51)), .op (some 53) none (.p (.mov (.t 1))), .op (some 54) none (.p (.ixs 4 (.t 52) (.t 53))), .op (some 55) none (.ld true 4 (.t 54)), .op (some 56) none (.p (.mkI 32 (.t 55))), .call (some 57) none (.inv (.t 56) "Invert") [], .op (some 5) none (.new [.int .u64 (nl 0), .int .u64 (nl 0), .int .u64 (nl 0), .int .u64 (nl 0)]), .op none none (.st 4 (.t 5) (.t 57))]
def v37_9 : List VI := [.op (some 58) none (.p (.mov (.t 0))), .op (some 59) none (.p (.mov (.t 1))), .op (some 60) none (.p (.ixs 1 (.t 58) (.t 59))), .op (some 61) none (.ld false 1 (.t 60)), .op (some 62) none (.p (.len false (.t 61))), .op (some 63) none (.p (.mov (.c (.int .i64 0))))]
def v37_10 : List VI := [.op (some 64) none (.p (.bin .lss (.t 63) (.t 62)))]
def v37_11 : List VI := [.op (some 65) none (.p (.mov (.t 63))), .op (some 6) none (.p (.mov (.t 65)))]
def v37_12 : List DS := [.mk 0 true (.op (some 66) none (.p (.mov (.t 0)))) [] [], .mk 1 true (.op (some 67) none (.p (.mov (.t 1)))) [] [], .mk 2 true (.op (some 68) none (.p (.ixs 1 (.t 66) (.t 67)))) [] [], .mk 3 true (.op (some 69) none (.ld false 1 (.t 68))) [] [], .mk 4 true (.op (some 70) none (.p (.mov (.t 6)))) [] [], .mk 5 true (.op (some 71) none (.p (.mov (.t 0)))) [] [], .mk 6 true (.op (some 72) none (.p (.mov (.t 1)))) [] [], .mk 7 true (.op (some 73) none (.p (.ixs 1 (.t 71) (.t 72)))) [] [], .mk 8 true (.op (some 74) none (.ld false 1 (.t 73))) [] [], .mk 9 true (.op (some 75) none (.p (.mov (.t 6)))) [] [], .mk 10 true (.op (some 76) none (.p (.ixs 4 (.t 74) (.t 75)))) [] [], .mk 11 true (.op (some 77) none (.ld true 4 (.t 76))) [] [], .mk 12 true (.op (some 78) none (.p (.mkI 32 (.t 77)))) [] [], .mk 13 true (.op (some 79) none (.ld true 4 (.t 5))) [] [], .mk 14 false (.call (some 80) none (.inv (.t 78) "Mul") [.t 79]) [68] [], .mk 15 true (.op (some 81) none (.p (.ixs 4 (.t 69) (.t 70)))) [] [], .mk 16 false (.op none none (.st 4 (.t 81) (.t 80))) [] []]
def v37_13 : VC := .seq (.reg v37_11) (.drw v37_12)
def v37_14 : List VI := [.op (some 82) none (.p (.bin .add (.t 63) (.c (.int .i64 1)))), .op (some 63) none (.p (.mov (.t 82)))]
def v37_15 : VC := .seq (.reg v37_10) (.seq (.cond (.t 64) .skip (.exit 2)) (.seq (.block 3 v37_13) (.reg v37_14)))
def v37_16 : VC := .loop v37_15
def v37_17 : List VI := [.op (some 83) none (.p (.mov (.t 0))), .op (some 84) none (.p (.len false (.t 83))), .op (some 85) none (.p (.mov (.c (.int .i64 0))))]
def v37_18 : List VI := [.op (some 86) none (.p (.bin .lss (.t 85) (.t 84)))]
def v37_19 : List VI := [.op (some 87) none (.p (.mov (.t 85))), .op (some 88) none (.p (.ixs 1 (.t 83) (.t 85))), .op (some 89) none (.ld false 1 (.t 88)), .op (some 7) none (.p (.mov (.t 87))), .op (some 8) none (.p (.mov (.t 89)))]
def v37_20 : List VI := [.op (some 90) none (.p (.mov (.t 7))), .op (some 91) none (.p (.mov (.t 1))), .op (some 92) none (.p (.eq false .i (.t 90) (.t 91))), .op (some 93) none (.p (.mov (.t 92))), .op (some 94) (some (93, false)) (.p (.mov (.t 8))), .op (some 95) (some (93, false)) (.p (.mov (.t 1))), .op (some 96) (some (93, false)) (.p (.ixs 4 (.t 94) (.t 95))), .op (some 97) (some (93, false)) (.ld true 4 (.t 96)), .op (some 98) (some (93, false)) (.p (.mkI 32 (.t 97))), .call (some 99) (some (93, false)) (.inv (.t 98) "IsZero") [], .op (some 100) none (.p (.pick (.t 93) (.c (.bool true)) (.t 99)))]
def v37_21 : List VI := [.op (some 101) none (.p (.mov (.t 8))), .op (some 102) none (.p (.mov (.t 1))), .op (some 103) none (.p (.ixs 4 (.t 101) (.t 102))), .op (some 104) none (.ld true 4 (.t 103)), .op (some 9) none (.new [.int .u64 (nl 0), .int .u64 (nl 0), .int .u64 (nl 0), .int .u64 (nl 0)]), .op none none (.st 4 (.t 9) (.t 104))]
def v37_22 : List VI := [.op (some 105) none (.p (.mov (.t 8))), .op (some 106) none (.p (.len false (.t 105))), .op (some 107) none (.p (.mov (.c (.int .i64 0))))]
def v37_23 : List VI := [.op (some 108) none (.p (.bin .lss (.t 107) (.t 106)))]
def v37_24 : List VI := [.op (some 109) none (.p (.mov (.t 107))), .op (some 10) none (.p (.mov (.t 109)))]
def v37_25 : List DS := [.mk 0 true (.op (some 110) none (.p (.mov (.t 8)))) [] [], .mk 1 true (.op (some 111) none (.p (.mov (.t 10)))) [] [], .mk 2 true (.op (some 112) none (.p (.mov (.t 8)))) [] [], .mk 3 true (.op (some 113) none (.p (.mov (.t 10)))) [] [], .mk 4 true (.op (some 114) none (.p (.ixs 4 (.t 112) (.t 113)))) [] [], .mk 5 true (.op (some 115) none (.ld true 4 (.t 114))) [] [], .mk 6 true (.op (some 116) none (.p (.mkI 32 (.t 115)))) [] [], .mk 7 true (.op (some 117) none (.ld true 4 (.t 9))) [] [], .mk 8 true (.op (some 118) none (.p (.mkI 32 (.t 117)))) [] [], .mk 9 true (.op (some 119) none (.p (.mov (.t 0)))) [] [], .mk 10 true (.op (some 120) none (.p (.mov (.t 1)))) [] [], .mk 11 true (.op (some 121) none (.p (.ixs 1 (.t 119) (.t 120)))) [] [], .mk 12 true (.op (some 122) none (.ld false 1 (.t 121))) [] [], .mk 13 true (.op (some 123) none (.p (.mov (.t 10)))) [] [], .mk 14 true (.op (some 124) none (.p (.ixs 4 (.t 122) (.t 123)))) [] [], .mk 15 true (.op (some 125) none (.ld true 4 (.t 124))) [] [], .mk 16 false (.call (some 126) none (.inv (.t 118) "Mul") [.t 125]) [114] [], .mk 17 false (.call (some 127) none (.inv (.t 116) "Sub") [.t 126]) [] [], .mk 18 true (.op (some 128) none (.p (.ixs 4 (.t 110) (.t 111)))) [] [], .mk 19 false (.op none none (.st 4 (.t 128) (.t 127))) [] []]
def v37_26 : VC := .seq (.reg v37_24) (.drw v37_25)
def v37_27 : List VI := [.op (some 129) none (.p (.bin .add (.t 107) (.c (.int .i64 1)))), .op (some 107) none (.p (.mov (.t 129)))]
def v37_28 : VC := .seq (.reg v37_23) (.seq (.cond (.t 108) .skip (.exit 6)) (.seq (.block 7 v37_26) (.reg v37_27)))
def v37_29 : VC := .loop v37_28
def v37_30 : VC := .seq (.reg v37_19) (.seq (.seq (.reg v37_20) (.cond (.t 100) (.exit 5) .skip)) (.seq (.reg v37_21) (.seq (.reg v37_22) (.block 6 v37_29))))
def v37_31 : List VI := [.op (some 130) none (.p (.bin .add (.t 85) (.c (.int .i64 1)))), .op (some 85) none (.p (.mov (.t 130)))]
def v37_32 : VC := .seq (.reg v37_18) (.seq (.cond (.t 86) .skip (.exit 4)) (.seq (.block 5 v37_30) (.reg v37_31)))
def v37_33 : VC := .loop v37_32
def v37 : VC := .seq (.reg v37_0) (.seq (.block 0 v37_5) (.seq (.seq (.reg v37_6) (.cond (.t 32) .bad .skip)) (.seq (.drw v37_7) (.seq (.reg v37_8) (.seq (.seq (.reg v37_9) (.block 2 v37_16)) (.seq (.reg v37_17) (.block 4 v37_33)))))))
def rr37 : List RV := []
theorem code37 : (Tryd.f37.body).bind (cCode Tryd.prog) = some v37 := by kernel_rfl
theorem res37 : cRVs Tryd.prog (Tryd.f37.results.toList) = some rr37 := by kernel_rfl
theorem nt37 : Tryd.f37.ntmps = 131 := by kernel_rfl
theorem nm37 : (Tryd.f37.name == "runtime.NumGoroutine") = false := by kernel_rfl
def v38_0 : List VI := [.op (some 2) none (.new [.int .u64 (nl 0), .int .u64 (nl 0), .int .u64 (nl 0), .int .u64 (nl 0)])]
def v38_1 : List VI := [.op (some 3) none (.new [.int .u64 (nl 0), .int .u64 (nl 0), .int .u64 (nl 0), .int .u64 (nl 0)])]
def v38_2 : List VI := [.op (some 6) none (.p (.mov (.t 0))), .op (some 7) none (.p (.len false (.t 6))), .op (some 8) none (.p (.mov (.c (.int .i64 0))))]
def v38_3 : List VI := [.op (some 9) none (.p (.bin .lss (.t 8) (.t 7)))]
def v38_4 : List VI := [.op (some 10) none (.p (.ixs 8 (.t 6) (.t 8))), .op (some 11) none (.ld true 8 (.t 10)), .op (some 5) none (.new [.int .u64 (nl 0), .int .u64 (nl 0), .int .u64 (nl 0), .int .u64 (nl 0), .int .u64 (nl 0), .int .u64 (nl 0), .int .u64 (nl 0), .int .u64 (nl 0)]), .op none none (.st 8 (.t 5) (.t 11))]
def v38_5 : List DS := [.mk 0 true (.op (some 12) none (.ld true 4 (.t 3))) [] [], .mk 1 true (.op (some 13) none (.p (.mkI 34 (.t 12)))) [] [], .mk 2 true (.op (some 14) none (.p (.fda 4 (.t 5)))) [] [], .mk 3 true (.op (some 15) none (.ld true 4 (.t 14))) [] [], .mk 4 true (.op (some 16) none (.p (.mkI 34 (.t 15)))) [] [], .mk 5 true (.op (some 17) none (.p (.fda 0 (.t 5)))) [] [], .mk 6 true (.op (some 18) none (.ld true 4 (.t 17))) [] [], .mk 7 false (.call (some 19) none (.inv (.t 16) "Times") [.t 18]) [3] [], .mk 8 false (.call (some 20) none (.inv (.t 13) "Add") [.t 19]) [] [], .mk 9 false (.op none none (.st 4 (.t 3) (.t 20))) [] []]
def v38_6 : VC := .seq (.reg v38_4) (.drw v38_5)
def v38_7 : List VI := [.op (some 21) none (.p (.bin .add (.t 8) (.c (.int .i64 1)))), .op (some 8) none (.p (.mov (.t 21)))]
def v38_8 : VC := .seq (.reg v38_3) (.seq (.cond (.t 9) .skip (.exit 0)) (.seq (.block 1 v38_6) (.reg v38_7)))
def v38_9 : VC := .loop v38_8
def v38_10 : List VI := [.op (some 22) none (.ld true 4 (.t 3)), .op none none (.st 4 (.t 2) (.t 22))]
def v38 : VC := .seq (.reg v38_0) (.seq (.reg v38_1) (.seq (.seq (.reg v38_2) (.block 0 v38_9)) (.seq (.reg v38_10) .ret)))
def rr38 : List RV := [.m 2 true 4]
theorem code38 : (Tryd.f38.body).bind (cCode Tryd.prog) = some v38 := by kernel_rfl
theorem res38 : cRVs Tryd.prog (Tryd.f38.results.toList) = some rr38 := by kernel_rfl
theorem nt38 : Tryd.f38.ntmps = 23 := by kernel_rfl
theorem nm38 : (Tryd.f38.name == "runtime.NumGoroutine") = false := by kernel_rfl
def v40_0 : List VI := [.op (some 8) none (.p (.mov (.c (.int .u64 (nl 0))))), .op (some 9) none (.p (.mov (.c (.int .u64 (nl 0)))))]
def v40_1 : List VI := [.op (some 14) none (.p (.mov (.t 0))), .op (some 15) none (.p (.mov (.t 1))), .call (some 16) none (.fn 42) [.t 14, .t 15], .op (some 13) none (.p (.mov (.t 16))), .op (some 17) none (.p (.ext (.t 13) 0)), .op (some 18) none (.p (.ext (.t 13) 1)), .op (some 10) none (.p (.mov (.t 17))), .op (some 11) none (.p (.mov (.t 18)))]
def v40_2 : List VI := [.op (some 20) none (.p (.mov (.t 11))), .op (some 21) none (.p (.mov (.t 2))), .call (some 22) none (.fn 41) [.t 20, .t 21, .c (.int .u64 (nl 0))], .op (some 19) none (.p (.mov (.t 22))), .op (some 23) none (.p (.ext (.t 19) 0)), .op (some 24) none (.p (.ext (.t 19) 1)), .op (some 11) none (.p (.mov (.t 23))), .op (some 12) none (.p (.mov (.t 24)))]
def v40_3 : List VI := [.op (some 25) none (.p (.mov (.t 10))), .op (some 26) none (.p (.mov (.t 12))), .op (some 27) none (.p (.bin .add (.t 25) (.t 26))), .op (some 10) none (.p (.mov (.t 27)))]
def v40_4 : List VI := [.op (some 29) none (.p (.mov (.t 11))), .op (some 30) none (.p (.mov (.t 3))), .call (some 31) none (.fn 41) [.t 29, .t 30, .c (.int .u64 (nl 0))], .op (some 28) none (.p (.mov (.t 31))), .op (some 32) none (.p (.ext (.t 28) 0)), .op (some 33) none (.p (.ext (.t 28) 1)), .op (some 11) none (.p (.mov (.t 32))), .op (some 12) none (.p (.mov (.t 33)))]
def v40_5 : List VI := [.op (some 34) none (.p (.mov (.t 11))), .op (some 35) none (.p (.mov (.t 10))), .op (some 36) none (.p (.mov (.t 12))), .op (some 37) none (.p (.bin .add (.t 35) (.t 36))), .op (some 8) none (.p (.mov (.t 34))), .op (some 9) none (.p (.mov (.t 37)))]
def v40 : VC := .seq (.reg v40_0) (.seq (.reg v40_1) (.seq (.reg v40_2) (.seq (.reg v40_3) (.seq (.reg v40_4) (.seq (.reg v40_5) .ret)))))
def rr40 : List RV := [.t 8, .t 9]
theorem code40 : (Tryd.f40.body).bind (cCode Tryd.prog) = some v40 := by kernel_rfl
theorem res40 : cRVs Tryd.prog (Tryd.f40.results.toList) = some rr40 := by kernel_rfl
theorem nt40 : Tryd.f40.ntmps = 38 := by kernel_rfl
theorem nm40 : (Tryd.f40.name == "runtime.NumGoroutine") = false := by kernel_rfl
def v42_0 : List VI := [.op (some 4) none (.p (.mov (.c (.int .u64 (nl 0))))), .op (some 5) none (.p (.mov (.c (.int .u64 (nl 0)))))]
def v42_1 : List VI := [.op (some 14) none (.p (.mov (.t 0))), .op (some 15) none (.p (.bin .and (.t 14) (.c (.int .u64 (nl 4294967295))))), .op (some 6) none (.p (.mov (.t 15)))]
def v42_2 : List VI := [.op (some 16) none (.p (.mov (.t 0))), .op (some 17) none (.p (.bin .shr (.t 16) (.c (.int .u64 (nl 32))))), .op (some 7) none (.p (.mov (.t 17)))]
def v42_3 : List VI := [.op (some 18) none (.p (.mov (.t 1))), .op (some 19) none (.p (.bin .and (.t 18) (.c (.int .u64 (nl 4294967295))))), .op (some 8) none (.p (.mov (.t 19)))]
def v42_4 : List VI := [.op (some 20) none (.p (.mov (.t 1))), .op (some 21) none (.p (.bin .shr (.t 20) (.c (.int .u64 (nl 32))))), .op (some 9) none (.p (.mov (.t 21)))]
def v42_5 : List VI := [.op (some 22) none (.p (.mov (.t 6))), .op (some 23) none (.p (.mov (.t 8))), .op (some 24) none (.p (.bin .mul (.t 22) (.t 23))), .op (some 10) none (.p (.mov (.t 24)))]
def v42_6 : List VI := [.op (some 25) none (.p (.mov (.t 7))), .op (some 26) none (.p (.mov (.t 8))), .op (some 27) none (.p (.bin .mul (.t 25) (.t 26))), .op (some 28) none (.p (.mov (.t 10))), .op (some 29) none (.p (.bin .shr (.t 28) (.c (.int .u64 (nl 32))))), .op (some 30) none (.p (.bin .add (.t 27) (.t 29))), .op (some 11) none (.p (.mov (.t 30)))]
def v42_7 : List VI := [.op (some 31) none (.p (.mov (.t 11))), .op (some 32) none (.p (.bin .and (.t 31) (.c (.int .u64 (nl 4294967295))))), .op (some 12) none (.p (.mov (.t 32)))]
def v42_8 : List VI := [.op (some 33) none (.p (.mov (.t 11))), .op (some 34) none (.p (.bin .shr (.t 33) (.c (.int .u64 (nl 32))))), .op (some 13) none (.p (.mov (.t 34)))]
def v42_9 : List VI := [.op (some 35) none (.p (.mov (.t 12))), .op (some 36) none (.p (.mov (.t 6))), .op (some 37) none (.p (.mov (.t 9))), .op (some 38) none (.p (.bin .mul (.t 36) (.t 37))), .op (some 39) none (.p (.bin .add (.t 35) (.t 38))), .op (some 12) none (.p (.mov (.t 39)))]
def v42_10 : List VI := [.op (some 40) none (.p (.mov (.t 7))), .op (some 41) none (.p (.mov (.t 9))), .op (some 42) none (.p (.bin .mul (.t 40) (.t 41))), .op (some 43) none (.p (.mov (.t 13))), .op (some 44) none (.p (.bin .add (.t 42) (.t 43))), .op (some 45) none (.p (.mov (.t 12))), .op (some 46) none (.p (.bin .shr (.t 45) (.c (.int .u64 (nl 32))))), .op (some 47) none (.p (.bin .add (.t 44) (.t 46))), .op (some 4) none (.p (.mov (.t 47)))]
def v42_11 : List VI := [.op (some 48) none (.p (.mov (.t 0))), .op (some 49) none (.p (.mov (.t 1))), .op (some 50) none (.p (.bin .mul (.t 48) (.t 49))), .op (some 5) none (.p (.mov (.t 50)))]
def v42 : VC := .seq (.reg v42_0) (.seq (.reg v42_1) (.seq (.reg v42_2) (.seq (.reg v42_3) (.seq (.reg v42_4) (.seq (.reg v42_5) (.seq (.reg v42_6) (.seq (.reg v42_7) (.seq (.reg v42_8) (.seq (.reg v42_9) (.seq (.reg v42_10) (.seq (.reg v42_11) .ret)))))))))))
def rr42 : List RV := [.t 4, .t 5]
theorem code42 : (Tryd.f42.body).bind (cCode Tryd.prog) = some v42 := by kernel_rfl
theorem res42 : cRVs Tryd.prog (Tryd.f42.results.toList) = some rr42 := by kernel_rfl
theorem nt42 : Tryd.f42.ntmps = 51 := by kernel_rfl
theorem nm42 : (Tryd.f42.name == "runtime.NumGoroutine") = false := by kernel_rfl
def v44_0 : List VI := [.op (some 3) none (.box (.t 0)), .op (some 5) none (.box (.t 2)), .op (some 6) none (.p (.mov (.c .nils)))]
def v44_1 : List VI := [.op (some 13) none (.p (.mov (.t 1))), .call (some 14) none (.fn 50) [.t 13], .op (some 12) none (.p (.mov (.t 14))), .op (some 15) none (.p (.ext (.t 12) 0)), .op (some 16) none (.p (.ext (.t 12) 1)), .op (some 7) none (.p (.mov (.t 15))), .op (some 8) none (.p (.mov (.t 16)))]
def v44_2 : List VI := [.op (some 17) none (.p (.mov (.t 7))), .op (some 18) none (.p (.len false (.t 17))), .op (some 19) none (.mks 4 32 [.int .u64 (nl 0), .int .u64 (nl 0), .int .u64 (nl 0), .int .u64 (nl 0)] (.t 18) (.t 18)), .op (some 9) none (.p (.mov (.t 19)))]
def v44_3 : List VI := [.op (some 20) none (.p (.mov (.t 7))), .op (some 21) none (.p (.len false (.t 20))), .op (some 22) none (.p (.mov (.c (.int .i64 0))))]
def v44_4 : List VI := [.op (some 23) none (.p (.bin .lss (.t 22) (.t 21)))]
def v44_5 : List VI := [.op (some 24) none (.p (.mov (.t 22))), .op (some 25) none (.p (.ixs 4 (.t 20) (.t 22))), .op (some 26) none (.ld true 4 (.t 25)), .op (some 11) none (.new [.int .u64 (nl 0), .int .u64 (nl 0), .int .u64 (nl 0), .int .u64 (nl 0)]), .op (some 10) none (.p (.mov (.t 24))), .op none none (.st 4 (.t 11) (.t 26))]
def v44_6 : List DS := [.mk 0 true (.op (some 27) none (.p (.mov (.t 9)))) [] [], .mk 1 true (.op (some 28) none (.p (.mov (.t 10)))) [] [], .mk 2 true (.op (some 29) none (.ld true 4 (.t 11))) [] [], .mk 3 true (.op (some 30) none (.p (.mkI 34 (.t 29)))) [] [], .mk 4 true (.op (some 31) none (.ld true 4 (.t 3))) [] [], .mk 7 true (.op (some 34) none (.p (.mov (.t 8)))) [] [], .mk 8 true (.op (some 35) none (.p (.mov (.t 10)))) [] [], .mk 9 true (.op (some 36) none (.p (.ixs 4 (.t 34) (.t 35)))) [] [], .mk 10 true (.op (some 37) none (.ld true 4 (.t 36))) [] [], .mk 11 true (.op (some 38) none (.p (.mkI 34 (.t 37)))) [] [], .mk 12 true (.op (some 39) none (.ld true 4 (.t 5))) [] [], .mk 5 false (.call (some 32) none (.inv (.t 30) "Times") [.t 31]) [36, 5] [], .mk 6 true (.op (some 33) none (.p (.mkI 34 (.t 32)))) [] [], .mk 13 false (.call (some 40) none (.inv (.t 38) "Times") [.t 39]) [] [], .mk 14 false (.call (some 41) none (.inv (.t 33) "Add") [.t 40]) [] [], .mk 15 true (.op (some 42) none (.p (.ixs 4 (.t 27) (.t 28)))) [] [], .mk 16 false (.op none none (.st 4 (.t 42) (.t 41))) [] []]
def v44_7 : VC := .seq (.reg v44_5) (.drw v44_6)
def v44_8 : List VI := [.op (some 43) none (.p (.bin .add (.t 22) (.c (.int .i64 1)))), .op (some 22) none (.p (.mov (.t 43)))]
def v44_9 : VC := .seq (.reg v44_4) (.seq (.cond (.t 23) .skip (.exit 0)) (.seq (.block 1 v44_7) (.reg v44_8)))
def v44_10 : VC := .loop v44_9
def v44_11 : List VI := [.op (some 44) none (.p (.mov (.t 9))), .op (some 6) none (.p (.mov (.t 44)))]
def v44 : VC := .seq (.reg v44_0) (.seq (.reg v44_1) (.seq (.reg v44_2) (.seq (.seq (.reg v44_3) (.block 0 v44_10)) (.seq (.reg v44_11) .ret))))
def rr44 : List RV := [.t 6]
theorem code44 : (Tryd.f44.body).bind (cCode Tryd.prog) = some v44 := by kernel_rfl
theorem res44 : cRVs Tryd.prog (Tryd.f44.results.toList) = some rr44 := by kernel_rfl
theorem nt44 : Tryd.f44.ntmps = 45 := by kernel_rfl
theorem nm44 : (Tryd.f44.name == "runtime.NumGoroutine") = false := by kernel_rfl
def v50_0 : List VI := [.op (some 2) none (.p (.mov (.c .nils))), .op (some 3) none (.p (.mov (.c .nils)))]
def v50_1 : List VI := [.op (some 5) none (.p (.mov (.t 0))), .op (some 6) none (.p (.len false (.t 5))), .op (some 7) none (.p (.bin .quo (.t 6) (.c (.int .i64 2)))), .op (some 4) none (.p (.mov (.t 7)))]
def v50_2 : List DS := [.mk 0 true (.op (some 8) none (.p (.mov (.t 0)))) [] [], .mk 1 true (.op (some 9) none (.p (.mov (.t 4)))) [] [], .mk 2 true (.op (some 10) none (.p (.mov (.t 4)))) [] [], .mk 3 true (.op (some 11) none (.slx 4 (.t 8) none (some (.t 9)) (some (.t 10)))) [] [], .mk 4 true (.op (some 12) none (.p (.mov (.t 0)))) [] [], .mk 5 true (.op (some 13) none (.p (.mov (.t 4)))) [] [], .mk 6 true (.op (some 14) none (.p (.mov (.t 0)))) [] [], .mk 7 true (.op (some 15) none (.p (.len false (.t 14)))) [] [], .mk 8 true (.op (some 16) none (.p (.mov (.t 0)))) [] [], .mk 9 true (.op (some 17) none (.p (.len false (.t 16)))) [] [], .mk 10 true (.op (some 18) none (.slx 4 (.t 12) (some (.t 13)) (some (.t 15)) (some (.t 17)))) [] [], .mk 11 false (.op (some 2) none (.p (.mov (.t 11)))) [12] [], .mk 12 false (.op (some 3) none (.p (.mov (.t 18)))) [] []]
def v50 : VC := .seq (.reg v50_0) (.seq (.reg v50_1) (.seq (.drw v50_2) .ret))
def rr50 : List RV := [.t 2, .t 3]
theorem code50 : (Tryd.f50.body).bind (cCode Tryd.prog) = some v50 := by kernel_rfl
theorem res50 : cRVs Tryd.prog (Tryd.f50.results.toList) = some rr50 := by kernel_rfl
theorem nt50 : Tryd.f50.ntmps = 19 := by kernel_rfl
theorem nm50 : (Tryd.f50.name == "runtime.NumGoroutine") = false := by kernel_rfl
def v105_0 : List VI := [.op (some 2) none (.box (.t 0)), .op (some 3) none (.box (.t 1)), .op (some 4) none (.new [.int .u64 (nl 0), .int .u64 (nl 0), .int .u64 (nl 0), .int .u64 (nl 0)])]
def v105_1 : List VI := [.op (some 5) none (.p (.fda 0 (.t 2))), .op (some 6) none (.ld true 4 (.t 5)), .op (some 7) none (.p (.fda 0 (.t 3))), .op (some 8) none (.ld true 4 (.t 7)), .call (some 9) none (.fn 15) [.t 6, .t 8], .op (some 10) none (.p (.bld [.int .u64 (nl 0), .int .u64 (nl 0), .int .u64 (nl 0), .int .u64 (nl 0)] [(0, 4, .t 9)])), .op none none (.st 4 (.t 4) (.t 10))]
def v105 : VC := .seq (.reg v105_0) (.seq (.reg v105_1) .ret)
def rr105 : List RV := [.m 4 true 4]
theorem code105 : (Tryd.f105.body).bind (cCode Tryd.prog) = some v105 := by kernel_rfl
theorem res105 : cRVs Tryd.prog (Tryd.f105.results.toList) = some rr105 := by kernel_rfl
theorem nt105 : Tryd.f105.ntmps = 11 := by kernel_rfl
theorem nm105 : (Tryd.f105.name == "runtime.NumGoroutine") = false := by kernel_rfl
def v107_0 : List VI := [.op (some 2) none (.box (.t 0)), .op (some 3) none (.box (.t 1)), .op (some 4) none (.new [.int .u64 (nl 0), .int .u64 (nl 0), .int .u64 (nl 0), .int .u64 (nl 0)])]
def v107_1 : List VI := [.op (some 5) none (.p (.fda 0 (.t 2))), .op (some 6) none (.ld true 4 (.t 5)), .op (some 7) none (.ld true 4 (.t 3)), .call (some 8) none (.fn 13) [.t 6, .t 7], .op (some 9) none (.p (.bld [.int .u64 (nl 0), .int .u64 (nl 0), .int .u64 (nl 0), .int .u64 (nl 0)] [(0, 4, .t 8)])), .op none none (.st 4 (.t 4) (.t 9))]
def v107 : VC := .seq (.reg v107_0) (.seq (.reg v107_1) .ret)
def rr107 : List RV := [.m 4 true 4]
theorem code107 : (Tryd.f107.body).bind (cCode Tryd.prog) = some v107 := by kernel_rfl
theorem res107 : cRVs Tryd.prog (Tryd.f107.results.toList) = some rr107 := by kernel_rfl
theorem nt107 : Tryd.f107.ntmps = 10 := by kernel_rfl
theorem nm107 : (Tryd.f107.name == "runtime.NumGoroutine") = false := by kernel_rfl
end Go.Vs.Tryd

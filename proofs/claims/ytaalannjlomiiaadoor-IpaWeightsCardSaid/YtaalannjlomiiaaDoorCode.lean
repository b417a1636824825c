/- Code: what the functions of the program answer, over the machine of plain values. -/
import Derived.Test.YtaalannjlomiiaaDoorM3
import Derived.Test.YtaalannjlomiiaaDoorProg
import Derived.KernelRfl
set_option linter.unusedVariables false
set_option linter.unusedSimpArgs false
/- The functions' code, as this machine has it (printed by gen.py). -/
set_option maxRecDepth 1000000
namespace Go.Vs.Tryd
open Go.Proofs

/-! "gosem.cut.init" -/
def v2_0 : List VI := [VI.call (some 0) none (Cal.fn 1) []]
def v2 : VC := VC.reg v2_0
def r2 : List RV := []
theorem code2 : (Tryd.f2.body).bind (cCode Tryd.prog) = some v2 := by kernel_rfl
theorem res2 : cRVs Tryd.prog (Tryd.f2.results.toList) = some r2 := by kernel_rfl
theorem nt2 : Tryd.f2.ntmps = 1 := by kernel_rfl
theorem nm2 : (Tryd.f2.name == "runtime.NumGoroutine") = false := by kernel_rfl

/-! "veil/veillaw12.IpaWeights" -/
def v3_0 : List VI := [VI.op (some 2) none (VOp.p (POp.mov (A.c (V.bool false))))]
def v3_1 : List VI := [VI.op (some 8) none (VOp.p (POp.mov (A.t 0))), VI.call (some 9) none (Cal.fn 4) [A.t 8], VI.op (some 3) none (VOp.p (POp.mov (A.t 9)))]
def v3_2 : List VI := [VI.op (some 11) none (VOp.p (POp.mov (A.t 3))), VI.call (some 12) none (Cal.fn 5) [A.t 11], VI.op (some 10) none (VOp.p (POp.mov (A.t 12))), VI.op (some 13) none (VOp.p (POp.ext (A.t 10) 0)), VI.op (some 14) none (VOp.p (POp.ext (A.t 10) 1)), VI.op (some 4) none (VOp.p (POp.mov (A.t 13))), VI.op (some 5) none (VOp.p (POp.mov (A.t 14)))]
def v3_3 : List VI := [VI.op (some 16) none (VOp.p (POp.mov (A.t 0))), VI.call (some 17) none (Cal.fn 7) [A.t 16], VI.call (some 18) none (Cal.fn 6) [A.t 17], VI.op (some 15) none (VOp.p (POp.mov (A.t 18))), VI.op (some 19) none (VOp.p (POp.ext (A.t 15) 0)), VI.op (some 20) none (VOp.p (POp.ext (A.t 15) 1)), VI.op (some 6) none (VOp.p (POp.mov (A.t 19))), VI.op (some 7) none (VOp.p (POp.mov (A.t 20)))]
def v3_4 : List VI := [VI.op (some 21) none (VOp.p (POp.mov (A.t 5))), VI.op (some 22) none (VOp.p (POp.mov (A.t 7))), VI.op (some 23) none (VOp.p (POp.eq false EqK.i (A.t 21) (A.t 22))), VI.op (some 24) none (VOp.p (POp.mov (A.t 23))), VI.op (some 25) (some (24, true)) (VOp.p (POp.mov (A.t 4))), VI.op (some 26) (some (24, true)) (VOp.p (POp.mov (A.t 6))), VI.call (some 27) (some (24, true)) (Cal.fn 8) [A.t 25, A.t 26], VI.op (some 28) none (VOp.p (POp.pick (A.t 24) (A.t 27) (A.c (V.bool false)))), VI.op (some 29) none (VOp.p (POp.mov (A.t 28))), VI.op (some 30) (some (29, true)) (VOp.p (POp.mov (A.t 3))), VI.op (some 31) (some (29, true)) (VOp.p (POp.mov (A.t 0))), VI.call (some 32) (some (29, true)) (Cal.fn 9) [A.t 30, A.t 31], VI.op (some 33) none (VOp.p (POp.pick (A.t 29) (A.t 32) (A.c (V.bool false)))), VI.op (some 2) none (VOp.p (POp.mov (A.t 33)))]
def v3 : VC := VC.seq (VC.reg v3_0) (VC.seq (VC.reg v3_1) (VC.seq (VC.reg v3_2) (VC.seq (VC.reg v3_3) (VC.seq (VC.reg v3_4) VC.ret))))
def r3 : List RV := [RV.t 2]
theorem code3 : (Tryd.f3.body).bind (cCode Tryd.prog) = some v3 := by kernel_rfl
theorem res3 : cRVs Tryd.prog (Tryd.f3.results.toList) = some r3 := by kernel_rfl
theorem nt3 : Tryd.f3.ntmps = 34 := by kernel_rfl
theorem nm3 : (Tryd.f3.name == "runtime.NumGoroutine") = false := by kernel_rfl

/-! "veil/veillaw12.scalars" -/
def v4_0 : List VI := [VI.op (some 2) none (VOp.p (POp.mov (A.c V.nils)))]
def v4_1 : List VI := [VI.op (some 5) none (VOp.p (POp.mov (A.t 0))), VI.call (some 6) none (Cal.fn 10) [A.t 5], VI.op (some 0) none (VOp.p (POp.mov (A.t 6)))]
def v4_2 : List VI := [VI.op (some 7) none (VOp.p (POp.mov (A.t 0))), VI.op (some 8) none (VOp.p (POp.len false (A.t 7))), VI.op (some 9) none (VOp.p (POp.bin BinOp.add (A.t 8) (A.c (V.int IntKind.i64 1)))), VI.op (some 10) none (VOp.mks 4 32 [V.int IntKind.u64 (nl 0), V.int IntKind.u64 (nl 0), V.int IntKind.u64 (nl 0), V.int IntKind.u64 (nl 0)] (A.t 9) (A.t 9)), VI.op (some 3) none (VOp.p (POp.mov (A.t 10)))]
def v4_3 : List VI := [VI.op (some 4) none (VOp.p (POp.mov (A.c (V.int IntKind.i64 0))))]
def v4_4 : List VI := [VI.op (some 11) none (VOp.p (POp.mov (A.t 4))), VI.op (some 12) none (VOp.p (POp.mov (A.t 0))), VI.op (some 13) none (VOp.p (POp.len false (A.t 12))), VI.op (some 14) none (VOp.p (POp.bin BinOp.lss (A.t 11) (A.t 13)))]
def v4_5 : List VI := [VI.op (some 17) none (VOp.p (POp.mov (A.t 3))), VI.op (some 18) none (VOp.p (POp.mov (A.t 4))), VI.op (some 19) none (VOp.p (POp.mov (A.t 0))), VI.op (some 20) none (VOp.p (POp.mov (A.t 4))), VI.op (some 21) none (VOp.p (POp.ixs 4 (A.t 19) (A.t 20))), VI.op (some 22) none (VOp.ld true 4 (A.t 21)), VI.op (some 23) none (VOp.p (POp.ixs 4 (A.t 17) (A.t 18))), VI.op none none (VOp.st 4 (A.t 23) (A.t 22))]
def v4_6 : VC := VC.reg v4_5
def v4_7 : List VI := [VI.op (some 15) none (VOp.p (POp.mov (A.t 4))), VI.op (some 16) none (VOp.p (POp.bin BinOp.add (A.t 15) (A.c (V.int IntKind.i64 1)))), VI.op (some 4) none (VOp.p (POp.mov (A.t 16)))]
def v4_8 : VC := VC.seq (VC.seq (VC.reg v4_4) (VC.cond (A.t 14) VC.skip (VC.exit 0))) (VC.seq (VC.block 1 v4_6) (VC.reg v4_7))
def v4_9 : VC := VC.loop v4_8
def v4_10 : List VI := [VI.op (some 24) none (VOp.p (POp.mov (A.t 3))), VI.op (some 25) none (VOp.p (POp.mov (A.t 0))), VI.op (some 26) none (VOp.p (POp.len false (A.t 25))), VI.op (some 27) none (VOp.p (POp.bld [V.int IntKind.u64 (nl 0), V.int IntKind.u64 (nl 0), V.int IntKind.u64 (nl 0), V.int IntKind.u64 (nl 0)] [(0, 1, A.c (V.int IntKind.u64 (nl 78)))])), VI.op (some 28) none (VOp.p (POp.ixs 4 (A.t 24) (A.t 26))), VI.op none none (VOp.st 4 (A.t 28) (A.t 27))]
def v4_11 : List VI := [VI.op (some 29) none (VOp.p (POp.mov (A.t 3))), VI.op (some 30) none (VOp.p (POp.mov (A.t 0))), VI.op (some 31) none (VOp.p (POp.len false (A.t 30))), VI.op (some 32) none (VOp.slx 4 (A.t 29) none (some (A.t 31)) none), VI.op (some 2) none (VOp.p (POp.mov (A.t 32)))]
def v4 : VC := VC.seq (VC.reg v4_0) (VC.seq (VC.reg v4_1) (VC.seq (VC.reg v4_2) (VC.seq (VC.seq (VC.reg v4_3) (VC.block 0 v4_9)) (VC.seq (VC.reg v4_10) (VC.seq (VC.reg v4_11) VC.ret)))))
def r4 : List RV := [RV.t 2]
theorem code4 : (Tryd.f4.body).bind (cCode Tryd.prog) = some v4 := by kernel_rfl
theorem res4 : cRVs Tryd.prog (Tryd.f4.results.toList) = some r4 := by kernel_rfl
theorem nt4 : Tryd.f4.ntmps = 33 := by kernel_rfl
theorem nm4 : (Tryd.f4.name == "runtime.NumGoroutine") = false := by kernel_rfl

/-! "veil/ipa.Weights" -/
def v5_0 : List VI := [VI.op (some 2) none (VOp.p (POp.mov (A.c V.nils))), VI.op (some 3) none (VOp.p (POp.mov (A.c (V.int IntKind.i64 0))))]
def v5_1 : List VI := [VI.op (some 13) none (VOp.p (POp.mov (A.t 0))), VI.op (some 14) none (VOp.p (POp.len false (A.t 13))), VI.op (some 15) none (VOp.p (POp.bin BinOp.gtr (A.t 14) (A.c (V.int IntKind.i64 10))))]
def v5_2 : List VI := [VI.op (some 2) none (VOp.p (POp.mov (A.c V.nils))), VI.op (some 3) none (VOp.p (POp.mov (A.c (V.int IntKind.i64 2))))]
def v5_3 : List VI := [VI.op (some 16) none (VOp.p (POp.mov (A.t 0))), VI.op (some 17) none (VOp.p (POp.len false (A.t 16))), VI.op (some 18) none (VOp.p (POp.mov (A.c (V.int IntKind.i64 0))))]
def v5_4 : List VI := [VI.op (some 19) none (VOp.p (POp.bin BinOp.lss (A.t 18) (A.t 17)))]
def v5_5 : List VI := [VI.op (some 20) none (VOp.p (POp.ixs 4 (A.t 16) (A.t 18))), VI.op (some 21) none (VOp.ld true 4 (A.t 20)), VI.op (some 5) none (VOp.new [V.int IntKind.u64 (nl 0), V.int IntKind.u64 (nl 0), V.int IntKind.u64 (nl 0), V.int IntKind.u64 (nl 0)]), VI.op none none (VOp.st 4 (A.t 5) (A.t 21))]
def v5_6 : List VI := [VI.op (some 22) none (VOp.ld true 4 (A.t 5)), VI.call (some 23) none (Cal.fn 11) [A.t 22]]
def v5_7 : List VI := [VI.op (some 2) none (VOp.p (POp.mov (A.c V.nils))), VI.op (some 3) none (VOp.p (POp.mov (A.c (V.int IntKind.i64 4))))]
def v5_8 : VC := VC.seq (VC.reg v5_5) (VC.seq (VC.reg v5_6) (VC.cond (A.t 23) (VC.seq (VC.reg v5_7) VC.ret) VC.skip))
def v5_9 : List VI := [VI.op (some 24) none (VOp.p (POp.bin BinOp.add (A.t 18) (A.c (V.int IntKind.i64 1)))), VI.op (some 18) none (VOp.p (POp.mov (A.t 24)))]
def v5_10 : VC := VC.seq (VC.reg v5_4) (VC.seq (VC.cond (A.t 19) VC.skip (VC.exit 0)) (VC.seq (VC.block 1 v5_8) (VC.reg v5_9)))
def v5_11 : VC := VC.loop v5_10
def v5_12 : List VI := [VI.op (some 25) none (VOp.p (POp.mov (A.t 0))), VI.call (some 26) none (Cal.fn 12) [A.t 25], VI.op (some 6) none (VOp.p (POp.mov (A.t 26)))]
def v5_13 : List VI := [VI.call (some 27) none (Cal.fn 13) [A.c (V.int IntKind.u64 (nl 1))], VI.op (some 28) none (VOp.bsl 1 [V.int IntKind.u64 (nl 0), V.int IntKind.u64 (nl 0), V.int IntKind.u64 (nl 0), V.int IntKind.u64 (nl 0)] [(0, 4, A.t 27)]), VI.op (some 7) none (VOp.p (POp.mov (A.t 28)))]
def v5_14 : List VI := [VI.op (some 29) none (VOp.p (POp.mov (A.t 0))), VI.op (some 30) none (VOp.p (POp.len false (A.t 29))), VI.op (some 31) none (VOp.p (POp.mov (A.c (V.int IntKind.i64 0))))]
def v5_15 : List VI := [VI.op (some 32) none (VOp.p (POp.bin BinOp.lss (A.t 31) (A.t 30)))]
def v5_16 : List VI := [VI.op (some 33) none (VOp.p (POp.mov (A.t 31))), VI.op (some 34) none (VOp.p (POp.ixs 4 (A.t 29) (A.t 31))), VI.op (some 35) none (VOp.ld true 4 (A.t 34)), VI.op (some 9) none (VOp.new [V.int IntKind.u64 (nl 0), V.int IntKind.u64 (nl 0), V.int IntKind.u64 (nl 0), V.int IntKind.u64 (nl 0)]), VI.op (some 8) none (VOp.p (POp.mov (A.t 33))), VI.op none none (VOp.st 4 (A.t 9) (A.t 35))]
def v5_17 : List VI := [VI.op (some 36) none (VOp.p (POp.mov (A.t 7))), VI.op (some 37) none (VOp.p (POp.len false (A.t 36))), VI.op (some 38) none (VOp.p (POp.bin BinOp.mul (A.c (V.int IntKind.i64 2)) (A.t 37))), VI.op (some 39) none (VOp.mks 4 32 [V.int IntKind.u64 (nl 0), V.int IntKind.u64 (nl 0), V.int IntKind.u64 (nl 0), V.int IntKind.u64 (nl 0)] (A.c (V.int IntKind.i64 0)) (A.t 38)), VI.op (some 10) none (VOp.p (POp.mov (A.t 39)))]
def v5_18 : List VI := [VI.op (some 40) none (VOp.p (POp.mov (A.t 7))), VI.op (some 41) none (VOp.p (POp.len false (A.t 40))), VI.op (some 42) none (VOp.p (POp.mov (A.c (V.int IntKind.i64 0))))]
def v5_19 : List VI := [VI.op (some 43) none (VOp.p (POp.bin BinOp.lss (A.t 42) (A.t 41)))]
def v5_20 : List VI := [VI.op (some 44) none (VOp.p (POp.ixs 4 (A.t 40) (A.t 42))), VI.op (some 45) none (VOp.ld true 4 (A.t 44)), VI.op (some 12) none (VOp.new [V.int IntKind.u64 (nl 0), V.int IntKind.u64 (nl 0), V.int IntKind.u64 (nl 0), V.int IntKind.u64 (nl 0)]), VI.op none none (VOp.st 4 (A.t 12) (A.t 45))]
def v5_21 : List DS := [DS.mk 0 true (VI.op (some 46) none (VOp.p (POp.mov (A.t 10)))) [] [], DS.mk 1 true (VI.op (some 47) none (VOp.ld true 4 (A.t 12))) [] [], DS.mk 2 true (VI.op (some 48) none (VOp.p (POp.mov (A.t 6)))) [] [], DS.mk 3 true (VI.op (some 49) none (VOp.p (POp.mov (A.t 8)))) [] [], DS.mk 4 true (VI.op (some 50) none (VOp.p (POp.ixs 4 (A.t 48) (A.t 49)))) [] [], DS.mk 5 true (VI.op (some 51) none (VOp.ld true 4 (A.t 50))) [] [], DS.mk 7 true (VI.op (some 53) none (VOp.ld true 4 (A.t 12))) [] [], DS.mk 8 true (VI.op (some 54) none (VOp.ld true 4 (A.t 9))) [] [], DS.mk 6 false (VI.call (some 52) none (Cal.fn 14) [A.t 47, A.t 51]) [12, 9] [], DS.mk 9 false (VI.call (some 55) none (Cal.fn 14) [A.t 53, A.t 54]) [] [], DS.mk 10 true (VI.op (some 56) none (VOp.bsl 2 [V.int IntKind.u64 (nl 0), V.int IntKind.u64 (nl 0), V.int IntKind.u64 (nl 0), V.int IntKind.u64 (nl 0), V.int IntKind.u64 (nl 0), V.int IntKind.u64 (nl 0), V.int IntKind.u64 (nl 0), V.int IntKind.u64 (nl 0)] [(0, 4, A.t 52), (4, 4, A.t 55)])) [] [], DS.mk 11 false (VI.op (some 57) none (VOp.app 4 32 false (A.t 46) (A.t 56))) [] [], DS.mk 12 false (VI.op (some 10) none (VOp.p (POp.mov (A.t 57)))) [] []]
def v5_22 : VC := VC.seq (VC.reg v5_20) (VC.drw v5_21)
def v5_23 : List VI := [VI.op (some 58) none (VOp.p (POp.bin BinOp.add (A.t 42) (A.c (V.int IntKind.i64 1)))), VI.op (some 42) none (VOp.p (POp.mov (A.t 58)))]
def v5_24 : VC := VC.seq (VC.reg v5_19) (VC.seq (VC.cond (A.t 43) VC.skip (VC.exit 4)) (VC.seq (VC.block 5 v5_22) (VC.reg v5_23)))
def v5_25 : VC := VC.loop v5_24
def v5_26 : List VI := [VI.op (some 59) none (VOp.p (POp.mov (A.t 10))), VI.op (some 7) none (VOp.p (POp.mov (A.t 59)))]
def v5_27 : VC := VC.seq (VC.reg v5_16) (VC.seq (VC.reg v5_17) (VC.seq (VC.seq (VC.reg v5_18) (VC.block 4 v5_25)) (VC.reg v5_26)))
def v5_28 : List VI := [VI.op (some 60) none (VOp.p (POp.bin BinOp.add (A.t 31) (A.c (V.int IntKind.i64 1)))), VI.op (some 31) none (VOp.p (POp.mov (A.t 60)))]
def v5_29 : VC := VC.seq (VC.reg v5_15) (VC.seq (VC.cond (A.t 32) VC.skip (VC.exit 2)) (VC.seq (VC.block 3 v5_27) (VC.reg v5_28)))
def v5_30 : VC := VC.loop v5_29
def v5_31 : List VI := [VI.op (some 61) none (VOp.p (POp.mov (A.t 7))), VI.op (some 2) none (VOp.p (POp.mov (A.t 61))), VI.op (some 3) none (VOp.p (POp.mov (A.c (V.int IntKind.i64 0))))]
def v5 : VC := VC.seq (VC.reg v5_0) (VC.seq (VC.seq (VC.reg v5_1) (VC.cond (A.t 15) (VC.seq (VC.reg v5_2) VC.ret) VC.skip)) (VC.seq (VC.seq (VC.reg v5_3) (VC.block 0 v5_11)) (VC.seq (VC.reg v5_12) (VC.seq (VC.reg v5_13) (VC.seq (VC.seq (VC.reg v5_14) (VC.block 2 v5_30)) (VC.seq (VC.reg v5_31) VC.ret))))))
def r5 : List RV := [RV.t 2, RV.t 3]
theorem code5 : (Tryd.f5.body).bind (cCode Tryd.prog) = some v5 := by kernel_rfl
theorem res5 : cRVs Tryd.prog (Tryd.f5.results.toList) = some r5 := by kernel_rfl
theorem nt5 : Tryd.f5.ntmps = 62 := by kernel_rfl
theorem nm5 : (Tryd.f5.name == "runtime.NumGoroutine") = false := by kernel_rfl

/-! "veil/veilref12.Weights" -/
def v6_0 : List VI := [VI.op (some 2) none (VOp.p (POp.mov (A.c V.nils))), VI.op (some 3) none (VOp.p (POp.mov (A.c (V.int IntKind.i64 0))))]
def v6_1 : List VI := [VI.op (some 11) none (VOp.p (POp.mov (A.t 0))), VI.op (some 12) none (VOp.p (POp.len false (A.t 11))), VI.op (some 13) none (VOp.p (POp.bin BinOp.gtr (A.t 12) (A.c (V.int IntKind.i64 10))))]
def v6_2 : List VI := [VI.op (some 2) none (VOp.p (POp.mov (A.c V.nils))), VI.op (some 3) none (VOp.p (POp.mov (A.c (V.int IntKind.i64 2))))]
def v6_3 : List VI := [VI.op (some 4) none (VOp.p (POp.mov (A.c (V.int IntKind.i64 0))))]
def v6_4 : List VI := [VI.op (some 14) none (VOp.p (POp.mov (A.t 4))), VI.op (some 15) none (VOp.p (POp.mov (A.t 0))), VI.op (some 16) none (VOp.p (POp.len false (A.t 15))), VI.op (some 17) none (VOp.p (POp.bin BinOp.lss (A.t 14) (A.t 16)))]
def v6_5 : List VI := [VI.op (some 20) none (VOp.p (POp.mov (A.t 0))), VI.op (some 21) none (VOp.p (POp.mov (A.t 4))), VI.op (some 22) none (VOp.p (POp.ixs 4 (A.t 20) (A.t 21))), VI.op (some 23) none (VOp.ld true 4 (A.t 22)), VI.call (some 24) none (Cal.fn 15) [A.t 23]]
def v6_6 : List VI := [VI.op (some 2) none (VOp.p (POp.mov (A.c V.nils))), VI.op (some 3) none (VOp.p (POp.mov (A.c (V.int IntKind.i64 4))))]
def v6_7 : VC := VC.seq (VC.reg v6_5) (VC.cond (A.t 24) (VC.seq (VC.reg v6_6) VC.ret) VC.skip)
def v6_8 : List VI := [VI.op (some 18) none (VOp.p (POp.mov (A.t 4))), VI.op (some 19) none (VOp.p (POp.bin BinOp.add (A.t 18) (A.c (V.int IntKind.i64 1)))), VI.op (some 4) none (VOp.p (POp.mov (A.t 19)))]
def v6_9 : VC := VC.seq (VC.seq (VC.reg v6_4) (VC.cond (A.t 17) VC.skip (VC.exit 0))) (VC.seq (VC.block 1 v6_7) (VC.reg v6_8))
def v6_10 : VC := VC.loop v6_9
def v6_11 : List VI := [VI.call (some 25) none (Cal.fn 16) [A.c (V.int IntKind.u64 (nl 1))], VI.op (some 26) none (VOp.bsl 1 [V.int IntKind.u64 (nl 0), V.int IntKind.u64 (nl 0), V.int IntKind.u64 (nl 0), V.int IntKind.u64 (nl 0)] [(0, 4, A.t 25)]), VI.op (some 5) none (VOp.p (POp.mov (A.t 26)))]
def v6_12 : List VI := [VI.op (some 27) none (VOp.p (POp.mov (A.t 0))), VI.op (some 28) none (VOp.p (POp.len false (A.t 27))), VI.op (some 29) none (VOp.p (POp.bin BinOp.sub (A.t 28) (A.c (V.int IntKind.i64 1)))), VI.op (some 6) none (VOp.p (POp.mov (A.t 29)))]
def v6_13 : List VI := [VI.op (some 30) none (VOp.p (POp.mov (A.t 6))), VI.op (some 31) none (VOp.p (POp.bin BinOp.geq (A.t 30) (A.c (V.int IntKind.i64 0))))]
def v6_14 : List VI := [VI.op (some 7) none (VOp.p (POp.mov (A.c V.nils)))]
def v6_15 : List VI := [VI.op (some 34) none (VOp.p (POp.mov (A.t 0))), VI.op (some 35) none (VOp.p (POp.mov (A.t 6))), VI.op (some 36) none (VOp.p (POp.ixs 4 (A.t 34) (A.t 35))), VI.op (some 37) none (VOp.ld true 4 (A.t 36)), VI.call (some 38) none (Cal.fn 17) [A.t 37], VI.op (some 8) none (VOp.new [V.int IntKind.u64 (nl 0), V.int IntKind.u64 (nl 0), V.int IntKind.u64 (nl 0), V.int IntKind.u64 (nl 0)]), VI.op none none (VOp.st 4 (A.t 8) (A.t 38))]
def v6_16 : List VI := [VI.op (some 9) none (VOp.p (POp.mov (A.c (V.int IntKind.i64 0))))]
def v6_17 : List VI := [VI.op (some 39) none (VOp.p (POp.mov (A.t 9))), VI.op (some 40) none (VOp.p (POp.mov (A.t 5))), VI.op (some 41) none (VOp.p (POp.len false (A.t 40))), VI.op (some 42) none (VOp.p (POp.bin BinOp.lss (A.t 39) (A.t 41)))]
def v6_18 : List DS := [DS.mk 0 true (VI.op (some 45) none (VOp.p (POp.mov (A.t 7)))) [] [], DS.mk 1 true (VI.op (some 46) none (VOp.p (POp.mov (A.t 5)))) [] [], DS.mk 2 true (VI.op (some 47) none (VOp.p (POp.mov (A.t 9)))) [] [], DS.mk 3 true (VI.op (some 48) none (VOp.p (POp.ixs 4 (A.t 46) (A.t 47)))) [] [], DS.mk 4 true (VI.op (some 49) none (VOp.ld true 4 (A.t 48))) [] [], DS.mk 5 true (VI.op (some 50) none (VOp.ld true 4 (A.t 8))) [] [], DS.mk 6 false (VI.call (some 51) none (Cal.fn 18) [A.t 49, A.t 50]) [] [], DS.mk 7 true (VI.op (some 52) none (VOp.bsl 1 [V.int IntKind.u64 (nl 0), V.int IntKind.u64 (nl 0), V.int IntKind.u64 (nl 0), V.int IntKind.u64 (nl 0)] [(0, 4, A.t 51)])) [] [], DS.mk 8 false (VI.op (some 53) none (VOp.app 4 32 false (A.t 45) (A.t 52))) [] [], DS.mk 9 false (VI.op (some 7) none (VOp.p (POp.mov (A.t 53)))) [] []]
def v6_19 : VC := VC.drw v6_18
def v6_20 : List VI := [VI.op (some 43) none (VOp.p (POp.mov (A.t 9))), VI.op (some 44) none (VOp.p (POp.bin BinOp.add (A.t 43) (A.c (V.int IntKind.i64 1)))), VI.op (some 9) none (VOp.p (POp.mov (A.t 44)))]
def v6_21 : VC := VC.seq (VC.seq (VC.reg v6_17) (VC.cond (A.t 42) VC.skip (VC.exit 4))) (VC.seq (VC.block 5 v6_19) (VC.reg v6_20))
def v6_22 : VC := VC.loop v6_21
def v6_23 : List VI := [VI.op (some 10) none (VOp.p (POp.mov (A.c (V.int IntKind.i64 0))))]
def v6_24 : List VI := [VI.op (some 54) none (VOp.p (POp.mov (A.t 10))), VI.op (some 55) none (VOp.p (POp.mov (A.t 5))), VI.op (some 56) none (VOp.p (POp.len false (A.t 55))), VI.op (some 57) none (VOp.p (POp.bin BinOp.lss (A.t 54) (A.t 56)))]
def v6_25 : List DS := [DS.mk 0 true (VI.op (some 60) none (VOp.p (POp.mov (A.t 7)))) [] [], DS.mk 1 true (VI.op (some 61) none (VOp.p (POp.mov (A.t 5)))) [] [], DS.mk 2 true (VI.op (some 62) none (VOp.p (POp.mov (A.t 10)))) [] [], DS.mk 3 true (VI.op (some 63) none (VOp.p (POp.ixs 4 (A.t 61) (A.t 62)))) [] [], DS.mk 4 true (VI.op (some 64) none (VOp.ld true 4 (A.t 63))) [] [], DS.mk 5 true (VI.op (some 65) none (VOp.p (POp.mov (A.t 0)))) [] [], DS.mk 6 true (VI.op (some 66) none (VOp.p (POp.mov (A.t 6)))) [] [], DS.mk 7 true (VI.op (some 67) none (VOp.p (POp.ixs 4 (A.t 65) (A.t 66)))) [] [], DS.mk 8 true (VI.op (some 68) none (VOp.ld true 4 (A.t 67))) [] [], DS.mk 9 false (VI.call (some 69) none (Cal.fn 18) [A.t 64, A.t 68]) [] [], DS.mk 10 true (VI.op (some 70) none (VOp.bsl 1 [V.int IntKind.u64 (nl 0), V.int IntKind.u64 (nl 0), V.int IntKind.u64 (nl 0), V.int IntKind.u64 (nl 0)] [(0, 4, A.t 69)])) [] [], DS.mk 11 false (VI.op (some 71) none (VOp.app 4 32 false (A.t 60) (A.t 70))) [] [], DS.mk 12 false (VI.op (some 7) none (VOp.p (POp.mov (A.t 71)))) [] []]
def v6_26 : VC := VC.drw v6_25
def v6_27 : List VI := [VI.op (some 58) none (VOp.p (POp.mov (A.t 10))), VI.op (some 59) none (VOp.p (POp.bin BinOp.add (A.t 58) (A.c (V.int IntKind.i64 1)))), VI.op (some 10) none (VOp.p (POp.mov (A.t 59)))]
def v6_28 : VC := VC.seq (VC.seq (VC.reg v6_24) (VC.cond (A.t 57) VC.skip (VC.exit 6))) (VC.seq (VC.block 7 v6_26) (VC.reg v6_27))
def v6_29 : VC := VC.loop v6_28
def v6_30 : List VI := [VI.op (some 72) none (VOp.p (POp.mov (A.t 7))), VI.op (some 5) none (VOp.p (POp.mov (A.t 72)))]
def v6_31 : VC := VC.seq (VC.reg v6_14) (VC.seq (VC.reg v6_15) (VC.seq (VC.seq (VC.reg v6_16) (VC.block 4 v6_22)) (VC.seq (VC.seq (VC.reg v6_23) (VC.block 6 v6_29)) (VC.reg v6_30))))
def v6_32 : List VI := [VI.op (some 32) none (VOp.p (POp.mov (A.t 6))), VI.op (some 33) none (VOp.p (POp.bin BinOp.sub (A.t 32) (A.c (V.int IntKind.i64 1)))), VI.op (some 6) none (VOp.p (POp.mov (A.t 33)))]
def v6_33 : VC := VC.seq (VC.seq (VC.reg v6_13) (VC.cond (A.t 31) VC.skip (VC.exit 2))) (VC.seq (VC.block 3 v6_31) (VC.reg v6_32))
def v6_34 : VC := VC.loop v6_33
def v6_35 : List VI := [VI.op (some 73) none (VOp.p (POp.mov (A.t 5))), VI.op (some 2) none (VOp.p (POp.mov (A.t 73))), VI.op (some 3) none (VOp.p (POp.mov (A.c (V.int IntKind.i64 0))))]
def v6 : VC := VC.seq (VC.reg v6_0) (VC.seq (VC.seq (VC.reg v6_1) (VC.cond (A.t 13) (VC.seq (VC.reg v6_2) VC.ret) VC.skip)) (VC.seq (VC.seq (VC.reg v6_3) (VC.block 0 v6_10)) (VC.seq (VC.reg v6_11) (VC.seq (VC.seq (VC.reg v6_12) (VC.block 2 v6_34)) (VC.seq (VC.reg v6_35) VC.ret)))))
def r6 : List RV := [RV.t 2, RV.t 3]
theorem code6 : (Tryd.f6.body).bind (cCode Tryd.prog) = some v6 := by kernel_rfl
theorem res6 : cRVs Tryd.prog (Tryd.f6.results.toList) = some r6 := by kernel_rfl
theorem nt6 : Tryd.f6.ntmps = 74 := by kernel_rfl
theorem nm6 : (Tryd.f6.name == "runtime.NumGoroutine") = false := by kernel_rfl

/-! "veil/veillaw12.docScalars" -/
def v7_0 : List VI := [VI.op (some 2) none (VOp.p (POp.mov (A.c V.nils)))]
def v7_1 : List VI := [VI.op (some 5) none (VOp.p (POp.mov (A.t 0))), VI.call (some 6) none (Cal.fn 10) [A.t 5], VI.op (some 0) none (VOp.p (POp.mov (A.t 6)))]
def v7_2 : List VI := [VI.op (some 3) none (VOp.p (POp.mov (A.c V.nils)))]
def v7_3 : List VI := [VI.op (some 4) none (VOp.p (POp.mov (A.c (V.int IntKind.i64 0))))]
def v7_4 : List VI := [VI.op (some 7) none (VOp.p (POp.mov (A.t 4))), VI.op (some 8) none (VOp.p (POp.mov (A.t 0))), VI.op (some 9) none (VOp.p (POp.len false (A.t 8))), VI.op (some 10) none (VOp.p (POp.bin BinOp.lss (A.t 7) (A.t 9)))]
def v7_5 : List VI := [VI.op (some 13) none (VOp.p (POp.mov (A.t 3))), VI.op (some 14) none (VOp.p (POp.mov (A.t 0))), VI.op (some 15) none (VOp.p (POp.mov (A.t 4))), VI.op (some 16) none (VOp.p (POp.ixs 4 (A.t 14) (A.t 15))), VI.op (some 17) none (VOp.ld true 4 (A.t 16)), VI.call (some 18) none (Cal.fn 19) [A.t 17], VI.op (some 19) none (VOp.bsl 1 [V.int IntKind.u64 (nl 0), V.int IntKind.u64 (nl 0), V.int IntKind.u64 (nl 0), V.int IntKind.u64 (nl 0)] [(0, 4, A.t 18)]), VI.op (some 20) none (VOp.app 4 32 false (A.t 13) (A.t 19)), VI.op (some 3) none (VOp.p (POp.mov (A.t 20)))]
def v7_6 : VC := VC.reg v7_5
def v7_7 : List VI := [VI.op (some 11) none (VOp.p (POp.mov (A.t 4))), VI.op (some 12) none (VOp.p (POp.bin BinOp.add (A.t 11) (A.c (V.int IntKind.i64 1)))), VI.op (some 4) none (VOp.p (POp.mov (A.t 12)))]
def v7_8 : VC := VC.seq (VC.seq (VC.reg v7_4) (VC.cond (A.t 10) VC.skip (VC.exit 0))) (VC.seq (VC.block 1 v7_6) (VC.reg v7_7))
def v7_9 : VC := VC.loop v7_8
def v7_10 : List VI := [VI.op (some 21) none (VOp.p (POp.mov (A.t 3))), VI.op (some 2) none (VOp.p (POp.mov (A.t 21)))]
def v7 : VC := VC.seq (VC.reg v7_0) (VC.seq (VC.reg v7_1) (VC.seq (VC.reg v7_2) (VC.seq (VC.seq (VC.reg v7_3) (VC.block 0 v7_9)) (VC.seq (VC.reg v7_10) VC.ret))))
def r7 : List RV := [RV.t 2]
theorem code7 : (Tryd.f7.body).bind (cCode Tryd.prog) = some v7 := by kernel_rfl
theorem res7 : cRVs Tryd.prog (Tryd.f7.results.toList) = some r7 := by kernel_rfl
theorem nt7 : Tryd.f7.ntmps = 22 := by kernel_rfl
theorem nm7 : (Tryd.f7.name == "runtime.NumGoroutine") = false := by kernel_rfl

/-! "veil/veillaw12.isScalars" -/
def v8_0 : List VI := [VI.op (some 4) none (VOp.p (POp.mov (A.c (V.bool false))))]
def v8_1 : List VI := [VI.op (some 6) none (VOp.p (POp.mov (A.t 0))), VI.op (some 7) none (VOp.p (POp.len false (A.t 6))), VI.op (some 8) none (VOp.p (POp.mov (A.t 1))), VI.op (some 9) none (VOp.p (POp.len false (A.t 8))), VI.op (some 10) none (VOp.p (POp.eq true EqK.i (A.t 7) (A.t 9)))]
def v8_2 : List VI := [VI.op (some 4) none (VOp.p (POp.mov (A.c (V.bool false))))]
def v8_3 : List VI := [VI.op (some 5) none (VOp.p (POp.mov (A.c (V.int IntKind.i64 0))))]
def v8_4 : List VI := [VI.op (some 11) none (VOp.p (POp.mov (A.t 5))), VI.op (some 12) none (VOp.p (POp.mov (A.t 0))), VI.op (some 13) none (VOp.p (POp.len false (A.t 12))), VI.op (some 14) none (VOp.p (POp.bin BinOp.lss (A.t 11) (A.t 13)))]
def v8_5 : List DS := [DS.mk 0 true (VI.op (some 17) none (VOp.p (POp.mov (A.t 0)))) [] [], DS.mk 1 true (VI.op (some 18) none (VOp.p (POp.mov (A.t 5)))) [] [], DS.mk 2 true (VI.op (some 19) none (VOp.p (POp.ixs 4 (A.t 17) (A.t 18)))) [] [], DS.mk 3 true (VI.op (some 20) none (VOp.ld true 4 (A.t 19))) [] [], DS.mk 4 true (VI.op (some 21) none (VOp.p (POp.mov (A.t 1)))) [] [], DS.mk 5 true (VI.op (some 22) none (VOp.p (POp.mov (A.t 5)))) [] [], DS.mk 6 true (VI.op (some 23) none (VOp.p (POp.ixs 4 (A.t 21) (A.t 22)))) [] [], DS.mk 7 true (VI.op (some 24) none (VOp.ld true 4 (A.t 23))) [] [], DS.mk 8 false (VI.call (some 25) none (Cal.fn 20) [A.t 20, A.t 24]) [] [], DS.mk 9 true (VI.op (some 26) none (VOp.p (POp.un UnOp.not (A.t 25)))) [] []]
def v8_6 : List VI := [VI.op (some 4) none (VOp.p (POp.mov (A.c (V.bool false))))]
def v8_7 : VC := VC.seq (VC.drw v8_5) (VC.cond (A.t 26) (VC.seq (VC.reg v8_6) VC.ret) VC.skip)
def v8_8 : List VI := [VI.op (some 15) none (VOp.p (POp.mov (A.t 5))), VI.op (some 16) none (VOp.p (POp.bin BinOp.add (A.t 15) (A.c (V.int IntKind.i64 1)))), VI.op (some 5) none (VOp.p (POp.mov (A.t 16)))]
def v8_9 : VC := VC.seq (VC.seq (VC.reg v8_4) (VC.cond (A.t 14) VC.skip (VC.exit 0))) (VC.seq (VC.block 1 v8_7) (VC.reg v8_8))
def v8_10 : VC := VC.loop v8_9
def v8_11 : List VI := [VI.op (some 4) none (VOp.p (POp.mov (A.c (V.bool true))))]
def v8 : VC := VC.seq (VC.reg v8_0) (VC.seq (VC.seq (VC.reg v8_1) (VC.cond (A.t 10) (VC.seq (VC.reg v8_2) VC.ret) VC.skip)) (VC.seq (VC.seq (VC.reg v8_3) (VC.block 0 v8_10)) (VC.seq (VC.reg v8_11) VC.ret)))
def r8 : List RV := [RV.t 4]
theorem code8 : (Tryd.f8.body).bind (cCode Tryd.prog) = some v8 := by kernel_rfl
theorem res8 : cRVs Tryd.prog (Tryd.f8.results.toList) = some r8 := by kernel_rfl
theorem nt8 : Tryd.f8.ntmps = 27 := by kernel_rfl
theorem nm8 : (Tryd.f8.name == "runtime.NumGoroutine") = false := by kernel_rfl

/-! "veil/veillaw12.scalarsStay" -/
def v9_0 : List VI := [VI.op (some 4) none (VOp.p (POp.mov (A.c (V.bool false))))]
def v9_1 : List VI := [VI.op (some 7) none (VOp.p (POp.mov (A.t 1))), VI.call (some 8) none (Cal.fn 10) [A.t 7], VI.op (some 1) none (VOp.p (POp.mov (A.t 8)))]
def v9_2 : List VI := [VI.op (some 9) none (VOp.p (POp.mov (A.t 0))), VI.op (some 10) none (VOp.p (POp.mov (A.t 1))), VI.op (some 11) none (VOp.p (POp.len false (A.t 10))), VI.op (some 12) none (VOp.p (POp.bin BinOp.add (A.t 11) (A.c (V.int IntKind.i64 1)))), VI.op (some 13) none (VOp.slx 4 (A.t 9) none (some (A.t 12)) none), VI.op (some 5) none (VOp.p (POp.mov (A.t 13)))]
def v9_3 : List VI := [VI.op (some 6) none (VOp.p (POp.mov (A.c (V.int IntKind.i64 0))))]
def v9_4 : List VI := [VI.op (some 14) none (VOp.p (POp.mov (A.t 6))), VI.op (some 15) none (VOp.p (POp.mov (A.t 1))), VI.op (some 16) none (VOp.p (POp.len false (A.t 15))), VI.op (some 17) none (VOp.p (POp.bin BinOp.lss (A.t 14) (A.t 16)))]
def v9_5 : List DS := [DS.mk 0 true (VI.op (some 20) none (VOp.p (POp.mov (A.t 5)))) [] [], DS.mk 1 true (VI.op (some 21) none (VOp.p (POp.mov (A.t 6)))) [] [], DS.mk 2 true (VI.op (some 22) none (VOp.p (POp.ixs 4 (A.t 20) (A.t 21)))) [] [], DS.mk 3 true (VI.op (some 23) none (VOp.ld true 4 (A.t 22))) [] [], DS.mk 4 true (VI.op (some 24) none (VOp.p (POp.mov (A.t 1)))) [] [], DS.mk 5 true (VI.op (some 25) none (VOp.p (POp.mov (A.t 6)))) [] [], DS.mk 6 true (VI.op (some 26) none (VOp.p (POp.ixs 4 (A.t 24) (A.t 25)))) [] [], DS.mk 7 true (VI.op (some 27) none (VOp.ld true 4 (A.t 26))) [] [], DS.mk 8 true (VI.op (some 28) none (VOp.p (POp.eqa true [EqK.i, EqK.i, EqK.i, EqK.i] (A.t 23) (A.t 27)))) [] []]
def v9_6 : List VI := [VI.op (some 4) none (VOp.p (POp.mov (A.c (V.bool false))))]
def v9_7 : VC := VC.seq (VC.drw v9_5) (VC.cond (A.t 28) (VC.seq (VC.reg v9_6) VC.ret) VC.skip)
def v9_8 : List VI := [VI.op (some 18) none (VOp.p (POp.mov (A.t 6))), VI.op (some 19) none (VOp.p (POp.bin BinOp.add (A.t 18) (A.c (V.int IntKind.i64 1)))), VI.op (some 6) none (VOp.p (POp.mov (A.t 19)))]
def v9_9 : VC := VC.seq (VC.seq (VC.reg v9_4) (VC.cond (A.t 17) VC.skip (VC.exit 0))) (VC.seq (VC.block 1 v9_7) (VC.reg v9_8))
def v9_10 : VC := VC.loop v9_9
def v9_11 : List VI := [VI.op (some 29) none (VOp.p (POp.mov (A.t 5))), VI.op (some 30) none (VOp.p (POp.mov (A.t 1))), VI.op (some 31) none (VOp.p (POp.len false (A.t 30))), VI.op (some 32) none (VOp.p (POp.ixs 4 (A.t 29) (A.t 31))), VI.op (some 33) none (VOp.ld true 4 (A.t 32)), VI.op (some 34) none (VOp.p (POp.bld [V.int IntKind.u64 (nl 0), V.int IntKind.u64 (nl 0), V.int IntKind.u64 (nl 0), V.int IntKind.u64 (nl 0)] [(0, 1, A.c (V.int IntKind.u64 (nl 78)))])), VI.op (some 35) none (VOp.p (POp.eqa false [EqK.i, EqK.i, EqK.i, EqK.i] (A.t 33) (A.t 34))), VI.op (some 4) none (VOp.p (POp.mov (A.t 35)))]
def v9 : VC := VC.seq (VC.reg v9_0) (VC.seq (VC.reg v9_1) (VC.seq (VC.reg v9_2) (VC.seq (VC.seq (VC.reg v9_3) (VC.block 0 v9_10)) (VC.seq (VC.reg v9_11) VC.ret))))
def r9 : List RV := [RV.t 4]
theorem code9 : (Tryd.f9.body).bind (cCode Tryd.prog) = some v9 := by kernel_rfl
theorem res9 : cRVs Tryd.prog (Tryd.f9.results.toList) = some r9 := by kernel_rfl
theorem nt9 : Tryd.f9.ntmps = 36 := by kernel_rfl
theorem nm9 : (Tryd.f9.name == "runtime.NumGoroutine") = false := by kernel_rfl

/-! "veil/veillaw12.cut" -/
def v10_0 : List VI := [VI.op (some 2) none (VOp.p (POp.mov (A.c V.nils)))]
def v10_1 : List VI := [VI.op (some 3) none (VOp.p (POp.mov (A.t 0))), VI.op (some 4) none (VOp.p (POp.len false (A.t 3))), VI.op (some 5) none (VOp.p (POp.bin BinOp.gtr (A.t 4) (A.c (V.int IntKind.i64 2100))))]
def v10_2 : List VI := [VI.op (some 6) none (VOp.p (POp.mov (A.t 0))), VI.op (some 7) none (VOp.slx 4 (A.t 6) none (some (A.c (V.int IntKind.i64 2100))) none), VI.op (some 2) none (VOp.p (POp.mov (A.t 7)))]
def v10_3 : List VI := [VI.op (some 8) none (VOp.p (POp.mov (A.t 0))), VI.op (some 2) none (VOp.p (POp.mov (A.t 8)))]
def v10 : VC := VC.seq (VC.reg v10_0) (VC.seq (VC.seq (VC.reg v10_1) (VC.cond (A.t 5) (VC.seq (VC.reg v10_2) VC.ret) VC.skip)) (VC.seq (VC.reg v10_3) VC.ret))
def r10 : List RV := [RV.t 2]
theorem code10 : (Tryd.f10.body).bind (cCode Tryd.prog) = some v10 := by kernel_rfl
theorem res10 : cRVs Tryd.prog (Tryd.f10.results.toList) = some r10 := by kernel_rfl
theorem nt10 : Tryd.f10.ntmps = 9 := by kernel_rfl
theorem nm10 : (Tryd.f10.name == "runtime.NumGoroutine") = false := by kernel_rfl

/-! "(veil/scalar.Scalar).IsZero" -/
def v11_0 : List VI := [VI.op (some 1) none (VOp.box (A.t 0)), VI.op (some 2) none (VOp.p (POp.mov (A.c (V.bool false))))]
def v11_1 : List VI := [VI.op (some 3) none (VOp.ld true 4 (A.t 1)), VI.call (some 4) none (Cal.fn 21) [A.t 3], VI.op (some 5) none (VOp.p (POp.bld [V.int IntKind.u64 (nl 0), V.int IntKind.u64 (nl 0), V.int IntKind.u64 (nl 0), V.int IntKind.u64 (nl 0)] [])), VI.op (some 6) none (VOp.p (POp.eqa false [EqK.i, EqK.i, EqK.i, EqK.i] (A.t 4) (A.t 5))), VI.op (some 2) none (VOp.p (POp.mov (A.t 6)))]
def v11 : VC := VC.seq (VC.reg v11_0) (VC.seq (VC.reg v11_1) VC.ret)
def r11 : List RV := [RV.t 2]
theorem code11 : (Tryd.f11.body).bind (cCode Tryd.prog) = some v11 := by kernel_rfl
theorem res11 : cRVs Tryd.prog (Tryd.f11.results.toList) = some r11 := by kernel_rfl
theorem nt11 : Tryd.f11.ntmps = 7 := by kernel_rfl
theorem nm11 : (Tryd.f11.name == "runtime.NumGoroutine") = false := by kernel_rfl

/-! "veil/algebra.InvertAll[veil/scalar.Scalar]" -/
def v12_0 : List VI := [VI.op (some 2) none (VOp.p (POp.mov (A.c V.nils)))]
def v12_1 : List VI := [VI.op (some 10) none (VOp.p (POp.mov (A.t 0))), VI.op (some 11) none (VOp.p (POp.len false (A.t 10))), VI.op (some 12) none (VOp.p (POp.eq false EqK.i (A.t 11) (A.c (V.int IntKind.i64 0))))]
def v12_2 : List VI := [VI.op (some 2) none (VOp.p (POp.mov (A.c V.nils)))]
def v12_3 : List VI := [VI.op (some 13) none (VOp.p (POp.mov (A.t 0))), VI.op (some 14) none (VOp.p (POp.len false (A.t 13))), VI.op (some 15) none (VOp.mks 4 32 [V.int IntKind.u64 (nl 0), V.int IntKind.u64 (nl 0), V.int IntKind.u64 (nl 0), V.int IntKind.u64 (nl 0)] (A.t 14) (A.t 14)), VI.op (some 3) none (VOp.p (POp.mov (A.t 15)))]
def v12_4 : List VI := [VI.op (some 16) none (VOp.p (POp.mov (A.t 0))), VI.op (some 17) none (VOp.p (POp.ixs 4 (A.t 16) (A.c (V.int IntKind.i64 0)))), VI.op (some 18) none (VOp.ld true 4 (A.t 17)), VI.op (some 19) none (VOp.p (POp.mkI 38 (A.t 18))), VI.call (some 20) none (Cal.inv (A.t 19) "One") [], VI.op (some 4) none (VOp.new [V.int IntKind.u64 (nl 0), V.int IntKind.u64 (nl 0), V.int IntKind.u64 (nl 0), V.int IntKind.u64 (nl 0)]), VI.op none none (VOp.st 4 (A.t 4) (A.t 20))]
def v12_5 : List VI := [VI.op (some 21) none (VOp.p (POp.mov (A.t 0))), VI.op (some 22) none (VOp.p (POp.len false (A.t 21))), VI.op (some 23) none (VOp.p (POp.mov (A.c (V.int IntKind.i64 0))))]
def v12_6 : List VI := [VI.op (some 24) none (VOp.p (POp.bin BinOp.lss (A.t 23) (A.t 22)))]
def v12_7 : List VI := [VI.op (some 25) none (VOp.p (POp.mov (A.t 23))), VI.op (some 26) none (VOp.p (POp.ixs 4 (A.t 21) (A.t 23))), VI.op (some 27) none (VOp.ld true 4 (A.t 26)), VI.op (some 6) none (VOp.new [V.int IntKind.u64 (nl 0), V.int IntKind.u64 (nl 0), V.int IntKind.u64 (nl 0), V.int IntKind.u64 (nl 0)]), VI.op (some 5) none (VOp.p (POp.mov (A.t 25))), VI.op none none (VOp.st 4 (A.t 6) (A.t 27))]
def v12_8 : List VI := [VI.op (some 28) none (VOp.p (POp.mov (A.t 3))), VI.op (some 29) none (VOp.p (POp.mov (A.t 5))), VI.op (some 30) none (VOp.ld true 4 (A.t 4)), VI.op (some 31) none (VOp.p (POp.ixs 4 (A.t 28) (A.t 29))), VI.op none none (VOp.st 4 (A.t 31) (A.t 30))]
def v12_9 : List VI := [VI.op (some 32) none (VOp.ld true 4 (A.t 6)), VI.op (some 33) none (VOp.p (POp.mkI 38 (A.t 32))), VI.call (some 34) none (Cal.inv (A.t 33) "IsZero") [], VI.op (some 35) none (VOp.p (POp.un UnOp.not (A.t 34)))]
def v12_10 : List VI := [VI.op (some 36) none (VOp.ld true 4 (A.t 4)), VI.op (some 37) none (VOp.p (POp.mkI 38 (A.t 36))), VI.op (some 38) none (VOp.ld true 4 (A.t 6)), VI.call (some 39) none (Cal.inv (A.t 37) "Mul") [A.t 38], VI.op none none (VOp.st 4 (A.t 4) (A.t 39))]
def v12_11 : VC := VC.seq (VC.reg v12_7) (VC.seq (VC.reg v12_8) (VC.seq (VC.reg v12_9) (VC.cond (A.t 35) (VC.reg v12_10) VC.skip)))
def v12_12 : List VI := [VI.op (some 40) none (VOp.p (POp.bin BinOp.add (A.t 23) (A.c (V.int IntKind.i64 1)))), VI.op (some 23) none (VOp.p (POp.mov (A.t 40)))]
def v12_13 : VC := VC.seq (VC.reg v12_6) (VC.seq (VC.cond (A.t 24) VC.skip (VC.exit 0)) (VC.seq (VC.block 1 v12_11) (VC.reg v12_12)))
def v12_14 : VC := VC.loop v12_13
def v12_15 : List VI := [VI.op (some 41) none (VOp.ld true 4 (A.t 4)), VI.op (some 42) none (VOp.p (POp.mkI 38 (A.t 41))), VI.call (some 43) none (Cal.inv (A.t 42) "Invert") [], VI.op (some 7) none (VOp.new [V.int IntKind.u64 (nl 0), V.int IntKind.u64 (nl 0), V.int IntKind.u64 (nl 0), V.int IntKind.u64 (nl 0)]), VI.op none none (VOp.st 4 (A.t 7) (A.t 43))]
def v12_16 : List VI := [VI.op (some 44) none (VOp.p (POp.mov (A.t 0))), VI.op (some 45) none (VOp.p (POp.len false (A.t 44))), VI.op (some 46) none (VOp.p (POp.bin BinOp.sub (A.t 45) (A.c (V.int IntKind.i64 1)))), VI.op (some 8) none (VOp.p (POp.mov (A.t 46)))]
def v12_17 : List VI := [VI.op (some 47) none (VOp.p (POp.mov (A.t 8))), VI.op (some 48) none (VOp.p (POp.bin BinOp.geq (A.t 47) (A.c (V.int IntKind.i64 0))))]
def v12_18 : List VI := [VI.op (some 51) none (VOp.p (POp.mov (A.t 0))), VI.op (some 52) none (VOp.p (POp.mov (A.t 8))), VI.op (some 53) none (VOp.p (POp.ixs 4 (A.t 51) (A.t 52))), VI.op (some 54) none (VOp.ld true 4 (A.t 53)), VI.op (some 55) none (VOp.p (POp.mkI 38 (A.t 54))), VI.call (some 56) none (Cal.inv (A.t 55) "IsZero") []]
def v12_19 : List VI := [VI.op (some 9) none (VOp.new [V.int IntKind.u64 (nl 0), V.int IntKind.u64 (nl 0), V.int IntKind.u64 (nl 0), V.int IntKind.u64 (nl 0)])]
def v12_20 : List VI := [VI.op (some 57) none (VOp.p (POp.mov (A.t 3))), VI.op (some 58) none (VOp.p (POp.mov (A.t 8))), VI.op (some 59) none (VOp.ld true 4 (A.t 9)), VI.op (some 60) none (VOp.p (POp.ixs 4 (A.t 57) (A.t 58))), VI.op none none (VOp.st 4 (A.t 60) (A.t 59))]
def v12_21 : List DS := [DS.mk 0 true (VI.op (some 61) none (VOp.p (POp.mov (A.t 3)))) [] [], DS.mk 1 true (VI.op (some 62) none (VOp.p (POp.mov (A.t 8)))) [] [], DS.mk 2 true (VI.op (some 63) none (VOp.p (POp.mov (A.t 3)))) [] [], DS.mk 3 true (VI.op (some 64) none (VOp.p (POp.mov (A.t 8)))) [] [], DS.mk 4 true (VI.op (some 65) none (VOp.p (POp.ixs 4 (A.t 63) (A.t 64)))) [] [], DS.mk 5 true (VI.op (some 66) none (VOp.ld true 4 (A.t 65))) [] [], DS.mk 6 true (VI.op (some 67) none (VOp.p (POp.mkI 38 (A.t 66)))) [] [], DS.mk 7 true (VI.op (some 68) none (VOp.ld true 4 (A.t 7))) [] [], DS.mk 8 false (VI.call (some 69) none (Cal.inv (A.t 67) "Mul") [A.t 68]) [] [], DS.mk 9 true (VI.op (some 70) none (VOp.p (POp.ixs 4 (A.t 61) (A.t 62)))) [] [], DS.mk 10 false (VI.op none none (VOp.st 4 (A.t 70) (A.t 69))) [] []]
def v12_22 : List DS := [DS.mk 0 true (VI.op (some 71) none (VOp.ld true 4 (A.t 7))) [] [], DS.mk 1 true (VI.op (some 72) none (VOp.p (POp.mkI 38 (A.t 71)))) [] [], DS.mk 2 true (VI.op (some 73) none (VOp.p (POp.mov (A.t 0)))) [] [], DS.mk 3 true (VI.op (some 74) none (VOp.p (POp.mov (A.t 8)))) [] [], DS.mk 4 true (VI.op (some 75) none (VOp.p (POp.ixs 4 (A.t 73) (A.t 74)))) [] [], DS.mk 5 true (VI.op (some 76) none (VOp.ld true 4 (A.t 75))) [] [], DS.mk 6 false (VI.call (some 77) none (Cal.inv (A.t 72) "Mul") [A.t 76]) [] [], DS.mk 7 false (VI.op none none (VOp.st 4 (A.t 7) (A.t 77))) [] []]
def v12_23 : VC := VC.seq (VC.seq (VC.reg v12_18) (VC.cond (A.t 56) (VC.seq (VC.reg v12_19) (VC.seq (VC.reg v12_20) (VC.exit 3))) VC.skip)) (VC.seq (VC.drw v12_21) (VC.drw v12_22))
def v12_24 : List VI := [VI.op (some 49) none (VOp.p (POp.mov (A.t 8))), VI.op (some 50) none (VOp.p (POp.bin BinOp.sub (A.t 49) (A.c (V.int IntKind.i64 1)))), VI.op (some 8) none (VOp.p (POp.mov (A.t 50)))]
def v12_25 : VC := VC.seq (VC.seq (VC.reg v12_17) (VC.cond (A.t 48) VC.skip (VC.exit 2))) (VC.seq (VC.block 3 v12_23) (VC.reg v12_24))
def v12_26 : VC := VC.loop v12_25
def v12_27 : List VI := [VI.op (some 78) none (VOp.p (POp.mov (A.t 3))), VI.op (some 2) none (VOp.p (POp.mov (A.t 78)))]
def v12 : VC := VC.seq (VC.reg v12_0) (VC.seq (VC.seq (VC.reg v12_1) (VC.cond (A.t 12) (VC.seq (VC.reg v12_2) VC.ret) VC.skip)) (VC.seq (VC.reg v12_3) (VC.seq (VC.reg v12_4) (VC.seq (VC.seq (VC.reg v12_5) (VC.block 0 v12_14)) (VC.seq (VC.reg v12_15) (VC.seq (VC.seq (VC.reg v12_16) (VC.block 2 v12_26)) (VC.seq (VC.reg v12_27) VC.ret)))))))
def r12 : List RV := [RV.t 2]
theorem code12 : (Tryd.f12.body).bind (cCode Tryd.prog) = some v12 := by kernel_rfl
theorem res12 : cRVs Tryd.prog (Tryd.f12.results.toList) = some r12 := by kernel_rfl
theorem nt12 : Tryd.f12.ntmps = 79 := by kernel_rfl
theorem nm12 : (Tryd.f12.name == "runtime.NumGoroutine") = false := by kernel_rfl

/-! "veil/scalar.Int" -/
def v13_0 : List VI := [VI.op (some 2) none (VOp.new [V.int IntKind.u64 (nl 0), V.int IntKind.u64 (nl 0), V.int IntKind.u64 (nl 0), V.int IntKind.u64 (nl 0)])]
def v13_1 : List VI := [VI.op (some 3) none (VOp.p (POp.mov (A.t 0))), VI.op (some 4) none (VOp.p (POp.bld [V.int IntKind.u64 (nl 0), V.int IntKind.u64 (nl 0), V.int IntKind.u64 (nl 0), V.int IntKind.u64 (nl 0)] [(0, 1, A.t 3)])), VI.op none none (VOp.st 4 (A.t 2) (A.t 4))]
def v13 : VC := VC.seq (VC.reg v13_0) (VC.seq (VC.reg v13_1) VC.ret)
def r13 : List RV := [RV.m 2 true 4]
theorem code13 : (Tryd.f13.body).bind (cCode Tryd.prog) = some v13 := by kernel_rfl
theorem res13 : cRVs Tryd.prog (Tryd.f13.results.toList) = some r13 := by kernel_rfl
theorem nt13 : Tryd.f13.ntmps = 5 := by kernel_rfl
theorem nm13 : (Tryd.f13.name == "runtime.NumGoroutine") = false := by kernel_rfl

/-! "(veil/scalar.Scalar).Mul" -/
def v14_0 : List VI := [VI.op (some 2) none (VOp.box (A.t 0)), VI.op (some 3) none (VOp.box (A.t 1)), VI.op (some 4) none (VOp.new [V.int IntKind.u64 (nl 0), V.int IntKind.u64 (nl 0), V.int IntKind.u64 (nl 0), V.int IntKind.u64 (nl 0)])]
def v14_1 : List DS := [DS.mk 0 true (VI.op (some 5) none (VOp.ld true 4 (A.t 2))) [] [], DS.mk 2 true (VI.op (some 7) none (VOp.ld true 4 (A.t 3))) [] [], DS.mk 5 true (VI.op (some 10) none (VOp.p (POp.ixa 4 4 (A.g 0) (A.c (V.int IntKind.i64 2))))) [] [], DS.mk 6 true (VI.op (some 11) none (VOp.ld true 4 (A.t 10))) [] [], DS.mk 1 false (VI.call (some 6) none (Cal.fn 21) [A.t 5]) [3, 10] [], DS.mk 3 false (VI.call (some 8) none (Cal.fn 21) [A.t 7]) [10] [], DS.mk 4 false (VI.call (some 9) none (Cal.fn 22) [A.t 6, A.t 8]) [10] [], DS.mk 7 false (VI.call (some 12) none (Cal.fn 22) [A.t 9, A.t 11]) [] [], DS.mk 8 false (VI.op none none (VOp.st 4 (A.t 4) (A.t 12))) [] []]
def v14 : VC := VC.seq (VC.reg v14_0) (VC.seq (VC.drw v14_1) VC.ret)
def r14 : List RV := [RV.m 4 true 4]
theorem code14 : (Tryd.f14.body).bind (cCode Tryd.prog) = some v14 := by kernel_rfl
theorem res14 : cRVs Tryd.prog (Tryd.f14.results.toList) = some r14 := by kernel_rfl
theorem nt14 : Tryd.f14.ntmps = 13 := by kernel_rfl
theorem nm14 : (Tryd.f14.name == "runtime.NumGoroutine") = false := by kernel_rfl

/-! "(veil/veilref02.Scalar).IsZero" -/
def v15_0 : List VI := [VI.op (some 1) none (VOp.box (A.t 0)), VI.op (some 2) none (VOp.p (POp.mov (A.c (V.bool false))))]
def v15_1 : List VI := [VI.op (some 3) none (VOp.ld true 4 (A.t 1)), VI.op (some 4) none (VOp.p (POp.bld [V.int IntKind.u64 (nl 0), V.int IntKind.u64 (nl 0), V.int IntKind.u64 (nl 0), V.int IntKind.u64 (nl 0)] [])), VI.op (some 5) none (VOp.p (POp.eqa false [EqK.i, EqK.i, EqK.i, EqK.i] (A.t 3) (A.t 4))), VI.op (some 2) none (VOp.p (POp.mov (A.t 5)))]
def v15 : VC := VC.seq (VC.reg v15_0) (VC.seq (VC.reg v15_1) VC.ret)
def r15 : List RV := [RV.t 2]
theorem code15 : (Tryd.f15.body).bind (cCode Tryd.prog) = some v15 := by kernel_rfl
theorem res15 : cRVs Tryd.prog (Tryd.f15.results.toList) = some r15 := by kernel_rfl
theorem nt15 : Tryd.f15.ntmps = 6 := by kernel_rfl
theorem nm15 : (Tryd.f15.name == "runtime.NumGoroutine") = false := by kernel_rfl

/-! "veil/veilref02.Int" -/
def v16_0 : List VI := [VI.op (some 2) none (VOp.new [V.int IntKind.u64 (nl 0), V.int IntKind.u64 (nl 0), V.int IntKind.u64 (nl 0), V.int IntKind.u64 (nl 0)])]
def v16_1 : List VI := [VI.op (some 3) none (VOp.p (POp.mov (A.t 0))), VI.op (some 4) none (VOp.p (POp.bld [V.int IntKind.u64 (nl 0), V.int IntKind.u64 (nl 0), V.int IntKind.u64 (nl 0), V.int IntKind.u64 (nl 0)] [(0, 1, A.t 3), (1, 1, A.c (V.int IntKind.u64 (nl 0))), (2, 1, A.c (V.int IntKind.u64 (nl 0))), (3, 1, A.c (V.int IntKind.u64 (nl 0)))])), VI.op none none (VOp.st 4 (A.t 2) (A.t 4))]
def v16 : VC := VC.seq (VC.reg v16_0) (VC.seq (VC.reg v16_1) VC.ret)
def r16 : List RV := [RV.m 2 true 4]
theorem code16 : (Tryd.f16.body).bind (cCode Tryd.prog) = some v16 := by kernel_rfl
theorem res16 : cRVs Tryd.prog (Tryd.f16.results.toList) = some r16 := by kernel_rfl
theorem nt16 : Tryd.f16.ntmps = 5 := by kernel_rfl
theorem nm16 : (Tryd.f16.name == "runtime.NumGoroutine") = false := by kernel_rfl

/-! "(veil/veilref02.Scalar).Invert" -/
def v17_0 : List VI := [VI.op (some 1) none (VOp.box (A.t 0)), VI.op (some 2) none (VOp.new [V.int IntKind.u64 (nl 0), V.int IntKind.u64 (nl 0), V.int IntKind.u64 (nl 0), V.int IntKind.u64 (nl 0)])]
def v17_1 : List VI := [VI.op (some 8) none (VOp.ld true 4 (A.t 1)), VI.call (some 9) none (Cal.fn 15) [A.t 8]]
def v17_2 : List VI := [VI.op (some 10) none (VOp.ld true 4 (A.t 1)), VI.op none none (VOp.st 4 (A.t 2) (A.t 10))]
def v17_3 : List VI := [VI.op (some 11) none (VOp.ld true 4 (A.t 1)), VI.op (some 3) none (VOp.new [V.int IntKind.u64 (nl 0), V.int IntKind.u64 (nl 0), V.int IntKind.u64 (nl 0), V.int IntKind.u64 (nl 0)]), VI.op none none (VOp.st 4 (A.t 3) (A.t 11))]
def v17_4 : List VI := [VI.call (some 12) none (Cal.fn 23) [], VI.op (some 4) none (VOp.new [V.int IntKind.u64 (nl 0), V.int IntKind.u64 (nl 0), V.int IntKind.u64 (nl 0), V.int IntKind.u64 (nl 0)]), VI.op none none (VOp.st 4 (A.t 4) (A.t 12))]
def v17_5 : List VI := [VI.call (some 13) none (Cal.fn 16) [A.c (V.int IntKind.u64 (nl 1))], VI.op (some 5) none (VOp.new [V.int IntKind.u64 (nl 0), V.int IntKind.u64 (nl 0), V.int IntKind.u64 (nl 0), V.int IntKind.u64 (nl 0)]), VI.op none none (VOp.st 4 (A.t 5) (A.t 13))]
def v17_6 : List VI := [VI.op (some 14) none (VOp.p (POp.bld [V.int IntKind.u64 (nl 0), V.int IntKind.u64 (nl 0), V.int IntKind.u64 (nl 0), V.int IntKind.u64 (nl 0)] [])), VI.op (some 6) none (VOp.new [V.int IntKind.u64 (nl 0), V.int IntKind.u64 (nl 0), V.int IntKind.u64 (nl 0), V.int IntKind.u64 (nl 0)]), VI.op none none (VOp.st 4 (A.t 6) (A.t 14))]
def v17_7 : List VI := [VI.call (some 15) none (Cal.fn 16) [A.c (V.int IntKind.u64 (nl 1))], VI.op (some 7) none (VOp.new [V.int IntKind.u64 (nl 0), V.int IntKind.u64 (nl 0), V.int IntKind.u64 (nl 0), V.int IntKind.u64 (nl 0)]), VI.op none none (VOp.st 4 (A.t 7) (A.t 15))]
def v17_8 : List VI := [VI.op (some 16) none (VOp.ld true 4 (A.t 3)), VI.op (some 17) none (VOp.ld true 4 (A.t 7)), VI.op (some 18) none (VOp.p (POp.eqa true [EqK.i, EqK.i, EqK.i, EqK.i] (A.t 16) (A.t 17))), VI.op (some 19) none (VOp.p (POp.mov (A.t 18))), VI.op (some 20) (some (19, true)) (VOp.ld true 4 (A.t 4)), VI.op (some 21) (some (19, true)) (VOp.ld true 4 (A.t 7)), VI.op (some 22) (some (19, true)) (VOp.p (POp.eqa true [EqK.i, EqK.i, EqK.i, EqK.i] (A.t 20) (A.t 21))), VI.op (some 23) none (VOp.p (POp.pick (A.t 19) (A.t 22) (A.c (V.bool false))))]
def v17_9 : List VI := [VI.op (some 24) none (VOp.p (POp.ixa 4 1 (A.t 3) (A.c (V.int IntKind.i64 0)))), VI.op (some 25) none (VOp.ld false 1 (A.t 24)), VI.op (some 26) none (VOp.p (POp.bin BinOp.and (A.t 25) (A.c (V.int IntKind.u64 (nl 1))))), VI.op (some 27) none (VOp.p (POp.eq false EqK.i (A.t 26) (A.c (V.int IntKind.u64 (nl 0)))))]
def v17_10 : List VI := [VI.op (some 28) none (VOp.ld true 4 (A.t 3)), VI.call (some 29) none (Cal.fn 24) [A.t 28], VI.op none none (VOp.st 4 (A.t 3) (A.t 29))]
def v17_11 : List VI := [VI.op (some 30) none (VOp.ld true 4 (A.t 5)), VI.call (some 31) none (Cal.fn 24) [A.t 30], VI.op none none (VOp.st 4 (A.t 5) (A.t 31))]
def v17_12 : VC := VC.seq (VC.reg v17_10) (VC.reg v17_11)
def v17_13 : VC := VC.seq (VC.seq (VC.reg v17_9) (VC.cond (A.t 27) VC.skip (VC.exit 2))) (VC.block 3 v17_12)
def v17_14 : VC := VC.loop v17_13
def v17_15 : List VI := [VI.op (some 32) none (VOp.p (POp.ixa 4 1 (A.t 4) (A.c (V.int IntKind.i64 0)))), VI.op (some 33) none (VOp.ld false 1 (A.t 32)), VI.op (some 34) none (VOp.p (POp.bin BinOp.and (A.t 33) (A.c (V.int IntKind.u64 (nl 1))))), VI.op (some 35) none (VOp.p (POp.eq false EqK.i (A.t 34) (A.c (V.int IntKind.u64 (nl 0)))))]
def v17_16 : List VI := [VI.op (some 36) none (VOp.ld true 4 (A.t 4)), VI.call (some 37) none (Cal.fn 24) [A.t 36], VI.op none none (VOp.st 4 (A.t 4) (A.t 37))]
def v17_17 : List VI := [VI.op (some 38) none (VOp.ld true 4 (A.t 6)), VI.call (some 39) none (Cal.fn 24) [A.t 38], VI.op none none (VOp.st 4 (A.t 6) (A.t 39))]
def v17_18 : VC := VC.seq (VC.reg v17_16) (VC.reg v17_17)
def v17_19 : VC := VC.seq (VC.seq (VC.reg v17_15) (VC.cond (A.t 35) VC.skip (VC.exit 4))) (VC.block 5 v17_18)
def v17_20 : VC := VC.loop v17_19
def v17_21 : List VI := [VI.op (some 40) none (VOp.ld true 4 (A.t 3)), VI.op (some 41) none (VOp.ld true 4 (A.t 4)), VI.call (some 42) none (Cal.fn 25) [A.t 40, A.t 41]]
def v17_22 : List VI := [VI.op (some 44) none (VOp.ld true 4 (A.t 4)), VI.op (some 45) none (VOp.ld true 4 (A.t 3)), VI.call (some 46) none (Cal.fn 26) [A.t 44, A.t 45], VI.op (some 43) none (VOp.p (POp.mov (A.t 46))), VI.op (some 47) none (VOp.p (POp.ext (A.t 43) 0)), VI.op (some 48) none (VOp.p (POp.ext (A.t 43) 1)), VI.op none none (VOp.st 4 (A.t 4) (A.t 47))]
def v17_23 : List VI := [VI.op (some 49) none (VOp.ld true 4 (A.t 6)), VI.op (some 50) none (VOp.ld true 4 (A.t 5)), VI.call (some 51) none (Cal.fn 27) [A.t 49, A.t 50], VI.op none none (VOp.st 4 (A.t 6) (A.t 51))]
def v17_24 : List VI := [VI.op (some 53) none (VOp.ld true 4 (A.t 3)), VI.op (some 54) none (VOp.ld true 4 (A.t 4)), VI.call (some 55) none (Cal.fn 26) [A.t 53, A.t 54], VI.op (some 52) none (VOp.p (POp.mov (A.t 55))), VI.op (some 56) none (VOp.p (POp.ext (A.t 52) 0)), VI.op (some 57) none (VOp.p (POp.ext (A.t 52) 1)), VI.op none none (VOp.st 4 (A.t 3) (A.t 56))]
def v17_25 : List VI := [VI.op (some 58) none (VOp.ld true 4 (A.t 5)), VI.op (some 59) none (VOp.ld true 4 (A.t 6)), VI.call (some 60) none (Cal.fn 27) [A.t 58, A.t 59], VI.op none none (VOp.st 4 (A.t 5) (A.t 60))]
def v17_26 : VC := VC.seq (VC.block 2 v17_14) (VC.seq (VC.block 4 v17_20) (VC.seq (VC.reg v17_21) (VC.cond (A.t 42) (VC.seq (VC.reg v17_22) (VC.reg v17_23)) (VC.seq (VC.reg v17_24) (VC.reg v17_25)))))
def v17_27 : VC := VC.seq (VC.seq (VC.reg v17_8) (VC.cond (A.t 23) VC.skip (VC.exit 0))) (VC.block 1 v17_26)
def v17_28 : VC := VC.loop v17_27
def v17_29 : List VI := [VI.op (some 61) none (VOp.ld true 4 (A.t 3)), VI.op (some 62) none (VOp.ld true 4 (A.t 7)), VI.op (some 63) none (VOp.p (POp.eqa false [EqK.i, EqK.i, EqK.i, EqK.i] (A.t 61) (A.t 62)))]
def v17_30 : List VI := [VI.op (some 64) none (VOp.ld true 4 (A.t 5)), VI.op none none (VOp.st 4 (A.t 2) (A.t 64))]
def v17_31 : List VI := [VI.op (some 65) none (VOp.ld true 4 (A.t 6)), VI.op none none (VOp.st 4 (A.t 2) (A.t 65))]
def v17 : VC := VC.seq (VC.reg v17_0) (VC.seq (VC.seq (VC.reg v17_1) (VC.cond (A.t 9) (VC.seq (VC.reg v17_2) VC.ret) VC.skip)) (VC.seq (VC.reg v17_3) (VC.seq (VC.reg v17_4) (VC.seq (VC.reg v17_5) (VC.seq (VC.reg v17_6) (VC.seq (VC.reg v17_7) (VC.seq (VC.block 0 v17_28) (VC.seq (VC.seq (VC.reg v17_29) (VC.cond (A.t 63) (VC.seq (VC.reg v17_30) VC.ret) VC.skip)) (VC.seq (VC.reg v17_31) VC.ret)))))))))
def r17 : List RV := [RV.m 2 true 4]
theorem code17 : (Tryd.f17.body).bind (cCode Tryd.prog) = some v17 := by kernel_rfl
theorem res17 : cRVs Tryd.prog (Tryd.f17.results.toList) = some r17 := by kernel_rfl
theorem nt17 : Tryd.f17.ntmps = 66 := by kernel_rfl
theorem nm17 : (Tryd.f17.name == "runtime.NumGoroutine") = false := by kernel_rfl

/-! "(veil/veilref02.Scalar).Mul" -/
def v18_0 : List VI := [VI.op (some 2) none (VOp.box (A.t 0)), VI.op (some 3) none (VOp.box (A.t 1)), VI.op (some 4) none (VOp.new [V.int IntKind.u64 (nl 0), V.int IntKind.u64 (nl 0), V.int IntKind.u64 (nl 0), V.int IntKind.u64 (nl 0)])]
def v18_1 : List VI := [VI.op (some 14) none (VOp.ld true 4 (A.t 2)), VI.call (some 15) none (Cal.fn 28) [A.t 14], VI.op (some 5) none (VOp.new [V.int IntKind.u64 (nl 0), V.int IntKind.u64 (nl 0), V.int IntKind.u64 (nl 0), V.int IntKind.u64 (nl 0), V.int IntKind.u64 (nl 0), V.int IntKind.u64 (nl 0), V.int IntKind.u64 (nl 0), V.int IntKind.u64 (nl 0)]), VI.op none none (VOp.st 8 (A.t 5) (A.t 15))]
def v18_2 : List VI := [VI.op (some 16) none (VOp.ld true 4 (A.t 3)), VI.call (some 17) none (Cal.fn 28) [A.t 16], VI.op (some 6) none (VOp.new [V.int IntKind.u64 (nl 0), V.int IntKind.u64 (nl 0), V.int IntKind.u64 (nl 0), V.int IntKind.u64 (nl 0), V.int IntKind.u64 (nl 0), V.int IntKind.u64 (nl 0), V.int IntKind.u64 (nl 0), V.int IntKind.u64 (nl 0)]), VI.op none none (VOp.st 8 (A.t 6) (A.t 17))]
def v18_3 : List VI := [VI.op (some 7) none (VOp.new [V.int IntKind.u64 (nl 0), V.int IntKind.u64 (nl 0), V.int IntKind.u64 (nl 0), V.int IntKind.u64 (nl 0), V.int IntKind.u64 (nl 0), V.int IntKind.u64 (nl 0), V.int IntKind.u64 (nl 0), V.int IntKind.u64 (nl 0), V.int IntKind.u64 (nl 0), V.int IntKind.u64 (nl 0), V.int IntKind.u64 (nl 0), V.int IntKind.u64 (nl 0), V.int IntKind.u64 (nl 0), V.int IntKind.u64 (nl 0), V.int IntKind.u64 (nl 0), V.int IntKind.u64 (nl 0)])]
def v18_4 : List VI := [VI.op (some 8) none (VOp.p (POp.mov (A.c (V.int IntKind.i64 0))))]
def v18_5 : List VI := [VI.op (some 18) none (VOp.p (POp.mov (A.t 8))), VI.op (some 19) none (VOp.p (POp.bin BinOp.lss (A.t 18) (A.c (V.int IntKind.i64 8))))]
def v18_6 : List VI := [VI.op (some 9) none (VOp.p (POp.mov (A.c (V.int IntKind.u64 (nl 0)))))]
def v18_7 : List VI := [VI.op (some 10) none (VOp.p (POp.mov (A.c (V.int IntKind.i64 0))))]
def v18_8 : List VI := [VI.op (some 22) none (VOp.p (POp.mov (A.t 10))), VI.op (some 23) none (VOp.p (POp.bin BinOp.lss (A.t 22) (A.c (V.int IntKind.i64 8))))]
def v18_9 : List DS := [DS.mk 0 true (VI.op (some 26) none (VOp.p (POp.mov (A.t 8)))) [] [], DS.mk 1 true (VI.op (some 27) none (VOp.p (POp.ixa 8 1 (A.t 5) (A.t 26)))) [] [], DS.mk 2 true (VI.op (some 28) none (VOp.ld false 1 (A.t 27))) [] [], DS.mk 3 true (VI.op (some 29) none (VOp.p (POp.mov (A.t 10)))) [] [], DS.mk 4 true (VI.op (some 30) none (VOp.p (POp.ixa 8 1 (A.t 6) (A.t 29)))) [] [], DS.mk 5 true (VI.op (some 31) none (VOp.ld false 1 (A.t 30))) [] [], DS.mk 6 true (VI.op (some 32) none (VOp.p (POp.bin BinOp.mul (A.t 28) (A.t 31)))) [] [], DS.mk 7 true (VI.op (some 33) none (VOp.p (POp.mov (A.t 8)))) [] [], DS.mk 8 true (VI.op (some 34) none (VOp.p (POp.mov (A.t 10)))) [] [], DS.mk 9 true (VI.op (some 35) none (VOp.p (POp.bin BinOp.add (A.t 33) (A.t 34)))) [] [], DS.mk 10 true (VI.op (some 36) none (VOp.p (POp.ixa 16 1 (A.t 7) (A.t 35)))) [] [], DS.mk 11 true (VI.op (some 37) none (VOp.ld false 1 (A.t 36))) [] [], DS.mk 12 true (VI.op (some 38) none (VOp.p (POp.bin BinOp.add (A.t 32) (A.t 37)))) [] [], DS.mk 13 true (VI.op (some 39) none (VOp.p (POp.mov (A.t 9)))) [] [], DS.mk 14 true (VI.op (some 40) none (VOp.p (POp.bin BinOp.add (A.t 38) (A.t 39)))) [] [], DS.mk 15 false (VI.op (some 11) none (VOp.p (POp.mov (A.t 40)))) [] []]
def v18_10 : List VI := [VI.op (some 41) none (VOp.p (POp.mov (A.t 8))), VI.op (some 42) none (VOp.p (POp.mov (A.t 10))), VI.op (some 43) none (VOp.p (POp.bin BinOp.add (A.t 41) (A.t 42))), VI.op (some 44) none (VOp.p (POp.mov (A.t 11))), VI.op (some 45) none (VOp.p (POp.bin BinOp.and (A.t 44) (A.c (V.int IntKind.u64 (nl 4294967295))))), VI.op (some 46) none (VOp.p (POp.ixa 16 1 (A.t 7) (A.t 43))), VI.op none none (VOp.st 1 (A.t 46) (A.t 45))]
def v18_11 : List VI := [VI.op (some 47) none (VOp.p (POp.mov (A.t 11))), VI.op (some 48) none (VOp.p (POp.bin BinOp.shr (A.t 47) (A.c (V.int IntKind.u64 (nl 32))))), VI.op (some 9) none (VOp.p (POp.mov (A.t 48)))]
def v18_12 : VC := VC.seq (VC.drw v18_9) (VC.seq (VC.reg v18_10) (VC.reg v18_11))
def v18_13 : List VI := [VI.op (some 24) none (VOp.p (POp.mov (A.t 10))), VI.op (some 25) none (VOp.p (POp.bin BinOp.add (A.t 24) (A.c (V.int IntKind.i64 1)))), VI.op (some 10) none (VOp.p (POp.mov (A.t 25)))]
def v18_14 : VC := VC.seq (VC.seq (VC.reg v18_8) (VC.cond (A.t 23) VC.skip (VC.exit 2))) (VC.seq (VC.block 3 v18_12) (VC.reg v18_13))
def v18_15 : VC := VC.loop v18_14
def v18_16 : List VI := [VI.op (some 49) none (VOp.p (POp.mov (A.t 8))), VI.op (some 50) none (VOp.p (POp.bin BinOp.add (A.t 49) (A.c (V.int IntKind.i64 8)))), VI.op (some 51) none (VOp.p (POp.mov (A.t 9))), VI.op (some 52) none (VOp.p (POp.ixa 16 1 (A.t 7) (A.t 50))), VI.op none none (VOp.st 1 (A.t 52) (A.t 51))]
def v18_17 : VC := VC.seq (VC.reg v18_6) (VC.seq (VC.seq (VC.reg v18_7) (VC.block 2 v18_15)) (VC.reg v18_16))
def v18_18 : List VI := [VI.op (some 20) none (VOp.p (POp.mov (A.t 8))), VI.op (some 21) none (VOp.p (POp.bin BinOp.add (A.t 20) (A.c (V.int IntKind.i64 1)))), VI.op (some 8) none (VOp.p (POp.mov (A.t 21)))]
def v18_19 : VC := VC.seq (VC.seq (VC.reg v18_5) (VC.cond (A.t 19) VC.skip (VC.exit 0))) (VC.seq (VC.block 1 v18_17) (VC.reg v18_18))
def v18_20 : VC := VC.loop v18_19
def v18_21 : List VI := [VI.op (some 12) none (VOp.new [V.int IntKind.u64 (nl 0), V.int IntKind.u64 (nl 0), V.int IntKind.u64 (nl 0), V.int IntKind.u64 (nl 0)])]
def v18_22 : List VI := [VI.op (some 13) none (VOp.p (POp.mov (A.c (V.int IntKind.i64 15))))]
def v18_23 : List VI := [VI.op (some 53) none (VOp.p (POp.mov (A.t 13))), VI.op (some 54) none (VOp.p (POp.bin BinOp.geq (A.t 53) (A.c (V.int IntKind.i64 0))))]
def v18_24 : List DS := [DS.mk 0 true (VI.op (some 57) none (VOp.ld true 4 (A.t 12))) [] [], DS.mk 1 true (VI.op (some 58) none (VOp.p (POp.mov (A.t 13)))) [] [], DS.mk 2 true (VI.op (some 59) none (VOp.p (POp.ixa 16 1 (A.t 7) (A.t 58)))) [] [], DS.mk 3 true (VI.op (some 60) none (VOp.ld false 1 (A.t 59))) [] [], DS.mk 4 true (VI.op (some 61) none (VOp.p (POp.bin BinOp.shr (A.t 60) (A.c (V.int IntKind.u64 (nl 16)))))) [] [], DS.mk 5 false (VI.call (some 62) none (Cal.fn 29) [A.t 57, A.t 61]) [] [], DS.mk 6 false (VI.op none none (VOp.st 4 (A.t 12) (A.t 62))) [] []]
def v18_25 : List DS := [DS.mk 0 true (VI.op (some 63) none (VOp.ld true 4 (A.t 12))) [] [], DS.mk 1 true (VI.op (some 64) none (VOp.p (POp.mov (A.t 13)))) [] [], DS.mk 2 true (VI.op (some 65) none (VOp.p (POp.ixa 16 1 (A.t 7) (A.t 64)))) [] [], DS.mk 3 true (VI.op (some 66) none (VOp.ld false 1 (A.t 65))) [] [], DS.mk 4 true (VI.op (some 67) none (VOp.p (POp.bin BinOp.and (A.t 66) (A.c (V.int IntKind.u64 (nl 65535)))))) [] [], DS.mk 5 false (VI.call (some 68) none (Cal.fn 29) [A.t 63, A.t 67]) [] [], DS.mk 6 false (VI.op none none (VOp.st 4 (A.t 12) (A.t 68))) [] []]
def v18_26 : VC := VC.seq (VC.drw v18_24) (VC.drw v18_25)
def v18_27 : List VI := [VI.op (some 55) none (VOp.p (POp.mov (A.t 13))), VI.op (some 56) none (VOp.p (POp.bin BinOp.sub (A.t 55) (A.c (V.int IntKind.i64 1)))), VI.op (some 13) none (VOp.p (POp.mov (A.t 56)))]
def v18_28 : VC := VC.seq (VC.seq (VC.reg v18_23) (VC.cond (A.t 54) VC.skip (VC.exit 4))) (VC.seq (VC.block 5 v18_26) (VC.reg v18_27))
def v18_29 : VC := VC.loop v18_28
def v18_30 : List VI := [VI.op (some 69) none (VOp.ld true 4 (A.t 12)), VI.op none none (VOp.st 4 (A.t 4) (A.t 69))]
def v18 : VC := VC.seq (VC.reg v18_0) (VC.seq (VC.reg v18_1) (VC.seq (VC.reg v18_2) (VC.seq (VC.reg v18_3) (VC.seq (VC.seq (VC.reg v18_4) (VC.block 0 v18_20)) (VC.seq (VC.reg v18_21) (VC.seq (VC.seq (VC.reg v18_22) (VC.block 4 v18_29)) (VC.seq (VC.reg v18_30) VC.ret)))))))
def r18 : List RV := [RV.m 4 true 4]
theorem code18 : (Tryd.f18.body).bind (cCode Tryd.prog) = some v18 := by kernel_rfl
theorem res18 : cRVs Tryd.prog (Tryd.f18.results.toList) = some r18 := by kernel_rfl
theorem nt18 : Tryd.f18.ntmps = 70 := by kernel_rfl
theorem nm18 : (Tryd.f18.name == "runtime.NumGoroutine") = false := by kernel_rfl

/-! "veil/veilref02.Least" -/
def v19_0 : List VI := [VI.op (some 1) none (VOp.box (A.t 0)), VI.op (some 2) none (VOp.new [V.int IntKind.u64 (nl 0), V.int IntKind.u64 (nl 0), V.int IntKind.u64 (nl 0), V.int IntKind.u64 (nl 0)])]
def v19_1 : List VI := [VI.op (some 3) none (VOp.p (POp.mov (A.c V.nils)))]
def v19_2 : List VI := [VI.op (some 4) none (VOp.p (POp.mov (A.c (V.int IntKind.i64 0))))]
def v19_3 : List VI := [VI.op (some 5) none (VOp.p (POp.mov (A.t 4))), VI.op (some 6) none (VOp.p (POp.bin BinOp.lss (A.t 5) (A.c (V.int IntKind.i64 4))))]
def v19_4 : List DS := [DS.mk 0 true (VI.op (some 9) none (VOp.p (POp.mov (A.t 3)))) [] [], DS.mk 1 true (VI.op (some 10) none (VOp.p (POp.mov (A.t 4)))) [] [], DS.mk 2 true (VI.op (some 11) none (VOp.p (POp.ixa 4 1 (A.t 1) (A.t 10)))) [] [], DS.mk 3 true (VI.op (some 12) none (VOp.ld false 1 (A.t 11))) [] [], DS.mk 4 true (VI.op (some 13) none (VOp.p (POp.bin BinOp.and (A.t 12) (A.c (V.int IntKind.u64 (nl 65535)))))) [] [], DS.mk 5 true (VI.op (some 14) none (VOp.p (POp.mov (A.t 4)))) [] [], DS.mk 6 true (VI.op (some 15) none (VOp.p (POp.ixa 4 1 (A.t 1) (A.t 14)))) [] [], DS.mk 7 true (VI.op (some 16) none (VOp.ld false 1 (A.t 15))) [] [], DS.mk 8 true (VI.op (some 17) none (VOp.p (POp.bin BinOp.shr (A.t 16) (A.c (V.int IntKind.u64 (nl 16)))))) [] [], DS.mk 9 true (VI.op (some 18) none (VOp.p (POp.bin BinOp.and (A.t 17) (A.c (V.int IntKind.u64 (nl 65535)))))) [] [], DS.mk 10 true (VI.op (some 19) none (VOp.p (POp.mov (A.t 4)))) [] [], DS.mk 11 true (VI.op (some 20) none (VOp.p (POp.ixa 4 1 (A.t 1) (A.t 19)))) [] [], DS.mk 12 true (VI.op (some 21) none (VOp.ld false 1 (A.t 20))) [] [], DS.mk 13 true (VI.op (some 22) none (VOp.p (POp.bin BinOp.shr (A.t 21) (A.c (V.int IntKind.u64 (nl 32)))))) [] [], DS.mk 14 true (VI.op (some 23) none (VOp.p (POp.bin BinOp.and (A.t 22) (A.c (V.int IntKind.u64 (nl 65535)))))) [] [], DS.mk 15 true (VI.op (some 24) none (VOp.p (POp.mov (A.t 4)))) [] [], DS.mk 16 true (VI.op (some 25) none (VOp.p (POp.ixa 4 1 (A.t 1) (A.t 24)))) [] [], DS.mk 17 true (VI.op (some 26) none (VOp.ld false 1 (A.t 25))) [] [], DS.mk 18 true (VI.op (some 27) none (VOp.p (POp.bin BinOp.shr (A.t 26) (A.c (V.int IntKind.u64 (nl 48)))))) [] [], DS.mk 19 true (VI.op (some 28) none (VOp.bsl 4 [V.int IntKind.u64 (nl 0), V.int IntKind.u64 (nl 0), V.int IntKind.u64 (nl 0), V.int IntKind.u64 (nl 0)] [(0, 1, A.t 13), (1, 1, A.t 18), (2, 1, A.t 23), (3, 1, A.t 27)])) [] [], DS.mk 20 false (VI.op (some 29) none (VOp.app 1 8 false (A.t 9) (A.t 28))) [] [], DS.mk 21 false (VI.op (some 3) none (VOp.p (POp.mov (A.t 29)))) [] []]
def v19_5 : VC := VC.drw v19_4
def v19_6 : List VI := [VI.op (some 7) none (VOp.p (POp.mov (A.t 4))), VI.op (some 8) none (VOp.p (POp.bin BinOp.add (A.t 7) (A.c (V.int IntKind.i64 1)))), VI.op (some 4) none (VOp.p (POp.mov (A.t 8)))]
def v19_7 : VC := VC.seq (VC.seq (VC.reg v19_3) (VC.cond (A.t 6) VC.skip (VC.exit 0))) (VC.seq (VC.block 1 v19_5) (VC.reg v19_6))
def v19_8 : VC := VC.loop v19_7
def v19_9 : List VI := [VI.op (some 30) none (VOp.p (POp.mov (A.t 3))), VI.call (some 31) none (Cal.fn 30) [A.t 30], VI.op none none (VOp.st 4 (A.t 2) (A.t 31))]
def v19 : VC := VC.seq (VC.reg v19_0) (VC.seq (VC.reg v19_1) (VC.seq (VC.seq (VC.reg v19_2) (VC.block 0 v19_8)) (VC.seq (VC.reg v19_9) VC.ret)))
def r19 : List RV := [RV.m 2 true 4]
theorem code19 : (Tryd.f19.body).bind (cCode Tryd.prog) = some v19 := by kernel_rfl
theorem res19 : cRVs Tryd.prog (Tryd.f19.results.toList) = some r19 := by kernel_rfl
theorem nt19 : Tryd.f19.ntmps = 32 := by kernel_rfl
theorem nm19 : (Tryd.f19.name == "runtime.NumGoroutine") = false := by kernel_rfl

/-! "veil/veillaw12.isScalar" -/
def v20_0 : List VI := [VI.op (some 2) none (VOp.box (A.t 0)), VI.op (some 3) none (VOp.box (A.t 1)), VI.op (some 4) none (VOp.p (POp.mov (A.c (V.bool false))))]
def v20_1 : List DS := [DS.mk 0 true (VI.op (some 5) none (VOp.ld true 4 (A.t 2))) [] [], DS.mk 2 true (VI.op (some 7) none (VOp.ld true 4 (A.t 3))) [] [], DS.mk 1 false (VI.call (some 6) none (Cal.fn 19) [A.t 5]) [3] [], DS.mk 3 true (VI.op (some 8) none (VOp.p (POp.eqa false [EqK.i, EqK.i, EqK.i, EqK.i] (A.t 6) (A.t 7)))) [] [], DS.mk 4 false (VI.op (some 4) none (VOp.p (POp.mov (A.t 8)))) [] []]
def v20 : VC := VC.seq (VC.reg v20_0) (VC.seq (VC.drw v20_1) VC.ret)
def r20 : List RV := [RV.t 4]
theorem code20 : (Tryd.f20.body).bind (cCode Tryd.prog) = some v20 := by kernel_rfl
theorem res20 : cRVs Tryd.prog (Tryd.f20.results.toList) = some r20 := by kernel_rfl
theorem nt20 : Tryd.f20.ntmps = 9 := by kernel_rfl
theorem nm20 : (Tryd.f20.name == "runtime.NumGoroutine") = false := by kernel_rfl

/-! "(veil/scalar.Scalar).Least" -/
def v21_0 : List VI := [VI.op (some 1) none (VOp.box (A.t 0)), VI.op (some 2) none (VOp.new [V.int IntKind.u64 (nl 0), V.int IntKind.u64 (nl 0), V.int IntKind.u64 (nl 0), V.int IntKind.u64 (nl 0)])]
def v21_1 : List VI := [VI.op (some 14) none (VOp.p (POp.ixa 4 1 (A.t 1) (A.c (V.int IntKind.i64 3)))), VI.op (some 15) none (VOp.ld false 1 (A.t 14)), VI.op (some 16) none (VOp.p (POp.bin BinOp.lss (A.t 15) (A.c (V.int IntKind.u64 (nl 1152921504606846976)))))]
def v21_2 : List VI := [VI.op (some 17) none (VOp.ld true 4 (A.t 1)), VI.op none none (VOp.st 4 (A.t 2) (A.t 17))]
def v21_3 : List VI := [VI.op (some 18) none (VOp.p (POp.ixa 4 1 (A.t 1) (A.c (V.int IntKind.i64 3)))), VI.op (some 19) none (VOp.ld false 1 (A.t 18)), VI.op (some 20) none (VOp.p (POp.bin BinOp.shr (A.t 19) (A.c (V.int IntKind.u64 (nl 60))))), VI.op (some 3) none (VOp.p (POp.mov (A.t 20)))]
def v21_4 : List VI := [VI.op (some 21) none (VOp.p (POp.ixa 4 1 (A.t 1) (A.c (V.int IntKind.i64 3)))), VI.op (some 22) none (VOp.ld false 1 (A.t 21)), VI.op (some 23) none (VOp.p (POp.bin BinOp.and (A.t 22) (A.c (V.int IntKind.u64 (nl 1152921504606846975))))), VI.op (some 24) none (VOp.p (POp.ixa 4 1 (A.t 1) (A.c (V.int IntKind.i64 3)))), VI.op none none (VOp.st 1 (A.t 24) (A.t 23))]
def v21_5 : List VI := [VI.op (some 4) none (VOp.new [V.int IntKind.u64 (nl 0), V.int IntKind.u64 (nl 0), V.int IntKind.u64 (nl 0), V.int IntKind.u64 (nl 0)])]
def v21_6 : List VI := [VI.op (some 26) none (VOp.p (POp.mov (A.t 3))), VI.op (some 27) none (VOp.p (POp.ixa 4 4 (A.g 0) (A.c (V.int IntKind.i64 0)))), VI.op (some 28) none (VOp.p (POp.ixa 4 1 (A.t 27) (A.c (V.int IntKind.i64 0)))), VI.op (some 29) none (VOp.ld false 1 (A.t 28)), VI.call (some 30) none (Cal.fn 31) [A.t 26, A.t 29], VI.op (some 25) none (VOp.p (POp.mov (A.t 30))), VI.op (some 31) none (VOp.p (POp.ext (A.t 25) 0)), VI.op (some 32) none (VOp.p (POp.ext (A.t 25) 1)), VI.op (some 5) none (VOp.p (POp.mov (A.t 31))), VI.op (some 6) none (VOp.p (POp.mov (A.t 32)))]
def v21_7 : List VI := [VI.op (some 33) none (VOp.p (POp.mov (A.t 6))), VI.op (some 34) none (VOp.p (POp.ixa 4 1 (A.t 4) (A.c (V.int IntKind.i64 0)))), VI.op none none (VOp.st 1 (A.t 34) (A.t 33))]
def v21_8 : List VI := [VI.op (some 36) none (VOp.p (POp.mov (A.t 3))), VI.op (some 37) none (VOp.p (POp.ixa 4 4 (A.g 0) (A.c (V.int IntKind.i64 0)))), VI.op (some 38) none (VOp.p (POp.ixa 4 1 (A.t 37) (A.c (V.int IntKind.i64 1)))), VI.op (some 39) none (VOp.ld false 1 (A.t 38)), VI.call (some 40) none (Cal.fn 31) [A.t 36, A.t 39], VI.op (some 35) none (VOp.p (POp.mov (A.t 40))), VI.op (some 41) none (VOp.p (POp.ext (A.t 35) 0)), VI.op (some 42) none (VOp.p (POp.ext (A.t 35) 1)), VI.op (some 7) none (VOp.p (POp.mov (A.t 41))), VI.op (some 8) none (VOp.p (POp.mov (A.t 42)))]
def v21_9 : List VI := [VI.op (some 9) none (VOp.p (POp.mov (A.c (V.int IntKind.u64 (nl 0)))))]
def v21_10 : List VI := [VI.op (some 44) none (VOp.p (POp.mov (A.t 8))), VI.op (some 45) none (VOp.p (POp.mov (A.t 5))), VI.call (some 46) none (Cal.fn 32) [A.t 44, A.t 45, A.c (V.int IntKind.u64 (nl 0))], VI.op (some 43) none (VOp.p (POp.mov (A.t 46))), VI.op (some 47) none (VOp.p (POp.ext (A.t 43) 0)), VI.op (some 48) none (VOp.p (POp.ext (A.t 43) 1)), VI.op (some 49) none (VOp.p (POp.ixa 4 1 (A.t 4) (A.c (V.int IntKind.i64 1)))), VI.op none none (VOp.st 1 (A.t 49) (A.t 47)), VI.op (some 9) none (VOp.p (POp.mov (A.t 48)))]
def v21_11 : List VI := [VI.op (some 50) none (VOp.p (POp.mov (A.t 7))), VI.op (some 51) none (VOp.p (POp.mov (A.t 9))), VI.op (some 52) none (VOp.p (POp.bin BinOp.add (A.t 50) (A.t 51))), VI.op (some 53) none (VOp.p (POp.ixa 4 1 (A.t 4) (A.c (V.int IntKind.i64 2)))), VI.op none none (VOp.st 1 (A.t 53) (A.t 52))]
def v21_12 : List VI := [VI.op (some 55) none (VOp.ld true 4 (A.t 1)), VI.op (some 56) none (VOp.ld true 4 (A.t 4)), VI.call (some 57) none (Cal.fn 33) [A.t 55, A.t 56], VI.op (some 54) none (VOp.p (POp.mov (A.t 57))), VI.op (some 58) none (VOp.p (POp.ext (A.t 54) 0)), VI.op (some 59) none (VOp.p (POp.ext (A.t 54) 1)), VI.op (some 10) none (VOp.new [V.int IntKind.u64 (nl 0), V.int IntKind.u64 (nl 0), V.int IntKind.u64 (nl 0), V.int IntKind.u64 (nl 0)]), VI.op none none (VOp.st 4 (A.t 10) (A.t 58)), VI.op (some 11) none (VOp.p (POp.mov (A.t 59)))]
def v21_13 : List VI := [VI.op (some 61) none (VOp.ld true 4 (A.t 10)), VI.op (some 62) none (VOp.p (POp.ixa 4 4 (A.g 0) (A.c (V.int IntKind.i64 0)))), VI.op (some 63) none (VOp.ld true 4 (A.t 62)), VI.call (some 64) none (Cal.fn 34) [A.t 61, A.t 63], VI.op (some 60) none (VOp.p (POp.mov (A.t 64))), VI.op (some 65) none (VOp.p (POp.ext (A.t 60) 0)), VI.op (some 66) none (VOp.p (POp.ext (A.t 60) 1)), VI.op (some 12) none (VOp.new [V.int IntKind.u64 (nl 0), V.int IntKind.u64 (nl 0), V.int IntKind.u64 (nl 0), V.int IntKind.u64 (nl 0)]), VI.op none none (VOp.st 4 (A.t 12) (A.t 65)), VI.op (some 13) none (VOp.p (POp.mov (A.t 66)))]
def v21_14 : List VI := [VI.op (some 67) none (VOp.p (POp.mov (A.t 11))), VI.op (some 68) none (VOp.p (POp.un UnOp.neg (A.t 67))), VI.op (some 69) none (VOp.ld true 4 (A.t 12)), VI.op (some 70) none (VOp.ld true 4 (A.t 10)), VI.call (some 71) none (Cal.fn 36) [A.t 68, A.t 69, A.t 70], VI.call (some 72) none (Cal.fn 35) [A.t 71], VI.op none none (VOp.st 4 (A.t 2) (A.t 72))]
def v21 : VC := VC.seq (VC.reg v21_0) (VC.seq (VC.seq (VC.reg v21_1) (VC.cond (A.t 16) (VC.seq (VC.reg v21_2) VC.ret) VC.skip)) (VC.seq (VC.reg v21_3) (VC.seq (VC.reg v21_4) (VC.seq (VC.reg v21_5) (VC.seq (VC.reg v21_6) (VC.seq (VC.reg v21_7) (VC.seq (VC.reg v21_8) (VC.seq (VC.reg v21_9) (VC.seq (VC.reg v21_10) (VC.seq (VC.reg v21_11) (VC.seq (VC.reg v21_12) (VC.seq (VC.reg v21_13) (VC.seq (VC.reg v21_14) VC.ret)))))))))))))
def r21 : List RV := [RV.m 2 true 4]
theorem code21 : (Tryd.f21.body).bind (cCode Tryd.prog) = some v21 := by kernel_rfl
theorem res21 : cRVs Tryd.prog (Tryd.f21.results.toList) = some r21 := by kernel_rfl
theorem nt21 : Tryd.f21.ntmps = 73 := by kernel_rfl
theorem nm21 : (Tryd.f21.name == "runtime.NumGoroutine") = false := by kernel_rfl

/-! "veil/scalar.product" -/
def v22_0 : List VI := [VI.op (some 2) none (VOp.box (A.t 0)), VI.op (some 3) none (VOp.box (A.t 1)), VI.op (some 4) none (VOp.new [V.int IntKind.u64 (nl 0), V.int IntKind.u64 (nl 0), V.int IntKind.u64 (nl 0), V.int IntKind.u64 (nl 0)])]
def v22_1 : List VI := [VI.op (some 5) none (VOp.new [V.int IntKind.u64 (nl 0), V.int IntKind.u64 (nl 0), V.int IntKind.u64 (nl 0), V.int IntKind.u64 (nl 0), V.int IntKind.u64 (nl 0)])]
def v22_2 : List VI := [VI.op (some 13) none (VOp.p (POp.mov (A.c (V.int IntKind.i64 0))))]
def v22_3 : List VI := [VI.op (some 14) none (VOp.p (POp.bin BinOp.lss (A.t 13) (A.c (V.int IntKind.i64 4))))]
def v22_4 : List VI := [VI.op (some 15) none (VOp.p (POp.mov (A.t 13))), VI.op (some 6) none (VOp.p (POp.mov (A.t 15)))]
def v22_5 : List VI := [VI.op (some 7) none (VOp.p (POp.mov (A.c (V.int IntKind.u64 (nl 0))))), VI.op (some 8) none (VOp.p (POp.mov (A.c (V.int IntKind.u64 (nl 0)))))]
def v22_6 : List VI := [VI.op (some 16) none (VOp.p (POp.mov (A.c (V.int IntKind.i64 0))))]
def v22_7 : List VI := [VI.op (some 17) none (VOp.p (POp.bin BinOp.lss (A.t 16) (A.c (V.int IntKind.i64 4))))]
def v22_8 : List VI := [VI.op (some 18) none (VOp.p (POp.mov (A.t 16))), VI.op (some 9) none (VOp.p (POp.mov (A.t 18)))]
def v22_9 : List DS := [DS.mk 0 true (VI.op (some 20) none (VOp.p (POp.mov (A.t 9)))) [] [], DS.mk 1 true (VI.op (some 21) none (VOp.p (POp.mov (A.t 9)))) [] [], DS.mk 2 true (VI.op (some 22) none (VOp.p (POp.ixa 4 1 (A.t 2) (A.t 21)))) [] [], DS.mk 3 true (VI.op (some 23) none (VOp.ld false 1 (A.t 22))) [] [], DS.mk 4 true (VI.op (some 24) none (VOp.p (POp.mov (A.t 6)))) [] [], DS.mk 5 true (VI.op (some 25) none (VOp.p (POp.ixa 4 1 (A.t 3) (A.t 24)))) [] [], DS.mk 6 true (VI.op (some 26) none (VOp.ld false 1 (A.t 25))) [] [], DS.mk 7 true (VI.op (some 27) none (VOp.p (POp.mov (A.t 9)))) [] [], DS.mk 8 true (VI.op (some 28) none (VOp.p (POp.ixa 5 1 (A.t 5) (A.t 27)))) [] [], DS.mk 9 true (VI.op (some 29) none (VOp.ld false 1 (A.t 28))) [] [], DS.mk 10 true (VI.op (some 30) none (VOp.p (POp.mov (A.t 7)))) [] [], DS.mk 11 false (VI.call (some 31) none (Cal.fn 37) [A.t 23, A.t 26, A.t 29, A.t 30]) [] [], DS.mk 12 true (VI.op (some 19) none (VOp.p (POp.mov (A.t 31)))) [] [], DS.mk 13 true (VI.op (some 32) none (VOp.p (POp.ext (A.t 19) 0))) [] [], DS.mk 14 true (VI.op (some 33) none (VOp.p (POp.ext (A.t 19) 1))) [] [], DS.mk 15 true (VI.op (some 34) none (VOp.p (POp.ixa 5 1 (A.t 5) (A.t 20)))) [] [], DS.mk 16 false (VI.op none none (VOp.st 1 (A.t 34) (A.t 32))) [] [], DS.mk 17 false (VI.op (some 7) none (VOp.p (POp.mov (A.t 33)))) [] []]
def v22_10 : VC := VC.seq (VC.reg v22_8) (VC.drw v22_9)
def v22_11 : List VI := [VI.op (some 35) none (VOp.p (POp.bin BinOp.add (A.t 16) (A.c (V.int IntKind.i64 1)))), VI.op (some 16) none (VOp.p (POp.mov (A.t 35)))]
def v22_12 : VC := VC.seq (VC.reg v22_7) (VC.seq (VC.cond (A.t 17) VC.skip (VC.exit 2)) (VC.seq (VC.block 3 v22_10) (VC.reg v22_11)))
def v22_13 : VC := VC.loop v22_12
def v22_14 : List VI := [VI.op (some 37) none (VOp.p (POp.ixa 5 1 (A.t 5) (A.c (V.int IntKind.i64 4)))), VI.op (some 38) none (VOp.ld false 1 (A.t 37)), VI.op (some 39) none (VOp.p (POp.mov (A.t 7))), VI.call (some 40) none (Cal.fn 32) [A.t 38, A.t 39, A.c (V.int IntKind.u64 (nl 0))], VI.op (some 36) none (VOp.p (POp.mov (A.t 40))), VI.op (some 41) none (VOp.p (POp.ext (A.t 36) 0)), VI.op (some 42) none (VOp.p (POp.ext (A.t 36) 1)), VI.op (some 43) none (VOp.p (POp.ixa 5 1 (A.t 5) (A.c (V.int IntKind.i64 4)))), VI.op none none (VOp.st 1 (A.t 43) (A.t 41)), VI.op (some 8) none (VOp.p (POp.mov (A.t 42)))]
def v22_15 : List VI := [VI.op (some 44) none (VOp.p (POp.mov (A.t 8))), VI.op (some 10) none (VOp.p (POp.mov (A.t 44)))]
def v22_16 : List VI := [VI.op (some 45) none (VOp.p (POp.ixa 5 1 (A.t 5) (A.c (V.int IntKind.i64 0)))), VI.op (some 46) none (VOp.ld false 1 (A.t 45)), VI.op (some 47) none (VOp.p (POp.bin BinOp.mul (A.t 46) (A.c (V.int IntKind.u64 (nl 15183074304973897243))))), VI.op (some 11) none (VOp.p (POp.mov (A.t 47)))]
def v22_17 : List VI := [VI.op (some 49) none (VOp.p (POp.mov (A.t 11))), VI.op (some 50) none (VOp.p (POp.ixa 4 4 (A.g 0) (A.c (V.int IntKind.i64 0)))), VI.op (some 51) none (VOp.p (POp.ixa 4 1 (A.t 50) (A.c (V.int IntKind.i64 0)))), VI.op (some 52) none (VOp.ld false 1 (A.t 51)), VI.op (some 53) none (VOp.p (POp.ixa 5 1 (A.t 5) (A.c (V.int IntKind.i64 0)))), VI.op (some 54) none (VOp.ld false 1 (A.t 53)), VI.call (some 55) none (Cal.fn 37) [A.t 49, A.t 52, A.t 54, A.c (V.int IntKind.u64 (nl 0))], VI.op (some 48) none (VOp.p (POp.mov (A.t 55))), VI.op (some 56) none (VOp.p (POp.ext (A.t 48) 0)), VI.op (some 57) none (VOp.p (POp.ext (A.t 48) 1)), VI.op (some 7) none (VOp.p (POp.mov (A.t 57)))]
def v22_18 : List VI := [VI.op (some 12) none (VOp.p (POp.mov (A.c (V.int IntKind.i64 1))))]
def v22_19 : List VI := [VI.op (some 58) none (VOp.p (POp.mov (A.t 12))), VI.op (some 59) none (VOp.p (POp.bin BinOp.lss (A.t 58) (A.c (V.int IntKind.i64 4))))]
def v22_20 : List DS := [DS.mk 0 true (VI.op (some 63) none (VOp.p (POp.mov (A.t 12)))) [] [], DS.mk 1 true (VI.op (some 64) none (VOp.p (POp.bin BinOp.sub (A.t 63) (A.c (V.int IntKind.i64 1))))) [] [], DS.mk 2 true (VI.op (some 65) none (VOp.p (POp.mov (A.t 11)))) [] [], DS.mk 3 true (VI.op (some 66) none (VOp.p (POp.mov (A.t 12)))) [] [], DS.mk 4 true (VI.op (some 67) none (VOp.p (POp.ixa 4 4 (A.g 0) (A.c (V.int IntKind.i64 0))))) [] [], DS.mk 5 true (VI.op (some 68) none (VOp.p (POp.ixa 4 1 (A.t 67) (A.t 66)))) [] [], DS.mk 6 true (VI.op (some 69) none (VOp.ld false 1 (A.t 68))) [] [], DS.mk 7 true (VI.op (some 70) none (VOp.p (POp.mov (A.t 12)))) [] [], DS.mk 8 true (VI.op (some 71) none (VOp.p (POp.ixa 5 1 (A.t 5) (A.t 70)))) [] [], DS.mk 9 true (VI.op (some 72) none (VOp.ld false 1 (A.t 71))) [] [], DS.mk 10 true (VI.op (some 73) none (VOp.p (POp.mov (A.t 7)))) [] [], DS.mk 11 false (VI.call (some 74) none (Cal.fn 37) [A.t 65, A.t 69, A.t 72, A.t 73]) [] [], DS.mk 12 true (VI.op (some 62) none (VOp.p (POp.mov (A.t 74)))) [] [], DS.mk 13 true (VI.op (some 75) none (VOp.p (POp.ext (A.t 62) 0))) [] [], DS.mk 14 true (VI.op (some 76) none (VOp.p (POp.ext (A.t 62) 1))) [] [], DS.mk 15 true (VI.op (some 77) none (VOp.p (POp.ixa 5 1 (A.t 5) (A.t 64)))) [] [], DS.mk 16 false (VI.op none none (VOp.st 1 (A.t 77) (A.t 75))) [] [], DS.mk 17 false (VI.op (some 7) none (VOp.p (POp.mov (A.t 76)))) [] []]
def v22_21 : VC := VC.drw v22_20
def v22_22 : List VI := [VI.op (some 60) none (VOp.p (POp.mov (A.t 12))), VI.op (some 61) none (VOp.p (POp.bin BinOp.add (A.t 60) (A.c (V.int IntKind.i64 1)))), VI.op (some 12) none (VOp.p (POp.mov (A.t 61)))]
def v22_23 : VC := VC.seq (VC.seq (VC.reg v22_19) (VC.cond (A.t 59) VC.skip (VC.exit 4))) (VC.seq (VC.block 5 v22_21) (VC.reg v22_22))
def v22_24 : VC := VC.loop v22_23
def v22_25 : List VI := [VI.op (some 79) none (VOp.p (POp.ixa 5 1 (A.t 5) (A.c (V.int IntKind.i64 4)))), VI.op (some 80) none (VOp.ld false 1 (A.t 79)), VI.op (some 81) none (VOp.p (POp.mov (A.t 7))), VI.call (some 82) none (Cal.fn 32) [A.t 80, A.t 81, A.c (V.int IntKind.u64 (nl 0))], VI.op (some 78) none (VOp.p (POp.mov (A.t 82))), VI.op (some 83) none (VOp.p (POp.ext (A.t 78) 0)), VI.op (some 84) none (VOp.p (POp.ext (A.t 78) 1)), VI.op (some 85) none (VOp.p (POp.ixa 5 1 (A.t 5) (A.c (V.int IntKind.i64 3)))), VI.op none none (VOp.st 1 (A.t 85) (A.t 83)), VI.op (some 8) none (VOp.p (POp.mov (A.t 84)))]
def v22_26 : List VI := [VI.op (some 86) none (VOp.p (POp.mov (A.t 10))), VI.op (some 87) none (VOp.p (POp.mov (A.t 8))), VI.op (some 88) none (VOp.p (POp.bin BinOp.add (A.t 86) (A.t 87))), VI.op (some 89) none (VOp.p (POp.ixa 5 1 (A.t 5) (A.c (V.int IntKind.i64 4)))), VI.op none none (VOp.st 1 (A.t 89) (A.t 88))]
def v22_27 : VC := VC.seq (VC.reg v22_4) (VC.seq (VC.reg v22_5) (VC.seq (VC.seq (VC.reg v22_6) (VC.block 2 v22_13)) (VC.seq (VC.reg v22_14) (VC.seq (VC.reg v22_15) (VC.seq (VC.reg v22_16) (VC.seq (VC.reg v22_17) (VC.seq (VC.seq (VC.reg v22_18) (VC.block 4 v22_24)) (VC.seq (VC.reg v22_25) (VC.reg v22_26)))))))))
def v22_28 : List VI := [VI.op (some 90) none (VOp.p (POp.bin BinOp.add (A.t 13) (A.c (V.int IntKind.i64 1)))), VI.op (some 13) none (VOp.p (POp.mov (A.t 90)))]
def v22_29 : VC := VC.seq (VC.reg v22_3) (VC.seq (VC.cond (A.t 14) VC.skip (VC.exit 0)) (VC.seq (VC.block 1 v22_27) (VC.reg v22_28)))
def v22_30 : VC := VC.loop v22_29
def v22_31 : List VI := [VI.op (some 91) none (VOp.p (POp.ixa 5 1 (A.t 5) (A.c (V.int IntKind.i64 0)))), VI.op (some 92) none (VOp.ld false 1 (A.t 91)), VI.op (some 93) none (VOp.p (POp.ixa 5 1 (A.t 5) (A.c (V.int IntKind.i64 1)))), VI.op (some 94) none (VOp.ld false 1 (A.t 93)), VI.op (some 95) none (VOp.p (POp.ixa 5 1 (A.t 5) (A.c (V.int IntKind.i64 2)))), VI.op (some 96) none (VOp.ld false 1 (A.t 95)), VI.op (some 97) none (VOp.p (POp.ixa 5 1 (A.t 5) (A.c (V.int IntKind.i64 3)))), VI.op (some 98) none (VOp.ld false 1 (A.t 97)), VI.op (some 99) none (VOp.p (POp.bld [V.int IntKind.u64 (nl 0), V.int IntKind.u64 (nl 0), V.int IntKind.u64 (nl 0), V.int IntKind.u64 (nl 0)] [(0, 1, A.t 92), (1, 1, A.t 94), (2, 1, A.t 96), (3, 1, A.t 98)])), VI.call (some 100) none (Cal.fn 35) [A.t 99], VI.op none none (VOp.st 4 (A.t 4) (A.t 100))]
def v22 : VC := VC.seq (VC.reg v22_0) (VC.seq (VC.reg v22_1) (VC.seq (VC.seq (VC.reg v22_2) (VC.block 0 v22_30)) (VC.seq (VC.reg v22_31) VC.ret)))
def r22 : List RV := [RV.m 4 true 4]
theorem code22 : (Tryd.f22.body).bind (cCode Tryd.prog) = some v22 := by kernel_rfl
theorem res22 : cRVs Tryd.prog (Tryd.f22.results.toList) = some r22 := by kernel_rfl
theorem nt22 : Tryd.f22.ntmps = 101 := by kernel_rfl
theorem nm22 : (Tryd.f22.name == "runtime.NumGoroutine") = false := by kernel_rfl

/-! "veil/veilref02.l" -/
def v23_0 : List VI := [VI.op (some 0) none (VOp.new [V.int IntKind.u64 (nl 0), V.int IntKind.u64 (nl 0), V.int IntKind.u64 (nl 0), V.int IntKind.u64 (nl 0)])]
def v23_1 : List VI := [VI.op (some 1) none (VOp.p (POp.bld [V.int IntKind.u64 (nl 0), V.int IntKind.u64 (nl 0), V.int IntKind.u64 (nl 0), V.int IntKind.u64 (nl 0)] [(0, 1, A.c (V.int IntKind.u64 (nl 6346243789798364141))), (1, 1, A.c (V.int IntKind.u64 (nl 1503914060200516822))), (2, 1, A.c (V.int IntKind.u64 (nl 0))), (3, 1, A.c (V.int IntKind.u64 (nl 1152921504606846976)))])), VI.op none none (VOp.st 4 (A.t 0) (A.t 1))]
def v23 : VC := VC.seq (VC.reg v23_0) (VC.seq (VC.reg v23_1) VC.ret)
def r23 : List RV := [RV.m 0 true 4]
theorem code23 : (Tryd.f23.body).bind (cCode Tryd.prog) = some v23 := by kernel_rfl
theorem res23 : cRVs Tryd.prog (Tryd.f23.results.toList) = some r23 := by kernel_rfl
theorem nt23 : Tryd.f23.ntmps = 2 := by kernel_rfl
theorem nm23 : (Tryd.f23.name == "runtime.NumGoroutine") = false := by kernel_rfl

/-! "veil/veilref02.half" -/
def v24_0 : List VI := [VI.op (some 1) none (VOp.box (A.t 0)), VI.op (some 2) none (VOp.new [V.int IntKind.u64 (nl 0), V.int IntKind.u64 (nl 0), V.int IntKind.u64 (nl 0), V.int IntKind.u64 (nl 0)])]
def v24_1 : List VI := [VI.op (some 6) none (VOp.ld true 4 (A.t 1)), VI.op (some 3) none (VOp.new [V.int IntKind.u64 (nl 0), V.int IntKind.u64 (nl 0), V.int IntKind.u64 (nl 0), V.int IntKind.u64 (nl 0)]), VI.op none none (VOp.st 4 (A.t 3) (A.t 6))]
def v24_2 : List VI := [VI.op (some 4) none (VOp.p (POp.mov (A.c (V.int IntKind.u64 (nl 0)))))]
def v24_3 : List VI := [VI.op (some 7) none (VOp.p (POp.ixa 4 1 (A.t 3) (A.c (V.int IntKind.i64 0)))), VI.op (some 8) none (VOp.ld false 1 (A.t 7)), VI.op (some 9) none (VOp.p (POp.bin BinOp.and (A.t 8) (A.c (V.int IntKind.u64 (nl 1))))), VI.op (some 10) none (VOp.p (POp.eq false EqK.i (A.t 9) (A.c (V.int IntKind.u64 (nl 1)))))]
def v24_4 : List DS := [DS.mk 0 true (VI.op (some 12) none (VOp.ld true 4 (A.t 3))) [] [], DS.mk 1 false (VI.call (some 13) none (Cal.fn 23) []) [3] [], DS.mk 2 false (VI.call (some 14) none (Cal.fn 38) [A.t 12, A.t 13]) [] [], DS.mk 3 true (VI.op (some 11) none (VOp.p (POp.mov (A.t 14)))) [] [], DS.mk 4 true (VI.op (some 15) none (VOp.p (POp.ext (A.t 11) 0))) [] [], DS.mk 5 true (VI.op (some 16) none (VOp.p (POp.ext (A.t 11) 1))) [] [], DS.mk 6 false (VI.op none none (VOp.st 4 (A.t 3) (A.t 15))) [] [], DS.mk 7 false (VI.op (some 4) none (VOp.p (POp.mov (A.t 16)))) [] []]
def v24_5 : List VI := [VI.op (some 5) none (VOp.p (POp.mov (A.c (V.int IntKind.i64 0))))]
def v24_6 : List VI := [VI.op (some 17) none (VOp.p (POp.mov (A.t 5))), VI.op (some 18) none (VOp.p (POp.bin BinOp.lss (A.t 17) (A.c (V.int IntKind.i64 3))))]
def v24_7 : List DS := [DS.mk 0 true (VI.op (some 21) none (VOp.p (POp.mov (A.t 5)))) [] [], DS.mk 1 true (VI.op (some 22) none (VOp.p (POp.mov (A.t 5)))) [] [], DS.mk 2 true (VI.op (some 23) none (VOp.p (POp.ixa 4 1 (A.t 3) (A.t 22)))) [] [], DS.mk 3 true (VI.op (some 24) none (VOp.ld false 1 (A.t 23))) [] [], DS.mk 4 true (VI.op (some 25) none (VOp.p (POp.bin BinOp.shr (A.t 24) (A.c (V.int IntKind.u64 (nl 1)))))) [] [], DS.mk 5 true (VI.op (some 26) none (VOp.p (POp.mov (A.t 5)))) [] [], DS.mk 6 true (VI.op (some 27) none (VOp.p (POp.bin BinOp.add (A.t 26) (A.c (V.int IntKind.i64 1))))) [] [], DS.mk 7 true (VI.op (some 28) none (VOp.p (POp.ixa 4 1 (A.t 3) (A.t 27)))) [] [], DS.mk 8 true (VI.op (some 29) none (VOp.ld false 1 (A.t 28))) [] [], DS.mk 9 true (VI.op (some 30) none (VOp.p (POp.bin BinOp.shl (A.t 29) (A.c (V.int IntKind.u64 (nl 63)))))) [] [], DS.mk 10 true (VI.op (some 31) none (VOp.p (POp.bin BinOp.or (A.t 25) (A.t 30)))) [] [], DS.mk 11 true (VI.op (some 32) none (VOp.p (POp.ixa 4 1 (A.t 3) (A.t 21)))) [] [], DS.mk 12 false (VI.op none none (VOp.st 1 (A.t 32) (A.t 31))) [] []]
def v24_8 : VC := VC.drw v24_7
def v24_9 : List VI := [VI.op (some 19) none (VOp.p (POp.mov (A.t 5))), VI.op (some 20) none (VOp.p (POp.bin BinOp.add (A.t 19) (A.c (V.int IntKind.i64 1)))), VI.op (some 5) none (VOp.p (POp.mov (A.t 20)))]
def v24_10 : VC := VC.seq (VC.seq (VC.reg v24_6) (VC.cond (A.t 18) VC.skip (VC.exit 0))) (VC.seq (VC.block 1 v24_8) (VC.reg v24_9))
def v24_11 : VC := VC.loop v24_10
def v24_12 : List VI := [VI.op (some 33) none (VOp.p (POp.ixa 4 1 (A.t 3) (A.c (V.int IntKind.i64 3)))), VI.op (some 34) none (VOp.ld false 1 (A.t 33)), VI.op (some 35) none (VOp.p (POp.bin BinOp.shr (A.t 34) (A.c (V.int IntKind.u64 (nl 1))))), VI.op (some 36) none (VOp.p (POp.mov (A.t 4))), VI.op (some 37) none (VOp.p (POp.bin BinOp.shl (A.t 36) (A.c (V.int IntKind.u64 (nl 63))))), VI.op (some 38) none (VOp.p (POp.bin BinOp.or (A.t 35) (A.t 37))), VI.op (some 39) none (VOp.p (POp.ixa 4 1 (A.t 3) (A.c (V.int IntKind.i64 3)))), VI.op none none (VOp.st 1 (A.t 39) (A.t 38))]
def v24_13 : List VI := [VI.op (some 40) none (VOp.ld true 4 (A.t 3)), VI.op none none (VOp.st 4 (A.t 2) (A.t 40))]
def v24 : VC := VC.seq (VC.reg v24_0) (VC.seq (VC.reg v24_1) (VC.seq (VC.reg v24_2) (VC.seq (VC.seq (VC.reg v24_3) (VC.cond (A.t 10) (VC.drw v24_4) VC.skip)) (VC.seq (VC.seq (VC.reg v24_5) (VC.block 0 v24_11)) (VC.seq (VC.reg v24_12) (VC.seq (VC.reg v24_13) VC.ret))))))
def r24 : List RV := [RV.m 2 true 4]
theorem code24 : (Tryd.f24.body).bind (cCode Tryd.prog) = some v24 := by kernel_rfl
theorem res24 : cRVs Tryd.prog (Tryd.f24.results.toList) = some r24 := by kernel_rfl
theorem nt24 : Tryd.f24.ntmps = 41 := by kernel_rfl
theorem nm24 : (Tryd.f24.name == "runtime.NumGoroutine") = false := by kernel_rfl

/-! "veil/veilref02.below" -/
def v25_0 : List VI := [VI.op (some 2) none (VOp.box (A.t 0)), VI.op (some 3) none (VOp.box (A.t 1)), VI.op (some 4) none (VOp.p (POp.mov (A.c (V.bool false))))]
def v25_1 : List VI := [VI.op (some 5) none (VOp.p (POp.mov (A.c (V.int IntKind.i64 3))))]
def v25_2 : List VI := [VI.op (some 6) none (VOp.p (POp.mov (A.t 5))), VI.op (some 7) none (VOp.p (POp.bin BinOp.geq (A.t 6) (A.c (V.int IntKind.i64 0))))]
def v25_3 : List DS := [DS.mk 0 true (VI.op (some 10) none (VOp.p (POp.mov (A.t 5)))) [] [], DS.mk 1 true (VI.op (some 11) none (VOp.p (POp.ixa 4 1 (A.t 2) (A.t 10)))) [] [], DS.mk 2 true (VI.op (some 12) none (VOp.ld false 1 (A.t 11))) [] [], DS.mk 3 true (VI.op (some 13) none (VOp.p (POp.mov (A.t 5)))) [] [], DS.mk 4 true (VI.op (some 14) none (VOp.p (POp.ixa 4 1 (A.t 3) (A.t 13)))) [] [], DS.mk 5 true (VI.op (some 15) none (VOp.ld false 1 (A.t 14))) [] [], DS.mk 6 true (VI.op (some 16) none (VOp.p (POp.eq true EqK.i (A.t 12) (A.t 15)))) [] []]
def v25_4 : List DS := [DS.mk 0 true (VI.op (some 17) none (VOp.p (POp.mov (A.t 5)))) [] [], DS.mk 1 true (VI.op (some 18) none (VOp.p (POp.ixa 4 1 (A.t 2) (A.t 17)))) [] [], DS.mk 2 true (VI.op (some 19) none (VOp.ld false 1 (A.t 18))) [] [], DS.mk 3 true (VI.op (some 20) none (VOp.p (POp.mov (A.t 5)))) [] [], DS.mk 4 true (VI.op (some 21) none (VOp.p (POp.ixa 4 1 (A.t 3) (A.t 20)))) [] [], DS.mk 5 true (VI.op (some 22) none (VOp.ld false 1 (A.t 21))) [] [], DS.mk 6 true (VI.op (some 23) none (VOp.p (POp.bin BinOp.lss (A.t 19) (A.t 22)))) [] [], DS.mk 7 false (VI.op (some 4) none (VOp.p (POp.mov (A.t 23)))) [] []]
def v25_5 : VC := VC.seq (VC.drw v25_3) (VC.cond (A.t 16) (VC.seq (VC.drw v25_4) VC.ret) VC.skip)
def v25_6 : List VI := [VI.op (some 8) none (VOp.p (POp.mov (A.t 5))), VI.op (some 9) none (VOp.p (POp.bin BinOp.sub (A.t 8) (A.c (V.int IntKind.i64 1)))), VI.op (some 5) none (VOp.p (POp.mov (A.t 9)))]
def v25_7 : VC := VC.seq (VC.seq (VC.reg v25_2) (VC.cond (A.t 7) VC.skip (VC.exit 0))) (VC.seq (VC.block 1 v25_5) (VC.reg v25_6))
def v25_8 : VC := VC.loop v25_7
def v25_9 : List VI := [VI.op (some 4) none (VOp.p (POp.mov (A.c (V.bool false))))]
def v25 : VC := VC.seq (VC.reg v25_0) (VC.seq (VC.seq (VC.reg v25_1) (VC.block 0 v25_8)) (VC.seq (VC.reg v25_9) VC.ret))
def r25 : List RV := [RV.t 4]
theorem code25 : (Tryd.f25.body).bind (cCode Tryd.prog) = some v25 := by kernel_rfl
theorem res25 : cRVs Tryd.prog (Tryd.f25.results.toList) = some r25 := by kernel_rfl
theorem nt25 : Tryd.f25.ntmps = 24 := by kernel_rfl
theorem nm25 : (Tryd.f25.name == "runtime.NumGoroutine") = false := by kernel_rfl

/-! "veil/veilref02.minus" -/
def v26_0 : List VI := [VI.op (some 2) none (VOp.box (A.t 0)), VI.op (some 3) none (VOp.box (A.t 1)), VI.op (some 4) none (VOp.new [V.int IntKind.u64 (nl 0), V.int IntKind.u64 (nl 0), V.int IntKind.u64 (nl 0), V.int IntKind.u64 (nl 0)]), VI.op (some 5) none (VOp.p (POp.mov (A.c (V.int IntKind.u64 (nl 0)))))]
def v26_1 : List VI := [VI.op (some 6) none (VOp.new [V.int IntKind.u64 (nl 0), V.int IntKind.u64 (nl 0), V.int IntKind.u64 (nl 0), V.int IntKind.u64 (nl 0)])]
def v26_2 : List VI := [VI.op (some 7) none (VOp.p (POp.mov (A.c (V.int IntKind.u64 (nl 0)))))]
def v26_3 : List VI := [VI.op (some 8) none (VOp.p (POp.mov (A.c (V.int IntKind.i64 0))))]
def v26_4 : List VI := [VI.op (some 12) none (VOp.p (POp.mov (A.t 8))), VI.op (some 13) none (VOp.p (POp.bin BinOp.lss (A.t 12) (A.c (V.int IntKind.i64 4))))]
def v26_5 : List DS := [DS.mk 0 true (VI.op (some 16) none (VOp.p (POp.mov (A.t 8)))) [] [], DS.mk 1 true (VI.op (some 17) none (VOp.p (POp.ixa 4 1 (A.t 2) (A.t 16)))) [] [], DS.mk 2 true (VI.op (some 18) none (VOp.ld false 1 (A.t 17))) [] [], DS.mk 3 true (VI.op (some 19) none (VOp.p (POp.mov (A.t 8)))) [] [], DS.mk 4 true (VI.op (some 20) none (VOp.p (POp.ixa 4 1 (A.t 3) (A.t 19)))) [] [], DS.mk 5 true (VI.op (some 21) none (VOp.ld false 1 (A.t 20))) [] [], DS.mk 6 true (VI.op (some 22) none (VOp.p (POp.bin BinOp.sub (A.t 18) (A.t 21)))) [] [], DS.mk 7 false (VI.op (some 9) none (VOp.p (POp.mov (A.t 22)))) [] []]
def v26_6 : List VI := [VI.op (some 10) none (VOp.p (POp.mov (A.c (V.int IntKind.u64 (nl 0)))))]
def v26_7 : List DS := [DS.mk 0 true (VI.op (some 23) none (VOp.p (POp.mov (A.t 8)))) [] [], DS.mk 1 true (VI.op (some 24) none (VOp.p (POp.ixa 4 1 (A.t 2) (A.t 23)))) [] [], DS.mk 2 true (VI.op (some 25) none (VOp.ld false 1 (A.t 24))) [] [], DS.mk 3 true (VI.op (some 26) none (VOp.p (POp.mov (A.t 8)))) [] [], DS.mk 4 true (VI.op (some 27) none (VOp.p (POp.ixa 4 1 (A.t 3) (A.t 26)))) [] [], DS.mk 5 true (VI.op (some 28) none (VOp.ld false 1 (A.t 27))) [] [], DS.mk 6 true (VI.op (some 29) none (VOp.p (POp.bin BinOp.lss (A.t 25) (A.t 28)))) [] []]
def v26_8 : List VI := [VI.op (some 10) none (VOp.p (POp.mov (A.c (V.int IntKind.u64 (nl 1)))))]
def v26_9 : List VI := [VI.op (some 30) none (VOp.p (POp.mov (A.t 9))), VI.op (some 31) none (VOp.p (POp.mov (A.t 7))), VI.op (some 32) none (VOp.p (POp.bin BinOp.sub (A.t 30) (A.t 31))), VI.op (some 11) none (VOp.p (POp.mov (A.t 32)))]
def v26_10 : List VI := [VI.op (some 33) none (VOp.p (POp.mov (A.t 9))), VI.op (some 34) none (VOp.p (POp.mov (A.t 7))), VI.op (some 35) none (VOp.p (POp.bin BinOp.lss (A.t 33) (A.t 34)))]
def v26_11 : List VI := [VI.op (some 10) none (VOp.p (POp.mov (A.c (V.int IntKind.u64 (nl 1)))))]
def v26_12 : List VI := [VI.op (some 36) none (VOp.p (POp.mov (A.t 8))), VI.op (some 37) none (VOp.p (POp.mov (A.t 11))), VI.op (some 38) none (VOp.p (POp.ixa 4 1 (A.t 6) (A.t 36))), VI.op none none (VOp.st 1 (A.t 38) (A.t 37))]
def v26_13 : List VI := [VI.op (some 39) none (VOp.p (POp.mov (A.t 10))), VI.op (some 7) none (VOp.p (POp.mov (A.t 39)))]
def v26_14 : VC := VC.seq (VC.drw v26_5) (VC.seq (VC.reg v26_6) (VC.seq (VC.seq (VC.drw v26_7) (VC.cond (A.t 29) (VC.reg v26_8) VC.skip)) (VC.seq (VC.reg v26_9) (VC.seq (VC.seq (VC.reg v26_10) (VC.cond (A.t 35) (VC.reg v26_11) VC.skip)) (VC.seq (VC.reg v26_12) (VC.reg v26_13))))))
def v26_15 : List VI := [VI.op (some 14) none (VOp.p (POp.mov (A.t 8))), VI.op (some 15) none (VOp.p (POp.bin BinOp.add (A.t 14) (A.c (V.int IntKind.i64 1)))), VI.op (some 8) none (VOp.p (POp.mov (A.t 15)))]
def v26_16 : VC := VC.seq (VC.seq (VC.reg v26_4) (VC.cond (A.t 13) VC.skip (VC.exit 0))) (VC.seq (VC.block 1 v26_14) (VC.reg v26_15))
def v26_17 : VC := VC.loop v26_16
def v26_18 : List VI := [VI.op (some 40) none (VOp.ld true 4 (A.t 6)), VI.op (some 41) none (VOp.p (POp.mov (A.t 7))), VI.op none none (VOp.st 4 (A.t 4) (A.t 40)), VI.op (some 5) none (VOp.p (POp.mov (A.t 41)))]
def v26 : VC := VC.seq (VC.reg v26_0) (VC.seq (VC.reg v26_1) (VC.seq (VC.reg v26_2) (VC.seq (VC.seq (VC.reg v26_3) (VC.block 0 v26_17)) (VC.seq (VC.reg v26_18) VC.ret))))
def r26 : List RV := [RV.m 4 true 4, RV.t 5]
theorem code26 : (Tryd.f26.body).bind (cCode Tryd.prog) = some v26 := by kernel_rfl
theorem res26 : cRVs Tryd.prog (Tryd.f26.results.toList) = some r26 := by kernel_rfl
theorem nt26 : Tryd.f26.ntmps = 42 := by kernel_rfl
theorem nm26 : (Tryd.f26.name == "runtime.NumGoroutine") = false := by kernel_rfl

/-! "(veil/veilref02.Scalar).Sub" -/
def v27_0 : List VI := [VI.op (some 2) none (VOp.box (A.t 0)), VI.op (some 3) none (VOp.box (A.t 1)), VI.op (some 4) none (VOp.new [V.int IntKind.u64 (nl 0), V.int IntKind.u64 (nl 0), V.int IntKind.u64 (nl 0), V.int IntKind.u64 (nl 0)])]
def v27_1 : List DS := [DS.mk 0 true (VI.op (some 5) none (VOp.ld true 4 (A.t 2))) [] [], DS.mk 1 true (VI.op (some 6) none (VOp.ld true 4 (A.t 3))) [] [], DS.mk 2 false (VI.call (some 7) none (Cal.fn 40) [A.t 6]) [2] [], DS.mk 3 false (VI.call (some 8) none (Cal.fn 39) [A.t 5, A.t 7]) [] [], DS.mk 4 false (VI.op none none (VOp.st 4 (A.t 4) (A.t 8))) [] []]
def v27 : VC := VC.seq (VC.reg v27_0) (VC.seq (VC.drw v27_1) VC.ret)
def r27 : List RV := [RV.m 4 true 4]
theorem code27 : (Tryd.f27.body).bind (cCode Tryd.prog) = some v27 := by kernel_rfl
theorem res27 : cRVs Tryd.prog (Tryd.f27.results.toList) = some r27 := by kernel_rfl
theorem nt27 : Tryd.f27.ntmps = 9 := by kernel_rfl
theorem nm27 : (Tryd.f27.name == "runtime.NumGoroutine") = false := by kernel_rfl

/-! "veil/veilref02.halves" -/
def v28_0 : List VI := [VI.op (some 1) none (VOp.box (A.t 0)), VI.op (some 2) none (VOp.new [V.int IntKind.u64 (nl 0), V.int IntKind.u64 (nl 0), V.int IntKind.u64 (nl 0), V.int IntKind.u64 (nl 0), V.int IntKind.u64 (nl 0), V.int IntKind.u64 (nl 0), V.int IntKind.u64 (nl 0), V.int IntKind.u64 (nl 0)])]
def v28_1 : List VI := [VI.op (some 3) none (VOp.new [V.int IntKind.u64 (nl 0), V.int IntKind.u64 (nl 0), V.int IntKind.u64 (nl 0), V.int IntKind.u64 (nl 0), V.int IntKind.u64 (nl 0), V.int IntKind.u64 (nl 0), V.int IntKind.u64 (nl 0), V.int IntKind.u64 (nl 0)])]
def v28_2 : List VI := [VI.op (some 4) none (VOp.p (POp.mov (A.c (V.int IntKind.i64 0))))]
def v28_3 : List VI := [VI.op (some 5) none (VOp.p (POp.mov (A.t 4))), VI.op (some 6) none (VOp.p (POp.bin BinOp.lss (A.t 5) (A.c (V.int IntKind.i64 4))))]
def v28_4 : List VI := [VI.op (some 9) none (VOp.p (POp.mov (A.t 4))), VI.op (some 10) none (VOp.p (POp.bin BinOp.mul (A.c (V.int IntKind.i64 2)) (A.t 9))), VI.op (some 11) none (VOp.p (POp.mov (A.t 4))), VI.op (some 12) none (VOp.p (POp.ixa 4 1 (A.t 1) (A.t 11))), VI.op (some 13) none (VOp.ld false 1 (A.t 12)), VI.op (some 14) none (VOp.p (POp.bin BinOp.and (A.t 13) (A.c (V.int IntKind.u64 (nl 4294967295))))), VI.op (some 15) none (VOp.p (POp.ixa 8 1 (A.t 3) (A.t 10))), VI.op none none (VOp.st 1 (A.t 15) (A.t 14))]
def v28_5 : List VI := [VI.op (some 16) none (VOp.p (POp.mov (A.t 4))), VI.op (some 17) none (VOp.p (POp.bin BinOp.mul (A.c (V.int IntKind.i64 2)) (A.t 16))), VI.op (some 18) none (VOp.p (POp.bin BinOp.add (A.t 17) (A.c (V.int IntKind.i64 1)))), VI.op (some 19) none (VOp.p (POp.mov (A.t 4))), VI.op (some 20) none (VOp.p (POp.ixa 4 1 (A.t 1) (A.t 19))), VI.op (some 21) none (VOp.ld false 1 (A.t 20)), VI.op (some 22) none (VOp.p (POp.bin BinOp.shr (A.t 21) (A.c (V.int IntKind.u64 (nl 32))))), VI.op (some 23) none (VOp.p (POp.ixa 8 1 (A.t 3) (A.t 18))), VI.op none none (VOp.st 1 (A.t 23) (A.t 22))]
def v28_6 : VC := VC.seq (VC.reg v28_4) (VC.reg v28_5)
def v28_7 : List VI := [VI.op (some 7) none (VOp.p (POp.mov (A.t 4))), VI.op (some 8) none (VOp.p (POp.bin BinOp.add (A.t 7) (A.c (V.int IntKind.i64 1)))), VI.op (some 4) none (VOp.p (POp.mov (A.t 8)))]
def v28_8 : VC := VC.seq (VC.seq (VC.reg v28_3) (VC.cond (A.t 6) VC.skip (VC.exit 0))) (VC.seq (VC.block 1 v28_6) (VC.reg v28_7))
def v28_9 : VC := VC.loop v28_8
def v28_10 : List VI := [VI.op (some 24) none (VOp.ld true 8 (A.t 3)), VI.op none none (VOp.st 8 (A.t 2) (A.t 24))]
def v28 : VC := VC.seq (VC.reg v28_0) (VC.seq (VC.reg v28_1) (VC.seq (VC.seq (VC.reg v28_2) (VC.block 0 v28_9)) (VC.seq (VC.reg v28_10) VC.ret)))
def r28 : List RV := [RV.m 2 true 8]
theorem code28 : (Tryd.f28.body).bind (cCode Tryd.prog) = some v28 := by kernel_rfl
theorem res28 : cRVs Tryd.prog (Tryd.f28.results.toList) = some r28 := by kernel_rfl
theorem nt28 : Tryd.f28.ntmps = 25 := by kernel_rfl
theorem nm28 : (Tryd.f28.name == "runtime.NumGoroutine") = false := by kernel_rfl

/-! "veil/veilref02.step" -/
def v29_0 : List VI := [VI.op (some 2) none (VOp.box (A.t 0)), VI.op (some 4) none (VOp.new [V.int IntKind.u64 (nl 0), V.int IntKind.u64 (nl 0), V.int IntKind.u64 (nl 0), V.int IntKind.u64 (nl 0)])]
def v29_1 : List VI := [VI.op (some 16) none (VOp.p (POp.ixa 4 1 (A.t 2) (A.c (V.int IntKind.i64 3)))), VI.op (some 17) none (VOp.ld false 1 (A.t 16)), VI.op (some 18) none (VOp.p (POp.bin BinOp.shr (A.t 17) (A.c (V.int IntKind.u64 (nl 44))))), VI.op (some 5) none (VOp.p (POp.mov (A.t 18)))]
def v29_2 : List VI := [VI.op (some 6) none (VOp.new [V.int IntKind.u64 (nl 0), V.int IntKind.u64 (nl 0), V.int IntKind.u64 (nl 0), V.int IntKind.u64 (nl 0)])]
def v29_3 : List VI := [VI.op (some 19) none (VOp.p (POp.ixa 4 1 (A.t 2) (A.c (V.int IntKind.i64 0)))), VI.op (some 20) none (VOp.ld false 1 (A.t 19)), VI.op (some 21) none (VOp.p (POp.bin BinOp.shl (A.t 20) (A.c (V.int IntKind.u64 (nl 16))))), VI.op (some 22) none (VOp.p (POp.mov (A.t 1))), VI.op (some 23) none (VOp.p (POp.bin BinOp.or (A.t 21) (A.t 22))), VI.op (some 24) none (VOp.p (POp.ixa 4 1 (A.t 6) (A.c (V.int IntKind.i64 0)))), VI.op none none (VOp.st 1 (A.t 24) (A.t 23))]
def v29_4 : List VI := [VI.op (some 7) none (VOp.p (POp.mov (A.c (V.int IntKind.i64 1))))]
def v29_5 : List VI := [VI.op (some 25) none (VOp.p (POp.mov (A.t 7))), VI.op (some 26) none (VOp.p (POp.bin BinOp.lss (A.t 25) (A.c (V.int IntKind.i64 4))))]
def v29_6 : List DS := [DS.mk 0 true (VI.op (some 29) none (VOp.p (POp.mov (A.t 7)))) [] [], DS.mk 1 true (VI.op (some 30) none (VOp.p (POp.mov (A.t 7)))) [] [], DS.mk 2 true (VI.op (some 31) none (VOp.p (POp.ixa 4 1 (A.t 2) (A.t 30)))) [] [], DS.mk 3 true (VI.op (some 32) none (VOp.ld false 1 (A.t 31))) [] [], DS.mk 4 true (VI.op (some 33) none (VOp.p (POp.bin BinOp.shl (A.t 32) (A.c (V.int IntKind.u64 (nl 16)))))) [] [], DS.mk 5 true (VI.op (some 34) none (VOp.p (POp.mov (A.t 7)))) [] [], DS.mk 6 true (VI.op (some 35) none (VOp.p (POp.bin BinOp.sub (A.t 34) (A.c (V.int IntKind.i64 1))))) [] [], DS.mk 7 true (VI.op (some 36) none (VOp.p (POp.ixa 4 1 (A.t 2) (A.t 35)))) [] [], DS.mk 8 true (VI.op (some 37) none (VOp.ld false 1 (A.t 36))) [] [], DS.mk 9 true (VI.op (some 38) none (VOp.p (POp.bin BinOp.shr (A.t 37) (A.c (V.int IntKind.u64 (nl 48)))))) [] [], DS.mk 10 true (VI.op (some 39) none (VOp.p (POp.bin BinOp.or (A.t 33) (A.t 38)))) [] [], DS.mk 11 true (VI.op (some 40) none (VOp.p (POp.ixa 4 1 (A.t 6) (A.t 29)))) [] [], DS.mk 12 false (VI.op none none (VOp.st 1 (A.t 40) (A.t 39))) [] []]
def v29_7 : VC := VC.drw v29_6
def v29_8 : List VI := [VI.op (some 27) none (VOp.p (POp.mov (A.t 7))), VI.op (some 28) none (VOp.p (POp.bin BinOp.add (A.t 27) (A.c (V.int IntKind.i64 1)))), VI.op (some 7) none (VOp.p (POp.mov (A.t 28)))]
def v29_9 : VC := VC.seq (VC.seq (VC.reg v29_5) (VC.cond (A.t 26) VC.skip (VC.exit 0))) (VC.seq (VC.block 1 v29_7) (VC.reg v29_8))
def v29_10 : VC := VC.loop v29_9
def v29_11 : List VI := [VI.op (some 41) none (VOp.p (POp.ixa 4 1 (A.t 6) (A.c (V.int IntKind.i64 3)))), VI.op (some 42) none (VOp.ld false 1 (A.t 41)), VI.op (some 43) none (VOp.p (POp.bin BinOp.and (A.t 42) (A.c (V.int IntKind.u64 (nl 1152921504606846975))))), VI.op (some 44) none (VOp.p (POp.ixa 4 1 (A.t 6) (A.c (V.int IntKind.i64 3)))), VI.op none none (VOp.st 1 (A.t 44) (A.t 43))]
def v29_12 : List VI := [VI.call (some 45) none (Cal.fn 23) [], VI.op (some 8) none (VOp.new [V.int IntKind.u64 (nl 0), V.int IntKind.u64 (nl 0), V.int IntKind.u64 (nl 0), V.int IntKind.u64 (nl 0)]), VI.op none none (VOp.st 4 (A.t 8) (A.t 45))]
def v29_13 : List VI := [VI.op (some 46) none (VOp.p (POp.ixa 4 1 (A.t 8) (A.c (V.int IntKind.i64 0)))), VI.op (some 47) none (VOp.ld false 1 (A.t 46)), VI.op (some 48) none (VOp.p (POp.bin BinOp.and (A.t 47) (A.c (V.int IntKind.u64 (nl 4294967295))))), VI.op (some 49) none (VOp.p (POp.ixa 4 1 (A.t 8) (A.c (V.int IntKind.i64 0)))), VI.op (some 50) none (VOp.ld false 1 (A.t 49)), VI.op (some 51) none (VOp.p (POp.bin BinOp.shr (A.t 50) (A.c (V.int IntKind.u64 (nl 32))))), VI.op (some 52) none (VOp.p (POp.ixa 4 1 (A.t 8) (A.c (V.int IntKind.i64 1)))), VI.op (some 53) none (VOp.ld false 1 (A.t 52)), VI.op (some 54) none (VOp.p (POp.bin BinOp.and (A.t 53) (A.c (V.int IntKind.u64 (nl 4294967295))))), VI.op (some 55) none (VOp.p (POp.ixa 4 1 (A.t 8) (A.c (V.int IntKind.i64 1)))), VI.op (some 56) none (VOp.ld false 1 (A.t 55)), VI.op (some 57) none (VOp.p (POp.bin BinOp.shr (A.t 56) (A.c (V.int IntKind.u64 (nl 32))))), VI.op (some 58) none (VOp.p (POp.bld [V.int IntKind.u64 (nl 0), V.int IntKind.u64 (nl 0), V.int IntKind.u64 (nl 0), V.int IntKind.u64 (nl 0)] [(0, 1, A.t 48), (1, 1, A.t 51), (2, 1, A.t 54), (3, 1, A.t 57)])), VI.op (some 9) none (VOp.new [V.int IntKind.u64 (nl 0), V.int IntKind.u64 (nl 0), V.int IntKind.u64 (nl 0), V.int IntKind.u64 (nl 0)]), VI.op none none (VOp.st 4 (A.t 9) (A.t 58))]
def v29_14 : List VI := [VI.op (some 10) none (VOp.p (POp.mov (A.c (V.int IntKind.u64 (nl 0)))))]
def v29_15 : List VI := [VI.op (some 11) none (VOp.p (POp.mov (A.c (V.int IntKind.i64 0))))]
def v29_16 : List VI := [VI.op (some 59) none (VOp.p (POp.mov (A.t 11))), VI.op (some 60) none (VOp.p (POp.bin BinOp.lss (A.t 59) (A.c (V.int IntKind.i64 4))))]
def v29_17 : List VI := [VI.op (some 63) none (VOp.p (POp.mov (A.t 11))), VI.op (some 64) none (VOp.p (POp.ixa 4 1 (A.t 9) (A.t 63))), VI.op (some 65) none (VOp.ld false 1 (A.t 64)), VI.op (some 66) none (VOp.p (POp.mov (A.t 5))), VI.op (some 67) none (VOp.p (POp.bin BinOp.mul (A.t 65) (A.t 66))), VI.op (some 68) none (VOp.p (POp.mov (A.t 10))), VI.op (some 69) none (VOp.p (POp.bin BinOp.add (A.t 67) (A.t 68))), VI.op (some 12) none (VOp.p (POp.mov (A.t 69)))]
def v29_18 : List VI := [VI.op (some 70) none (VOp.p (POp.mov (A.t 11))), VI.op (some 71) none (VOp.p (POp.mov (A.t 12))), VI.op (some 72) none (VOp.p (POp.bin BinOp.and (A.t 71) (A.c (V.int IntKind.u64 (nl 4294967295))))), VI.op (some 73) none (VOp.p (POp.ixa 4 1 (A.t 9) (A.t 70))), VI.op none none (VOp.st 1 (A.t 73) (A.t 72))]
def v29_19 : List VI := [VI.op (some 74) none (VOp.p (POp.mov (A.t 12))), VI.op (some 75) none (VOp.p (POp.bin BinOp.shr (A.t 74) (A.c (V.int IntKind.u64 (nl 32))))), VI.op (some 10) none (VOp.p (POp.mov (A.t 75)))]
def v29_20 : VC := VC.seq (VC.reg v29_17) (VC.seq (VC.reg v29_18) (VC.reg v29_19))
def v29_21 : List VI := [VI.op (some 61) none (VOp.p (POp.mov (A.t 11))), VI.op (some 62) none (VOp.p (POp.bin BinOp.add (A.t 61) (A.c (V.int IntKind.i64 1)))), VI.op (some 11) none (VOp.p (POp.mov (A.t 62)))]
def v29_22 : VC := VC.seq (VC.seq (VC.reg v29_16) (VC.cond (A.t 60) VC.skip (VC.exit 2))) (VC.seq (VC.block 3 v29_20) (VC.reg v29_21))
def v29_23 : VC := VC.loop v29_22
def v29_24 : List VI := [VI.op (some 76) none (VOp.p (POp.ixa 4 1 (A.t 9) (A.c (V.int IntKind.i64 0)))), VI.op (some 77) none (VOp.ld false 1 (A.t 76)), VI.op (some 78) none (VOp.p (POp.ixa 4 1 (A.t 9) (A.c (V.int IntKind.i64 1)))), VI.op (some 79) none (VOp.ld false 1 (A.t 78)), VI.op (some 80) none (VOp.p (POp.bin BinOp.shl (A.t 79) (A.c (V.int IntKind.u64 (nl 32))))), VI.op (some 81) none (VOp.p (POp.bin BinOp.or (A.t 77) (A.t 80))), VI.op (some 82) none (VOp.p (POp.ixa 4 1 (A.t 9) (A.c (V.int IntKind.i64 2)))), VI.op (some 83) none (VOp.ld false 1 (A.t 82)), VI.op (some 84) none (VOp.p (POp.ixa 4 1 (A.t 9) (A.c (V.int IntKind.i64 3)))), VI.op (some 85) none (VOp.ld false 1 (A.t 84)), VI.op (some 86) none (VOp.p (POp.bin BinOp.shl (A.t 85) (A.c (V.int IntKind.u64 (nl 32))))), VI.op (some 87) none (VOp.p (POp.bin BinOp.or (A.t 83) (A.t 86))), VI.op (some 88) none (VOp.p (POp.mov (A.t 10))), VI.op (some 89) none (VOp.p (POp.bld [V.int IntKind.u64 (nl 0), V.int IntKind.u64 (nl 0), V.int IntKind.u64 (nl 0), V.int IntKind.u64 (nl 0)] [(0, 1, A.t 81), (1, 1, A.t 87), (2, 1, A.t 88), (3, 1, A.c (V.int IntKind.u64 (nl 0)))])), VI.op (some 13) none (VOp.new [V.int IntKind.u64 (nl 0), V.int IntKind.u64 (nl 0), V.int IntKind.u64 (nl 0), V.int IntKind.u64 (nl 0)]), VI.op none none (VOp.st 4 (A.t 13) (A.t 89))]
def v29_25 : List VI := [VI.op (some 91) none (VOp.ld true 4 (A.t 6)), VI.op (some 92) none (VOp.ld true 4 (A.t 13)), VI.call (some 93) none (Cal.fn 26) [A.t 91, A.t 92], VI.op (some 90) none (VOp.p (POp.mov (A.t 93))), VI.op (some 94) none (VOp.p (POp.ext (A.t 90) 0)), VI.op (some 95) none (VOp.p (POp.ext (A.t 90) 1)), VI.op (some 14) none (VOp.new [V.int IntKind.u64 (nl 0), V.int IntKind.u64 (nl 0), V.int IntKind.u64 (nl 0), V.int IntKind.u64 (nl 0)]), VI.op none none (VOp.st 4 (A.t 14) (A.t 94)), VI.op (some 15) none (VOp.p (POp.mov (A.t 95)))]
def v29_26 : List VI := [VI.op (some 96) none (VOp.p (POp.mov (A.t 15))), VI.op (some 97) none (VOp.p (POp.eq false EqK.i (A.t 96) (A.c (V.int IntKind.u64 (nl 1)))))]
def v29_27 : List VI := [VI.op (some 99) none (VOp.ld true 4 (A.t 14)), VI.op (some 100) none (VOp.ld true 4 (A.t 8)), VI.call (some 101) none (Cal.fn 38) [A.t 99, A.t 100], VI.op (some 98) none (VOp.p (POp.mov (A.t 101))), VI.op (some 102) none (VOp.p (POp.ext (A.t 98) 0)), VI.op (some 103) none (VOp.p (POp.ext (A.t 98) 1)), VI.op none none (VOp.st 4 (A.t 14) (A.t 102))]
def v29_28 : List VI := [VI.op (some 104) none (VOp.ld true 4 (A.t 14)), VI.op (some 105) none (VOp.ld true 4 (A.t 8)), VI.call (some 106) none (Cal.fn 25) [A.t 104, A.t 105], VI.op (some 107) none (VOp.p (POp.un UnOp.not (A.t 106)))]
def v29_29 : List VI := [VI.op (some 109) none (VOp.ld true 4 (A.t 14)), VI.op (some 110) none (VOp.ld true 4 (A.t 8)), VI.call (some 111) none (Cal.fn 26) [A.t 109, A.t 110], VI.op (some 108) none (VOp.p (POp.mov (A.t 111))), VI.op (some 112) none (VOp.p (POp.ext (A.t 108) 0)), VI.op (some 113) none (VOp.p (POp.ext (A.t 108) 1)), VI.op none none (VOp.st 4 (A.t 14) (A.t 112))]
def v29_30 : List VI := [VI.op (some 114) none (VOp.ld true 4 (A.t 14)), VI.op none none (VOp.st 4 (A.t 4) (A.t 114))]
def v29 : VC := VC.seq (VC.reg v29_0) (VC.seq (VC.reg v29_1) (VC.seq (VC.reg v29_2) (VC.seq (VC.reg v29_3) (VC.seq (VC.seq (VC.reg v29_4) (VC.block 0 v29_10)) (VC.seq (VC.reg v29_11) (VC.seq (VC.reg v29_12) (VC.seq (VC.reg v29_13) (VC.seq (VC.reg v29_14) (VC.seq (VC.seq (VC.reg v29_15) (VC.block 2 v29_23)) (VC.seq (VC.reg v29_24) (VC.seq (VC.reg v29_25) (VC.seq (VC.seq (VC.reg v29_26) (VC.cond (A.t 97) (VC.reg v29_27) VC.skip)) (VC.seq (VC.seq (VC.reg v29_28) (VC.cond (A.t 107) (VC.reg v29_29) VC.skip)) (VC.seq (VC.reg v29_30) VC.ret))))))))))))))
def r29 : List RV := [RV.m 4 true 4]
theorem code29 : (Tryd.f29.body).bind (cCode Tryd.prog) = some v29 := by kernel_rfl
theorem res29 : cRVs Tryd.prog (Tryd.f29.results.toList) = some r29 := by kernel_rfl
theorem nt29 : Tryd.f29.ntmps = 115 := by kernel_rfl
theorem nm29 : (Tryd.f29.name == "runtime.NumGoroutine") = false := by kernel_rfl

/-! "veil/veilref02.words" -/
def v30_0 : List VI := [VI.op (some 2) none (VOp.new [V.int IntKind.u64 (nl 0), V.int IntKind.u64 (nl 0), V.int IntKind.u64 (nl 0), V.int IntKind.u64 (nl 0)])]
def v30_1 : List VI := [VI.op (some 3) none (VOp.new [V.int IntKind.u64 (nl 0), V.int IntKind.u64 (nl 0), V.int IntKind.u64 (nl 0), V.int IntKind.u64 (nl 0)])]
def v30_2 : List VI := [VI.op (some 5) none (VOp.p (POp.mov (A.t 0))), VI.op (some 6) none (VOp.p (POp.len false (A.t 5))), VI.op (some 7) none (VOp.p (POp.bin BinOp.sub (A.t 6) (A.c (V.int IntKind.i64 1)))), VI.op (some 4) none (VOp.p (POp.mov (A.t 7)))]
def v30_3 : List VI := [VI.op (some 8) none (VOp.p (POp.mov (A.t 4))), VI.op (some 9) none (VOp.p (POp.bin BinOp.geq (A.t 8) (A.c (V.int IntKind.i64 0))))]
def v30_4 : List DS := [DS.mk 0 true (VI.op (some 12) none (VOp.ld true 4 (A.t 3))) [] [], DS.mk 1 true (VI.op (some 13) none (VOp.p (POp.mov (A.t 0)))) [] [], DS.mk 2 true (VI.op (some 14) none (VOp.p (POp.mov (A.t 4)))) [] [], DS.mk 3 true (VI.op (some 15) none (VOp.p (POp.ixs 1 (A.t 13) (A.t 14)))) [] [], DS.mk 4 true (VI.op (some 16) none (VOp.ld false 1 (A.t 15))) [] [], DS.mk 5 false (VI.call (some 17) none (Cal.fn 29) [A.t 12, A.t 16]) [] [], DS.mk 6 false (VI.op none none (VOp.st 4 (A.t 3) (A.t 17))) [] []]
def v30_5 : VC := VC.drw v30_4
def v30_6 : List VI := [VI.op (some 10) none (VOp.p (POp.mov (A.t 4))), VI.op (some 11) none (VOp.p (POp.bin BinOp.sub (A.t 10) (A.c (V.int IntKind.i64 1)))), VI.op (some 4) none (VOp.p (POp.mov (A.t 11)))]
def v30_7 : VC := VC.seq (VC.seq (VC.reg v30_3) (VC.cond (A.t 9) VC.skip (VC.exit 0))) (VC.seq (VC.block 1 v30_5) (VC.reg v30_6))
def v30_8 : VC := VC.loop v30_7
def v30_9 : List VI := [VI.op (some 18) none (VOp.ld true 4 (A.t 3)), VI.op none none (VOp.st 4 (A.t 2) (A.t 18))]
def v30 : VC := VC.seq (VC.reg v30_0) (VC.seq (VC.reg v30_1) (VC.seq (VC.seq (VC.reg v30_2) (VC.block 0 v30_8)) (VC.seq (VC.reg v30_9) VC.ret)))
def r30 : List RV := [RV.m 2 true 4]
theorem code30 : (Tryd.f30.body).bind (cCode Tryd.prog) = some v30 := by kernel_rfl
theorem res30 : cRVs Tryd.prog (Tryd.f30.results.toList) = some r30 := by kernel_rfl
theorem nt30 : Tryd.f30.ntmps = 19 := by kernel_rfl
theorem nm30 : (Tryd.f30.name == "runtime.NumGoroutine") = false := by kernel_rfl

/-! "math/bits.Mul64" -/
def v31_0 : List VI := [VI.op (some 4) none (VOp.p (POp.mov (A.c (V.int IntKind.u64 (nl 0))))), VI.op (some 5) none (VOp.p (POp.mov (A.c (V.int IntKind.u64 (nl 0)))))]
def v31_1 : List VI := [VI.op (some 14) none (VOp.p (POp.mov (A.t 0))), VI.op (some 15) none (VOp.p (POp.bin BinOp.and (A.t 14) (A.c (V.int IntKind.u64 (nl 4294967295))))), VI.op (some 6) none (VOp.p (POp.mov (A.t 15)))]
def v31_2 : List VI := [VI.op (some 16) none (VOp.p (POp.mov (A.t 0))), VI.op (some 17) none (VOp.p (POp.bin BinOp.shr (A.t 16) (A.c (V.int IntKind.u64 (nl 32))))), VI.op (some 7) none (VOp.p (POp.mov (A.t 17)))]
def v31_3 : List VI := [VI.op (some 18) none (VOp.p (POp.mov (A.t 1))), VI.op (some 19) none (VOp.p (POp.bin BinOp.and (A.t 18) (A.c (V.int IntKind.u64 (nl 4294967295))))), VI.op (some 8) none (VOp.p (POp.mov (A.t 19)))]
def v31_4 : List VI := [VI.op (some 20) none (VOp.p (POp.mov (A.t 1))), VI.op (some 21) none (VOp.p (POp.bin BinOp.shr (A.t 20) (A.c (V.int IntKind.u64 (nl 32))))), VI.op (some 9) none (VOp.p (POp.mov (A.t 21)))]
def v31_5 : List VI := [VI.op (some 22) none (VOp.p (POp.mov (A.t 6))), VI.op (some 23) none (VOp.p (POp.mov (A.t 8))), VI.op (some 24) none (VOp.p (POp.bin BinOp.mul (A.t 22) (A.t 23))), VI.op (some 10) none (VOp.p (POp.mov (A.t 24)))]
def v31_6 : List VI := [VI.op (some 25) none (VOp.p (POp.mov (A.t 7))), VI.op (some 26) none (VOp.p (POp.mov (A.t 8))), VI.op (some 27) none (VOp.p (POp.bin BinOp.mul (A.t 25) (A.t 26))), VI.op (some 28) none (VOp.p (POp.mov (A.t 10))), VI.op (some 29) none (VOp.p (POp.bin BinOp.shr (A.t 28) (A.c (V.int IntKind.u64 (nl 32))))), VI.op (some 30) none (VOp.p (POp.bin BinOp.add (A.t 27) (A.t 29))), VI.op (some 11) none (VOp.p (POp.mov (A.t 30)))]
def v31_7 : List VI := [VI.op (some 31) none (VOp.p (POp.mov (A.t 11))), VI.op (some 32) none (VOp.p (POp.bin BinOp.and (A.t 31) (A.c (V.int IntKind.u64 (nl 4294967295))))), VI.op (some 12) none (VOp.p (POp.mov (A.t 32)))]
def v31_8 : List VI := [VI.op (some 33) none (VOp.p (POp.mov (A.t 11))), VI.op (some 34) none (VOp.p (POp.bin BinOp.shr (A.t 33) (A.c (V.int IntKind.u64 (nl 32))))), VI.op (some 13) none (VOp.p (POp.mov (A.t 34)))]
def v31_9 : List VI := [VI.op (some 35) none (VOp.p (POp.mov (A.t 12))), VI.op (some 36) none (VOp.p (POp.mov (A.t 6))), VI.op (some 37) none (VOp.p (POp.mov (A.t 9))), VI.op (some 38) none (VOp.p (POp.bin BinOp.mul (A.t 36) (A.t 37))), VI.op (some 39) none (VOp.p (POp.bin BinOp.add (A.t 35) (A.t 38))), VI.op (some 12) none (VOp.p (POp.mov (A.t 39)))]
def v31_10 : List VI := [VI.op (some 40) none (VOp.p (POp.mov (A.t 7))), VI.op (some 41) none (VOp.p (POp.mov (A.t 9))), VI.op (some 42) none (VOp.p (POp.bin BinOp.mul (A.t 40) (A.t 41))), VI.op (some 43) none (VOp.p (POp.mov (A.t 13))), VI.op (some 44) none (VOp.p (POp.bin BinOp.add (A.t 42) (A.t 43))), VI.op (some 45) none (VOp.p (POp.mov (A.t 12))), VI.op (some 46) none (VOp.p (POp.bin BinOp.shr (A.t 45) (A.c (V.int IntKind.u64 (nl 32))))), VI.op (some 47) none (VOp.p (POp.bin BinOp.add (A.t 44) (A.t 46))), VI.op (some 4) none (VOp.p (POp.mov (A.t 47)))]
def v31_11 : List VI := [VI.op (some 48) none (VOp.p (POp.mov (A.t 0))), VI.op (some 49) none (VOp.p (POp.mov (A.t 1))), VI.op (some 50) none (VOp.p (POp.bin BinOp.mul (A.t 48) (A.t 49))), VI.op (some 5) none (VOp.p (POp.mov (A.t 50)))]
def v31 : VC := VC.seq (VC.reg v31_0) (VC.seq (VC.reg v31_1) (VC.seq (VC.reg v31_2) (VC.seq (VC.reg v31_3) (VC.seq (VC.reg v31_4) (VC.seq (VC.reg v31_5) (VC.seq (VC.reg v31_6) (VC.seq (VC.reg v31_7) (VC.seq (VC.reg v31_8) (VC.seq (VC.reg v31_9) (VC.seq (VC.reg v31_10) (VC.seq (VC.reg v31_11) VC.ret)))))))))))
def r31 : List RV := [RV.t 4, RV.t 5]
theorem code31 : (Tryd.f31.body).bind (cCode Tryd.prog) = some v31 := by kernel_rfl
theorem res31 : cRVs Tryd.prog (Tryd.f31.results.toList) = some r31 := by kernel_rfl
theorem nt31 : Tryd.f31.ntmps = 51 := by kernel_rfl
theorem nm31 : (Tryd.f31.name == "runtime.NumGoroutine") = false := by kernel_rfl

/-! "veil/scalar.minus" -/
def v33_0 : List VI := [VI.op (some 2) none (VOp.box (A.t 0)), VI.op (some 3) none (VOp.box (A.t 1)), VI.op (some 4) none (VOp.new [V.int IntKind.u64 (nl 0), V.int IntKind.u64 (nl 0), V.int IntKind.u64 (nl 0), V.int IntKind.u64 (nl 0)]), VI.op (some 5) none (VOp.p (POp.mov (A.c (V.int IntKind.u64 (nl 0)))))]
def v33_1 : List VI := [VI.op (some 6) none (VOp.new [V.int IntKind.u64 (nl 0), V.int IntKind.u64 (nl 0), V.int IntKind.u64 (nl 0), V.int IntKind.u64 (nl 0)])]
def v33_2 : List VI := [VI.op (some 7) none (VOp.p (POp.mov (A.c (V.int IntKind.u64 (nl 0)))))]
def v33_3 : List VI := [VI.op (some 9) none (VOp.p (POp.mov (A.c (V.int IntKind.i64 0))))]
def v33_4 : List VI := [VI.op (some 10) none (VOp.p (POp.bin BinOp.lss (A.t 9) (A.c (V.int IntKind.i64 4))))]
def v33_5 : List VI := [VI.op (some 11) none (VOp.p (POp.mov (A.t 9))), VI.op (some 8) none (VOp.p (POp.mov (A.t 11)))]
def v33_6 : List DS := [DS.mk 0 true (VI.op (some 13) none (VOp.p (POp.mov (A.t 8)))) [] [], DS.mk 1 true (VI.op (some 14) none (VOp.p (POp.mov (A.t 8)))) [] [], DS.mk 2 true (VI.op (some 15) none (VOp.p (POp.ixa 4 1 (A.t 2) (A.t 14)))) [] [], DS.mk 3 true (VI.op (some 16) none (VOp.ld false 1 (A.t 15))) [] [], DS.mk 4 true (VI.op (some 17) none (VOp.p (POp.mov (A.t 8)))) [] [], DS.mk 5 true (VI.op (some 18) none (VOp.p (POp.ixa 4 1 (A.t 3) (A.t 17)))) [] [], DS.mk 6 true (VI.op (some 19) none (VOp.ld false 1 (A.t 18))) [] [], DS.mk 7 true (VI.op (some 20) none (VOp.p (POp.mov (A.t 7)))) [] [], DS.mk 8 false (VI.call (some 21) none (Cal.fn 41) [A.t 16, A.t 19, A.t 20]) [] [], DS.mk 9 true (VI.op (some 12) none (VOp.p (POp.mov (A.t 21)))) [] [], DS.mk 10 true (VI.op (some 22) none (VOp.p (POp.ext (A.t 12) 0))) [] [], DS.mk 11 true (VI.op (some 23) none (VOp.p (POp.ext (A.t 12) 1))) [] [], DS.mk 12 true (VI.op (some 24) none (VOp.p (POp.ixa 4 1 (A.t 6) (A.t 13)))) [] [], DS.mk 13 false (VI.op none none (VOp.st 1 (A.t 24) (A.t 22))) [] [], DS.mk 14 false (VI.op (some 7) none (VOp.p (POp.mov (A.t 23)))) [] []]
def v33_7 : VC := VC.seq (VC.reg v33_5) (VC.drw v33_6)
def v33_8 : List VI := [VI.op (some 25) none (VOp.p (POp.bin BinOp.add (A.t 9) (A.c (V.int IntKind.i64 1)))), VI.op (some 9) none (VOp.p (POp.mov (A.t 25)))]
def v33_9 : VC := VC.seq (VC.reg v33_4) (VC.seq (VC.cond (A.t 10) VC.skip (VC.exit 0)) (VC.seq (VC.block 1 v33_7) (VC.reg v33_8)))
def v33_10 : VC := VC.loop v33_9
def v33_11 : List VI := [VI.op (some 26) none (VOp.ld true 4 (A.t 6)), VI.op (some 27) none (VOp.p (POp.mov (A.t 7))), VI.op none none (VOp.st 4 (A.t 4) (A.t 26)), VI.op (some 5) none (VOp.p (POp.mov (A.t 27)))]
def v33 : VC := VC.seq (VC.reg v33_0) (VC.seq (VC.reg v33_1) (VC.seq (VC.reg v33_2) (VC.seq (VC.seq (VC.reg v33_3) (VC.block 0 v33_10)) (VC.seq (VC.reg v33_11) VC.ret))))
def r33 : List RV := [RV.m 4 true 4, RV.t 5]
theorem code33 : (Tryd.f33.body).bind (cCode Tryd.prog) = some v33 := by kernel_rfl
theorem res33 : cRVs Tryd.prog (Tryd.f33.results.toList) = some r33 := by kernel_rfl
theorem nt33 : Tryd.f33.ntmps = 28 := by kernel_rfl
theorem nm33 : (Tryd.f33.name == "runtime.NumGoroutine") = false := by kernel_rfl

/-! "veil/scalar.plus" -/
def v34_0 : List VI := [VI.op (some 2) none (VOp.box (A.t 0)), VI.op (some 3) none (VOp.box (A.t 1)), VI.op (some 4) none (VOp.new [V.int IntKind.u64 (nl 0), V.int IntKind.u64 (nl 0), V.int IntKind.u64 (nl 0), V.int IntKind.u64 (nl 0)]), VI.op (some 5) none (VOp.p (POp.mov (A.c (V.int IntKind.u64 (nl 0)))))]
def v34_1 : List VI := [VI.op (some 6) none (VOp.new [V.int IntKind.u64 (nl 0), V.int IntKind.u64 (nl 0), V.int IntKind.u64 (nl 0), V.int IntKind.u64 (nl 0)])]
def v34_2 : List VI := [VI.op (some 7) none (VOp.p (POp.mov (A.c (V.int IntKind.u64 (nl 0)))))]
def v34_3 : List VI := [VI.op (some 9) none (VOp.p (POp.mov (A.c (V.int IntKind.i64 0))))]
def v34_4 : List VI := [VI.op (some 10) none (VOp.p (POp.bin BinOp.lss (A.t 9) (A.c (V.int IntKind.i64 4))))]
def v34_5 : List VI := [VI.op (some 11) none (VOp.p (POp.mov (A.t 9))), VI.op (some 8) none (VOp.p (POp.mov (A.t 11)))]
def v34_6 : List DS := [DS.mk 0 true (VI.op (some 13) none (VOp.p (POp.mov (A.t 8)))) [] [], DS.mk 1 true (VI.op (some 14) none (VOp.p (POp.mov (A.t 8)))) [] [], DS.mk 2 true (VI.op (some 15) none (VOp.p (POp.ixa 4 1 (A.t 2) (A.t 14)))) [] [], DS.mk 3 true (VI.op (some 16) none (VOp.ld false 1 (A.t 15))) [] [], DS.mk 4 true (VI.op (some 17) none (VOp.p (POp.mov (A.t 8)))) [] [], DS.mk 5 true (VI.op (some 18) none (VOp.p (POp.ixa 4 1 (A.t 3) (A.t 17)))) [] [], DS.mk 6 true (VI.op (some 19) none (VOp.ld false 1 (A.t 18))) [] [], DS.mk 7 true (VI.op (some 20) none (VOp.p (POp.mov (A.t 7)))) [] [], DS.mk 8 false (VI.call (some 21) none (Cal.fn 32) [A.t 16, A.t 19, A.t 20]) [] [], DS.mk 9 true (VI.op (some 12) none (VOp.p (POp.mov (A.t 21)))) [] [], DS.mk 10 true (VI.op (some 22) none (VOp.p (POp.ext (A.t 12) 0))) [] [], DS.mk 11 true (VI.op (some 23) none (VOp.p (POp.ext (A.t 12) 1))) [] [], DS.mk 12 true (VI.op (some 24) none (VOp.p (POp.ixa 4 1 (A.t 6) (A.t 13)))) [] [], DS.mk 13 false (VI.op none none (VOp.st 1 (A.t 24) (A.t 22))) [] [], DS.mk 14 false (VI.op (some 7) none (VOp.p (POp.mov (A.t 23)))) [] []]
def v34_7 : VC := VC.seq (VC.reg v34_5) (VC.drw v34_6)
def v34_8 : List VI := [VI.op (some 25) none (VOp.p (POp.bin BinOp.add (A.t 9) (A.c (V.int IntKind.i64 1)))), VI.op (some 9) none (VOp.p (POp.mov (A.t 25)))]
def v34_9 : VC := VC.seq (VC.reg v34_4) (VC.seq (VC.cond (A.t 10) VC.skip (VC.exit 0)) (VC.seq (VC.block 1 v34_7) (VC.reg v34_8)))
def v34_10 : VC := VC.loop v34_9
def v34_11 : List VI := [VI.op (some 26) none (VOp.ld true 4 (A.t 6)), VI.op (some 27) none (VOp.p (POp.mov (A.t 7))), VI.op none none (VOp.st 4 (A.t 4) (A.t 26)), VI.op (some 5) none (VOp.p (POp.mov (A.t 27)))]
def v34 : VC := VC.seq (VC.reg v34_0) (VC.seq (VC.reg v34_1) (VC.seq (VC.reg v34_2) (VC.seq (VC.seq (VC.reg v34_3) (VC.block 0 v34_10)) (VC.seq (VC.reg v34_11) VC.ret))))
def r34 : List RV := [RV.m 4 true 4, RV.t 5]
theorem code34 : (Tryd.f34.body).bind (cCode Tryd.prog) = some v34 := by kernel_rfl
theorem res34 : cRVs Tryd.prog (Tryd.f34.results.toList) = some r34 := by kernel_rfl
theorem nt34 : Tryd.f34.ntmps = 28 := by kernel_rfl
theorem nm34 : (Tryd.f34.name == "runtime.NumGoroutine") = false := by kernel_rfl

/-! "veil/scalar.lower" -/
def v35_0 : List VI := [VI.op (some 1) none (VOp.box (A.t 0)), VI.op (some 2) none (VOp.new [V.int IntKind.u64 (nl 0), V.int IntKind.u64 (nl 0), V.int IntKind.u64 (nl 0), V.int IntKind.u64 (nl 0)])]
def v35_1 : List VI := [VI.op (some 6) none (VOp.ld true 4 (A.t 1)), VI.op (some 7) none (VOp.p (POp.ixa 4 4 (A.g 0) (A.c (V.int IntKind.i64 0)))), VI.op (some 8) none (VOp.ld true 4 (A.t 7)), VI.call (some 9) none (Cal.fn 33) [A.t 6, A.t 8], VI.op (some 5) none (VOp.p (POp.mov (A.t 9))), VI.op (some 10) none (VOp.p (POp.ext (A.t 5) 0)), VI.op (some 11) none (VOp.p (POp.ext (A.t 5) 1)), VI.op (some 3) none (VOp.new [V.int IntKind.u64 (nl 0), V.int IntKind.u64 (nl 0), V.int IntKind.u64 (nl 0), V.int IntKind.u64 (nl 0)]), VI.op none none (VOp.st 4 (A.t 3) (A.t 10)), VI.op (some 4) none (VOp.p (POp.mov (A.t 11)))]
def v35_2 : List VI := [VI.op (some 12) none (VOp.p (POp.mov (A.t 4))), VI.op (some 13) none (VOp.p (POp.un UnOp.neg (A.t 12))), VI.op (some 14) none (VOp.ld true 4 (A.t 1)), VI.op (some 15) none (VOp.ld true 4 (A.t 3)), VI.call (some 16) none (Cal.fn 36) [A.t 13, A.t 14, A.t 15], VI.op none none (VOp.st 4 (A.t 2) (A.t 16))]
def v35 : VC := VC.seq (VC.reg v35_0) (VC.seq (VC.reg v35_1) (VC.seq (VC.reg v35_2) VC.ret))
def r35 : List RV := [RV.m 2 true 4]
theorem code35 : (Tryd.f35.body).bind (cCode Tryd.prog) = some v35 := by kernel_rfl
theorem res35 : cRVs Tryd.prog (Tryd.f35.results.toList) = some r35 := by kernel_rfl
theorem nt35 : Tryd.f35.ntmps = 17 := by kernel_rfl
theorem nm35 : (Tryd.f35.name == "runtime.NumGoroutine") = false := by kernel_rfl

/-! "veil/scalar.choose" -/
def v36_0 : List VI := [VI.op (some 4) none (VOp.box (A.t 1)), VI.op (some 5) none (VOp.box (A.t 2)), VI.op (some 6) none (VOp.new [V.int IntKind.u64 (nl 0), V.int IntKind.u64 (nl 0), V.int IntKind.u64 (nl 0), V.int IntKind.u64 (nl 0)])]
def v36_1 : List VI := [VI.op (some 8) none (VOp.p (POp.mov (A.c (V.int IntKind.i64 0))))]
def v36_2 : List VI := [VI.op (some 9) none (VOp.p (POp.bin BinOp.lss (A.t 8) (A.c (V.int IntKind.i64 4))))]
def v36_3 : List VI := [VI.op (some 10) none (VOp.p (POp.mov (A.t 8))), VI.op (some 7) none (VOp.p (POp.mov (A.t 10)))]
def v36_4 : List DS := [DS.mk 0 true (VI.op (some 11) none (VOp.p (POp.mov (A.t 7)))) [] [], DS.mk 1 true (VI.op (some 12) none (VOp.p (POp.mov (A.t 7)))) [] [], DS.mk 2 true (VI.op (some 13) none (VOp.p (POp.ixa 4 1 (A.t 4) (A.t 12)))) [] [], DS.mk 3 true (VI.op (some 14) none (VOp.ld false 1 (A.t 13))) [] [], DS.mk 4 true (VI.op (some 15) none (VOp.p (POp.mov (A.t 0)))) [] [], DS.mk 5 true (VI.op (some 16) none (VOp.p (POp.bin BinOp.and (A.t 14) (A.t 15)))) [] [], DS.mk 6 true (VI.op (some 17) none (VOp.p (POp.mov (A.t 7)))) [] [], DS.mk 7 true (VI.op (some 18) none (VOp.p (POp.ixa 4 1 (A.t 5) (A.t 17)))) [] [], DS.mk 8 true (VI.op (some 19) none (VOp.ld false 1 (A.t 18))) [] [], DS.mk 9 true (VI.op (some 20) none (VOp.p (POp.mov (A.t 0)))) [] [], DS.mk 10 true (VI.op (some 21) none (VOp.p (POp.bin BinOp.andNot (A.t 19) (A.t 20)))) [] [], DS.mk 11 true (VI.op (some 22) none (VOp.p (POp.bin BinOp.or (A.t 16) (A.t 21)))) [] [], DS.mk 12 true (VI.op (some 23) none (VOp.p (POp.ixa 4 1 (A.t 4) (A.t 11)))) [] [], DS.mk 13 false (VI.op none none (VOp.st 1 (A.t 23) (A.t 22))) [] []]
def v36_5 : VC := VC.seq (VC.reg v36_3) (VC.drw v36_4)
def v36_6 : List VI := [VI.op (some 24) none (VOp.p (POp.bin BinOp.add (A.t 8) (A.c (V.int IntKind.i64 1)))), VI.op (some 8) none (VOp.p (POp.mov (A.t 24)))]
def v36_7 : VC := VC.seq (VC.reg v36_2) (VC.seq (VC.cond (A.t 9) VC.skip (VC.exit 0)) (VC.seq (VC.block 1 v36_5) (VC.reg v36_6)))
def v36_8 : VC := VC.loop v36_7
def v36_9 : List VI := [VI.op (some 25) none (VOp.ld true 4 (A.t 4)), VI.op none none (VOp.st 4 (A.t 6) (A.t 25))]
def v36 : VC := VC.seq (VC.reg v36_0) (VC.seq (VC.seq (VC.reg v36_1) (VC.block 0 v36_8)) (VC.seq (VC.reg v36_9) VC.ret))
def r36 : List RV := [RV.m 6 true 4]
theorem code36 : (Tryd.f36.body).bind (cCode Tryd.prog) = some v36 := by kernel_rfl
theorem res36 : cRVs Tryd.prog (Tryd.f36.results.toList) = some r36 := by kernel_rfl
theorem nt36 : Tryd.f36.ntmps = 26 := by kernel_rfl
theorem nm36 : (Tryd.f36.name == "runtime.NumGoroutine") = false := by kernel_rfl

/-! "veil/scalar.into" -/
def v37_0 : List VI := [VI.op (some 8) none (VOp.p (POp.mov (A.c (V.int IntKind.u64 (nl 0))))), VI.op (some 9) none (VOp.p (POp.mov (A.c (V.int IntKind.u64 (nl 0)))))]
def v37_1 : List VI := [VI.op (some 14) none (VOp.p (POp.mov (A.t 0))), VI.op (some 15) none (VOp.p (POp.mov (A.t 1))), VI.call (some 16) none (Cal.fn 31) [A.t 14, A.t 15], VI.op (some 13) none (VOp.p (POp.mov (A.t 16))), VI.op (some 17) none (VOp.p (POp.ext (A.t 13) 0)), VI.op (some 18) none (VOp.p (POp.ext (A.t 13) 1)), VI.op (some 10) none (VOp.p (POp.mov (A.t 17))), VI.op (some 11) none (VOp.p (POp.mov (A.t 18)))]
def v37_2 : List VI := [VI.op (some 20) none (VOp.p (POp.mov (A.t 11))), VI.op (some 21) none (VOp.p (POp.mov (A.t 2))), VI.call (some 22) none (Cal.fn 32) [A.t 20, A.t 21, A.c (V.int IntKind.u64 (nl 0))], VI.op (some 19) none (VOp.p (POp.mov (A.t 22))), VI.op (some 23) none (VOp.p (POp.ext (A.t 19) 0)), VI.op (some 24) none (VOp.p (POp.ext (A.t 19) 1)), VI.op (some 11) none (VOp.p (POp.mov (A.t 23))), VI.op (some 12) none (VOp.p (POp.mov (A.t 24)))]
def v37_3 : List VI := [VI.op (some 25) none (VOp.p (POp.mov (A.t 10))), VI.op (some 26) none (VOp.p (POp.mov (A.t 12))), VI.op (some 27) none (VOp.p (POp.bin BinOp.add (A.t 25) (A.t 26))), VI.op (some 10) none (VOp.p (POp.mov (A.t 27)))]
def v37_4 : List VI := [VI.op (some 29) none (VOp.p (POp.mov (A.t 11))), VI.op (some 30) none (VOp.p (POp.mov (A.t 3))), VI.call (some 31) none (Cal.fn 32) [A.t 29, A.t 30, A.c (V.int IntKind.u64 (nl 0))], VI.op (some 28) none (VOp.p (POp.mov (A.t 31))), VI.op (some 32) none (VOp.p (POp.ext (A.t 28) 0)), VI.op (some 33) none (VOp.p (POp.ext (A.t 28) 1)), VI.op (some 11) none (VOp.p (POp.mov (A.t 32))), VI.op (some 12) none (VOp.p (POp.mov (A.t 33)))]
def v37_5 : List VI := [VI.op (some 34) none (VOp.p (POp.mov (A.t 11))), VI.op (some 35) none (VOp.p (POp.mov (A.t 10))), VI.op (some 36) none (VOp.p (POp.mov (A.t 12))), VI.op (some 37) none (VOp.p (POp.bin BinOp.add (A.t 35) (A.t 36))), VI.op (some 8) none (VOp.p (POp.mov (A.t 34))), VI.op (some 9) none (VOp.p (POp.mov (A.t 37)))]
def v37 : VC := VC.seq (VC.reg v37_0) (VC.seq (VC.reg v37_1) (VC.seq (VC.reg v37_2) (VC.seq (VC.reg v37_3) (VC.seq (VC.reg v37_4) (VC.seq (VC.reg v37_5) VC.ret)))))
def r37 : List RV := [RV.t 8, RV.t 9]
theorem code37 : (Tryd.f37.body).bind (cCode Tryd.prog) = some v37 := by kernel_rfl
theorem res37 : cRVs Tryd.prog (Tryd.f37.results.toList) = some r37 := by kernel_rfl
theorem nt37 : Tryd.f37.ntmps = 38 := by kernel_rfl
theorem nm37 : (Tryd.f37.name == "runtime.NumGoroutine") = false := by kernel_rfl

/-! "veil/veilref02.plus" -/
def v38_0 : List VI := [VI.op (some 2) none (VOp.box (A.t 0)), VI.op (some 3) none (VOp.box (A.t 1)), VI.op (some 4) none (VOp.new [V.int IntKind.u64 (nl 0), V.int IntKind.u64 (nl 0), V.int IntKind.u64 (nl 0), V.int IntKind.u64 (nl 0)]), VI.op (some 5) none (VOp.p (POp.mov (A.c (V.int IntKind.u64 (nl 0)))))]
def v38_1 : List VI := [VI.op (some 6) none (VOp.new [V.int IntKind.u64 (nl 0), V.int IntKind.u64 (nl 0), V.int IntKind.u64 (nl 0), V.int IntKind.u64 (nl 0)])]
def v38_2 : List VI := [VI.op (some 7) none (VOp.p (POp.mov (A.c (V.int IntKind.u64 (nl 0)))))]
def v38_3 : List VI := [VI.op (some 8) none (VOp.p (POp.mov (A.c (V.int IntKind.i64 0))))]
def v38_4 : List VI := [VI.op (some 12) none (VOp.p (POp.mov (A.t 8))), VI.op (some 13) none (VOp.p (POp.bin BinOp.lss (A.t 12) (A.c (V.int IntKind.i64 4))))]
def v38_5 : List DS := [DS.mk 0 true (VI.op (some 16) none (VOp.p (POp.mov (A.t 8)))) [] [], DS.mk 1 true (VI.op (some 17) none (VOp.p (POp.ixa 4 1 (A.t 2) (A.t 16)))) [] [], DS.mk 2 true (VI.op (some 18) none (VOp.ld false 1 (A.t 17))) [] [], DS.mk 3 true (VI.op (some 19) none (VOp.p (POp.mov (A.t 8)))) [] [], DS.mk 4 true (VI.op (some 20) none (VOp.p (POp.ixa 4 1 (A.t 3) (A.t 19)))) [] [], DS.mk 5 true (VI.op (some 21) none (VOp.ld false 1 (A.t 20))) [] [], DS.mk 6 true (VI.op (some 22) none (VOp.p (POp.bin BinOp.add (A.t 18) (A.t 21)))) [] [], DS.mk 7 false (VI.op (some 9) none (VOp.p (POp.mov (A.t 22)))) [] []]
def v38_6 : List VI := [VI.op (some 10) none (VOp.p (POp.mov (A.c (V.int IntKind.u64 (nl 0)))))]
def v38_7 : List VI := [VI.op (some 23) none (VOp.p (POp.mov (A.t 9))), VI.op (some 24) none (VOp.p (POp.mov (A.t 8))), VI.op (some 25) none (VOp.p (POp.ixa 4 1 (A.t 2) (A.t 24))), VI.op (some 26) none (VOp.ld false 1 (A.t 25)), VI.op (some 27) none (VOp.p (POp.bin BinOp.lss (A.t 23) (A.t 26)))]
def v38_8 : List VI := [VI.op (some 10) none (VOp.p (POp.mov (A.c (V.int IntKind.u64 (nl 1)))))]
def v38_9 : List VI := [VI.op (some 28) none (VOp.p (POp.mov (A.t 9))), VI.op (some 29) none (VOp.p (POp.mov (A.t 7))), VI.op (some 30) none (VOp.p (POp.bin BinOp.add (A.t 28) (A.t 29))), VI.op (some 11) none (VOp.p (POp.mov (A.t 30)))]
def v38_10 : List VI := [VI.op (some 31) none (VOp.p (POp.mov (A.t 11))), VI.op (some 32) none (VOp.p (POp.mov (A.t 9))), VI.op (some 33) none (VOp.p (POp.bin BinOp.lss (A.t 31) (A.t 32)))]
def v38_11 : List VI := [VI.op (some 10) none (VOp.p (POp.mov (A.c (V.int IntKind.u64 (nl 1)))))]
def v38_12 : List VI := [VI.op (some 34) none (VOp.p (POp.mov (A.t 8))), VI.op (some 35) none (VOp.p (POp.mov (A.t 11))), VI.op (some 36) none (VOp.p (POp.ixa 4 1 (A.t 6) (A.t 34))), VI.op none none (VOp.st 1 (A.t 36) (A.t 35))]
def v38_13 : List VI := [VI.op (some 37) none (VOp.p (POp.mov (A.t 10))), VI.op (some 7) none (VOp.p (POp.mov (A.t 37)))]
def v38_14 : VC := VC.seq (VC.drw v38_5) (VC.seq (VC.reg v38_6) (VC.seq (VC.seq (VC.reg v38_7) (VC.cond (A.t 27) (VC.reg v38_8) VC.skip)) (VC.seq (VC.reg v38_9) (VC.seq (VC.seq (VC.reg v38_10) (VC.cond (A.t 33) (VC.reg v38_11) VC.skip)) (VC.seq (VC.reg v38_12) (VC.reg v38_13))))))
def v38_15 : List VI := [VI.op (some 14) none (VOp.p (POp.mov (A.t 8))), VI.op (some 15) none (VOp.p (POp.bin BinOp.add (A.t 14) (A.c (V.int IntKind.i64 1)))), VI.op (some 8) none (VOp.p (POp.mov (A.t 15)))]
def v38_16 : VC := VC.seq (VC.seq (VC.reg v38_4) (VC.cond (A.t 13) VC.skip (VC.exit 0))) (VC.seq (VC.block 1 v38_14) (VC.reg v38_15))
def v38_17 : VC := VC.loop v38_16
def v38_18 : List VI := [VI.op (some 38) none (VOp.ld true 4 (A.t 6)), VI.op (some 39) none (VOp.p (POp.mov (A.t 7))), VI.op none none (VOp.st 4 (A.t 4) (A.t 38)), VI.op (some 5) none (VOp.p (POp.mov (A.t 39)))]
def v38 : VC := VC.seq (VC.reg v38_0) (VC.seq (VC.reg v38_1) (VC.seq (VC.reg v38_2) (VC.seq (VC.seq (VC.reg v38_3) (VC.block 0 v38_17)) (VC.seq (VC.reg v38_18) VC.ret))))
def r38 : List RV := [RV.m 4 true 4, RV.t 5]
theorem code38 : (Tryd.f38.body).bind (cCode Tryd.prog) = some v38 := by kernel_rfl
theorem res38 : cRVs Tryd.prog (Tryd.f38.results.toList) = some r38 := by kernel_rfl
theorem nt38 : Tryd.f38.ntmps = 40 := by kernel_rfl
theorem nm38 : (Tryd.f38.name == "runtime.NumGoroutine") = false := by kernel_rfl

/-! "(veil/veilref02.Scalar).Add" -/
def v39_0 : List VI := [VI.op (some 2) none (VOp.box (A.t 0)), VI.op (some 3) none (VOp.box (A.t 1)), VI.op (some 4) none (VOp.new [V.int IntKind.u64 (nl 0), V.int IntKind.u64 (nl 0), V.int IntKind.u64 (nl 0), V.int IntKind.u64 (nl 0)])]
def v39_1 : List VI := [VI.op (some 8) none (VOp.ld true 4 (A.t 2)), VI.op (some 9) none (VOp.ld true 4 (A.t 3)), VI.call (some 10) none (Cal.fn 38) [A.t 8, A.t 9], VI.op (some 7) none (VOp.p (POp.mov (A.t 10))), VI.op (some 11) none (VOp.p (POp.ext (A.t 7) 0)), VI.op (some 12) none (VOp.p (POp.ext (A.t 7) 1)), VI.op (some 5) none (VOp.new [V.int IntKind.u64 (nl 0), V.int IntKind.u64 (nl 0), V.int IntKind.u64 (nl 0), V.int IntKind.u64 (nl 0)]), VI.op none none (VOp.st 4 (A.t 5) (A.t 11)), VI.op (some 6) none (VOp.p (POp.mov (A.t 12)))]
def v39_2 : List DS := [DS.mk 0 true (VI.op (some 13) none (VOp.ld true 4 (A.t 5))) [] [], DS.mk 1 false (VI.call (some 14) none (Cal.fn 23) []) [5] [], DS.mk 2 false (VI.call (some 15) none (Cal.fn 25) [A.t 13, A.t 14]) [] [], DS.mk 3 true (VI.op (some 16) none (VOp.p (POp.un UnOp.not (A.t 15)))) [] []]
def v39_3 : List DS := [DS.mk 0 true (VI.op (some 18) none (VOp.ld true 4 (A.t 5))) [] [], DS.mk 1 false (VI.call (some 19) none (Cal.fn 23) []) [5] [], DS.mk 2 false (VI.call (some 20) none (Cal.fn 26) [A.t 18, A.t 19]) [] [], DS.mk 3 true (VI.op (some 17) none (VOp.p (POp.mov (A.t 20)))) [] [], DS.mk 4 true (VI.op (some 21) none (VOp.p (POp.ext (A.t 17) 0))) [] [], DS.mk 5 true (VI.op (some 22) none (VOp.p (POp.ext (A.t 17) 1))) [] [], DS.mk 6 false (VI.op none none (VOp.st 4 (A.t 5) (A.t 21))) [] []]
def v39_4 : List VI := [VI.op (some 23) none (VOp.ld true 4 (A.t 5)), VI.op none none (VOp.st 4 (A.t 4) (A.t 23))]
def v39 : VC := VC.seq (VC.reg v39_0) (VC.seq (VC.reg v39_1) (VC.seq (VC.seq (VC.drw v39_2) (VC.cond (A.t 16) (VC.drw v39_3) VC.skip)) (VC.seq (VC.reg v39_4) VC.ret)))
def r39 : List RV := [RV.m 4 true 4]
theorem code39 : (Tryd.f39.body).bind (cCode Tryd.prog) = some v39 := by kernel_rfl
theorem res39 : cRVs Tryd.prog (Tryd.f39.results.toList) = some r39 := by kernel_rfl
theorem nt39 : Tryd.f39.ntmps = 24 := by kernel_rfl
theorem nm39 : (Tryd.f39.name == "runtime.NumGoroutine") = false := by kernel_rfl

/-! "(veil/veilref02.Scalar).Neg" -/
def v40_0 : List VI := [VI.op (some 1) none (VOp.box (A.t 0)), VI.op (some 2) none (VOp.new [V.int IntKind.u64 (nl 0), V.int IntKind.u64 (nl 0), V.int IntKind.u64 (nl 0), V.int IntKind.u64 (nl 0)])]
def v40_1 : List VI := [VI.op (some 5) none (VOp.ld true 4 (A.t 1)), VI.call (some 6) none (Cal.fn 15) [A.t 5]]
def v40_2 : List VI := [VI.op (some 7) none (VOp.ld true 4 (A.t 1)), VI.op none none (VOp.st 4 (A.t 2) (A.t 7))]
def v40_3 : List DS := [DS.mk 1 true (VI.op (some 10) none (VOp.ld true 4 (A.t 1))) [] [], DS.mk 6 true (VI.op (some 3) none (VOp.new [V.int IntKind.u64 (nl 0), V.int IntKind.u64 (nl 0), V.int IntKind.u64 (nl 0), V.int IntKind.u64 (nl 0)])) [] [], DS.mk 0 false (VI.call (some 9) none (Cal.fn 23) []) [1] [3], DS.mk 2 false (VI.call (some 11) none (Cal.fn 26) [A.t 9, A.t 10]) [] [3], DS.mk 3 true (VI.op (some 8) none (VOp.p (POp.mov (A.t 11)))) [] [], DS.mk 4 true (VI.op (some 12) none (VOp.p (POp.ext (A.t 8) 0))) [] [], DS.mk 5 true (VI.op (some 13) none (VOp.p (POp.ext (A.t 8) 1))) [] [], DS.mk 7 false (VI.op none none (VOp.st 4 (A.t 3) (A.t 12))) [] [], DS.mk 8 false (VI.op (some 4) none (VOp.p (POp.mov (A.t 13)))) [] []]
def v40_4 : List VI := [VI.op (some 14) none (VOp.ld true 4 (A.t 3)), VI.op none none (VOp.st 4 (A.t 2) (A.t 14))]
def v40 : VC := VC.seq (VC.reg v40_0) (VC.seq (VC.seq (VC.reg v40_1) (VC.cond (A.t 6) (VC.seq (VC.reg v40_2) VC.ret) VC.skip)) (VC.seq (VC.drw v40_3) (VC.seq (VC.reg v40_4) VC.ret)))
def r40 : List RV := [RV.m 2 true 4]
theorem code40 : (Tryd.f40.body).bind (cCode Tryd.prog) = some v40 := by kernel_rfl
theorem res40 : cRVs Tryd.prog (Tryd.f40.results.toList) = some r40 := by kernel_rfl
theorem nt40 : Tryd.f40.ntmps = 15 := by kernel_rfl
theorem nm40 : (Tryd.f40.name == "runtime.NumGoroutine") = false := by kernel_rfl

/-! "(veil/scalar.Scalar).Invert" -/
def v58_0 : List VI := [VI.op (some 1) none (VOp.box (A.t 0)), VI.op (some 2) none (VOp.new [V.int IntKind.u64 (nl 0), V.int IntKind.u64 (nl 0), V.int IntKind.u64 (nl 0), V.int IntKind.u64 (nl 0)])]
def v58_1 : List VI := [VI.op (some 3) none (VOp.ld true 4 (A.t 1)), VI.op (some 4) none (VOp.p (POp.ixa 4 4 (A.g 0) (A.c (V.int IntKind.i64 3)))), VI.op (some 5) none (VOp.ld true 4 (A.t 4)), VI.call (some 6) none (Cal.fn 60) [A.t 3, A.t 5, A.c (V.int IntKind.i64 253)], VI.op none none (VOp.st 4 (A.t 2) (A.t 6))]
def v58 : VC := VC.seq (VC.reg v58_0) (VC.seq (VC.reg v58_1) VC.ret)
def r58 : List RV := [RV.m 2 true 4]
theorem code58 : (Tryd.f58.body).bind (cCode Tryd.prog) = some v58 := by kernel_rfl
theorem res58 : cRVs Tryd.prog (Tryd.f58.results.toList) = some r58 := by kernel_rfl
theorem nt58 : Tryd.f58.ntmps = 7 := by kernel_rfl
theorem nm58 : (Tryd.f58.name == "runtime.NumGoroutine") = false := by kernel_rfl

/-! "(veil/scalar.Scalar).One" -/
def v59_0 : List VI := [VI.op (some 1) none (VOp.box (A.t 0)), VI.op (some 2) none (VOp.new [V.int IntKind.u64 (nl 0), V.int IntKind.u64 (nl 0), V.int IntKind.u64 (nl 0), V.int IntKind.u64 (nl 0)])]
def v59_1 : List VI := [VI.op (some 3) none (VOp.p (POp.bld [V.int IntKind.u64 (nl 0), V.int IntKind.u64 (nl 0), V.int IntKind.u64 (nl 0), V.int IntKind.u64 (nl 0)] [(0, 1, A.c (V.int IntKind.u64 (nl 1)))])), VI.op none none (VOp.st 4 (A.t 2) (A.t 3))]
def v59 : VC := VC.seq (VC.reg v59_0) (VC.seq (VC.reg v59_1) VC.ret)
def r59 : List RV := [RV.m 2 true 4]
theorem code59 : (Tryd.f59.body).bind (cCode Tryd.prog) = some v59 := by kernel_rfl
theorem res59 : cRVs Tryd.prog (Tryd.f59.results.toList) = some r59 := by kernel_rfl
theorem nt59 : Tryd.f59.ntmps = 4 := by kernel_rfl
theorem nm59 : (Tryd.f59.name == "runtime.NumGoroutine") = false := by kernel_rfl

/-! "(veil/scalar.Scalar).power" -/
def v60_0 : List VI := [VI.op (some 3) none (VOp.box (A.t 0)), VI.op (some 4) none (VOp.box (A.t 1)), VI.op (some 6) none (VOp.new [V.int IntKind.u64 (nl 0), V.int IntKind.u64 (nl 0), V.int IntKind.u64 (nl 0), V.int IntKind.u64 (nl 0)])]
def v60_1 : List DS := [DS.mk 0 true (VI.op (some 11) none (VOp.ld true 4 (A.t 3))) [] [], DS.mk 2 true (VI.op (some 13) none (VOp.p (POp.ixa 4 4 (A.g 0) (A.c (V.int IntKind.i64 2))))) [] [], DS.mk 3 true (VI.op (some 14) none (VOp.ld true 4 (A.t 13))) [] [], DS.mk 5 true (VI.op (some 7) none (VOp.new [V.int IntKind.u64 (nl 0), V.int IntKind.u64 (nl 0), V.int IntKind.u64 (nl 0), V.int IntKind.u64 (nl 0)])) [] [], DS.mk 1 false (VI.call (some 12) none (Cal.fn 21) [A.t 11]) [13] [7], DS.mk 4 false (VI.call (some 15) none (Cal.fn 22) [A.t 12, A.t 14]) [] [7], DS.mk 6 false (VI.op none none (VOp.st 4 (A.t 7) (A.t 15))) [] []]
def v60_2 : List VI := [VI.op (some 16) none (VOp.p (POp.ixa 4 4 (A.g 0) (A.c (V.int IntKind.i64 1)))), VI.op (some 17) none (VOp.ld true 4 (A.t 16)), VI.op (some 8) none (VOp.new [V.int IntKind.u64 (nl 0), V.int IntKind.u64 (nl 0), V.int IntKind.u64 (nl 0), V.int IntKind.u64 (nl 0)]), VI.op none none (VOp.st 4 (A.t 8) (A.t 17))]
def v60_3 : List VI := [VI.op (some 9) none (VOp.p (POp.mov (A.c (V.bool false))))]
def v60_4 : List VI := [VI.op (some 18) none (VOp.p (POp.mov (A.t 2))), VI.op (some 19) none (VOp.p (POp.bin BinOp.sub (A.t 18) (A.c (V.int IntKind.i64 1)))), VI.op (some 10) none (VOp.p (POp.mov (A.t 19)))]
def v60_5 : List VI := [VI.op (some 20) none (VOp.p (POp.mov (A.t 10))), VI.op (some 21) none (VOp.p (POp.bin BinOp.geq (A.t 20) (A.c (V.int IntKind.i64 0))))]
def v60_6 : List VI := [VI.op (some 24) none (VOp.p (POp.mov (A.t 9)))]
def v60_7 : List VI := [VI.op (some 25) none (VOp.ld true 4 (A.t 8)), VI.op (some 26) none (VOp.ld true 4 (A.t 8)), VI.call (some 27) none (Cal.fn 22) [A.t 25, A.t 26], VI.op none none (VOp.st 4 (A.t 8) (A.t 27))]
def v60_8 : List VI := [VI.op (some 28) none (VOp.p (POp.mov (A.t 10))), VI.op (some 29) none (VOp.p (POp.bin BinOp.quo (A.t 28) (A.c (V.int IntKind.i64 64)))), VI.op (some 30) none (VOp.p (POp.ixa 4 1 (A.t 4) (A.t 29))), VI.op (some 31) none (VOp.ld false 1 (A.t 30)), VI.op (some 32) none (VOp.p (POp.mov (A.t 10))), VI.op (some 33) none (VOp.p (POp.bin BinOp.rem (A.t 32) (A.c (V.int IntKind.i64 64)))), VI.op (some 34) none (VOp.p (POp.bin BinOp.shr (A.t 31) (A.t 33))), VI.op (some 35) none (VOp.p (POp.bin BinOp.and (A.t 34) (A.c (V.int IntKind.u64 (nl 1))))), VI.op (some 36) none (VOp.p (POp.eq false EqK.i (A.t 35) (A.c (V.int IntKind.u64 (nl 1)))))]
def v60_9 : List VI := [VI.op (some 37) none (VOp.ld true 4 (A.t 8)), VI.op (some 38) none (VOp.ld true 4 (A.t 7)), VI.call (some 39) none (Cal.fn 22) [A.t 37, A.t 38], VI.op none none (VOp.st 4 (A.t 8) (A.t 39))]
def v60_10 : List VI := [VI.op (some 9) none (VOp.p (POp.mov (A.c (V.bool true))))]
def v60_11 : VC := VC.seq (VC.seq (VC.reg v60_6) (VC.cond (A.t 24) (VC.reg v60_7) VC.skip)) (VC.seq (VC.reg v60_8) (VC.cond (A.t 36) (VC.seq (VC.reg v60_9) (VC.reg v60_10)) VC.skip))
def v60_12 : List VI := [VI.op (some 22) none (VOp.p (POp.mov (A.t 10))), VI.op (some 23) none (VOp.p (POp.bin BinOp.sub (A.t 22) (A.c (V.int IntKind.i64 1)))), VI.op (some 10) none (VOp.p (POp.mov (A.t 23)))]
def v60_13 : VC := VC.seq (VC.seq (VC.reg v60_5) (VC.cond (A.t 21) VC.skip (VC.exit 0))) (VC.seq (VC.block 1 v60_11) (VC.reg v60_12))
def v60_14 : VC := VC.loop v60_13
def v60_15 : List VI := [VI.op (some 40) none (VOp.ld true 4 (A.t 8)), VI.op (some 41) none (VOp.p (POp.bld [V.int IntKind.u64 (nl 0), V.int IntKind.u64 (nl 0), V.int IntKind.u64 (nl 0), V.int IntKind.u64 (nl 0)] [(0, 1, A.c (V.int IntKind.u64 (nl 1)))])), VI.call (some 42) none (Cal.fn 22) [A.t 40, A.t 41], VI.op none none (VOp.st 4 (A.t 6) (A.t 42))]
def v60 : VC := VC.seq (VC.reg v60_0) (VC.seq (VC.drw v60_1) (VC.seq (VC.reg v60_2) (VC.seq (VC.reg v60_3) (VC.seq (VC.seq (VC.reg v60_4) (VC.block 0 v60_14)) (VC.seq (VC.reg v60_15) VC.ret)))))
def r60 : List RV := [RV.m 6 true 4]
theorem code60 : (Tryd.f60.body).bind (cCode Tryd.prog) = some v60 := by kernel_rfl
theorem res60 : cRVs Tryd.prog (Tryd.f60.results.toList) = some r60 := by kernel_rfl
theorem nt60 : Tryd.f60.ntmps = 43 := by kernel_rfl
theorem nm60 : (Tryd.f60.name == "runtime.NumGoroutine") = false := by kernel_rfl

/-! "(veil/veilref02.Scalar).One" -/
def v61_0 : List VI := [VI.op (some 1) none (VOp.box (A.t 0)), VI.op (some 2) none (VOp.new [V.int IntKind.u64 (nl 0), V.int IntKind.u64 (nl 0), V.int IntKind.u64 (nl 0), V.int IntKind.u64 (nl 0)])]
def v61_1 : List VI := [VI.call (some 3) none (Cal.fn 16) [A.c (V.int IntKind.u64 (nl 1))], VI.op none none (VOp.st 4 (A.t 2) (A.t 3))]
def v61 : VC := VC.seq (VC.reg v61_0) (VC.seq (VC.reg v61_1) VC.ret)
def r61 : List RV := [RV.m 2 true 4]
theorem code61 : (Tryd.f61.body).bind (cCode Tryd.prog) = some v61 := by kernel_rfl
theorem res61 : cRVs Tryd.prog (Tryd.f61.results.toList) = some r61 := by kernel_rfl
theorem nt61 : Tryd.f61.ntmps = 4 := by kernel_rfl
theorem nm61 : (Tryd.f61.name == "runtime.NumGoroutine") = false := by kernel_rfl

/-! "gosem.cut.vars" -/
def v66_0 : List VI := [VI.op (some 0) none (VOp.p (POp.bld [V.int IntKind.u64 (nl 0), V.int IntKind.u64 (nl 0), V.int IntKind.u64 (nl 0), V.int IntKind.u64 (nl 0)] [(0, 1, A.c (V.int IntKind.u64 (nl 6346243789798364141))), (1, 1, A.c (V.int IntKind.u64 (nl 1503914060200516822))), (2, 1, A.c (V.int IntKind.u64 (nl 0))), (3, 1, A.c (V.int IntKind.u64 (nl 1152921504606846976)))])), VI.op (some 1) none (VOp.p (POp.bld [V.int IntKind.u64 (nl 0), V.int IntKind.u64 (nl 0), V.int IntKind.u64 (nl 0), V.int IntKind.u64 (nl 0)] [(0, 1, A.c (V.int IntKind.u64 (nl 15486807595281847581))), (1, 1, A.c (V.int IntKind.u64 (nl 14334777244411350896))), (2, 1, A.c (V.int IntKind.u64 (nl 18446744073709551614))), (3, 1, A.c (V.int IntKind.u64 (nl 1152921504606846975)))])), VI.op (some 2) none (VOp.p (POp.bld [V.int IntKind.u64 (nl 0), V.int IntKind.u64 (nl 0), V.int IntKind.u64 (nl 0), V.int IntKind.u64 (nl 0)] [(0, 1, A.c (V.int IntKind.u64 (nl 11819153939886771969))), (1, 1, A.c (V.int IntKind.u64 (nl 14991950615390032711))), (2, 1, A.c (V.int IntKind.u64 (nl 14910419812499177061))), (3, 1, A.c (V.int IntKind.u64 (nl 259310039853996605)))])), VI.op (some 3) none (VOp.p (POp.bld [V.int IntKind.u64 (nl 0), V.int IntKind.u64 (nl 0), V.int IntKind.u64 (nl 0), V.int IntKind.u64 (nl 0)] [(0, 1, A.c (V.int IntKind.u64 (nl 6346243789798364139))), (1, 1, A.c (V.int IntKind.u64 (nl 1503914060200516822))), (2, 1, A.c (V.int IntKind.u64 (nl 0))), (3, 1, A.c (V.int IntKind.u64 (nl 1152921504606846976)))])), VI.op (some 4) none (VOp.p (POp.bld [V.int IntKind.u64 (nl 0), V.int IntKind.u64 (nl 0), V.int IntKind.u64 (nl 0), V.int IntKind.u64 (nl 0), V.int IntKind.u64 (nl 0), V.int IntKind.u64 (nl 0), V.int IntKind.u64 (nl 0), V.int IntKind.u64 (nl 0), V.int IntKind.u64 (nl 0), V.int IntKind.u64 (nl 0), V.int IntKind.u64 (nl 0), V.int IntKind.u64 (nl 0), V.int IntKind.u64 (nl 0), V.int IntKind.u64 (nl 0), V.int IntKind.u64 (nl 0), V.int IntKind.u64 (nl 0)] [(0, 4, A.t 0), (4, 4, A.t 1), (8, 4, A.t 2), (12, 4, A.t 3)])), VI.op none none (VOp.st 16 (A.g 0) (A.t 4))]
def v66 : VC := VC.reg v66_0
def r66 : List RV := []
theorem code66 : (Tryd.f66.body).bind (cCode Tryd.prog) = some v66 := by kernel_rfl
theorem res66 : cRVs Tryd.prog (Tryd.f66.results.toList) = some r66 := by kernel_rfl
theorem nt66 : Tryd.f66.ntmps = 5 := by kernel_rfl
theorem nm66 : (Tryd.f66.name == "runtime.NumGoroutine") = false := by kernel_rfl

end Go.Vs.Tryd

/- The engine and the contracts on which the statement stands: no conditions of its own. -/
import Derived.Test.YtfkpdmnabhejpaaGreatDoorMine2
set_option linter.unusedSimpArgs false
set_option linter.unusedVariables false
set_option linter.unusedSectionVars false
namespace Go.Eng
set_option maxRecDepth 100000
def oM (d s : Nat) (a : List Nat) : XOper := ⟨some d,.mov (.t s),a,none⟩
def oP (d : Nat) (o : XO) (a : List Nat) : XOper := ⟨some d,o,a,none⟩
def oT (d : Nat) (o : XO) (a : List Nat) (g : Nat) : XOper := ⟨some d,o,a,some (g,true)⟩
def oF (d : Nat) (o : XO) (a : List Nat) (g : Nat) : XOper := ⟨some d,o,a,some (g,false)⟩
def oN (o : XO) (a : List Nat) : XOper := ⟨none,o,a,none⟩
@[go_sem] theorem zuO (d s : Nat) (a : List Nat) : oM d s a = ⟨some d,.mov (.t s),a,none⟩ := _root_.id rfl
@[go_sem] theorem zuQ (d : Nat) (o : XO) (a : List Nat) : oP d o a = ⟨some d,o,a,none⟩ := _root_.id rfl
@[go_sem] theorem zuR (d : Nat) (o : XO) (a : List Nat) (g : Nat) : oT d o a g = ⟨some d,o,a,some (g,true)⟩ := _root_.id rfl
@[go_sem] theorem zuN (d : Nat) (o : XO) (a : List Nat) (g : Nat) : oF d o a g = ⟨some d,o,a,some (g,false)⟩ := _root_.id rfl
@[go_sem] theorem zuP (o : XO) (a : List Nat) : oN o a = ⟨none,o,a,none⟩ := _root_.id rfl
def xs_1d3e63 : List UInt8 := [0,1,2,2,3,3,3,3,4,4,4,4,4,4,4,4,5,5,5,5,5,5,5,5,5,5,5,5,5,5,5,5,6,6,6,6,6,6,6,6,6,6,6,6,6,6,6,6,6,6,6,6,6,6,6,6,6,6,6,6,6,6,6,6,7,7,7,7,7,7,7,7,7,7,7,7,7,7,7,7,7,7,7,7,7,7,7,7,7,7,7,7,7,7,7,7,7,7,7,7,7,7,7,7,7,7,7,7,7,7,7,7,7,7,7,7,7,7,7,7,7,7,7,7,7,7,7,7,8,8,8,8,8,8,8,8,8,8,8,8,8,8,8,8,8,8,8,8,8,8,8,8,8,8,8,8,8,8,8,8,8,8,8,8,8,8,8,8,8,8,8,8,8,8,8,8,8,8,8,8,8,8,8,8,8,8,8,8,8,8,8,8,8,8,8,8,8,8,8,8,8,8,8,8,8,8,8,8,8,8,8,8,8,8,8,8,8,8,8,8,8,8,8,8,8,8,8,8,8,8,8,8,8,8,8,8,8,8,8,8,8,8,8,8,8,8,8,8,8,8,8,8,8,8,8,8]
def zwV : XC := .seq (.seq (.reg [oM 72 15 [],oP 73 (.bin .lss (.t 72) (.k (.i .i64 3))) [0]]) (.cond (.t 73) .skip (.exit 2))) (.seq (.block 3 (.seq (.reg [oM 76 13 [],oM 77 15 [],oP 78 (.ixs 4 (.t 76) (.t 77)) [0,1],oP 79 (.load true 4 (.t 78)) [2],oP 16 (.new [.b false,.sn,.b false,.sn]) [],oN (.store 4 (.t 16) (.t 79)) [4,3,0,1,2,3,4]]) (.seq (.reg [oM 80 13 [],oM 81 15 [],oP 82 (.bin .add (.t 81) (.k (.i .i64 1))) [1],oP 83 (.bin .rem (.t 82) (.k (.i .i64 3))) [2],oP 84 (.ixs 4 (.t 80) (.t 83)) [0,3],oP 85 (.load true 4 (.t 84)) [4],oP 17 (.new [.b false,.sn,.b false,.sn]) [],oN (.store 4 (.t 17) (.t 85)) [6,5,0,1,2,3,4,5,6]]) (.seq (.drw [oM 87 10 [],oM 88 14 [],oP 89 (.ixs 9 (.t 87) (.t 88)) [0,1],oP 90 (.load true 9 (.t 89)) [2],oP 91 (.load true 4 (.t 16)) [],oP 92 (.call 342 [.t 91]) [4],oP 93 (.load true 4 (.t 17)) [],oP 94 (.call 342 [.t 93]) [6,5],oP 95 (.call 305 [.t 90,.t 92,.t 94]) [3,5,7,7],oM 86 95 [8],oP 96 (.ext (.t 86) 0) [9],oP 97 (.ext (.t 86) 1) [9],oP 98 (.ext (.t 86) 2) [9],oP 18 (.new [.b false,.sn,.b false,.sn]) [],oP 19 (.new [.b false,.sn,.b false,.sn]) [],oN (.store 4 (.t 18) (.t 96)) [13,10,8,0,1,2,3,4,5,6,7,8,9,10,13,14],oN (.store 4 (.t 19) (.t 97)) [14,11,15,0,1,2,3,4,5,6,7,8,9,10,11,13,14,15],oM 20 98 [12,16,0,1,2,3,4,5,6,7,8,9,10,11,12,13,14,15,16]] [(3,5),(6,5),(3,7)]) (.seq (.drw [oM 100 10 [],oM 101 14 [],oP 102 (.ixs 9 (.t 100) (.t 101)) [0,1],oP 103 (.load true 9 (.t 102)) [2],oP 104 (.load true 4 (.t 16)) [],oP 105 (.load true 4 (.t 17)) [],oP 106 (.call 343 [.t 103,.t 104,.t 105]) [3,4,5],oM 99 106 [6],oP 107 (.ext (.t 99) 0) [7],oP 108 (.ext (.t 99) 1) [7],oP 109 (.ext (.t 99) 2) [7],oP 21 (.new [.b false,.sn,.b false,.sn]) [],oP 22 (.new [.b false,.sn,.b false,.sn]) [],oN (.store 4 (.t 21) (.t 107)) [11,8,6,0,1,2,3,4,5,6,7,8,11,12],oN (.store 4 (.t 22) (.t 108)) [12,9,13,0,1,2,3,4,5,6,7,8,9,11,12,13],oM 23 109 [10,14,0,1,2,3,4,5,6,7,8,9,10,11,12,13,14]] []) (.seq (.drw [oM 110 20 [],oM 111 23 [],oP 112 (.bin .neq (.t 110) (.t 111)) [0,1],oM 113 112 [2],oF 114 (.load true 4 (.t 18)) [3] 113,oF 115 (.call 16 [.t 114]) [4,3,3] 113,oF 116 (.load true 4 (.t 21)) [3] 113,oF 117 (.call 196 [.t 116]) [6,5,3] 113,oF 118 (.bin .neq (.t 115) (.t 117)) [5,7,3] 113,oP 119 (.pick (.t 113) (.k (.b true)) (.t 118)) [3,8],oM 120 119 [9,7],oF 121 (.load true 4 (.t 19)) [10] 120,oF 122 (.call 16 [.t 121]) [11,10,10] 120,oF 123 (.load true 4 (.t 22)) [10] 120,oF 124 (.call 196 [.t 123]) [13,12,10] 120,oF 125 (.bin .neq (.t 122) (.t 124)) [12,14,10] 120,oP 126 (.pick (.t 120) (.k (.b true)) (.t 125)) [10,15]] [(6,5),(13,12)]) (.cond (.t 126) (.seq (.reg [oP 8 (.mov (.k (.b false))) []]) .ret) .skip))))))) (.reg [oM 74 15 [],oP 75 (.bin .add (.t 74) (.k (.i .i64 1))) [0],oM 15 75 [1,0,1]]))
def zwE : XC := .seq (.seq (.reg [oM 57 14 [],oP 58 (.bin .lss (.t 57) (.k (.i .i64 3))) [0]]) (.cond (.t 58) .skip (.exit 0))) (.seq (.block 1 (.seq (.seq (.drw [oM 61 10 [],oM 62 14 [],oP 63 (.ixs 9 (.t 61) (.t 62)) [0,1],oP 64 (.load true 9 (.t 63)) [2],oP 65 (.call 302 [.t 64]) [3],oM 66 10 [],oM 67 14 [],oP 68 (.ixs 9 (.t 66) (.t 67)) [5,6],oP 69 (.load true 9 (.t 68)) [7],oP 70 (.call 341 [.t 69]) [8,4],oP 71 (.bin .neq (.t 65) (.t 70)) [4,9]] [(8,4)]) (.cond (.t 71) (.seq (.reg [oP 8 (.mov (.k (.b false))) []]) .ret) .skip)) (.seq (.reg [oP 15 (.mov (.k (.i .i64 0))) []]) (.block 2 (.loop zwV))))) (.reg [oM 59 14 [],oP 60 (.bin .add (.t 59) (.k (.i .i64 1))) [0],oM 14 60 [1,0,1]]))
def zvt : XF := ⟨128,.seq (.reg [oP 8 (.mov (.k (.b false))) []]) (.seq (.reg [oM 24 0 [],oP 25 (.call 301 [.t 24,.k (.i .i64 0)]) [0],oP 9 (.new [.i .i64 0,.i .i64 0,.i .i64 0,.i .i64 0,.i .i64 0,.i .i64 0,.i .i64 0,.i .i64 0,.i .i64 0]) [],oN (.store 9 (.t 9) (.t 25)) [2,1,1,0,1,2]]) (.seq (.drw [oP 26 (.load true 9 (.t 9)) [],oP 27 (.load true 9 (.t 9)) [],oM 28 2 [],oM 29 3 [],oP 30 (.call 330 [.t 27,.t 28,.t 29]) [1,2,3],oP 31 (.load true 9 (.t 9)) [],oM 32 3 [],oP 33 (.call 331 [.t 31,.t 32]) [5,6,4],oP 34 (.bsl 3 9 [.i .i64 0,.i .i64 0,.i .i64 0,.i .i64 0,.i .i64 0,.i .i64 0,.i .i64 0,.i .i64 0,.i .i64 0] [(0,(9,.t 26)),(9,(9,.t 30)),(18,(9,.t 33))]) [0,4,7],oM 10 34 [8,7,0,1,2,3,4,5,6,7,8]] [(0,4),(5,4),(0,7)]) (.seq (.reg [oM 36 3 [],oP 37 (.bin .rem (.t 36) (.k (.i .i64 3))) [0],oP 38 (.bin .add (.t 37) (.k (.i .i64 3))) [1],oP 39 (.bin .rem (.t 38) (.k (.i .i64 3))) [2],oP 40 (.bin .add (.k (.i .i64 999)) (.t 39)) [3],oP 41 (.call 128 [.t 40]) [4],oP 42 (.call 114 [.k (.i .i64 1)]) [5],oP 43 (.call 119 [.t 41,.t 42]) [5,6,6],oM 44 2 [],oP 45 (.bin .rem (.t 44) (.k (.i .i64 2))) [8],oP 46 (.bin .add (.k (.i .i64 2)) (.t 45)) [9],oP 47 (.call 114 [.t 46]) [10,7],oP 48 (.call 182 [.t 43,.t 47]) [7,11,11],oM 35 48 [12],oP 49 (.ext (.t 35) 0) [13],oP 50 (.ext (.t 35) 1) [13],oP 11 (.new [.b false,.sn,.b false,.sn]) [],oN (.store 4 (.t 11) (.t 49)) [16,14,12,0,1,2,3,4,5,6,7,8,9,10,11,12,13,14,16],oM 12 50 [15,17,0,1,2,3,4,5,6,7,8,9,10,11,12,13,14,15,16,17]]) (.seq (.drw [oM 51 1 [],oP 52 (.call 187 [.t 51,.k (.i .i64 0)]) [0],oM 53 1 [],oP 54 (.call 187 [.t 53,.k (.i .i64 4)]) [2,1],oP 55 (.load true 4 (.t 11)) [],oP 56 (.bsl 3 4 [.b false,.sn,.b false,.sn] [(0,(4,.t 52)),(4,(4,.t 54)),(8,(4,.t 55))]) [1,3,4],oM 13 56 [5,3,0,1,2,3,4,5]] [(4,1),(4,3)]) (.seq (.seq (.reg [oP 14 (.mov (.k (.i .i64 0))) []]) (.block 0 (.loop zwE))) (.seq (.reg [oP 127 (.call 303 []) [],oM 8 127 [0,0,0]]) .ret)))))),[.tmp 8]⟩
def zu5 : XC := .seq (.reg [oP 24 (.bin .lss (.t 23) (.k (.i .i64 4))) []]) (.seq (.cond (.t 24) .skip (.exit 2)) (.seq (.block 3 (.seq (.reg [oP 25 (.iag 4 true 2 (.t 22) (.t 23)) [],oP 9 (.new [.i .i64 0,.i .i64 0]) [],oN (.store 2 (.t 9) (.t 25)) [1,0,0,1]]) (.seq (.reg [oP 26 (.fad 0 (.t 9)) [],oP 27 (.load false 1 (.t 26)) [0],oP 28 (.fad 1 (.t 9)) [],oP 29 (.load false 1 (.t 28)) [2],oP 30 (.mm true (.t 27) [.t 29]) [1,3],oP 31 (.bin .gtr (.t 30) (.k (.i .i64 1048576))) [4],oM 32 31 [5],oF 33 (.fad 0 (.t 9)) [6] 32,oF 34 (.load false 1 (.t 33)) [7,6] 32,oF 35 (.fad 1 (.t 9)) [6] 32,oF 36 (.load false 1 (.t 35)) [9,6] 32,oF 37 (.mm false (.t 34) [.t 36]) [8,10,6] 32,oF 38 (.bin .lss (.t 37) (.k (.i .i64 (-1048576)))) [11,6] 32,oP 39 (.pick (.t 32) (.k (.b true)) (.t 38)) [6,12]]) (.cond (.t 39) (.seq (.reg [oP 40 (.build [.i .i64 0,.i .i64 0,.i .i64 0,.i .i64 0,.i .i64 0,.i .i64 0,.i .i64 0,.i .i64 0,.i .i64 0] []) [],oN (.store 9 (.t 4) (.t 40)) [0,0],oP 5 (.mov (.k (.i .i64 1))) [1,0,1]]) .ret) .skip)))) (.reg [oP 41 (.bin .add (.t 23) (.k (.i .i64 1))) [],oM 23 41 [0]])))
def zwg : XC := .seq (.reg [oP 19 (.bin .lss (.t 18) (.t 17)) []]) (.seq (.cond (.t 19) .skip (.exit 0)) (.seq (.block 1 (.seq (.reg [oP 20 (.ixs 8 (.t 16) (.t 18)) [],oP 21 (.load true 8 (.t 20)) [0],oP 7 (.new [.i .i64 0,.i .i64 0,.i .i64 0,.i .i64 0,.i .i64 0,.i .i64 0,.i .i64 0,.i .i64 0]) [],oN (.store 8 (.t 7) (.t 21)) [2,1,0,1,2]]) (.seq (.reg [oP 22 (.load true 8 (.t 7)) [],oP 23 (.mov (.k (.i .i64 0))) []]) (.block 2 (.loop zu5))))) (.reg [oP 42 (.bin .add (.t 18) (.k (.i .i64 1))) [],oM 18 42 [0]])))
def zwn : XF := ⟨67,.seq (.reg [oP 2 (.box (.t 0)) [],oP 3 (.box (.t 1)) [],oP 4 (.new [.i .i64 0,.i .i64 0,.i .i64 0,.i .i64 0,.i .i64 0,.i .i64 0,.i .i64 0,.i .i64 0,.i .i64 0]) [],oP 5 (.mov (.k (.i .i64 0))) []]) (.seq (.seq (.reg [oP 14 (.load true 8 (.t 2)) [],oP 15 (.load true 8 (.t 3)) [],oP 16 (.bsl 2 8 [.i .i64 0,.i .i64 0,.i .i64 0,.i .i64 0,.i .i64 0,.i .i64 0,.i .i64 0,.i .i64 0] [(0,(8,.t 14)),(8,(8,.t 15))]) [0,1],oP 17 (.len (.t 16)) [2],oP 18 (.mov (.k (.i .i64 0))) []]) (.block 0 (.loop zwg))) (.seq (.reg [oP 44 (.load true 8 (.t 2)) [],oP 45 (.call 315 [.t 44]) [0],oM 43 45 [1],oP 46 (.ext (.t 43) 0) [2],oP 47 (.ext (.t 43) 1) [2],oP 10 (.new [.b false,.sn,.b false,.sn,.b false,.sn,.b false,.sn,.b false,.sn,.b false,.sn,.b false,.sn,.b false,.sn,.b false,.sn]) [],oN (.store 18 (.t 10) (.t 46)) [5,3,1,0,1,2,3,5],oM 11 47 [4,6,0,1,2,3,4,5,6]]) (.seq (.reg [oP 49 (.load true 8 (.t 3)) [],oP 50 (.call 315 [.t 49]) [0],oM 48 50 [1],oP 51 (.ext (.t 48) 0) [2],oP 52 (.ext (.t 48) 1) [2],oP 12 (.new [.b false,.sn,.b false,.sn,.b false,.sn,.b false,.sn,.b false,.sn,.b false,.sn,.b false,.sn,.b false,.sn,.b false,.sn]) [],oN (.store 18 (.t 12) (.t 51)) [5,3,1,0,1,2,3,5],oM 13 52 [4,6,0,1,2,3,4,5,6]]) (.seq (.seq (.reg [oM 53 11 [],oP 54 (.un .not (.t 53)) [0],oM 55 54 [1],oF 56 (.mov (.t 13)) [2] 55,oF 57 (.un .not (.t 56)) [3,2] 55,oP 58 (.pick (.t 55) (.k (.b true)) (.t 57)) [2,4]]) (.cond (.t 58) (.seq (.reg [oP 59 (.build [.i .i64 0,.i .i64 0,.i .i64 0,.i .i64 0,.i .i64 0,.i .i64 0,.i .i64 0,.i .i64 0,.i .i64 0] []) [],oN (.store 9 (.t 4) (.t 59)) [0,0],oP 5 (.mov (.k (.i .i64 10))) [1,0,1]]) .ret) .skip)) (.seq (.drw [oP 60 (.load true 18 (.t 12)) [],oP 61 (.load true 18 (.t 10)) [],oP 62 (.call 311 [.t 61]) [1],oP 63 (.call 316 [.t 60,.t 62]) [0,2,2],oP 64 (.call 314 [.t 63]) [3,3],oP 65 (.ext (.t 64) 0) [4],oP 66 (.ext (.t 64) 1) [4],oN (.store 9 (.t 4) (.t 65)) [5,4,0,1,2,3,4,5,6],oM 5 66 [6,7,0,1,2,3,4,5,6,7]] [(0,2)]) .ret))))),[.cell 4 true 9,.tmp 5]⟩
def zuY : XF := ⟨64,.seq (.reg [oP 3 (.box (.t 0)) [],oP 4 (.box (.t 1)) [],oP 5 (.box (.t 2)) [],oP 6 (.new [.b false,.sn,.b false,.sn]) [],oP 7 (.new [.b false,.sn,.b false,.sn]) [],oP 8 (.mov (.k (.i .i64 0))) []]) (.seq (.seq (.reg [oP 15 (.load true 9 (.t 3)) [],oP 16 (.call 302 [.t 15]) [0],oM 9 16 [1,1,0,1]]) (.seq (.reg [oM 17 9 [],oP 18 (.bin .neq (.t 17) (.k (.i .i64 0))) [0]]) (.cond (.t 18) (.seq (.reg [oP 19 (.build [.b false,.sn,.b false,.sn] []) [],oP 20 (.build [.b false,.sn,.b false,.sn] []) [],oM 21 9 [],oN (.store 4 (.t 6) (.t 19)) [0,0],oN (.store 4 (.t 7) (.t 20)) [1,3,0,1,3],oM 8 21 [2,4,0,1,2,3,4]]) .ret) .skip))) (.seq (.seq (.reg [oP 22 (.load true 4 (.t 4)) [],oP 23 (.call 44 [.t 22]) [0],oP 24 (.bin .gtr (.t 23) (.k (.i .i64 1000))) [1],oM 25 24 [2,1],oF 26 (.load true 4 (.t 5)) [3] 25,oF 27 (.call 44 [.t 26]) [4,3,3] 25,oF 28 (.bin .gtr (.t 27) (.k (.i .i64 1000))) [5,3] 25,oP 29 (.pick (.t 25) (.k (.b true)) (.t 28)) [3,6]]) (.cond (.t 29) (.seq (.reg [oP 30 (.build [.b false,.sn,.b false,.sn] []) [],oP 31 (.build [.b false,.sn,.b false,.sn] []) [],oN (.store 4 (.t 6) (.t 30)) [0,0],oN (.store 4 (.t 7) (.t 31)) [1,2,0,1,2],oP 8 (.mov (.k (.i .i64 4))) [3,0,1,2,3]]) .ret) .skip)) (.seq (.drw [oP 32 (.fad 0 (.t 3)) [],oP 33 (.slarr 9 1 (.t 32) (some (.k (.i .i64 6))) none) [0],oP 34 (.load true 4 (.t 4)) [],oP 35 (.load true 4 (.t 5)) [],oP 36 (.call 310 [.t 33,.t 34,.t 35]) [1,2,3],oP 10 (.new [.b false,.sn,.b false,.sn]) [],oN (.store 4 (.t 10) (.t 36)) [5,4,4,0,1,2,3,4,5]] []) (.seq (.seq (.reg [oP 37 (.load true 4 (.t 10)) [],oP 38 (.call 67 [.t 37]) [0],oP 39 (.bin .eql (.t 38) (.k (.i .i64 0))) [1]]) (.cond (.t 39) (.seq (.reg [oP 40 (.build [.b false,.sn,.b false,.sn] []) [],oP 41 (.build [.b false,.sn,.b false,.sn] []) [],oN (.store 4 (.t 6) (.t 40)) [0,0],oN (.store 4 (.t 7) (.t 41)) [1,2,0,1,2],oP 8 (.mov (.k (.i .i64 9))) [3,0,1,2,3]]) .ret) .skip)) (.seq (.drw [oP 43 (.fad 0 (.t 3)) [],oP 44 (.slarr 9 1 (.t 43) none (some (.k (.i .i64 3)))) [0],oP 45 (.load true 4 (.t 4)) [],oP 46 (.load true 4 (.t 5)) [],oP 47 (.call 310 [.t 44,.t 45,.t 46]) [1,2,3],oP 48 (.load true 4 (.t 10)) [],oP 49 (.call 65 [.t 47,.t 48]) [4,5,4],oM 42 49 [6],oP 50 (.ext (.t 42) 0) [7],oP 51 (.ext (.t 42) 1) [7],oP 11 (.new [.b false,.sn,.b false,.sn]) [],oN (.store 4 (.t 11) (.t 50)) [10,8,6,0,1,2,3,4,5,6,7,8,10],oM 12 51 [9,11,0,1,2,3,4,5,6,7,8,9,10,11]] [(5,4)]) (.seq (.drw [oP 53 (.fad 0 (.t 3)) [],oP 54 (.slarr 9 1 (.t 53) (some (.k (.i .i64 3))) (some (.k (.i .i64 6)))) [0],oP 55 (.load true 4 (.t 4)) [],oP 56 (.load true 4 (.t 5)) [],oP 57 (.call 310 [.t 54,.t 55,.t 56]) [1,2,3],oP 58 (.load true 4 (.t 10)) [],oP 59 (.call 65 [.t 57,.t 58]) [4,5,4],oM 52 59 [6],oP 60 (.ext (.t 52) 0) [7],oP 61 (.ext (.t 52) 1) [7],oP 13 (.new [.b false,.sn,.b false,.sn]) [],oN (.store 4 (.t 13) (.t 60)) [10,8,6,0,1,2,3,4,5,6,7,8,10],oM 14 61 [9,11,0,1,2,3,4,5,6,7,8,9,10,11]] [(5,4)]) (.seq (.drw [oP 62 (.load true 4 (.t 11)) [],oP 63 (.load true 4 (.t 13)) [],oN (.store 4 (.t 6) (.t 62)) [0,0],oN (.store 4 (.t 7) (.t 63)) [1,2,0,1,2],oP 8 (.mov (.k (.i .i64 0))) [3,0,1,2,3]] [(1,2)]) .ret))))))),[.cell 6 true 4,.cell 7 true 4,.tmp 8]⟩
def zwl : XF := ⟨11,.seq (.reg [oP 2 (.new [.b false,.sn,.b false,.sn]) []]) (.seq (.reg [oM 6 0 [],oP 7 (.call 17 [.t 6,.k (.i .i64 1)]) [0],oM 5 7 [1],oP 8 (.ext (.t 5) 0) [2],oP 9 (.ext (.t 5) 1) [2],oP 3 (.new [.b false,.sn,.b false,.sn]) [],oN (.store 4 (.t 3) (.t 8)) [5,3,1,0,1,2,3,5],oM 4 9 [4,6,0,1,2,3,4,5,6]]) (.seq (.reg [oP 10 (.load true 4 (.t 3)) [],oN (.store 4 (.t 2) (.t 10)) [0,0]]) .ret)),[.cell 2 true 4]⟩
def zwt : XF := ⟨103,.seq (.reg [oP 0 (.mov (.k (.b false))) []]) (.seq (.reg [oP 16 (.build [.i .i64 0,.i .i64 0,.i .i64 0,.i .i64 0,.i .i64 0,.i .i64 0,.i .i64 0,.i .i64 0,.i .i64 0] [(0,(1,.k (.i .i64 2))),(1,(1,.k (.i .i64 0))),(2,(1,.k (.i .i64 3))),(3,(1,.k (.i .i64 0))),(4,(1,.k (.i .i64 2))),(5,(1,.k (.i .i64 5))),(6,(1,.k (.i .i64 0))),(7,(1,.k (.i .i64 0))),(8,(1,.k (.i .i64 1)))]) [],oP 17 (.build [.i .i64 0,.i .i64 0,.i .i64 0,.i .i64 0,.i .i64 0,.i .i64 0,.i .i64 0,.i .i64 0,.i .i64 0] [(0,(9,.t 16))]) [0],oP 1 (.new [.i .i64 0,.i .i64 0,.i .i64 0,.i .i64 0,.i .i64 0,.i .i64 0,.i .i64 0,.i .i64 0,.i .i64 0]) [],oN (.store 9 (.t 1) (.t 17)) [2,1,0,1,2]]) (.seq (.reg [oP 19 (.call 17 [.k (.i .i64 1),.k (.i .i64 2)]) [],oM 18 19 [0],oP 20 (.ext (.t 18) 0) [1],oP 21 (.ext (.t 18) 1) [1],oP 2 (.new [.b false,.sn,.b false,.sn]) [],oN (.store 4 (.t 2) (.t 20)) [4,2,0,0,1,2,4],oM 3 21 [3,5,0,1,2,3,4,5]]) (.seq (.drw [oP 23 (.load true 9 (.t 1)) [],oP 24 (.load true 4 (.t 2)) [],oP 25 (.call 304 [.k (.i .i64 1)]) [],oP 26 (.call 305 [.t 23,.t 24,.t 25]) [0,1,2,2],oM 22 26 [3],oP 27 (.ext (.t 22) 0) [4],oP 28 (.ext (.t 22) 1) [4],oP 29 (.ext (.t 22) 2) [4],oP 4 (.new [.b false,.sn,.b false,.sn]) [],oP 5 (.new [.b false,.sn,.b false,.sn]) [],oN (.store 4 (.t 4) (.t 27)) [8,5,3,0,1,2,3,4,5,8,9],oN (.store 4 (.t 5) (.t 28)) [9,6,10,0,1,2,3,4,5,6,8,9,10],oM 6 29 [7,11,0,1,2,3,4,5,6,7,8,9,10,11]] [(0,2),(1,2)]) (.seq (.reg [oP 31 (.load true 9 (.t 1)) [],oP 32 (.call 308 [.t 31]) [0],oM 30 32 [1],oP 33 (.ext (.t 30) 0) [2],oP 34 (.ext (.t 30) 1) [2],oP 7 (.new [.i .i64 0,.i .i64 0,.i .i64 0,.i .i64 0,.i .i64 0,.i .i64 0,.i .i64 0,.i .i64 0,.i .i64 0]) [],oN (.store 9 (.t 7) (.t 33)) [5,3,1,0,1,2,3,5],oM 8 34 [4,6,0,1,2,3,4,5,6]]) (.seq (.reg [oP 35 (.build [.i .i64 0,.i .i64 0] []) [],oP 36 (.build [.i .i64 0,.i .i64 0] [(0,(1,.k (.i .i64 1)))]) [],oP 37 (.build [.i .i64 0,.i .i64 0] [(0,(1,.k (.i .i64 1))),(1,(1,.k (.i .i64 1)))]) [],oP 38 (.build [.i .i64 0,.i .i64 0] [(1,(1,.k (.i .i64 1)))]) [],oP 39 (.build [.i .i64 0,.i .i64 0,.i .i64 0,.i .i64 0,.i .i64 0,.i .i64 0,.i .i64 0,.i .i64 0] [(0,(2,.t 35)),(2,(2,.t 36)),(4,(2,.t 37)),(6,(2,.t 38))]) [0,1,2,3],oP 9 (.new [.i .i64 0,.i .i64 0,.i .i64 0,.i .i64 0,.i .i64 0,.i .i64 0,.i .i64 0,.i .i64 0]) [],oN (.store 8 (.t 9) (.t 39)) [5,4,0,1,2,3,4,5]]) (.seq (.reg [oP 40 (.build [.i .i64 0,.i .i64 0] []) [],oP 41 (.build [.i .i64 0,.i .i64 0] [(0,(1,.k (.i .i64 2)))]) [],oP 42 (.build [.i .i64 0,.i .i64 0] [(0,(1,.k (.i .i64 3))),(1,(1,.k (.i .i64 3)))]) [],oP 43 (.build [.i .i64 0,.i .i64 0] [(1,(1,.k (.i .i64 2)))]) [],oP 44 (.build [.i .i64 0,.i .i64 0,.i .i64 0,.i .i64 0,.i .i64 0,.i .i64 0,.i .i64 0,.i .i64 0] [(0,(2,.t 40)),(2,(2,.t 41)),(4,(2,.t 42)),(6,(2,.t 43))]) [0,1,2,3],oP 10 (.new [.i .i64 0,.i .i64 0,.i .i64 0,.i .i64 0,.i .i64 0,.i .i64 0,.i .i64 0,.i .i64 0]) [],oN (.store 8 (.t 10) (.t 44)) [5,4,0,1,2,3,4,5]]) (.seq (.reg [oP 46 (.load true 8 (.t 9)) [],oP 47 (.load true 8 (.t 10)) [],oP 48 (.call 309 [.t 46,.t 47]) [0,1],oM 45 48 [2],oP 49 (.ext (.t 45) 0) [3],oP 50 (.ext (.t 45) 1) [3],oP 11 (.new [.i .i64 0,.i .i64 0,.i .i64 0,.i .i64 0,.i .i64 0,.i .i64 0,.i .i64 0,.i .i64 0,.i .i64 0]) [],oN (.store 9 (.t 11) (.t 49)) [6,4,2,0,1,2,3,4,6],oM 12 50 [5,7,0,1,2,3,4,5,6,7]]) (.seq (.reg [oP 52 (.load true 9 (.t 11)) [],oP 53 (.load true 4 (.t 2)) [],oP 54 (.load true 4 (.t 2)) [],oP 55 (.call 305 [.t 52,.t 53,.t 54]) [0,1,2],oM 51 55 [3],oP 56 (.ext (.t 51) 0) [4],oP 57 (.ext (.t 51) 1) [4],oP 58 (.ext (.t 51) 2) [4],oP 13 (.new [.b false,.sn,.b false,.sn]) [],oP 14 (.new [.b false,.sn,.b false,.sn]) [],oN (.store 4 (.t 13) (.t 56)) [8,5,3,0,1,2,3,4,5,8,9],oN (.store 4 (.t 14) (.t 57)) [9,6,10,0,1,2,3,4,5,6,8,9,10],oM 15 58 [7,11,0,1,2,3,4,5,6,7,8,9,10,11]]) (.seq (.seq (.reg [oM 59 6 [],oP 60 (.bin .neq (.t 59) (.k (.i .i64 0))) [0],oM 61 60 [1],oF 62 (.mov (.t 8)) [2] 61,oF 63 (.bin .neq (.t 62) (.k (.i .i64 0))) [3,2] 61,oP 64 (.pick (.t 61) (.k (.b true)) (.t 63)) [2,4],oM 65 64 [5,2],oF 66 (.mov (.t 12)) [6] 65,oF 67 (.bin .neq (.t 66) (.k (.i .i64 0))) [7,6] 65,oP 68 (.pick (.t 65) (.k (.b true)) (.t 67)) [6,8],oM 69 68 [9,6],oF 70 (.mov (.t 15)) [10] 69,oF 71 (.bin .neq (.t 70) (.k (.i .i64 0))) [11,10] 69,oP 72 (.pick (.t 69) (.k (.b true)) (.t 71)) [10,12],oM 73 72 [13,10],oF 74 (.load true 4 (.t 4)) [14] 73,oF 75 (.call 16 [.t 74]) [15,14,14] 73,oF 76 (.bin .neq (.t 75) (.k (.s [52]))) [16,14] 73,oP 77 (.pick (.t 73) (.k (.b true)) (.t 76)) [14,17],oM 78 77 [18,16],oF 79 (.load true 4 (.t 5)) [19] 78,oF 80 (.call 16 [.t 79]) [20,19,19] 78,oF 81 (.bin .neq (.t 80) (.k (.s [55]))) [21,19] 78,oP 82 (.pick (.t 78) (.k (.b true)) (.t 81)) [19,22],oM 83 82 [23,21],oF 84 (.load true 4 (.t 13)) [24] 83,oF 85 (.call 16 [.t 84]) [25,24,24] 83,oF 86 (.bin .neq (.t 85) (.k (.s [49]))) [26,24] 83,oP 87 (.pick (.t 83) (.k (.b true)) (.t 86)) [24,27],oM 88 87 [28,26],oF 89 (.load true 4 (.t 14)) [29] 88,oF 90 (.call 16 [.t 89]) [30,29,29] 88,oF 91 (.bin .neq (.t 90) (.k (.s [49]))) [31,29] 88,oP 92 (.pick (.t 88) (.k (.b true)) (.t 91)) [29,32]]) (.cond (.t 92) (.seq (.reg [oP 0 (.mov (.k (.b false))) []]) .ret) .skip)) (.seq (.reg [oP 93 (.fad 0 (.t 7)) [],oP 94 (.load true 9 (.t 93)) [0],oP 95 (.build [.i .i64 0,.i .i64 0,.i .i64 0,.i .i64 0,.i .i64 0,.i .i64 0,.i .i64 0,.i .i64 0,.i .i64 0] [(0,(1,.k (.i .i64 1))),(1,(1,.k (.i .i64 0))),(2,(1,.k (.i .i64 (-3)))),(3,(1,.k (.i .i64 0))),(4,(1,.k (.i .i64 1))),(5,(1,.k (.i .i64 (-5)))),(6,(1,.k (.i .i64 0))),(7,(1,.k (.i .i64 0))),(8,(1,.k (.i .i64 2)))]) [],oP 96 (.eqa false [1,1,1,1,1,1,1,1,1] (.t 94) (.t 95)) [1,2],oM 97 96 [3],oT 98 (.fad 0 (.t 11)) [4] 97,oT 99 (.load true 9 (.t 98)) [5,4] 97,oT 100 (.build [.i .i64 0,.i .i64 0,.i .i64 0,.i .i64 0,.i .i64 0,.i .i64 0,.i .i64 0,.i .i64 0,.i .i64 0] [(0,(1,.k (.i .i64 6))),(1,(1,.k (.i .i64 0))),(2,(1,.k (.i .i64 0))),(3,(1,.k (.i .i64 0))),(4,(1,.k (.i .i64 6))),(5,(1,.k (.i .i64 0))),(6,(1,.k (.i .i64 (-1)))),(7,(1,.k (.i .i64 (-1)))),(8,(1,.k (.i .i64 4)))]) [4] 97,oT 101 (.eqa false [1,1,1,1,1,1,1,1,1] (.t 99) (.t 100)) [6,7,4] 97,oP 102 (.pick (.t 97) (.t 101) (.k (.b false))) [4,8],oM 0 102 [9,4,0,1,2,3,4,5,6,7,8,9]]) .ret)))))))))),[.tmp 0]⟩
def zxA : XC := .seq (.seq (.reg [oM 10 6 [],oP 11 (.bin .lss (.t 10) (.k (.i .i64 9))) [0]]) (.cond (.t 11) .skip (.exit 0))) (.seq (.block 1 (.seq (.reg [oM 14 0 [],oM 15 1 [],oM 16 6 [],oP 17 (.bin .add (.t 15) (.t 16)) [1,2],oP 18 (.call 180 [.t 14,.t 17]) [0,3],oM 7 18 [4,4,0,1,2,3,4]]) (.seq (.reg [oM 19 7 [],oP 20 (.bin .rem (.t 19) (.k (.i .i64 6))) [0]]) (.block 2 (.seq (.seq (.reg [oP 22 (.bin .eql (.t 20) (.k (.i .i64 1))) [],oM 21 22 [0]]) (.cond (.t 21) .skip (.reg [oP 23 (.bin .eql (.t 20) (.k (.i .i64 (-1)))) [],oM 21 23 [0]]))) (.cond (.t 21) (.reg [oM 24 6 [],oM 25 7 [],oP 26 (.bin .quo (.t 25) (.k (.i .i64 6))) [1],oP 27 (.bin .rem (.t 26) (.k (.i .i64 8))) [2],oP 28 (.fad 0 (.t 5)) [],oP 29 (.ixa 9 1 (.t 28) (.t 24)) [4,0,0,1,2,3],oN (.store 1 (.t 29) (.t 27)) [5,3,0,1,2,3]]) (.seq (.reg [oP 31 (.bin .eql (.t 20) (.k (.i .i64 2))) [],oM 30 31 [0]]) (.cond (.t 30) (.reg [oM 32 6 [],oM 33 7 [],oP 34 (.bin .quo (.t 33) (.k (.i .i64 6))) [1],oP 35 (.bin .rem (.t 34) (.k (.i .i64 1000))) [2],oP 36 (.fad 0 (.t 5)) [],oP 37 (.ixa 9 1 (.t 36) (.t 32)) [4,0,0,1,2,3],oN (.store 1 (.t 37) (.t 35)) [5,3,0,1,2,3]]) (.seq (.reg [oP 39 (.bin .eql (.t 20) (.k (.i .i64 3))) [],oM 38 39 [0]]) (.cond (.t 38) (.reg [oM 40 6 [],oM 41 7 [],oP 42 (.bin .quo (.t 41) (.k (.i .i64 6))) [1],oP 43 (.bin .rem (.t 42) (.k (.i .i64 4))) [2],oP 44 (.bin .sub (.k (.i .i64 1073741824)) (.t 43)) [3],oP 45 (.fad 0 (.t 5)) [],oP 46 (.ixa 9 1 (.t 45) (.t 40)) [5,0,0,1,2,3,4],oN (.store 1 (.t 46) (.t 44)) [6,4,0,1,2,3,4]]) .skip)))))))))) (.reg [oM 12 6 [],oP 13 (.bin .add (.t 12) (.k (.i .i64 1))) [0],oM 6 13 [1,0,1]]))
def zwF : XF := ⟨48,.seq (.reg [oP 4 (.new [.i .i64 0,.i .i64 0,.i .i64 0,.i .i64 0,.i .i64 0,.i .i64 0,.i .i64 0,.i .i64 0,.i .i64 0]) []]) (.seq (.reg [oP 8 (.build [.i .i64 0,.i .i64 0,.i .i64 0,.i .i64 0,.i .i64 0,.i .i64 0,.i .i64 0,.i .i64 0,.i .i64 0] [(0,(1,.k (.i .i64 2))),(1,(1,.k (.i .i64 0))),(2,(1,.k (.i .i64 0))),(3,(1,.k (.i .i64 0))),(4,(1,.k (.i .i64 2))),(5,(1,.k (.i .i64 0))),(6,(1,.k (.i .i64 0))),(7,(1,.k (.i .i64 0))),(8,(1,.k (.i .i64 1)))]) [],oP 9 (.build [.i .i64 0,.i .i64 0,.i .i64 0,.i .i64 0,.i .i64 0,.i .i64 0,.i .i64 0,.i .i64 0,.i .i64 0] [(0,(9,.t 8))]) [0],oP 5 (.new [.i .i64 0,.i .i64 0,.i .i64 0,.i .i64 0,.i .i64 0,.i .i64 0,.i .i64 0,.i .i64 0,.i .i64 0]) [],oN (.store 9 (.t 5) (.t 9)) [2,1,0,1,2]]) (.seq (.seq (.reg [oP 6 (.mov (.k (.i .i64 0))) []]) (.block 0 (.loop zxA))) (.seq (.reg [oP 47 (.load true 9 (.t 5)) [],oN (.store 9 (.t 4) (.t 47)) [0,0]]) .ret))),[.cell 4 true 9]⟩
def zuX : XF := ⟨15,.seq (.reg [oP 3 (.box (.t 0)) [],oP 6 (.new [.i .i64 0,.i .i64 0,.i .i64 0,.i .i64 0,.i .i64 0,.i .i64 0,.i .i64 0,.i .i64 0,.i .i64 0]) []]) (.seq (.reg [oM 7 1 [],oP 8 (.bin .rem (.t 7) (.k (.i .i64 9))) [0],oP 9 (.bin .add (.t 8) (.k (.i .i64 9))) [1],oP 10 (.bin .rem (.t 9) (.k (.i .i64 9))) [2],oM 11 2 [],oP 12 (.fad 0 (.t 3)) [],oP 13 (.ixa 9 1 (.t 12) (.t 10)) [5,3,0,1,2,3,4],oN (.store 1 (.t 13) (.t 11)) [6,4,0,1,2,3,4]]) (.seq (.reg [oP 14 (.load true 9 (.t 3)) [],oN (.store 9 (.t 6) (.t 14)) [0,0]]) .ret)),[.cell 6 true 9]⟩
def zvu : XC := .seq (.seq (.reg [oM 6 5 [],oP 7 (.bin .lss (.t 6) (.k (.i .i64 3))) [0]]) (.cond (.t 7) .skip (.exit 0))) (.seq (.block 1 (.seq (.reg [oM 10 5 [],oP 11 (.bin .add (.k (.i .i64 6)) (.t 10)) [0],oM 12 5 [],oP 13 (.fad 0 (.t 2)) [],oP 14 (.ixa 9 1 (.t 13) (.t 12)) [3,2],oP 15 (.load false 1 (.t 14)) [4],oP 16 (.bin .rem (.t 15) (.k (.i .i64 1000))) [5],oM 17 1 [],oP 18 (.bin .rem (.t 17) (.k (.i .i64 1000))) [7],oP 19 (.bin .mul (.t 16) (.t 18)) [6,8],oP 20 (.fad 0 (.t 2)) [],oP 21 (.ixa 9 1 (.t 20) (.t 11)) [10,1,0,1,2,3,4,5,6,7,8,9],oN (.store 1 (.t 21) (.t 19)) [11,9,0,1,2,3,4,5,6,7,8,9]]) (.reg [oM 22 5 [],oM 23 5 [],oP 24 (.fad 0 (.t 2)) [],oP 25 (.ixa 9 1 (.t 24) (.t 23)) [2,1],oP 26 (.load false 1 (.t 25)) [3],oP 27 (.bin .rem (.t 26) (.k (.i .i64 1000))) [4],oP 28 (.fad 0 (.t 2)) [],oP 29 (.ixa 9 1 (.t 28) (.t 22)) [6,0,0,1,2,3,4,5],oN (.store 1 (.t 29) (.t 27)) [7,5,0,1,2,3,4,5]]))) (.reg [oM 8 5 [],oP 9 (.bin .add (.t 8) (.k (.i .i64 1))) [0],oM 5 9 [1,0,1]]))
def zvK : XF := ⟨31,.seq (.reg [oP 2 (.box (.t 0)) [],oP 4 (.new [.i .i64 0,.i .i64 0,.i .i64 0,.i .i64 0,.i .i64 0,.i .i64 0,.i .i64 0,.i .i64 0,.i .i64 0]) []]) (.seq (.seq (.reg [oP 5 (.mov (.k (.i .i64 0))) []]) (.block 0 (.loop zvu))) (.seq (.reg [oP 30 (.load true 9 (.t 2)) [],oN (.store 9 (.t 4) (.t 30)) [0,0]]) .ret)),[.cell 4 true 9]⟩
def zvi : XF := ⟨17,.seq (.reg [oP 1 (.box (.t 0)) [],oP 2 (.new [.i .i64 0,.i .i64 0,.i .i64 0,.i .i64 0,.i .i64 0,.i .i64 0,.i .i64 0,.i .i64 0,.i .i64 0]) [],oP 3 (.mov (.k (.i .i64 0))) []]) (.seq (.seq (.reg [oP 5 (.load true 9 (.t 1)) [],oP 6 (.call 302 [.t 5]) [0],oM 4 6 [1,1,0,1]]) (.seq (.reg [oM 7 4 [],oP 8 (.bin .neq (.t 7) (.k (.i .i64 0))) [0]]) (.cond (.t 8) (.seq (.reg [oP 9 (.build [.i .i64 0,.i .i64 0,.i .i64 0,.i .i64 0,.i .i64 0,.i .i64 0,.i .i64 0,.i .i64 0,.i .i64 0] []) [],oM 10 4 [],oN (.store 9 (.t 2) (.t 9)) [0,0],oM 3 10 [1,2,0,1,2]]) .ret) .skip))) (.seq (.reg [oP 11 (.load true 9 (.t 1)) [],oP 12 (.call 307 [.t 11]) [0],oP 13 (.call 311 [.t 12]) [1,1],oP 14 (.call 314 [.t 13]) [2,2],oP 15 (.ext (.t 14) 0) [3],oP 16 (.ext (.t 14) 1) [3],oN (.store 9 (.t 2) (.t 15)) [4,3,0,1,2,3,4,5],oM 3 16 [5,6,0,1,2,3,4,5,6]]) .ret)),[.cell 2 true 9,.tmp 3]⟩
def zvB : XF := ⟨40,.seq (.reg [oP 2 (.box (.t 0)) [],oP 3 (.box (.t 1)) [],oP 4 (.new [.b false,.sn,.b false,.sn]) [],oP 5 (.mov (.k (.i .i64 0))) []]) (.seq (.seq (.reg [oP 11 (.fad 1 (.t 3)) [],oP 12 (.load false 1 (.t 11)) [0],oP 13 (.len (.t 12)) [1],oP 14 (.bin .eql (.t 13) (.k (.i .i64 0))) [2]]) (.cond (.t 14) (.seq (.reg [oP 15 (.call 185 [.k (.i .i64 0)]) [],oN (.store 4 (.t 4) (.t 15)) [0,0,0],oP 5 (.mov (.k (.i .i64 1))) [1,0,1]]) .ret) .skip)) (.seq (.seq (.reg [oP 16 (.fad 0 (.t 3)) [],oP 17 (.load false 1 (.t 16)) [0]]) (.cond (.t 17) (.seq (.reg [oP 18 (.load true 2 (.t 2)) [],oP 19 (.call 123 [.t 18]) [0],oN (.store 2 (.t 2) (.t 19)) [1,1,0,1]]) (.reg [oP 20 (.load true 2 (.t 3)) [],oP 21 (.call 123 [.t 20]) [0],oN (.store 2 (.t 3) (.t 21)) [1,1,0,1]])) .skip)) (.seq (.reg [oP 22 (.load true 2 (.t 2)) [],oP 23 (.load true 2 (.t 3)) [],oP 24 (.call 125 [.t 22,.t 23]) [0,1],oP 6 (.new [.b false,.sn]) [],oN (.store 2 (.t 6) (.t 24)) [3,2,2,0,1,2,3]]) (.seq (.reg [oP 26 (.load true 2 (.t 2)) [],oP 27 (.load true 2 (.t 6)) [],oP 28 (.call 120 [.t 26,.t 27]) [0,1],oM 25 28 [2],oP 29 (.ext (.t 25) 0) [3],oP 30 (.ext (.t 25) 1) [3],oP 7 (.new [.b false,.sn]) [],oP 8 (.new [.b false,.sn]) [],oN (.store 2 (.t 7) (.t 29)) [6,4,2,0,1,2,3,4,6,7],oN (.store 2 (.t 8) (.t 30)) [7,5,8,0,1,2,3,4,5,6,7,8]]) (.seq (.reg [oP 32 (.load true 2 (.t 3)) [],oP 33 (.load true 2 (.t 6)) [],oP 34 (.call 120 [.t 32,.t 33]) [0,1],oM 31 34 [2],oP 35 (.ext (.t 31) 0) [3],oP 36 (.ext (.t 31) 1) [3],oP 9 (.new [.b false,.sn]) [],oP 10 (.new [.b false,.sn]) [],oN (.store 2 (.t 9) (.t 35)) [6,4,2,0,1,2,3,4,6,7],oN (.store 2 (.t 10) (.t 36)) [7,5,8,0,1,2,3,4,5,6,7,8]]) (.seq (.reg [oP 37 (.load true 2 (.t 7)) [],oP 38 (.load true 2 (.t 9)) [],oP 39 (.build [.b false,.sn,.b false,.sn] [(0,(2,.t 37)),(2,(2,.t 38))]) [0,1],oN (.store 4 (.t 4) (.t 39)) [2,0,1,2],oP 5 (.mov (.k (.i .i64 0))) [3,0,1,2,3]]) .ret)))))),[.cell 4 true 4,.tmp 5]⟩
def zw9 : XF := ⟨40,.seq (.reg [oP 2 (.box (.t 0)) [],oP 3 (.box (.t 1)) [],oP 4 (.new [.b false,.sn]) []]) (.seq (.seq (.reg [oP 5 (.fad 0 (.t 2)) [],oP 6 (.load false 1 (.t 5)) [0],oP 7 (.fad 0 (.t 3)) [],oP 8 (.load false 1 (.t 7)) [2],oP 9 (.eqt false 0 (.t 6) (.t 8)) [1,3]]) (.cond (.t 9) (.seq (.drw [oP 10 (.fad 0 (.t 2)) [],oP 11 (.load false 1 (.t 10)) [0],oP 12 (.fad 1 (.t 2)) [],oP 13 (.load false 1 (.t 12)) [2],oP 14 (.fad 1 (.t 3)) [],oP 15 (.load false 1 (.t 14)) [4],oP 16 (.call 133 [.t 13,.t 15]) [3,5],oP 17 (.call 132 [.t 11,.t 16]) [1,6,6],oN (.store 2 (.t 4) (.t 17)) [7,7,0,1,2,3,4,5,6,7]] [(1,6)]) .ret) .skip)) (.seq (.seq (.reg [oP 18 (.fad 1 (.t 2)) [],oP 19 (.load false 1 (.t 18)) [0],oP 20 (.fad 1 (.t 3)) [],oP 21 (.load false 1 (.t 20)) [2],oP 22 (.call 134 [.t 19,.t 21]) [1,3],oP 23 (.bin .lss (.t 22) (.k (.i .i64 0))) [4]]) (.cond (.t 23) (.seq (.drw [oP 24 (.fad 0 (.t 3)) [],oP 25 (.load false 1 (.t 24)) [0],oP 26 (.fad 1 (.t 3)) [],oP 27 (.load false 1 (.t 26)) [2],oP 28 (.fad 1 (.t 2)) [],oP 29 (.load false 1 (.t 28)) [4],oP 30 (.call 135 [.t 27,.t 29]) [3,5],oP 31 (.call 132 [.t 25,.t 30]) [1,6,6],oN (.store 2 (.t 4) (.t 31)) [7,7,0,1,2,3,4,5,6,7]] [(1,6)]) .ret) .skip)) (.seq (.drw [oP 32 (.fad 0 (.t 2)) [],oP 33 (.load false 1 (.t 32)) [0],oP 34 (.fad 1 (.t 2)) [],oP 35 (.load false 1 (.t 34)) [2],oP 36 (.fad 1 (.t 3)) [],oP 37 (.load false 1 (.t 36)) [4],oP 38 (.call 135 [.t 35,.t 37]) [3,5],oP 39 (.call 132 [.t 33,.t 38]) [1,6,6],oN (.store 2 (.t 4) (.t 39)) [7,7,0,1,2,3,4,5,6,7]] [(1,6)]) .ret))),[.cell 4 true 2]⟩
def zxv : XC := .seq (.seq (.reg [oM 7 0 [],oP 8 (.bin .gtr (.t 7) (.k (.i .i64 0))) [0]]) (.cond (.t 8) .skip (.exit 0))) (.block 1 (.seq (.seq (.reg [oM 9 0 [],oP 10 (.bin .rem (.t 9) (.k (.i .i64 2))) [0],oP 11 (.bin .eql (.t 10) (.k (.i .i64 1))) [1]]) (.cond (.t 11) (.reg [oP 12 (.load true 2 (.t 3)) [],oP 13 (.load true 2 (.t 4)) [],oP 14 (.call 118 [.t 12,.t 13]) [0,1],oN (.store 2 (.t 3) (.t 14)) [2,2,0,1,2]]) .skip)) (.seq (.reg [oP 15 (.load true 2 (.t 4)) [],oP 16 (.load true 2 (.t 4)) [],oP 17 (.call 118 [.t 15,.t 16]) [0,1],oN (.store 2 (.t 4) (.t 17)) [2,2,0,1,2]]) (.reg [oM 18 0 [],oP 19 (.bin .quo (.t 18) (.k (.i .i64 2))) [0],oM 0 19 [1,0,1]]))))
def zwo : XF := ⟨21,.seq (.reg [oP 2 (.new [.b false,.sn]) []]) (.seq (.reg [oP 5 (.call 114 [.k (.i .i64 1)]) [],oP 3 (.new [.b false,.sn]) [],oN (.store 2 (.t 3) (.t 5)) [1,0,0,0,1]]) (.seq (.reg [oP 6 (.call 114 [.k (.i .i64 2)]) [],oP 4 (.new [.b false,.sn]) [],oN (.store 2 (.t 4) (.t 6)) [1,0,0,0,1]]) (.seq (.block 0 (.loop zxv)) (.seq (.reg [oP 20 (.load true 2 (.t 3)) [],oN (.store 2 (.t 2) (.t 20)) [0,0]]) .ret)))),[.cell 2 true 2]⟩
def zxE : XC := .seq (.seq (.reg [oM 8 0 [],oP 9 (.bin .neq (.t 8) (.k (.i .i64 0))) [0]]) (.cond (.t 9) .skip (.exit 0))) (.block 1 (.seq (.reg [oM 10 0 [],oP 11 (.bin .rem (.t 10) (.k (.i .i64 10000))) [0],oM 5 11 [1,0,1]]) (.seq (.seq (.reg [oM 12 5 [],oP 13 (.bin .lss (.t 12) (.k (.i .i64 0))) [0]]) (.cond (.t 13) (.reg [oM 14 5 [],oP 15 (.un .neg (.t 14)) [0],oM 5 15 [1,0,1]]) .skip)) (.seq (.reg [oM 16 3 [],oM 17 5 [],oP 18 (.bsl 1 1 [.i .i64 0] [(0,(1,.t 17))]) [1],oP 19 (.app 1 8 (.t 16) (.t 18)) [0,2],oM 3 19 [3,3,0,1,2,3]]) (.reg [oM 20 0 [],oP 21 (.bin .quo (.t 20) (.k (.i .i64 10000))) [0],oM 0 21 [1,0,1]])))))
def zxh : XF := ⟨25,.seq (.reg [oP 2 (.new [.b false,.sn]) []]) (.seq (.reg [oP 3 (.mov (.k .sn)) []]) (.seq (.reg [oM 6 0 [],oP 7 (.bin .lss (.t 6) (.k (.i .i64 0))) [0],oM 4 7 [1,0,1]]) (.seq (.block 0 (.loop zxE)) (.seq (.reg [oM 22 4 [],oM 23 3 [],oP 24 (.call 132 [.t 22,.t 23]) [0,1],oN (.store 2 (.t 2) (.t 24)) [2,2,0,1,2]]) .ret)))),[.cell 2 true 2]⟩
def zvD : XF := ⟨36,.seq (.reg [oP 4 (.new [.b false,.sn,.b false,.sn]) []]) (.seq (.reg [oM 8 0 [],oM 9 1 [],oP 10 (.bin .add (.t 9) (.k (.i .i64 2))) [1],oP 11 (.call 180 [.t 8,.t 10]) [0,2],oM 12 0 [],oM 13 1 [],oP 14 (.bin .add (.t 13) (.k (.i .i64 3))) [5],oP 15 (.call 180 [.t 12,.t 14]) [4,6,3],oP 16 (.call 179 [.t 11,.t 15]) [3,7,7],oP 5 (.new [.b false,.sn]) [],oN (.store 2 (.t 5) (.t 16)) [9,8,8,0,1,2,3,4,5,6,7,8,9]]) (.seq (.seq (.reg [oP 17 (.fad 1 (.t 5)) [],oP 18 (.load false 1 (.t 17)) [0],oP 19 (.len (.t 18)) [1],oP 20 (.bin .eql (.t 19) (.k (.i .i64 0))) [2]]) (.cond (.t 20) (.reg [oP 21 (.call 114 [.k (.i .i64 1)]) [],oN (.store 2 (.t 5) (.t 21)) [0,0,0]]) .skip)) (.seq (.drw [oM 23 0 [],oM 24 1 [],oP 25 (.call 180 [.t 23,.t 24]) [0,1],oM 26 0 [],oM 27 1 [],oP 28 (.bin .add (.t 27) (.k (.i .i64 1))) [4],oP 29 (.call 180 [.t 26,.t 28]) [3,5,2],oP 30 (.call 179 [.t 25,.t 29]) [2,6,6],oP 31 (.load true 2 (.t 5)) [],oP 32 (.call 182 [.t 30,.t 31]) [7,8,7],oM 22 32 [9],oP 33 (.ext (.t 22) 0) [10],oP 34 (.ext (.t 22) 1) [10],oP 6 (.new [.b false,.sn,.b false,.sn]) [],oN (.store 4 (.t 6) (.t 33)) [13,11,9,0,1,2,3,4,5,6,7,8,9,10,11,13],oM 7 34 [12,14,0,1,2,3,4,5,6,7,8,9,10,11,12,13,14]] [(8,2),(8,6),(8,7)]) (.seq (.reg [oP 35 (.load true 4 (.t 6)) [],oN (.store 4 (.t 4) (.t 35)) [0,0]]) .ret)))),[.cell 4 true 4]⟩
def zxs : XC := .seq (.reg [oP 8 (.bin .lss (.t 7) (.k (.i .i64 9))) []]) (.seq (.cond (.t 8) .skip (.exit 0)) (.seq (.block 1 (.seq (.reg [oP 9 (.iag 9 false 1 (.t 6) (.t 7)) [],oM 4 9 [0,0]]) (.seq (.reg [oM 10 4 [],oP 11 (.bin .lss (.t 10) (.k (.i .i64 (-1073741824)))) [0],oM 12 11 [1],oF 13 (.mov (.t 4)) [2] 12,oF 14 (.bin .gtr (.t 13) (.k (.i .i64 1073741824))) [3,2] 12,oP 15 (.pick (.t 12) (.k (.b true)) (.t 14)) [2,4]]) (.cond (.t 15) (.seq (.reg [oP 2 (.mov (.k (.i .i64 1))) []]) .ret) .skip)))) (.reg [oP 16 (.bin .add (.t 7) (.k (.i .i64 1))) [],oM 7 16 [0]])))
def zv9 : XF := ⟨22,.seq (.reg [oP 1 (.box (.t 0)) [],oP 2 (.mov (.k (.i .i64 0))) []]) (.seq (.seq (.reg [oP 5 (.fad 0 (.t 1)) [],oP 6 (.load true 9 (.t 5)) [0],oP 7 (.mov (.k (.i .i64 0))) []]) (.block 0 (.loop zxs))) (.seq (.seq (.reg [oP 17 (.load true 9 (.t 1)) [],oP 18 (.call 307 [.t 17]) [0],oP 19 (.call 306 [.t 18]) [1,1],oP 20 (.call 31 [.t 19]) [2,2],oP 21 (.bin .eql (.t 20) (.k (.i .i64 0))) [3]]) (.cond (.t 21) (.seq (.reg [oP 2 (.mov (.k (.i .i64 10))) []]) .ret) .skip)) (.seq (.reg [oP 2 (.mov (.k (.i .i64 0))) []]) .ret))),[.tmp 2]⟩
def zxx : XC := .seq (.seq (.reg [oM 4 3 [],oP 5 (.bin .lss (.t 4) (.k (.i .i64 9))) [0]]) (.cond (.t 5) .skip (.exit 0))) (.seq (.block 1 (.seq (.reg [oM 8 3 [],oP 9 (.fad 0 (.t 1)) [],oP 10 (.ixa 9 1 (.t 9) (.t 8)) [1,0],oP 11 (.load false 1 (.t 10)) [2],oP 12 (.bin .lss (.t 11) (.k (.i .i64 (-1073741824)))) [3],oM 13 12 [4],oF 14 (.mov (.t 3)) [5] 13,oF 15 (.fad 0 (.t 1)) [5] 13,oF 16 (.ixa 9 1 (.t 15) (.t 14)) [7,6,5] 13,oF 17 (.load false 1 (.t 16)) [8,5] 13,oF 18 (.bin .gtr (.t 17) (.k (.i .i64 1073741824))) [9,5] 13,oP 19 (.pick (.t 13) (.k (.b true)) (.t 18)) [5,10]]) (.cond (.t 19) (.seq (.reg [oP 2 (.mov (.k (.i .i64 1))) []]) .ret) .skip))) (.reg [oM 6 3 [],oP 7 (.bin .add (.t 6) (.k (.i .i64 1))) [0],oM 3 7 [1,0,1]]))
def zwq : XF := ⟨26,.seq (.reg [oP 1 (.box (.t 0)) [],oP 2 (.mov (.k (.i .i64 0))) []]) (.seq (.seq (.reg [oP 3 (.mov (.k (.i .i64 0))) []]) (.block 0 (.loop zxx))) (.seq (.seq (.reg [oP 20 (.load true 9 (.t 1)) [],oP 21 (.call 357 [.t 20]) [0],oP 22 (.call 358 [.t 21]) [1,1],oP 23 (.fld false 1 1 (.t 22)) [2],oP 24 (.len (.t 23)) [3],oP 25 (.bin .eql (.t 24) (.k (.i .i64 0))) [4]]) (.cond (.t 25) (.seq (.reg [oP 2 (.mov (.k (.i .i64 10))) []]) .ret) .skip)) (.seq (.reg [oP 2 (.mov (.k (.i .i64 0))) []]) .ret))),[.tmp 2]⟩
def zxp : XF := ⟨30,.seq (.reg [oP 1 (.box (.t 0)) [],oP 2 (.new [.b false,.sn,.b false,.sn]) []]) (.seq (.reg [oP 10 (.fad 0 (.t 1)) [],oP 11 (.load true 2 (.t 10)) [0],oP 12 (.call 107 [.t 11]) [1],oP 13 (.call 110 [.t 12]) [2,2],oM 9 13 [3],oP 14 (.ext (.t 9) 0) [4],oP 15 (.ext (.t 9) 1) [4],oP 3 (.new [.b false,.sn]) [],oN (.store 2 (.t 3) (.t 14)) [7,5,3,0,1,2,3,4,5,7],oM 4 15 [6,8,0,1,2,3,4,5,6,7,8]]) (.seq (.reg [oP 17 (.fad 2 (.t 1)) [],oP 18 (.load true 2 (.t 17)) [0],oP 19 (.call 107 [.t 18]) [1],oP 20 (.call 110 [.t 19]) [2,2],oM 16 20 [3],oP 21 (.ext (.t 16) 0) [4],oP 22 (.ext (.t 16) 1) [4],oP 5 (.new [.b false,.sn]) [],oN (.store 2 (.t 5) (.t 21)) [7,5,3,0,1,2,3,4,5,7],oM 6 22 [6,8,0,1,2,3,4,5,6,7,8]]) (.seq (.reg [oP 24 (.load true 2 (.t 3)) [],oP 25 (.load true 2 (.t 5)) [],oP 26 (.call 24 [.t 24,.t 25]) [0,1],oM 23 26 [2],oP 27 (.ext (.t 23) 0) [3],oP 28 (.ext (.t 23) 1) [3],oP 7 (.new [.b false,.sn,.b false,.sn]) [],oN (.store 4 (.t 7) (.t 27)) [6,4,2,0,1,2,3,4,6],oM 8 28 [5,7,0,1,2,3,4,5,6,7]]) (.seq (.reg [oP 29 (.load true 4 (.t 7)) [],oN (.store 4 (.t 2) (.t 29)) [0,0]]) .ret)))),[.cell 2 true 4]⟩
def zu0 : XF := ⟨63,.seq (.reg [oP 3 (.box (.t 0)) [],oP 4 (.box (.t 1)) [],oP 5 (.box (.t 2)) [],oP 6 (.new [.b false,.sn,.b false,.sn]) [],oP 7 (.new [.b false,.sn,.b false,.sn]) [],oP 8 (.mov (.k (.i .i64 0))) []]) (.seq (.reg [oP 16 (.call 185 [.k (.i .i64 0)]) [],oP 9 (.new [.b false,.sn,.b false,.sn]) [],oN (.store 4 (.t 9) (.t 16)) [1,0,0,0,1]]) (.seq (.reg [oP 17 (.load true 9 (.t 3)) [],oP 18 (.call 341 [.t 17]) [0],oM 10 18 [1,1,0,1]]) (.seq (.seq (.reg [oM 19 10 [],oP 20 (.bin .neq (.t 19) (.k (.i .i64 0))) [0]]) (.cond (.t 20) (.seq (.drw [oP 21 (.load true 4 (.t 9)) [],oP 22 (.load true 4 (.t 9)) [],oM 23 10 [],oN (.store 4 (.t 6) (.t 21)) [0,0],oN (.store 4 (.t 7) (.t 22)) [1,3,0,1,3],oM 8 23 [2,4,0,1,2,3,4]] [(1,3)]) .ret) .skip)) (.seq (.seq (.reg [oP 24 (.load true 4 (.t 4)) [],oP 25 (.call 359 [.t 24]) [0],oP 26 (.bin .gtr (.t 25) (.k (.i .i64 1000))) [1],oM 27 26 [2,1],oF 28 (.load true 4 (.t 5)) [3] 27,oF 29 (.call 359 [.t 28]) [4,3,3] 27,oF 30 (.bin .gtr (.t 29) (.k (.i .i64 1000))) [5,3] 27,oP 31 (.pick (.t 27) (.k (.b true)) (.t 30)) [3,6]]) (.cond (.t 31) (.seq (.drw [oP 32 (.load true 4 (.t 9)) [],oP 33 (.load true 4 (.t 9)) [],oN (.store 4 (.t 6) (.t 32)) [0,0],oN (.store 4 (.t 7) (.t 33)) [1,2,0,1,2],oP 8 (.mov (.k (.i .i64 4))) [3,0,1,2,3]] [(1,2)]) .ret) .skip)) (.seq (.reg [oP 34 (.load true 9 (.t 3)) [],oP 35 (.load true 4 (.t 4)) [],oP 36 (.load true 4 (.t 5)) [],oP 37 (.call 360 [.t 34,.k (.i .i64 2),.t 35,.t 36]) [0,1,2],oP 11 (.new [.b false,.sn,.b false,.sn]) [],oN (.store 4 (.t 11) (.t 37)) [4,3,3,0,1,2,3,4]]) (.seq (.seq (.reg [oP 38 (.load true 4 (.t 11)) [],oP 39 (.call 199 [.t 38]) [0],oP 40 (.bin .eql (.t 39) (.k (.i .i64 0))) [1]]) (.cond (.t 40) (.seq (.drw [oP 41 (.load true 4 (.t 9)) [],oP 42 (.load true 4 (.t 9)) [],oN (.store 4 (.t 6) (.t 41)) [0,0],oN (.store 4 (.t 7) (.t 42)) [1,2,0,1,2],oP 8 (.mov (.k (.i .i64 9))) [3,0,1,2,3]] [(1,2)]) .ret) .skip)) (.seq (.drw [oP 44 (.load true 9 (.t 3)) [],oP 45 (.load true 4 (.t 4)) [],oP 46 (.load true 4 (.t 5)) [],oP 47 (.call 360 [.t 44,.k (.i .i64 0),.t 45,.t 46]) [0,1,2],oP 48 (.load true 4 (.t 11)) [],oP 49 (.call 193 [.t 47,.t 48]) [3,4,3],oM 43 49 [5],oP 50 (.ext (.t 43) 0) [6],oP 51 (.ext (.t 43) 1) [6],oP 12 (.new [.b false,.sn,.b false,.sn]) [],oN (.store 4 (.t 12) (.t 50)) [9,7,5,0,1,2,3,4,5,6,7,9],oM 13 51 [8,10,0,1,2,3,4,5,6,7,8,9,10]] [(4,3)]) (.seq (.drw [oP 53 (.load true 9 (.t 3)) [],oP 54 (.load true 4 (.t 4)) [],oP 55 (.load true 4 (.t 5)) [],oP 56 (.call 360 [.t 53,.k (.i .i64 1),.t 54,.t 55]) [0,1,2],oP 57 (.load true 4 (.t 11)) [],oP 58 (.call 193 [.t 56,.t 57]) [3,4,3],oM 52 58 [5],oP 59 (.ext (.t 52) 0) [6],oP 60 (.ext (.t 52) 1) [6],oP 14 (.new [.b false,.sn,.b false,.sn]) [],oN (.store 4 (.t 14) (.t 59)) [9,7,5,0,1,2,3,4,5,6,7,9],oM 15 60 [8,10,0,1,2,3,4,5,6,7,8,9,10]] [(4,3)]) (.seq (.drw [oP 61 (.load true 4 (.t 12)) [],oP 62 (.load true 4 (.t 14)) [],oN (.store 4 (.t 6) (.t 61)) [0,0],oN (.store 4 (.t 7) (.t 62)) [1,2,0,1,2],oP 8 (.mov (.k (.i .i64 0))) [3,0,1,2,3]] [(1,2)]) .ret))))))))),[.cell 6 true 4,.cell 7 true 4,.tmp 8]⟩
def zu4 : XF := ⟨18,.seq (.reg [oP 1 (.box (.t 0)) [],oP 2 (.mov (.k (.s []))) []]) (.seq (.seq (.reg [oP 3 (.fad 2 (.t 1)) [],oP 4 (.load true 2 (.t 3)) [0],oP 5 (.call 31 [.t 4]) [1],oP 6 (.bin .eql (.t 5) (.k (.i .i64 0))) [2]]) (.cond (.t 6) (.seq (.reg [oP 7 (.fad 0 (.t 1)) [],oP 8 (.load true 2 (.t 7)) [0],oP 9 (.call 33 [.t 8]) [1],oM 2 9 [2,2,0,1,2]]) .ret) .skip)) (.seq (.drw [oP 10 (.fad 0 (.t 1)) [],oP 11 (.load true 2 (.t 10)) [0],oP 12 (.call 33 [.t 11]) [1],oP 13 (.bin .add (.t 12) (.k (.s [47]))) [2],oP 14 (.load true 4 (.t 1)) [],oP 15 (.call 19 [.t 14]) [4,2],oP 16 (.call 33 [.t 15]) [5,5],oP 17 (.bin .add (.t 13) (.t 16)) [3,6],oM 2 17 [7,6,0,1,2,3,4,5,6,7]] [(4,2)]) .ret)),[.tmp 2]⟩
def zwN : XF := ⟨18,.seq (.reg [oP 1 (.box (.t 0)) [],oP 2 (.mov (.k (.s []))) []]) (.seq (.reg [oP 4 (.fad 2 (.t 1)) [],oP 5 (.load true 2 (.t 4)) [0],oP 6 (.call 107 [.t 5]) [1],oM 3 6 [2,2,0,1,2]]) (.seq (.seq (.reg [oM 7 3 [],oP 8 (.bin .eql (.t 7) (.k (.s [49]))) [0]]) (.cond (.t 8) (.seq (.reg [oP 9 (.fad 0 (.t 1)) [],oP 10 (.load true 2 (.t 9)) [0],oP 11 (.call 107 [.t 10]) [1],oM 2 11 [2,2,0,1,2]]) .ret) .skip)) (.seq (.reg [oP 12 (.fad 0 (.t 1)) [],oP 13 (.load true 2 (.t 12)) [0],oP 14 (.call 107 [.t 13]) [1],oP 15 (.bin .add (.t 14) (.k (.s [47]))) [2],oM 16 3 [],oP 17 (.bin .add (.t 15) (.t 16)) [3,4],oM 2 17 [5,2,0,1,2,3,4,5]]) .ret))),[.tmp 2]⟩
def zvc : XF := ⟨17,.seq (.reg [oP 4 (.mov (.k (.i .i64 0))) []]) (.seq (.seq (.reg [oM 5 1 [],oP 6 (.bin .lss (.t 5) (.k (.i .i64 0))) [0],oM 7 6 [1],oF 8 (.mov (.t 1)) [2] 7,oF 9 (.mov (.t 0)) [2] 7,oF 10 (.len (.t 9)) [4,2] 7,oF 11 (.bin .geq (.t 8) (.t 10)) [3,5,2] 7,oP 12 (.pick (.t 7) (.k (.b true)) (.t 11)) [2,6]]) (.cond (.t 12) (.seq (.reg [oP 4 (.mov (.k (.i .i64 0))) []]) .ret) .skip)) (.seq (.reg [oM 13 0 [],oM 14 1 [],oP 15 (.ixs 1 (.t 13) (.t 14)) [0,1],oP 16 (.load false 1 (.t 15)) [2],oM 4 16 [3,0,1,2,3]]) .ret)),[.tmp 4]⟩
def zuZ : XC := .seq (.reg [oP 56 (.bin .lss (.t 55) (.k (.i .i64 3))) []]) (.seq (.cond (.t 56) .skip (.exit 2)) (.seq (.block 3 (.seq (.reg [oM 57 55 [],oM 9 57 [0,0]]) (.drw [oM 58 9 [],oP 59 (.bin .mul (.k (.i .i64 3)) (.t 58)) [0],oM 60 7 [],oP 61 (.bin .add (.t 59) (.t 60)) [1,2],oM 62 9 [],oP 63 (.bin .mul (.k (.i .i64 3)) (.t 62)) [4],oM 64 7 [],oP 65 (.bin .add (.t 63) (.t 64)) [5,6],oP 66 (.ixa 9 2 (.t 5) (.t 65)) [7],oP 67 (.load true 2 (.t 66)) [8],oP 68 (.load true 2 (.t 8)) [],oP 69 (.call 313 [.t 67,.t 68]) [9,10],oP 70 (.ixa 9 2 (.t 5) (.t 61)) [3,0,1,2,3,4,5,6,7,8,9,10,11],oN (.store 2 (.t 70) (.t 69)) [12,11,11,0,1,2,3,4,5,6,7,8,9,10,11]] []))) (.reg [oP 71 (.bin .add (.t 55) (.k (.i .i64 1))) [],oM 55 71 [0]])))
def zvA : XC := .seq (.reg [oP 48 (.bin .lss (.t 47) (.k (.i .i64 3))) []]) (.seq (.cond (.t 48) .skip (.exit 0)) (.seq (.block 1 (.seq (.reg [oM 49 47 [],oP 50 (.iag 3 true 2 (.t 46) (.t 47)) [],oP 8 (.new [.b false,.sn]) [],oM 7 49 [0,0,1,2],oN (.store 2 (.t 8) (.t 50)) [2,1,3,0,1,2,3]]) (.seq (.seq (.reg [oP 51 (.load true 2 (.t 8)) [],oP 52 (.call 31 [.t 51]) [0],oP 53 (.bin .eql (.t 52) (.k (.i .i64 0))) [1]]) (.cond (.t 53) (.seq (.reg [oP 54 (.build [.b false,.sn,.b false,.sn,.b false,.sn,.b false,.sn,.b false,.sn,.b false,.sn,.b false,.sn,.b false,.sn,.b false,.sn] []) [],oN (.store 18 (.t 2) (.t 54)) [0,0],oP 3 (.mov (.k (.b false))) [1,0,1]]) .ret) .skip)) (.seq (.reg [oP 55 (.mov (.k (.i .i64 0))) []]) (.block 2 (.loop zuZ)))))) (.reg [oP 72 (.bin .add (.t 47) (.k (.i .i64 1))) [],oM 47 72 [0]])))
def zwf : XF := ⟨78,.seq (.reg [oP 1 (.box (.t 0)) [],oP 2 (.new [.b false,.sn,.b false,.sn,.b false,.sn,.b false,.sn,.b false,.sn,.b false,.sn,.b false,.sn,.b false,.sn,.b false,.sn]) [],oP 3 (.mov (.k (.b false))) []]) (.seq (.reg [oP 4 (.mov (.k (.fn 320 []))) []]) (.seq (.reg [oM 10 4 [],oP 11 (.ixa 4 2 (.t 1) (.k (.i .i64 0))) [],oP 12 (.load true 2 (.t 11)) [1],oP 13 (.ixa 4 2 (.t 1) (.k (.i .i64 1))) [],oP 14 (.load true 2 (.t 13)) [3],oP 15 (.ixa 4 2 (.t 1) (.k (.i .i64 2))) [],oP 16 (.load true 2 (.t 15)) [5],oP 17 (.callv (.t 10) [.t 12,.t 14,.t 16]) [0,2,4,6],oP 5 (.new [.b false,.sn,.b false,.sn,.b false,.sn,.b false,.sn,.b false,.sn,.b false,.sn,.b false,.sn,.b false,.sn,.b false,.sn]) [],oN (.store 18 (.t 5) (.t 17)) [8,7,7,0,1,2,3,4,5,6,7,8]]) (.seq (.drw [oM 18 4 [],oP 19 (.ixa 4 2 (.t 1) (.k (.i .i64 3))) [],oP 20 (.load true 2 (.t 19)) [1],oP 21 (.ixa 4 2 (.t 1) (.k (.i .i64 1))) [],oP 22 (.load true 2 (.t 21)) [3],oP 23 (.ixa 4 2 (.t 1) (.k (.i .i64 2))) [],oP 24 (.load true 2 (.t 23)) [5],oP 25 (.callv (.t 18) [.t 20,.t 22,.t 24]) [0,2,4,6],oP 26 (.call 306 [.t 25]) [7,7],oM 27 4 [],oP 28 (.ixa 4 2 (.t 1) (.k (.i .i64 0))) [],oP 29 (.load true 2 (.t 28)) [10],oP 30 (.ixa 4 2 (.t 1) (.k (.i .i64 3))) [],oP 31 (.load true 2 (.t 30)) [12],oP 32 (.ixa 4 2 (.t 1) (.k (.i .i64 2))) [],oP 33 (.load true 2 (.t 32)) [14],oP 34 (.callv (.t 27) [.t 29,.t 31,.t 33]) [9,11,13,15,8],oP 35 (.call 306 [.t 34]) [16,16],oM 36 4 [],oP 37 (.ixa 4 2 (.t 1) (.k (.i .i64 0))) [],oP 38 (.load true 2 (.t 37)) [19],oP 39 (.ixa 4 2 (.t 1) (.k (.i .i64 1))) [],oP 40 (.load true 2 (.t 39)) [21],oP 41 (.ixa 4 2 (.t 1) (.k (.i .i64 3))) [],oP 42 (.load true 2 (.t 41)) [23],oP 43 (.callv (.t 36) [.t 38,.t 40,.t 42]) [18,20,22,24,17],oP 44 (.call 306 [.t 43]) [25,25],oP 45 (.build [.b false,.sn,.b false,.sn,.b false,.sn] [(0,(2,.t 26)),(2,(2,.t 35)),(4,(2,.t 44))]) [8,17,26],oP 6 (.new [.b false,.sn,.b false,.sn,.b false,.sn]) [],oN (.store 6 (.t 6) (.t 45)) [28,27,26,0,1,2,3,4,5,6,7,8,9,10,11,12,13,14,15,16,17,18,19,20,21,22,23,24,25,26,27,28]] [(11,7),(11,8),(13,7),(13,8),(15,7),(15,8),(20,7),(20,8),(20,16),(20,17),(22,7),(22,8),(22,16),(22,17),(24,7),(24,8),(24,16),(24,17)]) (.seq (.seq (.reg [oP 46 (.load true 6 (.t 6)) [],oP 47 (.mov (.k (.i .i64 0))) []]) (.block 0 (.loop zvA))) (.seq (.drw [oP 73 (.load true 18 (.t 5)) [],oP 74 (.load true 18 (.t 5)) [],oP 75 (.call 306 [.t 74]) [1],oP 76 (.call 31 [.t 75]) [2,2],oP 77 (.bin .neq (.t 76) (.k (.i .i64 0))) [3],oN (.store 18 (.t 2) (.t 73)) [0,3,0],oM 3 77 [4,5,0,1,2,3,4,5]] [(0,2),(0,3)]) .ret))))),[.cell 2 true 18,.tmp 3]⟩
def zxl : XC := .seq (.reg [oP 19 (.bin .lss (.t 18) (.k (.i .i64 9))) []]) (.seq (.cond (.t 19) .skip (.exit 0)) (.seq (.block 1 (.seq (.reg [oP 20 (.iag 9 true 2 (.t 17) (.t 18)) [],oP 7 (.new [.b false,.sn]) [],oN (.store 2 (.t 7) (.t 20)) [1,0,0,1]]) (.seq (.reg [oP 21 (.load true 2 (.t 4)) [],oP 22 (.load true 2 (.t 7)) [],oP 23 (.call 18 [.t 21,.t 22]) [0,1],oN (.store 2 (.t 4) (.t 23)) [2,2,0,1,2]]) (.seq (.reg [oM 24 5 [],oP 25 (.bin .eql (.t 24) (.k (.i .i64 0))) [0]]) (.cond (.t 25) (.reg [oP 26 (.load true 2 (.t 7)) [],oP 27 (.call 31 [.t 26]) [0],oM 5 27 [1,1,0,1]]) .skip))))) (.reg [oP 28 (.bin .add (.t 18) (.k (.i .i64 1))) [],oM 18 28 [0]])))
def zxj : XC := .seq (.reg [oP 31 (.bin .lss (.t 30) (.k (.i .i64 9))) []]) (.seq (.cond (.t 31) .skip (.exit 2)) (.seq (.block 3 (.seq (.reg [oM 32 30 [],oP 33 (.iag 9 true 2 (.t 29) (.t 30)) [],oP 10 (.new [.b false,.sn]) [],oM 9 32 [0,0,1,2],oN (.store 2 (.t 10) (.t 33)) [2,1,3,0,1,2,3]]) (.seq (.reg [oP 35 (.load true 2 (.t 10)) [],oP 36 (.load true 2 (.t 4)) [],oP 37 (.call 29 [.t 35,.t 36]) [0,1],oM 34 37 [2],oP 38 (.ext (.t 34) 0) [3],oP 39 (.ext (.t 34) 1) [3],oP 40 (.ext (.t 34) 2) [3],oP 11 (.new [.b false,.sn]) [],oP 12 (.new [.b false,.sn]) [],oN (.store 2 (.t 11) (.t 38)) [7,4,2,0,1,2,3,4,7,8],oN (.store 2 (.t 12) (.t 39)) [8,5,9,0,1,2,3,4,5,7,8,9],oM 13 40 [6,10,0,1,2,3,4,5,6,7,8,9,10]]) (.seq (.reg [oP 42 (.load true 2 (.t 11)) [],oP 43 (.call 80 [.t 42]) [0],oM 41 43 [1],oP 44 (.ext (.t 41) 0) [2],oP 45 (.ext (.t 41) 1) [2],oM 14 44 [3,1,0,1,2,3],oM 15 45 [4,5,0,1,2,3,4,5]]) (.seq (.seq (.reg [oM 46 14 [],oM 47 5 [],oP 48 (.bin .mul (.t 46) (.t 47)) [0,1],oM 14 48 [2,0,1,2]]) (.seq (.reg [oM 49 15 [],oP 50 (.un .not (.t 49)) [0],oM 51 50 [1],oF 52 (.mov (.t 14)) [2] 51,oF 53 (.bin .lss (.t 52) (.k (.i .i64 (-1073741824)))) [3,2] 51,oP 54 (.pick (.t 51) (.k (.b true)) (.t 53)) [2,4],oM 55 54 [5,2],oF 56 (.mov (.t 14)) [6] 55,oF 57 (.bin .gtr (.t 56) (.k (.i .i64 1073741824))) [7,6] 55,oP 58 (.pick (.t 55) (.k (.b true)) (.t 57)) [6,8]]) (.cond (.t 58) (.seq (.reg [oP 59 (.build [.i .i64 0,.i .i64 0,.i .i64 0,.i .i64 0,.i .i64 0,.i .i64 0,.i .i64 0,.i .i64 0,.i .i64 0] []) [],oN (.store 9 (.t 2) (.t 59)) [0,0],oP 3 (.mov (.k (.i .i64 5))) [1,0,1]]) .ret) .skip))) (.reg [oM 60 9 [],oM 61 14 [],oP 62 (.fad 0 (.t 8)) [],oP 63 (.ixa 9 1 (.t 62) (.t 60)) [2,0,0,1],oN (.store 1 (.t 63) (.t 61)) [3,1,0,1]])))))) (.reg [oP 64 (.bin .add (.t 30) (.k (.i .i64 1))) [],oM 30 64 [0]])))
def zvW : XF := ⟨66,.seq (.reg [oP 1 (.box (.t 0)) [],oP 2 (.new [.i .i64 0,.i .i64 0,.i .i64 0,.i .i64 0,.i .i64 0,.i .i64 0,.i .i64 0,.i .i64 0,.i .i64 0]) [],oP 3 (.mov (.k (.i .i64 0))) []]) (.seq (.reg [oP 16 (.build [.b false,.sn] []) [],oP 4 (.new [.b false,.sn]) [],oN (.store 2 (.t 4) (.t 16)) [1,0,0,1],oP 5 (.mov (.k (.i .i64 0))) [2,0,1,2]]) (.seq (.seq (.reg [oP 17 (.load true 18 (.t 1)) [],oP 18 (.mov (.k (.i .i64 0))) []]) (.block 0 (.loop zxl))) (.seq (.reg [oP 8 (.new [.i .i64 0,.i .i64 0,.i .i64 0,.i .i64 0,.i .i64 0,.i .i64 0,.i .i64 0,.i .i64 0,.i .i64 0]) []]) (.seq (.seq (.reg [oP 29 (.load true 18 (.t 1)) [],oP 30 (.mov (.k (.i .i64 0))) []]) (.block 2 (.loop zxj))) (.seq (.reg [oP 65 (.load true 9 (.t 8)) [],oN (.store 9 (.t 2) (.t 65)) [0,0],oP 3 (.mov (.k (.i .i64 0))) [1,0,1]]) .ret))))),[.cell 2 true 9,.tmp 3]⟩
def zuV : XC := .seq (.reg [oP 16 (.bin .lss (.t 15) (.k (.i .i64 3))) []]) (.seq (.cond (.t 16) .skip (.exit 4)) (.seq (.block 5 (.seq (.reg [oM 17 15 [],oM 8 17 [0,0]]) (.drw [oM 18 6 [],oP 19 (.bin .mul (.k (.i .i64 3)) (.t 18)) [0],oM 20 7 [],oP 21 (.bin .add (.t 19) (.t 20)) [1,2],oM 22 6 [],oP 23 (.bin .mul (.k (.i .i64 3)) (.t 22)) [4],oM 24 7 [],oP 25 (.bin .add (.t 23) (.t 24)) [5,6],oP 26 (.ixa 9 2 (.t 5) (.t 25)) [7],oP 27 (.load true 2 (.t 26)) [8],oM 28 6 [],oP 29 (.bin .mul (.k (.i .i64 3)) (.t 28)) [10],oM 30 8 [],oP 31 (.bin .add (.t 29) (.t 30)) [11,12],oP 32 (.ixa 9 2 (.t 2) (.t 31)) [13],oP 33 (.load true 2 (.t 32)) [14],oM 34 8 [],oP 35 (.bin .mul (.k (.i .i64 3)) (.t 34)) [16],oM 36 7 [],oP 37 (.bin .add (.t 35) (.t 36)) [17,18],oP 38 (.ixa 9 2 (.t 3) (.t 37)) [19],oP 39 (.load true 2 (.t 38)) [20],oP 40 (.call 313 [.t 33,.t 39]) [15,21],oP 41 (.call 312 [.t 27,.t 40]) [9,22,22],oP 42 (.ixa 9 2 (.t 5) (.t 21)) [3,0,1,2,3,4,5,6,7,8,9,10,11,12,13,14,15,16,17,18,19,20,21,22,23],oN (.store 2 (.t 42) (.t 41)) [24,23,23,0,1,2,3,4,5,6,7,8,9,10,11,12,13,14,15,16,17,18,19,20,21,22,23]] [(9,22)]))) (.reg [oP 43 (.bin .add (.t 15) (.k (.i .i64 1))) [],oM 15 43 [0]])))
def zxe : XC := .seq (.reg [oP 13 (.bin .lss (.t 12) (.k (.i .i64 3))) []]) (.seq (.cond (.t 13) .skip (.exit 2)) (.seq (.block 3 (.seq (.reg [oM 14 12 [],oM 7 14 [0,0]]) (.seq (.reg [oP 15 (.mov (.k (.i .i64 0))) []]) (.block 4 (.loop zuV))))) (.reg [oP 44 (.bin .add (.t 12) (.k (.i .i64 1))) [],oM 12 44 [0]])))
def zxb : XC := .seq (.reg [oP 10 (.bin .lss (.t 9) (.k (.i .i64 3))) []]) (.seq (.cond (.t 10) .skip (.exit 0)) (.seq (.block 1 (.seq (.reg [oM 11 9 [],oM 6 11 [0,0]]) (.seq (.reg [oP 12 (.mov (.k (.i .i64 0))) []]) (.block 2 (.loop zxe))))) (.reg [oP 45 (.bin .add (.t 9) (.k (.i .i64 1))) [],oM 9 45 [0]])))
def zvO : XF := ⟨47,.seq (.reg [oP 2 (.box (.t 0)) [],oP 3 (.box (.t 1)) [],oP 4 (.new [.b false,.sn,.b false,.sn,.b false,.sn,.b false,.sn,.b false,.sn,.b false,.sn,.b false,.sn,.b false,.sn,.b false,.sn]) []]) (.seq (.reg [oP 5 (.new [.b false,.sn,.b false,.sn,.b false,.sn,.b false,.sn,.b false,.sn,.b false,.sn,.b false,.sn,.b false,.sn,.b false,.sn]) []]) (.seq (.seq (.reg [oP 9 (.mov (.k (.i .i64 0))) []]) (.block 0 (.loop zxb))) (.seq (.reg [oP 46 (.load true 18 (.t 5)) [],oN (.store 18 (.t 4) (.t 46)) [0,0]]) .ret))),[.cell 4 true 18]⟩
def zxg : XC := .seq (.reg [oP 12 (.bin .lss (.t 11) (.k (.i .i64 3))) []]) (.seq (.cond (.t 12) .skip (.exit 2)) (.seq (.block 3 (.seq (.reg [oM 13 11 [],oM 6 13 [0,0]]) (.reg [oM 14 6 [],oP 15 (.bin .mul (.k (.i .i64 3)) (.t 14)) [0],oM 16 5 [],oP 17 (.bin .add (.t 15) (.t 16)) [1,2],oM 18 3 [],oM 19 5 [],oM 20 6 [],oP 21 (.callv (.t 18) [.t 19,.t 20]) [4,5,6],oP 22 (.ixa 9 2 (.t 4) (.t 17)) [3,0,1,2,3,4,5,6,7],oN (.store 2 (.t 22) (.t 21)) [8,7,7,0,1,2,3,4,5,6,7]]))) (.reg [oP 23 (.bin .add (.t 11) (.k (.i .i64 1))) [],oM 11 23 [0]])))
def zxc : XC := .seq (.reg [oP 9 (.bin .lss (.t 8) (.k (.i .i64 3))) []]) (.seq (.cond (.t 9) .skip (.exit 0)) (.seq (.block 1 (.seq (.reg [oM 10 8 [],oM 5 10 [0,0]]) (.seq (.reg [oP 11 (.mov (.k (.i .i64 0))) []]) (.block 2 (.loop zxg))))) (.reg [oP 24 (.bin .add (.t 8) (.k (.i .i64 1))) [],oM 8 24 [0]])))
def zvM : XF := ⟨26,.seq (.reg [oP 1 (.box (.t 0)) [],oP 2 (.new [.b false,.sn,.b false,.sn,.b false,.sn,.b false,.sn,.b false,.sn,.b false,.sn,.b false,.sn,.b false,.sn,.b false,.sn]) []]) (.seq (.reg [oP 7 (.mfn 318 [.t 1]) [],oM 3 7 [0,0]]) (.seq (.reg [oP 4 (.new [.b false,.sn,.b false,.sn,.b false,.sn,.b false,.sn,.b false,.sn,.b false,.sn,.b false,.sn,.b false,.sn,.b false,.sn]) []]) (.seq (.seq (.reg [oP 8 (.mov (.k (.i .i64 0))) []]) (.block 0 (.loop zxc))) (.seq (.reg [oP 25 (.load true 18 (.t 4)) [],oN (.store 18 (.t 2) (.t 25)) [0,0]]) .ret)))),[.cell 2 true 18]⟩
def zvZ : XF := ⟨10,.seq (.reg [oP 1 (.box (.t 0)) [],oP 2 (.mov (.k (.i .i64 0))) []]) (.seq (.drw [oP 3 (.load true 4 (.t 1)) [],oP 4 (.call 64 [.t 3]) [0],oP 5 (.call 63 [.t 4]) [1,1],oP 6 (.load true 4 (.t 1)) [],oP 7 (.call 19 [.t 6]) [3,2],oP 8 (.call 63 [.t 7]) [4,4],oP 9 (.mm true (.t 5) [.t 8]) [2,5],oM 2 9 [6,5,0,1,2,3,4,5,6]] [(3,1),(3,2)]) .ret),[.tmp 2]⟩
def zwU : XF := ⟨51,.seq (.reg [oP 4 (.box (.t 1)) [],oP 5 (.box (.t 2)) [],oP 6 (.new [.b false,.sn,.b false,.sn]) []]) (.seq (.reg [oP 7 (.mov (.k (.fn 317 []))) []]) (.seq (.drw [oM 15 7 [],oM 16 0 [],oP 17 (.ixs 1 (.t 16) (.k (.i .i64 0))) [1],oP 18 (.load false 1 (.t 17)) [2],oP 19 (.callv (.t 15) [.t 18]) [0,3],oP 20 (.load true 4 (.t 4)) [],oP 21 (.call 8 [.t 19,.t 20]) [4,5,4],oM 14 21 [6],oP 22 (.ext (.t 14) 0) [7],oP 23 (.ext (.t 14) 1) [7],oP 8 (.new [.b false,.sn,.b false,.sn]) [],oN (.store 4 (.t 8) (.t 22)) [10,8,6,0,1,2,3,4,5,6,7,8,10],oM 9 23 [9,11,0,1,2,3,4,5,6,7,8,9,10,11]] [(5,4)]) (.seq (.drw [oM 25 7 [],oM 26 0 [],oP 27 (.ixs 1 (.t 26) (.k (.i .i64 1))) [1],oP 28 (.load false 1 (.t 27)) [2],oP 29 (.callv (.t 25) [.t 28]) [0,3],oP 30 (.load true 4 (.t 5)) [],oP 31 (.call 8 [.t 29,.t 30]) [4,5,4],oM 24 31 [6],oP 32 (.ext (.t 24) 0) [7],oP 33 (.ext (.t 24) 1) [7],oP 10 (.new [.b false,.sn,.b false,.sn]) [],oN (.store 4 (.t 10) (.t 32)) [10,8,6,0,1,2,3,4,5,6,7,8,10],oM 11 33 [9,11,0,1,2,3,4,5,6,7,8,9,10,11]] [(5,4)]) (.seq (.reg [oP 35 (.load true 4 (.t 8)) [],oP 36 (.load true 4 (.t 10)) [],oP 37 (.call 9 [.t 35,.t 36]) [0,1],oM 34 37 [2],oP 38 (.ext (.t 34) 0) [3],oP 39 (.ext (.t 34) 1) [3],oP 12 (.new [.b false,.sn,.b false,.sn]) [],oN (.store 4 (.t 12) (.t 38)) [6,4,2,0,1,2,3,4,6],oM 13 39 [5,7,0,1,2,3,4,5,6,7]]) (.seq (.drw [oP 41 (.load true 4 (.t 12)) [],oM 42 7 [],oM 43 0 [],oP 44 (.ixs 1 (.t 43) (.k (.i .i64 2))) [2],oP 45 (.load false 1 (.t 44)) [3],oP 46 (.callv (.t 42) [.t 45]) [1,4],oP 47 (.call 9 [.t 41,.t 46]) [0,5,5],oM 40 47 [6],oP 48 (.ext (.t 40) 0) [7],oP 49 (.ext (.t 40) 1) [7],oN (.store 4 (.t 12) (.t 48)) [8,6,0,1,2,3,4,5,6,7,8]] [(0,5)]) (.seq (.reg [oP 50 (.load true 4 (.t 12)) [],oN (.store 4 (.t 6) (.t 50)) [0,0]]) .ret)))))),[.cell 6 true 4]⟩
def zwm : XF := ⟨6,.seq (.reg [oP 1 (.box (.t 0)) [],oP 2 (.mov (.k (.i .i64 0))) []]) (.seq (.reg [oP 3 (.fad 0 (.t 1)) [],oP 4 (.load true 2 (.t 3)) [0],oP 5 (.call 31 [.t 4]) [1],oM 2 5 [2,2,0,1,2]]) .ret),[.tmp 2]⟩
def zvE : XF := ⟨25,.seq (.reg [oP 2 (.box (.t 0)) [],oP 3 (.box (.t 1)) [],oP 4 (.new [.b false,.sn,.b false,.sn]) [],oP 5 (.mov (.k (.i .i64 0))) []]) (.seq (.drw [oP 9 (.load true 4 (.t 3)) [],oP 10 (.call 19 [.t 9]) [0],oP 11 (.fad 0 (.t 3)) [],oP 12 (.load true 2 (.t 11)) [2],oP 13 (.call 24 [.t 10,.t 12]) [1,3,1],oM 8 13 [4],oP 14 (.ext (.t 8) 0) [5],oP 15 (.ext (.t 8) 1) [5],oP 6 (.new [.b false,.sn,.b false,.sn]) [],oN (.store 4 (.t 6) (.t 14)) [8,6,4,0,1,2,3,4,5,6,8],oM 7 15 [7,9,0,1,2,3,4,5,6,7,8,9]] [(3,1)]) (.seq (.seq (.reg [oM 16 7 [],oP 17 (.bin .neq (.t 16) (.k (.i .i64 0))) [0]]) (.cond (.t 17) (.seq (.reg [oP 18 (.build [.b false,.sn,.b false,.sn] []) [],oM 19 7 [],oN (.store 4 (.t 4) (.t 18)) [0,0],oM 5 19 [1,2,0,1,2]]) .ret) .skip)) (.seq (.reg [oP 20 (.load true 4 (.t 2)) [],oP 21 (.load true 4 (.t 6)) [],oP 22 (.call 8 [.t 20,.t 21]) [0,1],oP 23 (.ext (.t 22) 0) [2],oP 24 (.ext (.t 22) 1) [2],oN (.store 4 (.t 4) (.t 23)) [3,2,0,1,2,3,4],oM 5 24 [4,5,0,1,2,3,4,5]]) .ret))),[.cell 4 true 4,.tmp 5]⟩
def zw1 : XF := ⟨13,.seq (.reg [oP 4 (.new [.b false,.sn,.b false,.sn]) [],oP 5 (.mov (.k (.i .i64 0))) []]) (.seq (.reg [oM 6 0 [],oP 7 (.call 34 [.t 6]) [0],oM 8 1 [],oP 9 (.call 34 [.t 8]) [2,1],oP 10 (.call 24 [.t 7,.t 9]) [1,3,3],oP 11 (.ext (.t 10) 0) [4],oP 12 (.ext (.t 10) 1) [4],oN (.store 4 (.t 4) (.t 11)) [5,4,0,1,2,3,4,5,6],oM 5 12 [6,7,0,1,2,3,4,5,6,7]]) .ret),[.cell 4 true 4,.tmp 5]⟩
def zu7 : XF := ⟨10,.seq (.reg [oP 1 (.box (.t 0)) [],oP 2 (.new [.b false,.sn]) []]) (.seq (.drw [oP 3 (.fad 2 (.t 1)) [],oP 4 (.load true 2 (.t 3)) [0],oP 5 (.call 34 [.k (.i .i64 1)]) [],oP 6 (.call 23 [.t 4,.t 5]) [1,2,2],oP 7 (.ext (.t 6) 0) [3],oP 8 (.ext (.t 6) 1) [3],oP 9 (.call 37 [.t 7,.t 8]) [4,5,3],oN (.store 2 (.t 2) (.t 9)) [6,6,0,1,2,3,4,5,6]] [(1,2)]) .ret),[.cell 2 true 2]⟩
def zwZ : XF := ⟨58,.seq (.reg [oP 2 (.box (.t 0)) [],oP 3 (.box (.t 1)) [],oP 4 (.new [.b false,.sn]) [],oP 5 (.new [.b false,.sn]) [],oP 6 (.mov (.k (.i .i64 0))) []]) (.seq (.seq (.reg [oP 13 (.fad 1 (.t 3)) [],oP 14 (.load false 1 (.t 13)) [0],oP 15 (.len (.t 14)) [1],oP 16 (.bin .eql (.t 15) (.k (.i .i64 0))) [2]]) (.cond (.t 16) (.seq (.reg [oP 17 (.build [.b false,.sn] []) [],oP 18 (.build [.b false,.sn] []) [],oN (.store 2 (.t 4) (.t 17)) [0,0],oN (.store 2 (.t 5) (.t 18)) [1,2,0,1,2],oP 6 (.mov (.k (.i .i64 1))) [3,0,1,2,3]]) .ret) .skip)) (.seq (.reg [oP 20 (.fad 1 (.t 2)) [],oP 21 (.load false 1 (.t 20)) [0],oP 22 (.fad 1 (.t 3)) [],oP 23 (.load false 1 (.t 22)) [2],oP 24 (.call 35 [.t 21,.t 23]) [1,3],oM 19 24 [4],oP 25 (.ext (.t 19) 0) [5],oP 26 (.ext (.t 19) 1) [5],oM 7 25 [6,4,0,1,2,3,4,5,6],oM 8 26 [7,8,0,1,2,3,4,5,6,7,8]]) (.seq (.seq (.reg [oP 27 (.fad 0 (.t 2)) [],oP 28 (.load false 1 (.t 27)) [0],oM 29 28 [1],oT 30 (.mov (.t 8)) [2] 29,oT 31 (.len (.t 30)) [3,2] 29,oT 32 (.bin .gtr (.t 31) (.k (.i .i64 0))) [4,2] 29,oP 33 (.pick (.t 29) (.t 32) (.k (.b false))) [2,5]]) (.cond (.t 33) (.seq (.reg [oM 34 7 [],oP 35 (.bsl 1 1 [.i .u32 0] [(0,(1,.k (.i .u32 1)))]) [],oP 36 (.call 40 [.t 34,.t 35]) [0,1],oM 7 36 [2,2,0,1,2]]) (.reg [oP 37 (.fad 1 (.t 3)) [],oP 38 (.load false 1 (.t 37)) [0],oM 39 8 [],oP 40 (.call 42 [.t 38,.t 39]) [1,2],oM 8 40 [3,3,0,1,2,3]])) .skip)) (.seq (.reg [oP 42 (.fad 0 (.t 2)) [],oP 43 (.load false 1 (.t 42)) [0],oP 44 (.fad 0 (.t 3)) [],oP 45 (.load false 1 (.t 44)) [2],oP 46 (.eqt true 0 (.t 43) (.t 45)) [1,3],oM 47 7 [],oP 48 (.call 36 [.t 46,.t 47]) [4,5],oM 41 48 [6],oP 49 (.ext (.t 41) 0) [7],oP 50 (.ext (.t 41) 1) [7],oP 9 (.new [.b false,.sn]) [],oN (.store 2 (.t 9) (.t 49)) [10,8,6,0,1,2,3,4,5,6,7,8,10],oM 10 50 [9,11,0,1,2,3,4,5,6,7,8,9,10,11]]) (.seq (.reg [oM 52 8 [],oP 53 (.call 36 [.k (.b false),.t 52]) [0],oM 51 53 [1],oP 54 (.ext (.t 51) 0) [2],oP 55 (.ext (.t 51) 1) [2],oP 11 (.new [.b false,.sn]) [],oN (.store 2 (.t 11) (.t 54)) [5,3,1,0,1,2,3,5],oM 12 55 [4,6,0,1,2,3,4,5,6]]) (.seq (.drw [oP 56 (.load true 2 (.t 9)) [],oP 57 (.load true 2 (.t 11)) [],oN (.store 2 (.t 4) (.t 56)) [0,0],oN (.store 2 (.t 5) (.t 57)) [1,2,0,1,2],oP 6 (.mov (.k (.i .i64 0))) [3,0,1,2,3]] [(1,2)]) .ret)))))),[.cell 4 true 2,.cell 5 true 2,.tmp 6]⟩
def zvN : XF := ⟨28,.seq (.reg [oP 2 (.box (.t 0)) [],oP 3 (.box (.t 1)) [],oP 4 (.mov (.k (.i .i64 0))) []]) (.seq (.block 0 (.seq (.reg [oP 6 (.fad 0 (.t 2)) [],oP 7 (.load false 1 (.t 6)) [0],oM 8 7 [1],oT 9 (.fad 0 (.t 3)) [2] 8,oT 10 (.load false 1 (.t 9)) [3,2] 8,oP 11 (.pick (.t 8) (.t 10) (.k (.b false))) [2,4],oM 5 11 [5,2]]) (.cond (.t 5) (.seq (.reg [oP 12 (.fad 1 (.t 3)) [],oP 13 (.load false 1 (.t 12)) [0],oP 14 (.fad 1 (.t 2)) [],oP 15 (.load false 1 (.t 14)) [2],oP 16 (.call 41 [.t 13,.t 15]) [1,3],oM 4 16 [4,4,0,1,2,3,4]]) .ret) (.seq (.reg [oP 18 (.fad 0 (.t 2)) [],oP 19 (.load false 1 (.t 18)) [0],oM 17 19 [1]]) (.cond (.t 17) (.seq (.reg [oP 4 (.mov (.k (.i .i64 (-1)))) []]) .ret) (.seq (.reg [oP 21 (.fad 0 (.t 3)) [],oP 22 (.load false 1 (.t 21)) [0],oM 20 22 [1]]) (.cond (.t 20) (.seq (.reg [oP 4 (.mov (.k (.i .i64 1))) []]) .ret) .skip))))))) (.seq (.reg [oP 23 (.fad 1 (.t 2)) [],oP 24 (.load false 1 (.t 23)) [0],oP 25 (.fad 1 (.t 3)) [],oP 26 (.load false 1 (.t 25)) [2],oP 27 (.call 41 [.t 24,.t 26]) [1,3],oM 4 27 [4,4,0,1,2,3,4]]) .ret)),[.tmp 4]⟩
def zwp : XF := ⟨6,.seq (.reg [oP 1 (.box (.t 0)) [],oP 2 (.mov (.k (.i .i64 0))) []]) (.seq (.reg [oP 3 (.load true 2 (.t 1)) [],oP 4 (.build [.b false,.sn] []) [],oP 5 (.call 30 [.t 3,.t 4]) [0,1],oM 2 5 [2,2,0,1,2]]) .ret),[.tmp 2]⟩
def zxD : XC := .seq (.reg [oP 9 (.bin .lss (.t 8) (.k (.i .i64 9))) []]) (.seq (.cond (.t 9) .skip (.exit 0)) (.seq (.block 1 (.seq (.reg [oM 10 8 [],oP 11 (.iag 9 false 1 (.t 7) (.t 8)) [],oM 4 10 [0,0,1],oM 5 11 [1,2,0,1,2]]) (.reg [oM 12 4 [],oM 13 5 [],oP 14 (.call 34 [.t 13]) [1],oP 15 (.ixa 9 2 (.t 3) (.t 12)) [0,0,1,2],oN (.store 2 (.t 15) (.t 14)) [3,2,2,0,1,2]]))) (.reg [oP 16 (.bin .add (.t 8) (.k (.i .i64 1))) [],oM 8 16 [0]])))
def zw4 : XF := ⟨18,.seq (.reg [oP 1 (.box (.t 0)) [],oP 2 (.new [.b false,.sn,.b false,.sn,.b false,.sn,.b false,.sn,.b false,.sn,.b false,.sn,.b false,.sn,.b false,.sn,.b false,.sn]) []]) (.seq (.reg [oP 3 (.new [.b false,.sn,.b false,.sn,.b false,.sn,.b false,.sn,.b false,.sn,.b false,.sn,.b false,.sn,.b false,.sn,.b false,.sn]) []]) (.seq (.seq (.reg [oP 6 (.fad 0 (.t 1)) [],oP 7 (.load true 9 (.t 6)) [0],oP 8 (.mov (.k (.i .i64 0))) []]) (.block 0 (.loop zxD))) (.seq (.reg [oP 17 (.load true 18 (.t 3)) [],oN (.store 18 (.t 2) (.t 17)) [0,0]]) .ret))),[.cell 2 true 18]⟩
def zxu : XC := .seq (.seq (.reg [oM 5 4 [],oP 6 (.bin .lss (.t 5) (.k (.i .i64 9))) [0]]) (.cond (.t 6) .skip (.exit 0))) (.seq (.block 1 (.drw [oM 9 4 [],oP 10 (.bin .quo (.t 9) (.k (.i .i64 3))) [0],oM 11 4 [],oP 12 (.bin .rem (.t 11) (.k (.i .i64 3))) [2],oM 13 4 [],oP 14 (.fad 0 (.t 1)) [],oP 15 (.ixa 9 1 (.t 14) (.t 13)) [5,4],oP 16 (.load false 1 (.t 15)) [6],oP 17 (.call 114 [.t 16]) [7],oP 18 (.ixa 3 6 (.t 3) (.t 10)) [1],oP 19 (.ixa 3 2 (.t 18) (.t 12)) [9,3,0,1,2,3,4,5,6,7,8],oN (.store 2 (.t 19) (.t 17)) [10,8,8,0,1,2,3,4,5,6,7,8]] [])) (.reg [oM 7 4 [],oP 8 (.bin .add (.t 7) (.k (.i .i64 1))) [0],oM 4 8 [1,0,1]]))
def zwa : XF := ⟨21,.seq (.reg [oP 1 (.box (.t 0)) [],oP 2 (.new [.b false,.sn,.b false,.sn,.b false,.sn,.b false,.sn,.b false,.sn,.b false,.sn,.b false,.sn,.b false,.sn,.b false,.sn]) []]) (.seq (.reg [oP 3 (.new [.b false,.sn,.b false,.sn,.b false,.sn,.b false,.sn,.b false,.sn,.b false,.sn,.b false,.sn,.b false,.sn,.b false,.sn]) []]) (.seq (.seq (.reg [oP 4 (.mov (.k (.i .i64 0))) []]) (.block 0 (.loop zxu))) (.seq (.reg [oP 20 (.load true 18 (.t 3)) [],oN (.store 18 (.t 2) (.t 20)) [0,0]]) .ret))),[.cell 2 true 18]⟩
def zxm : XF := ⟨7,.seq (.reg [oP 2 (.new [.b false,.sn,.b false,.sn]) []]) (.seq (.reg [oM 3 0 [],oP 4 (.call 114 [.t 3]) [0],oP 5 (.call 114 [.k (.i .i64 1)]) [1],oP 6 (.build [.b false,.sn,.b false,.sn] [(0,(2,.t 4)),(2,(2,.t 5))]) [1,2],oN (.store 4 (.t 2) (.t 6)) [3,2,0,1,2,3]]) .ret),[.cell 2 true 4]⟩
def zw0 : XF := ⟨9,.seq (.reg [oP 1 (.box (.t 0)) [],oP 2 (.new [.b false,.sn]) []]) (.seq (.reg [oP 3 (.fad 0 (.t 1)) [],oP 4 (.load false 1 (.t 3)) [0],oP 5 (.un .not (.t 4)) [1],oP 6 (.fad 1 (.t 1)) [],oP 7 (.load false 1 (.t 6)) [3],oP 8 (.call 132 [.t 5,.t 7]) [2,4],oN (.store 2 (.t 2) (.t 8)) [5,5,0,1,2,3,4,5]]) .ret),[.cell 2 true 2]⟩
def zxC : XC := .seq (.seq (.reg [oP 15 (.fad 1 (.t 6)) [],oP 16 (.load false 1 (.t 15)) [0],oP 17 (.len (.t 16)) [1],oP 18 (.bin .gtr (.t 17) (.k (.i .i64 0))) [2]]) (.cond (.t 18) .skip (.exit 0))) (.block 1 (.seq (.reg [oP 20 (.load true 2 (.t 5)) [],oP 21 (.load true 2 (.t 6)) [],oP 22 (.call 120 [.t 20,.t 21]) [0,1],oM 19 22 [2],oP 23 (.ext (.t 19) 0) [3],oP 24 (.ext (.t 19) 1) [3],oP 7 (.new [.b false,.sn]) [],oP 8 (.new [.b false,.sn]) [],oN (.store 2 (.t 7) (.t 23)) [6,4,2,0,1,2,3,4,6,7],oN (.store 2 (.t 8) (.t 24)) [7,5,8,0,1,2,3,4,5,6,7,8]]) (.seq (.reg [oP 25 (.load true 2 (.t 6)) [],oN (.store 2 (.t 5) (.t 25)) [0,0]]) (.reg [oP 26 (.load true 2 (.t 8)) [],oN (.store 2 (.t 6) (.t 26)) [0,0]]))))
def zw6 : XF := ⟨28,.seq (.reg [oP 2 (.box (.t 0)) [],oP 3 (.box (.t 1)) [],oP 4 (.new [.b false,.sn]) []]) (.seq (.reg [oP 9 (.fad 1 (.t 2)) [],oP 10 (.load false 1 (.t 9)) [0],oP 11 (.call 132 [.k (.b false),.t 10]) [1],oP 5 (.new [.b false,.sn]) [],oN (.store 2 (.t 5) (.t 11)) [3,2,2,0,1,2,3]]) (.seq (.reg [oP 12 (.fad 1 (.t 3)) [],oP 13 (.load false 1 (.t 12)) [0],oP 14 (.call 132 [.k (.b false),.t 13]) [1],oP 6 (.new [.b false,.sn]) [],oN (.store 2 (.t 6) (.t 14)) [3,2,2,0,1,2,3]]) (.seq (.block 0 (.loop zxC)) (.seq (.reg [oP 27 (.load true 2 (.t 5)) [],oN (.store 2 (.t 4) (.t 27)) [0,0]]) .ret)))),[.cell 4 true 2]⟩
def zw8 : XF := ⟨54,.seq (.reg [oP 2 (.box (.t 0)) [],oP 3 (.box (.t 1)) [],oP 4 (.new [.b false,.sn]) [],oP 5 (.new [.b false,.sn]) []]) (.seq (.reg [oP 12 (.fad 1 (.t 2)) [],oP 13 (.load false 1 (.t 12)) [0],oP 14 (.fad 1 (.t 3)) [],oP 15 (.load false 1 (.t 14)) [2],oP 16 (.call 136 [.t 13,.t 15]) [1,3],oM 11 16 [4],oP 17 (.ext (.t 11) 0) [5],oP 18 (.ext (.t 11) 1) [5],oM 6 17 [6,4,0,1,2,3,4,5,6],oM 7 18 [7,8,0,1,2,3,4,5,6,7,8]]) (.seq (.reg [oP 19 (.fad 0 (.t 2)) [],oP 20 (.load false 1 (.t 19)) [0],oP 21 (.fad 0 (.t 3)) [],oP 22 (.load false 1 (.t 21)) [2],oP 23 (.eqt true 0 (.t 20) (.t 22)) [1,3],oM 24 6 [],oP 25 (.call 132 [.t 23,.t 24]) [4,5],oP 8 (.new [.b false,.sn]) [],oN (.store 2 (.t 8) (.t 25)) [7,6,6,0,1,2,3,4,5,6,7]]) (.seq (.reg [oM 26 7 [],oP 27 (.call 132 [.k (.b false),.t 26]) [0],oP 9 (.new [.b false,.sn]) [],oN (.store 2 (.t 9) (.t 27)) [2,1,1,0,1,2]]) (.seq (.seq (.reg [oP 28 (.fad 0 (.t 2)) [],oP 29 (.load false 1 (.t 28)) [0],oM 30 29 [1],oT 31 (.fad 1 (.t 9)) [2] 30,oT 32 (.load false 1 (.t 31)) [3,2] 30,oT 33 (.len (.t 32)) [4,2] 30,oT 34 (.bin .gtr (.t 33) (.k (.i .i64 0))) [5,2] 30,oP 35 (.pick (.t 30) (.t 34) (.k (.b false))) [2,6]]) (.cond (.t 35) (.seq (.reg [oP 36 (.fad 0 (.t 2)) [],oP 37 (.load false 1 (.t 36)) [0],oP 38 (.fad 0 (.t 3)) [],oP 39 (.load false 1 (.t 38)) [2],oP 40 (.eqt true 0 (.t 37) (.t 39)) [1,3],oP 41 (.bsl 1 1 [.i .i64 0] [(0,(1,.k (.i .i64 1)))]) [],oP 42 (.call 132 [.t 40,.t 41]) [4,5],oP 10 (.new [.b false,.sn]) [],oN (.store 2 (.t 10) (.t 42)) [7,6,6,0,1,2,3,4,5,6,7]]) (.seq (.reg [oP 43 (.load true 2 (.t 8)) [],oP 44 (.load true 2 (.t 10)) [],oP 45 (.call 119 [.t 43,.t 44]) [0,1],oN (.store 2 (.t 8) (.t 45)) [2,2,0,1,2]]) (.reg [oP 46 (.fad 1 (.t 3)) [],oP 47 (.load false 1 (.t 46)) [0],oP 48 (.fad 1 (.t 9)) [],oP 49 (.load false 1 (.t 48)) [2],oP 50 (.call 135 [.t 47,.t 49]) [1,3],oP 51 (.call 132 [.k (.b false),.t 50]) [4,4],oN (.store 2 (.t 9) (.t 51)) [5,5,0,1,2,3,4,5]]))) .skip)) (.seq (.drw [oP 52 (.load true 2 (.t 8)) [],oP 53 (.load true 2 (.t 9)) [],oN (.store 2 (.t 4) (.t 52)) [0,0],oN (.store 2 (.t 5) (.t 53)) [1,2,0,1,2]] [(1,2)]) .ret))))),[.cell 4 true 2,.cell 5 true 2]⟩
def zxt : XC := .seq (.seq (.reg [oM 5 1 [],oP 6 (.len (.t 5)) [0],oP 7 (.bin .gtr (.t 6) (.k (.i .i64 0))) [1],oM 8 7 [2],oT 9 (.mov (.t 1)) [3] 8,oT 10 (.mov (.t 1)) [3] 8,oT 11 (.len (.t 10)) [5,3] 8,oT 12 (.bin .sub (.t 11) (.k (.i .i64 1))) [6,3] 8,oT 13 (.ixs 1 (.t 9) (.t 12)) [4,7,3] 8,oT 14 (.load false 1 (.t 13)) [8,3] 8,oT 15 (.bin .eql (.t 14) (.k (.i .i64 0))) [9,3] 8,oP 16 (.pick (.t 8) (.t 15) (.k (.b false))) [3,10]]) (.cond (.t 16) .skip (.exit 0))) (.block 1 (.reg [oM 17 1 [],oM 18 1 [],oP 19 (.len (.t 18)) [1],oP 20 (.bin .sub (.t 19) (.k (.i .i64 1))) [2],oP 21 (.slsl 1 (.t 17) none (some (.t 20)) none) [0,3],oM 1 21 [4,0,1,2,3,4]]))
def zwe : XF := ⟨30,.seq (.reg [oP 4 (.new [.b false,.sn]) []]) (.seq (.block 0 (.loop zxt)) (.seq (.reg [oM 22 0 [],oM 23 22 [0],oT 24 (.mov (.t 1)) [1] 23,oT 25 (.len (.t 24)) [2,1] 23,oT 26 (.bin .gtr (.t 25) (.k (.i .i64 0))) [3,1] 23,oP 27 (.pick (.t 23) (.t 26) (.k (.b false))) [1,4],oM 28 1 [],oP 29 (.build [.b false,.sn] [(0,(1,.t 27)),(1,(1,.t 28))]) [5,6],oN (.store 2 (.t 4) (.t 29)) [7,1,0,1,2,3,4,5,6,7]]) .ret)),[.cell 4 true 2]⟩
def zxB : XC := .seq (.seq (.reg [oM 9 7 [],oM 10 0 [],oP 11 (.len (.t 10)) [1],oP 12 (.bin .lss (.t 9) (.t 11)) [0,2],oM 13 12 [3],oF 14 (.mov (.t 7)) [4] 13,oF 15 (.mov (.t 1)) [4] 13,oF 16 (.len (.t 15)) [6,4] 13,oF 17 (.bin .lss (.t 14) (.t 16)) [5,7,4] 13,oP 18 (.pick (.t 13) (.k (.b true)) (.t 17)) [4,8],oM 19 18 [9,4],oF 20 (.mov (.t 6)) [10] 19,oF 21 (.bin .gtr (.t 20) (.k (.i .i64 0))) [11,10] 19,oP 22 (.pick (.t 19) (.k (.b true)) (.t 21)) [10,12]]) (.cond (.t 22) .skip (.exit 0))) (.seq (.block 1 (.seq (.reg [oM 25 0 [],oM 26 7 [],oP 27 (.call 147 [.t 25,.t 26]) [0,1],oM 28 1 [],oM 29 7 [],oP 30 (.call 147 [.t 28,.t 29]) [3,4,2],oP 31 (.bin .add (.t 27) (.t 30)) [2,5],oM 32 6 [],oP 33 (.bin .add (.t 31) (.t 32)) [6,7],oM 8 33 [8,5,0,1,2,3,4,5,6,7,8]]) (.seq (.reg [oM 34 5 [],oM 35 8 [],oP 36 (.bin .rem (.t 35) (.k (.i .i64 10000))) [1],oP 37 (.bsl 1 1 [.i .i64 0] [(0,(1,.t 36))]) [2],oP 38 (.app 1 8 (.t 34) (.t 37)) [0,3],oM 5 38 [4,4,0,1,2,3,4]]) (.reg [oM 39 8 [],oP 40 (.bin .quo (.t 39) (.k (.i .i64 10000))) [0],oM 6 40 [1,0,1]])))) (.reg [oM 23 7 [],oP 24 (.bin .add (.t 23) (.k (.i .i64 1))) [0],oM 7 24 [1,0,1]]))
def zwR : XF := ⟨42,.seq (.reg [oP 4 (.mov (.k .sn)) []]) (.seq (.reg [oP 5 (.mov (.k .sn)) []]) (.seq (.reg [oP 6 (.mov (.k (.i .i64 0))) []]) (.seq (.seq (.reg [oP 7 (.mov (.k (.i .i64 0))) []]) (.block 0 (.loop zxB))) (.seq (.reg [oM 41 5 [],oM 4 41 [0,0]]) .ret)))),[.tmp 4]⟩
def zxf : XC := .seq (.seq (.reg [oM 19 5 [],oP 20 (.bin .geq (.t 19) (.k (.i .i64 0))) [0]]) (.cond (.t 20) .skip (.exit 0))) (.seq (.block 1 (.seq (.seq (.drw [oM 23 0 [],oM 24 5 [],oP 25 (.ixs 1 (.t 23) (.t 24)) [0,1],oP 26 (.load false 1 (.t 25)) [2],oM 27 1 [],oM 28 5 [],oP 29 (.ixs 1 (.t 27) (.t 28)) [4,5],oP 30 (.load false 1 (.t 29)) [6],oP 31 (.bin .lss (.t 26) (.t 30)) [3,7]] []) (.cond (.t 31) (.seq (.reg [oP 4 (.mov (.k (.i .i64 (-1)))) []]) .ret) .skip)) (.seq (.drw [oM 32 0 [],oM 33 5 [],oP 34 (.ixs 1 (.t 32) (.t 33)) [0,1],oP 35 (.load false 1 (.t 34)) [2],oM 36 1 [],oM 37 5 [],oP 38 (.ixs 1 (.t 36) (.t 37)) [4,5],oP 39 (.load false 1 (.t 38)) [6],oP 40 (.bin .gtr (.t 35) (.t 39)) [3,7]] []) (.cond (.t 40) (.seq (.reg [oP 4 (.mov (.k (.i .i64 1))) []]) .ret) .skip)))) (.reg [oM 21 5 [],oP 22 (.bin .sub (.t 21) (.k (.i .i64 1))) [0],oM 5 22 [1,0,1]]))
def zvI : XF := ⟨41,.seq (.reg [oP 4 (.mov (.k (.i .i64 0))) []]) (.seq (.seq (.reg [oM 6 0 [],oP 7 (.len (.t 6)) [0],oM 8 1 [],oP 9 (.len (.t 8)) [2],oP 10 (.bin .lss (.t 7) (.t 9)) [1,3]]) (.cond (.t 10) (.seq (.reg [oP 4 (.mov (.k (.i .i64 (-1)))) []]) .ret) .skip)) (.seq (.seq (.reg [oM 11 0 [],oP 12 (.len (.t 11)) [0],oM 13 1 [],oP 14 (.len (.t 13)) [2],oP 15 (.bin .gtr (.t 12) (.t 14)) [1,3]]) (.cond (.t 15) (.seq (.reg [oP 4 (.mov (.k (.i .i64 1))) []]) .ret) .skip)) (.seq (.seq (.reg [oM 16 0 [],oP 17 (.len (.t 16)) [0],oP 18 (.bin .sub (.t 17) (.k (.i .i64 1))) [1],oM 5 18 [2,0,1,2]]) (.block 0 (.loop zxf))) (.seq (.reg [oP 4 (.mov (.k (.i .i64 0))) []]) .ret)))),[.tmp 4]⟩
def zxw : XC := .seq (.seq (.reg [oM 9 7 [],oM 10 0 [],oP 11 (.len (.t 10)) [1],oP 12 (.bin .lss (.t 9) (.t 11)) [0,2]]) (.cond (.t 12) .skip (.exit 0))) (.seq (.block 1 (.seq (.reg [oM 15 0 [],oM 16 7 [],oP 17 (.call 147 [.t 15,.t 16]) [0,1],oM 18 1 [],oM 19 7 [],oP 20 (.call 147 [.t 18,.t 19]) [3,4,2],oP 21 (.bin .sub (.t 17) (.t 20)) [2,5],oM 22 6 [],oP 23 (.bin .sub (.t 21) (.t 22)) [6,7],oM 8 23 [8,5,0,1,2,3,4,5,6,7,8]]) (.seq (.reg [oP 6 (.mov (.k (.i .i64 0))) []]) (.seq (.seq (.reg [oM 24 8 [],oP 25 (.bin .lss (.t 24) (.k (.i .i64 0))) [0]]) (.cond (.t 25) (.seq (.reg [oM 26 8 [],oP 27 (.bin .add (.t 26) (.k (.i .i64 10000))) [0],oM 8 27 [1,0,1]]) (.reg [oP 6 (.mov (.k (.i .i64 1))) []])) .skip)) (.reg [oM 28 5 [],oM 29 8 [],oP 30 (.bsl 1 1 [.i .i64 0] [(0,(1,.t 29))]) [1],oP 31 (.app 1 8 (.t 28) (.t 30)) [0,2],oM 5 31 [3,3,0,1,2,3]]))))) (.reg [oM 13 7 [],oP 14 (.bin .add (.t 13) (.k (.i .i64 1))) [0],oM 7 14 [1,0,1]]))
def zwr : XF := ⟨33,.seq (.reg [oP 4 (.mov (.k .sn)) []]) (.seq (.reg [oP 5 (.mov (.k .sn)) []]) (.seq (.reg [oP 6 (.mov (.k (.i .i64 0))) []]) (.seq (.seq (.reg [oP 7 (.mov (.k (.i .i64 0))) []]) (.block 0 (.loop zxw))) (.seq (.reg [oM 32 5 [],oM 4 32 [0,0]]) .ret)))),[.tmp 4]⟩
def zxk : XC := .seq (.seq (.reg [oM 25 8 [],oP 26 (.fad 1 (.t 3)) [],oP 27 (.load false 1 (.t 26)) [1],oP 28 (.len (.t 27)) [2],oP 29 (.bin .lss (.t 25) (.t 28)) [0,3]]) (.cond (.t 29) .skip (.exit 2))) (.seq (.block 3 (.seq (.drw [oM 32 5 [],oM 33 6 [],oM 34 8 [],oP 35 (.bin .add (.t 33) (.t 34)) [1,2],oP 36 (.ixs 1 (.t 32) (.t 35)) [0,3],oP 37 (.load false 1 (.t 36)) [4],oP 38 (.fad 1 (.t 2)) [],oP 39 (.load false 1 (.t 38)) [6],oM 40 6 [],oP 41 (.ixs 1 (.t 39) (.t 40)) [7,8],oP 42 (.load false 1 (.t 41)) [9],oP 43 (.fad 1 (.t 3)) [],oP 44 (.load false 1 (.t 43)) [11],oM 45 8 [],oP 46 (.ixs 1 (.t 44) (.t 45)) [12,13],oP 47 (.load false 1 (.t 46)) [14],oP 48 (.bin .mul (.t 42) (.t 47)) [10,15],oP 49 (.bin .add (.t 37) (.t 48)) [5,16],oM 50 7 [],oP 51 (.bin .add (.t 49) (.t 50)) [17,18],oM 9 51 [19,0,1,2,3,4,5,6,7,8,9,10,11,12,13,14,15,16,17,18,19]] []) (.seq (.reg [oM 52 5 [],oM 53 6 [],oM 54 8 [],oP 55 (.bin .add (.t 53) (.t 54)) [1,2],oM 56 9 [],oP 57 (.bin .rem (.t 56) (.k (.i .i64 10000))) [4],oP 58 (.ixs 1 (.t 52) (.t 55)) [0,3,0,1,2,3,4,5],oN (.store 1 (.t 58) (.t 57)) [6,5,0,1,2,3,4,5]]) (.reg [oM 59 9 [],oP 60 (.bin .quo (.t 59) (.k (.i .i64 10000))) [0],oM 7 60 [1,0,1]])))) (.reg [oM 30 8 [],oP 31 (.bin .add (.t 30) (.k (.i .i64 1))) [0],oM 8 31 [1,0,1]]))
def zxn : XC := .seq (.seq (.reg [oM 18 6 [],oP 19 (.fad 1 (.t 2)) [],oP 20 (.load false 1 (.t 19)) [1],oP 21 (.len (.t 20)) [2],oP 22 (.bin .lss (.t 18) (.t 21)) [0,3]]) (.cond (.t 22) .skip (.exit 0))) (.seq (.block 1 (.seq (.reg [oP 7 (.mov (.k (.i .i64 0))) []]) (.seq (.seq (.reg [oP 8 (.mov (.k (.i .i64 0))) []]) (.block 2 (.loop zxk))) (.reg [oM 61 5 [],oM 62 6 [],oP 63 (.fad 1 (.t 3)) [],oP 64 (.load false 1 (.t 63)) [2],oP 65 (.len (.t 64)) [3],oP 66 (.bin .add (.t 62) (.t 65)) [1,4],oM 67 7 [],oP 68 (.ixs 1 (.t 61) (.t 66)) [0,5,0,1,2,3,4,5,6],oN (.store 1 (.t 68) (.t 67)) [7,6,0,1,2,3,4,5,6]])))) (.reg [oM 23 6 [],oP 24 (.bin .add (.t 23) (.k (.i .i64 1))) [0],oM 6 24 [1,0,1]]))
def zvR : XF := ⟨76,.seq (.reg [oP 2 (.box (.t 0)) [],oP 3 (.box (.t 1)) [],oP 4 (.new [.b false,.sn]) []]) (.seq (.reg [oP 10 (.fad 1 (.t 2)) [],oP 11 (.load false 1 (.t 10)) [0],oP 12 (.len (.t 11)) [1],oP 13 (.fad 1 (.t 3)) [],oP 14 (.load false 1 (.t 13)) [3],oP 15 (.len (.t 14)) [4],oP 16 (.bin .add (.t 12) (.t 15)) [2,5],oP 17 (.msl [.i .i64 0] 8 (.t 16) (.t 16)) [6,6],oM 5 17 [7,0,1,2,3,4,5,6,7]]) (.seq (.seq (.reg [oP 6 (.mov (.k (.i .i64 0))) []]) (.block 0 (.loop zxn))) (.seq (.reg [oP 69 (.fad 0 (.t 2)) [],oP 70 (.load false 1 (.t 69)) [0],oP 71 (.fad 0 (.t 3)) [],oP 72 (.load false 1 (.t 71)) [2],oP 73 (.eqt true 0 (.t 70) (.t 72)) [1,3],oM 74 5 [],oP 75 (.call 132 [.t 73,.t 74]) [4,5],oN (.store 2 (.t 4) (.t 75)) [6,6,0,1,2,3,4,5,6]]) .ret))),[.cell 4 true 2]⟩
def zwJ : XC := .seq (.seq (.reg [oM 27 7 [],oM 28 0 [],oP 29 (.bin .quo (.t 28) (.k (.i .i64 7))) [1],oP 30 (.bin .rem (.t 29) (.k (.i .i64 40))) [2],oP 31 (.bin .lss (.t 27) (.t 30)) [0,3]]) (.cond (.t 31) .skip (.exit 0))) (.seq (.block 1 (.drw [oP 34 (.load true 2 (.t 6)) [],oP 35 (.call 114 [.k (.i .i64 1000000007)]) [],oP 36 (.call 118 [.t 34,.t 35]) [0,1,1],oN (.store 2 (.t 6) (.t 36)) [2,2,0,1,2]] [(0,1)])) (.reg [oM 32 7 [],oP 33 (.bin .add (.t 32) (.k (.i .i64 1))) [0],oM 7 33 [1,0,1]]))
def zv3 : XF := ⟨38,.seq (.reg [oP 4 (.new [.b false,.sn]) []]) (.seq (.reg [oM 8 0 [],oP 9 (.bin .rem (.t 8) (.k (.i .i64 7))) [0],oM 5 9 [1,0,1]]) (.seq (.seq (.reg [oM 10 5 [],oP 11 (.bin .lss (.t 10) (.k (.i .i64 0))) [0]]) (.cond (.t 11) (.reg [oM 12 5 [],oP 13 (.bin .add (.t 12) (.k (.i .i64 7))) [0],oM 5 13 [1,0,1]]) .skip)) (.seq (.seq (.reg [oM 14 5 [],oP 15 (.bin .lss (.t 14) (.k (.i .i64 4))) [0]]) (.cond (.t 15) (.seq (.reg [oM 16 1 [],oP 17 (.bin .rem (.t 16) (.k (.i .i64 60))) [0],oP 18 (.call 114 [.t 17]) [1],oN (.store 2 (.t 4) (.t 18)) [2,2,0,1,2]]) .ret) .skip)) (.seq (.seq (.reg [oM 19 5 [],oP 20 (.bin .lss (.t 19) (.k (.i .i64 6))) [0]]) (.cond (.t 20) (.seq (.reg [oM 21 1 [],oP 22 (.call 114 [.t 21]) [0],oN (.store 2 (.t 4) (.t 22)) [1,1,0,1]]) .ret) .skip)) (.seq (.reg [oM 23 1 [],oP 24 (.call 114 [.t 23]) [0],oP 25 (.call 114 [.k (.i .i64 3)]) [1],oP 26 (.call 119 [.t 24,.t 25]) [1,2,2],oP 6 (.new [.b false,.sn]) [],oN (.store 2 (.t 6) (.t 26)) [4,3,3,0,1,2,3,4]]) (.seq (.seq (.reg [oP 7 (.mov (.k (.i .i64 0))) []]) (.block 0 (.loop zwJ))) (.seq (.reg [oP 37 (.load true 2 (.t 6)) [],oN (.store 2 (.t 4) (.t 37)) [0,0]]) .ret))))))),[.cell 4 true 2]⟩
def zwO : XF := ⟨23,.seq (.reg [oP 1 (.box (.t 0)) [],oP 2 (.new [.b false,.sn]) []]) (.seq (.reg [oP 4 (.load true 18 (.t 1)) [],oP 5 (.call 311 [.t 4]) [0],oP 3 (.new [.b false,.sn,.b false,.sn,.b false,.sn,.b false,.sn,.b false,.sn,.b false,.sn,.b false,.sn,.b false,.sn,.b false,.sn]) [],oN (.store 18 (.t 3) (.t 5)) [2,1,1,0,1,2]]) (.seq (.drw [oP 6 (.ixa 9 2 (.t 1) (.k (.i .i64 0))) [],oP 7 (.load true 2 (.t 6)) [0],oP 8 (.ixa 9 2 (.t 3) (.k (.i .i64 0))) [],oP 9 (.load true 2 (.t 8)) [2],oP 10 (.call 313 [.t 7,.t 9]) [1,3],oP 11 (.ixa 9 2 (.t 1) (.k (.i .i64 1))) [],oP 12 (.load true 2 (.t 11)) [5],oP 13 (.ixa 9 2 (.t 3) (.k (.i .i64 3))) [],oP 14 (.load true 2 (.t 13)) [7],oP 15 (.call 313 [.t 12,.t 14]) [6,8,4],oP 16 (.call 312 [.t 10,.t 15]) [4,9,9],oP 17 (.ixa 9 2 (.t 1) (.k (.i .i64 2))) [],oP 18 (.load true 2 (.t 17)) [11],oP 19 (.ixa 9 2 (.t 3) (.k (.i .i64 6))) [],oP 20 (.load true 2 (.t 19)) [13],oP 21 (.call 313 [.t 18,.t 20]) [12,14,10],oP 22 (.call 312 [.t 16,.t 21]) [10,15,15],oN (.store 2 (.t 2) (.t 22)) [16,16,0,1,2,3,4,5,6,7,8,9,10,11,12,13,14,15,16]] [(6,4),(8,4),(12,4),(12,9),(12,10),(14,4),(14,9),(14,10)]) .ret)),[.cell 2 true 2]⟩
def zv5 : XC := .seq (.seq (.reg [oM 8 4 [],oP 9 (.bin .lss (.t 8) (.k (.i .i64 3))) [0]]) (.cond (.t 9) .skip (.exit 0))) (.seq (.block 1 (.seq (.drw [oM 12 4 [],oP 13 (.ixa 3 6 (.t 1) (.k (.i .i64 0))) [],oP 14 (.ixa 3 2 (.t 13) (.t 12)) [1,0],oP 15 (.load true 2 (.t 14)) [2],oM 16 4 [],oP 17 (.bin .add (.t 16) (.k (.i .i64 1))) [4],oP 18 (.bin .rem (.t 17) (.k (.i .i64 3))) [5],oP 19 (.ixa 3 6 (.t 1) (.k (.i .i64 1))) [],oP 20 (.ixa 3 2 (.t 19) (.t 18)) [7,6],oP 21 (.load true 2 (.t 20)) [8],oM 22 4 [],oP 23 (.bin .add (.t 22) (.k (.i .i64 2))) [10],oP 24 (.bin .rem (.t 23) (.k (.i .i64 3))) [11],oP 25 (.ixa 3 6 (.t 1) (.k (.i .i64 2))) [],oP 26 (.ixa 3 2 (.t 25) (.t 24)) [13,12],oP 27 (.load true 2 (.t 26)) [14],oP 28 (.call 118 [.t 21,.t 27]) [9,15],oP 29 (.call 118 [.t 15,.t 28]) [3,16,16],oP 5 (.new [.b false,.sn]) [],oN (.store 2 (.t 5) (.t 29)) [18,17,17,0,1,2,3,4,5,6,7,8,9,10,11,12,13,14,15,16,17,18]] [(3,16)]) (.seq (.drw [oM 30 4 [],oP 31 (.ixa 3 6 (.t 1) (.k (.i .i64 0))) [],oP 32 (.ixa 3 2 (.t 31) (.t 30)) [1,0],oP 33 (.load true 2 (.t 32)) [2],oM 34 4 [],oP 35 (.bin .add (.t 34) (.k (.i .i64 2))) [4],oP 36 (.bin .rem (.t 35) (.k (.i .i64 3))) [5],oP 37 (.ixa 3 6 (.t 1) (.k (.i .i64 1))) [],oP 38 (.ixa 3 2 (.t 37) (.t 36)) [7,6],oP 39 (.load true 2 (.t 38)) [8],oM 40 4 [],oP 41 (.bin .add (.t 40) (.k (.i .i64 1))) [10],oP 42 (.bin .rem (.t 41) (.k (.i .i64 3))) [11],oP 43 (.ixa 3 6 (.t 1) (.k (.i .i64 2))) [],oP 44 (.ixa 3 2 (.t 43) (.t 42)) [13,12],oP 45 (.load true 2 (.t 44)) [14],oP 46 (.call 118 [.t 39,.t 45]) [9,15],oP 47 (.call 118 [.t 33,.t 46]) [3,16,16],oP 6 (.new [.b false,.sn]) [],oN (.store 2 (.t 6) (.t 47)) [18,17,17,0,1,2,3,4,5,6,7,8,9,10,11,12,13,14,15,16,17,18]] [(3,16)]) (.drw [oP 48 (.load true 2 (.t 3)) [],oP 49 (.load true 2 (.t 5)) [],oP 50 (.load true 2 (.t 6)) [],oP 51 (.call 121 [.t 49,.t 50]) [1,2],oP 52 (.call 119 [.t 48,.t 51]) [0,3,3],oN (.store 2 (.t 3) (.t 52)) [4,4,0,1,2,3,4]] [(0,3)])))) (.reg [oM 10 4 [],oP 11 (.bin .add (.t 10) (.k (.i .i64 1))) [0],oM 4 11 [1,0,1]]))
def zw2 : XF := ⟨54,.seq (.reg [oP 1 (.box (.t 0)) [],oP 2 (.new [.b false,.sn]) []]) (.seq (.reg [oP 7 (.call 114 [.k (.i .i64 0)]) [],oP 3 (.new [.b false,.sn]) [],oN (.store 2 (.t 3) (.t 7)) [1,0,0,0,1]]) (.seq (.seq (.reg [oP 4 (.mov (.k (.i .i64 0))) []]) (.block 0 (.loop zv5))) (.seq (.reg [oP 53 (.load true 2 (.t 3)) [],oN (.store 2 (.t 2) (.t 53)) [0,0]]) .ret))),[.cell 2 true 2]⟩
def zv1 : XC := .seq (.seq (.reg [oM 40 4 [],oP 41 (.lens (.t 40)) [0],oP 42 (.bin .gtr (.t 41) (.k (.i .i64 0))) [1]]) (.cond (.t 42) .skip (.exit 0))) (.block 1 (.seq (.reg [oM 43 4 [],oP 44 (.lens (.t 43)) [0],oP 45 (.bin .sub (.t 44) (.k (.i .i64 1))) [1],oP 46 (.bin .rem (.t 45) (.k (.i .i64 9))) [2],oP 47 (.bin .add (.t 46) (.k (.i .i64 1))) [3],oM 7 47 [4,0,1,2,3,4]]) (.seq (.reg [oM 49 4 [],oM 50 7 [],oP 51 (.slstr (.t 49) none (some (.t 50))) [0,1],oP 52 (.call 131 [.t 51]) [2],oM 48 52 [3],oP 53 (.ext (.t 48) 0) [4],oP 54 (.ext (.t 48) 1) [4],oM 8 53 [5,3,0,1,2,3,4,5],oM 9 54 [6,7,0,1,2,3,4,5,6,7]]) (.seq (.reg [oM 55 4 [],oM 56 7 [],oP 57 (.slstr (.t 55) (some (.t 56)) none) [0,1],oM 4 57 [2,0,1,2]]) (.reg [oM 58 6 [],oP 59 (.bsl 1 1 [.i .u32 0] [(0,(1,.k (.i .u32 1000000000)))]) [],oP 60 (.call 59 [.t 58,.t 59]) [0,1],oM 61 8 [],oP 62 (.cint .u32 (.t 61)) [3],oP 63 (.bsl 1 1 [.i .u32 0] [(0,(1,.t 62))]) [4],oP 64 (.call 40 [.t 60,.t 63]) [2,5,2],oP 65 (.call 49 [.t 64]) [6,6],oM 6 65 [7,7,0,1,2,3,4,5,6,7]])))))
def zvr : XF := ⟨71,.seq (.reg [oP 2 (.new [.b false,.sn]) [],oP 3 (.mov (.k (.i .i64 0))) []]) (.seq (.seq (.reg [oM 10 0 [],oP 11 (.lens (.t 10)) [0],oP 12 (.bin .gtr (.t 11) (.k (.i .i64 5000))) [1]]) (.cond (.t 12) (.seq (.reg [oP 13 (.build [.b false,.sn] []) [],oN (.store 2 (.t 2) (.t 13)) [0,0],oP 3 (.mov (.k (.i .i64 4))) [1,0,1]]) .ret) .skip)) (.seq (.reg [oM 15 0 [],oP 16 (.call 129 [.t 15,.k (.s [45])]) [0],oM 14 16 [1],oP 17 (.ext (.t 14) 0) [2],oP 18 (.ext (.t 14) 1) [2],oM 4 17 [3,1,0,1,2,3],oM 5 18 [4,5,0,1,2,3,4,5]]) (.seq (.seq (.reg [oM 19 4 [],oP 20 (.bin .eql (.t 19) (.k (.s []))) [0],oM 21 20 [1],oF 22 (.mov (.t 4)) [2] 21,oF 23 (.call 130 [.t 22,.k (.s [48,49,50,51,52,53,54,55,56,57])]) [3,2,2] 21,oF 24 (.bin .neq (.t 23) (.k (.s []))) [4,2] 21,oP 25 (.pick (.t 21) (.k (.b true)) (.t 24)) [2,5],oM 26 25 [6,4],oF 27 (.mov (.t 4)) [7] 26,oF 28 (.istr (.t 27) (.k (.i .i64 0))) [8,7] 26,oF 29 (.bin .eql (.t 28) (.k (.i .u8 48))) [9,7] 26,oF 30 (.mov (.t 29)) [10,7,7] 26,oT 31 (.mov (.t 5)) [11] 30,oT 32 (.mov (.t 31)) [12,11,11] 30,oF 33 (.mov (.t 4)) [13] 32,oF 34 (.lens (.t 33)) [14,13] 32,oF 35 (.bin .gtr (.t 34) (.k (.i .i64 1))) [15,13] 32,oT 36 (.pick (.t 32) (.k (.b true)) (.t 35)) [13,16,11] 30,oF 37 (.pick (.t 30) (.t 36) (.k (.b false))) [11,17,7] 26,oP 38 (.pick (.t 26) (.k (.b true)) (.t 37)) [7,18]]) (.cond (.t 38) (.seq (.reg [oP 39 (.build [.b false,.sn] []) [],oN (.store 2 (.t 2) (.t 39)) [0,0],oP 3 (.mov (.k (.i .i64 2))) [1,0,1]]) .ret) .skip)) (.seq (.reg [oP 6 (.mov (.k .sn)) []]) (.seq (.block 0 (.loop zv1)) (.seq (.reg [oM 66 5 [],oM 67 6 [],oP 68 (.call 36 [.t 66,.t 67]) [0,1],oP 69 (.ext (.t 68) 0) [2],oP 70 (.ext (.t 68) 1) [2],oN (.store 2 (.t 2) (.t 69)) [3,2,0,1,2,3,4],oM 3 70 [4,5,0,1,2,3,4,5]]) .ret)))))),[.cell 2 true 2,.tmp 3]⟩
def zxa : XC := .seq (.seq (.reg [oM 33 5 [],oP 34 (.lens (.t 33)) [0],oP 35 (.bin .lss (.t 34) (.k (.i .i64 4))) [1]]) (.cond (.t 35) .skip (.exit 2))) (.block 3 (.reg [oM 36 5 [],oP 37 (.bin .add (.k (.s [48])) (.t 36)) [0],oM 5 37 [1,0,1]]))
def zxz : XC := .seq (.seq (.reg [oM 23 4 [],oP 24 (.bin .geq (.t 23) (.k (.i .i64 0))) [0]]) (.cond (.t 24) .skip (.exit 0))) (.seq (.block 1 (.seq (.reg [oP 27 (.fad 1 (.t 1)) [],oP 28 (.load false 1 (.t 27)) [0],oM 29 4 [],oP 30 (.ixs 1 (.t 28) (.t 29)) [1,2],oP 31 (.load false 1 (.t 30)) [3],oP 32 (.call 127 [.t 31]) [4],oM 5 32 [5,5,0,1,2,3,4,5]]) (.seq (.block 2 (.loop zxa)) (.reg [oM 38 3 [],oM 39 5 [],oP 40 (.bin .add (.t 38) (.t 39)) [0,1],oM 3 40 [2,0,1,2]])))) (.reg [oM 25 4 [],oP 26 (.bin .sub (.t 25) (.k (.i .i64 1))) [0],oM 4 26 [1,0,1]]))
def zvC : XF := ⟨46,.seq (.reg [oP 1 (.box (.t 0)) [],oP 2 (.mov (.k (.s []))) []]) (.seq (.seq (.reg [oP 6 (.fad 1 (.t 1)) [],oP 7 (.load false 1 (.t 6)) [0],oP 8 (.len (.t 7)) [1],oP 9 (.bin .eql (.t 8) (.k (.i .i64 0))) [2]]) (.cond (.t 9) (.seq (.reg [oP 2 (.mov (.k (.s [48]))) []]) .ret) .skip)) (.seq (.reg [oP 10 (.fad 1 (.t 1)) [],oP 11 (.load false 1 (.t 10)) [0],oP 12 (.fad 1 (.t 1)) [],oP 13 (.load false 1 (.t 12)) [2],oP 14 (.len (.t 13)) [3],oP 15 (.bin .sub (.t 14) (.k (.i .i64 1))) [4],oP 16 (.ixs 1 (.t 11) (.t 15)) [1,5],oP 17 (.load false 1 (.t 16)) [6],oP 18 (.call 127 [.t 17]) [7],oM 3 18 [8,8,0,1,2,3,4,5,6,7,8]]) (.seq (.seq (.reg [oP 19 (.fad 1 (.t 1)) [],oP 20 (.load false 1 (.t 19)) [0],oP 21 (.len (.t 20)) [1],oP 22 (.bin .sub (.t 21) (.k (.i .i64 2))) [2],oM 4 22 [3,0,1,2,3]]) (.block 0 (.loop zxz))) (.seq (.seq (.reg [oP 41 (.fad 0 (.t 1)) [],oP 42 (.load false 1 (.t 41)) [0]]) (.cond (.t 42) (.seq (.reg [oM 43 3 [],oP 44 (.bin .add (.k (.s [45])) (.t 43)) [0],oM 2 44 [1,0,1]]) .ret) .skip)) (.seq (.reg [oM 45 3 [],oM 2 45 [0,0]]) .ret))))),[.tmp 2]⟩
def zvf : XF := ⟨30,.seq (.reg [oP 2 (.box (.t 0)) [],oP 3 (.box (.t 1)) [],oP 4 (.new [.b false,.sn,.b false,.sn]) [],oP 5 (.mov (.k (.i .i64 0))) []]) (.seq (.seq (.reg [oP 7 (.load true 2 (.t 3)) [],oP 8 (.call 31 [.t 7]) [0],oP 9 (.bin .eql (.t 8) (.k (.i .i64 0))) [1]]) (.cond (.t 9) (.seq (.reg [oP 10 (.build [.b false,.sn,.b false,.sn] []) [],oN (.store 4 (.t 4) (.t 10)) [0,0],oP 5 (.mov (.k (.i .i64 1))) [1,0,1]]) .ret) .skip)) (.seq (.seq (.reg [oP 11 (.load true 2 (.t 3)) [],oP 12 (.call 31 [.t 11]) [0],oP 13 (.bin .lss (.t 12) (.k (.i .i64 0))) [1]]) (.cond (.t 13) (.drw [oP 14 (.load true 2 (.t 2)) [],oP 15 (.call 43 [.t 14]) [0],oP 16 (.load true 2 (.t 3)) [],oP 17 (.call 43 [.t 16]) [2,1],oN (.store 2 (.t 2) (.t 15)) [1,3,0,1],oN (.store 2 (.t 3) (.t 17)) [3,4,0,1,2,3,4]] [(2,1)]) .skip)) (.seq (.reg [oP 18 (.load true 2 (.t 2)) [],oP 19 (.load true 2 (.t 3)) [],oP 20 (.call 18 [.t 18,.t 19]) [0,1],oP 6 (.new [.b false,.sn]) [],oN (.store 2 (.t 6) (.t 20)) [3,2,2,0,1,2,3]]) (.seq (.drw [oP 21 (.load true 2 (.t 2)) [],oP 22 (.load true 2 (.t 6)) [],oP 23 (.call 21 [.t 21,.t 22]) [0,1],oP 24 (.load true 2 (.t 3)) [],oP 25 (.load true 2 (.t 6)) [],oP 26 (.call 21 [.t 24,.t 25]) [3,4,2],oP 27 (.call 22 [.t 23,.t 26,.k (.i .i64 0),.k (.i .i64 0)]) [2,5,5],oP 28 (.ext (.t 27) 0) [6],oP 29 (.ext (.t 27) 1) [6],oN (.store 4 (.t 4) (.t 28)) [7,6,0,1,2,3,4,5,6,7,8],oM 5 29 [8,9,0,1,2,3,4,5,6,7,8,9]] [(3,2),(4,2)]) .ret)))),[.cell 4 true 4,.tmp 5]⟩
def zwb : XF := ⟨10,.seq (.reg [oP 1 (.box (.t 0)) [],oP 2 (.mov (.k (.i .i64 0))) []]) (.seq (.drw [oP 3 (.fad 0 (.t 1)) [],oP 4 (.load true 2 (.t 3)) [0],oP 5 (.call 375 [.t 4]) [1],oP 6 (.fad 2 (.t 1)) [],oP 7 (.load true 2 (.t 6)) [3],oP 8 (.call 375 [.t 7]) [4,2],oP 9 (.mm true (.t 5) [.t 8]) [2,5],oM 2 9 [6,5,0,1,2,3,4,5,6]] [(4,2)]) .ret),[.tmp 2]⟩
def zw7 : XF := ⟨59,.seq (.reg [oP 4 (.box (.t 0)) [],oP 6 (.box (.t 2)) [],oP 7 (.box (.t 3)) [],oP 8 (.new [.b false,.sn,.b false,.sn]) []]) (.seq (.drw [oM 18 1 [],oP 19 (.bin .mul (.k (.i .i64 3)) (.t 18)) [0],oP 20 (.fad 0 (.t 4)) [],oP 21 (.ixa 9 1 (.t 20) (.t 19)) [2,1],oP 22 (.load false 1 (.t 21)) [3],oP 23 (.call 185 [.t 22]) [4],oP 24 (.load true 4 (.t 6)) [],oP 25 (.call 192 [.t 23,.t 24]) [5,6,5],oM 17 25 [7],oP 26 (.ext (.t 17) 0) [8],oP 27 (.ext (.t 17) 1) [8],oP 9 (.new [.b false,.sn,.b false,.sn]) [],oN (.store 4 (.t 9) (.t 26)) [11,9,7,0,1,2,3,4,5,6,7,8,9,11],oM 10 27 [10,12,0,1,2,3,4,5,6,7,8,9,10,11,12]] [(6,5)]) (.seq (.drw [oM 29 1 [],oP 30 (.bin .mul (.k (.i .i64 3)) (.t 29)) [0],oP 31 (.bin .add (.t 30) (.k (.i .i64 1))) [1],oP 32 (.fad 0 (.t 4)) [],oP 33 (.ixa 9 1 (.t 32) (.t 31)) [3,2],oP 34 (.load false 1 (.t 33)) [4],oP 35 (.call 185 [.t 34]) [5],oP 36 (.load true 4 (.t 7)) [],oP 37 (.call 192 [.t 35,.t 36]) [6,7,6],oM 28 37 [8],oP 38 (.ext (.t 28) 0) [9],oP 39 (.ext (.t 28) 1) [9],oP 11 (.new [.b false,.sn,.b false,.sn]) [],oN (.store 4 (.t 11) (.t 38)) [12,10,8,0,1,2,3,4,5,6,7,8,9,10,12],oM 12 39 [11,13,0,1,2,3,4,5,6,7,8,9,10,11,12,13]] [(7,6)]) (.seq (.reg [oP 41 (.load true 4 (.t 9)) [],oP 42 (.load true 4 (.t 11)) [],oP 43 (.call 190 [.t 41,.t 42]) [0,1],oM 40 43 [2],oP 44 (.ext (.t 40) 0) [3],oP 45 (.ext (.t 40) 1) [3],oP 13 (.new [.b false,.sn,.b false,.sn]) [],oN (.store 4 (.t 13) (.t 44)) [6,4,2,0,1,2,3,4,6],oM 14 45 [5,7,0,1,2,3,4,5,6,7]]) (.seq (.drw [oP 47 (.load true 4 (.t 13)) [],oM 48 1 [],oP 49 (.bin .mul (.k (.i .i64 3)) (.t 48)) [1],oP 50 (.bin .add (.t 49) (.k (.i .i64 2))) [2],oP 51 (.fad 0 (.t 4)) [],oP 52 (.ixa 9 1 (.t 51) (.t 50)) [4,3],oP 53 (.load false 1 (.t 52)) [5],oP 54 (.call 185 [.t 53]) [6],oP 55 (.call 190 [.t 47,.t 54]) [0,7,7],oM 46 55 [8],oP 56 (.ext (.t 46) 0) [9],oP 57 (.ext (.t 46) 1) [9],oP 15 (.new [.b false,.sn,.b false,.sn]) [],oN (.store 4 (.t 15) (.t 56)) [12,10,8,0,1,2,3,4,5,6,7,8,9,10,12],oM 16 57 [11,13,0,1,2,3,4,5,6,7,8,9,10,11,12,13]] [(0,7)]) (.seq (.reg [oP 58 (.load true 4 (.t 15)) [],oN (.store 4 (.t 8) (.t 58)) [0,0]]) .ret))))),[.cell 8 true 4]⟩
def zwY : XF := ⟨11,.seq (.reg [oP 1 (.box (.t 0)) [],oP 2 (.mov (.k (.i .i64 0))) []]) (.seq (.seq (.reg [oP 3 (.fad 0 (.t 1)) [],oP 4 (.fad 1 (.t 3)) [0],oP 5 (.load false 1 (.t 4)) [1],oP 6 (.len (.t 5)) [2],oP 7 (.bin .eql (.t 6) (.k (.i .i64 0))) [3]]) (.cond (.t 7) (.seq (.reg [oP 2 (.mov (.k (.i .i64 0))) []]) .ret) .skip)) (.seq (.seq (.reg [oP 8 (.fad 0 (.t 1)) [],oP 9 (.fad 0 (.t 8)) [0],oP 10 (.load false 1 (.t 9)) [1]]) (.cond (.t 10) (.seq (.reg [oP 2 (.mov (.k (.i .i64 (-1)))) []]) .ret) .skip)) (.seq (.reg [oP 2 (.mov (.k (.i .i64 1))) []]) .ret))),[.tmp 2]⟩
def zvQ : XF := ⟨27,.seq (.reg [oP 2 (.box (.t 0)) [],oP 3 (.box (.t 1)) [],oP 4 (.new [.b false,.sn,.b false,.sn]) [],oP 5 (.mov (.k (.i .i64 0))) []]) (.seq (.drw [oP 9 (.fad 0 (.t 2)) [],oP 10 (.load true 2 (.t 9)) [0],oP 11 (.fad 2 (.t 3)) [],oP 12 (.load true 2 (.t 11)) [2],oP 13 (.call 118 [.t 10,.t 12]) [1,3],oP 14 (.fad 2 (.t 2)) [],oP 15 (.load true 2 (.t 14)) [5],oP 16 (.fad 0 (.t 3)) [],oP 17 (.load true 2 (.t 16)) [7],oP 18 (.call 118 [.t 15,.t 17]) [6,8,4],oP 19 (.call 182 [.t 13,.t 18]) [4,9,9],oM 8 19 [10],oP 20 (.ext (.t 8) 0) [11],oP 21 (.ext (.t 8) 1) [11],oP 6 (.new [.b false,.sn,.b false,.sn]) [],oN (.store 4 (.t 6) (.t 20)) [14,12,10,0,1,2,3,4,5,6,7,8,9,10,11,12,14],oM 7 21 [13,15,0,1,2,3,4,5,6,7,8,9,10,11,12,13,14,15]] [(6,4),(8,4)]) (.seq (.reg [oP 22 (.load true 4 (.t 6)) [],oM 23 7 [],oP 24 (.call 208 [.t 22,.t 23]) [0,1],oP 25 (.ext (.t 24) 0) [2],oP 26 (.ext (.t 24) 1) [2],oN (.store 4 (.t 4) (.t 25)) [3,2,0,1,2,3,4],oM 5 26 [4,5,0,1,2,3,4,5]]) .ret)),[.cell 4 true 4,.tmp 5]⟩
def zu3 : XC := .seq (.seq (.reg [oM 16 4 [],oP 17 (.len (.t 16)) [0],oP 18 (.bin .gtr (.t 17) (.k (.i .i64 0))) [1]]) (.cond (.t 18) .skip (.exit 0))) (.block 1 (.seq (.reg [oM 20 4 [],oP 21 (.call 48 [.t 20,.k (.i .u32 1000000000)]) [0],oM 19 21 [1],oP 22 (.ext (.t 19) 0) [2],oP 23 (.ext (.t 19) 1) [2],oM 5 22 [3,1,0,1,2,3],oM 6 23 [4,5,0,1,2,3,4,5]]) (.seq (.reg [oM 24 5 [],oP 25 (.call 49 [.t 24]) [0],oM 4 25 [1,1,0,1]]) (.seq (.reg [oM 26 6 [],oP 27 (.cint .i64 (.t 26)) [0],oP 28 (.call 50 [.t 27]) [1],oM 7 28 [2,2,0,1,2]]) (.seq (.seq (.reg [oM 29 4 [],oP 30 (.len (.t 29)) [0],oP 31 (.bin .gtr (.t 30) (.k (.i .i64 0))) [1]]) (.cond (.t 31) (.reg [oM 32 7 [],oP 33 (.lens (.t 32)) [0],oP 34 (.bin .sub (.k (.i .i64 9)) (.t 33)) [1],oP 35 (.call 51 [.k (.s [48]),.t 34]) [2],oM 36 7 [],oP 37 (.bin .add (.t 35) (.t 36)) [3,4],oM 7 37 [5,3,0,1,2,3,4,5]]) .skip)) (.reg [oM 38 3 [],oM 39 7 [],oP 40 (.bsl 1 1 [.s []] [(0,(1,.t 39))]) [1],oP 41 (.app 1 16 (.t 38) (.t 40)) [0,2],oM 3 41 [3,3,0,1,2,3]]))))))
def zwB : XC := .seq (.seq (.reg [oM 48 9 [],oP 49 (.bin .geq (.t 48) (.k (.i .i64 0))) [0]]) (.cond (.t 49) .skip (.exit 2))) (.seq (.block 3 (.reg [oM 52 3 [],oM 53 9 [],oP 54 (.ixs 1 (.t 52) (.t 53)) [0,1],oP 55 (.load false 1 (.t 54)) [2],oP 56 (.call 53 [.t 8,.t 55]) [3]])) (.reg [oM 50 9 [],oP 51 (.bin .sub (.t 50) (.k (.i .i64 1))) [0],oM 9 51 [1,0,1]]))
def zxF : XF := ⟨58,.seq (.reg [oP 1 (.box (.t 0)) [],oP 2 (.mov (.k (.s []))) []]) (.seq (.seq (.reg [oP 10 (.fad 1 (.t 1)) [],oP 11 (.load false 1 (.t 10)) [0],oP 12 (.len (.t 11)) [1],oP 13 (.bin .eql (.t 12) (.k (.i .i64 0))) [2]]) (.cond (.t 13) (.seq (.reg [oP 2 (.mov (.k (.s [48]))) []]) .ret) .skip)) (.seq (.reg [oP 3 (.mov (.k .sn)) []]) (.seq (.reg [oP 14 (.fad 1 (.t 1)) [],oP 15 (.load false 1 (.t 14)) [0],oM 4 15 [1,0,1]]) (.seq (.block 0 (.loop zu3)) (.seq (.reg [oP 8 (.new [.pn,.sn]) []]) (.seq (.seq (.reg [oP 42 (.fad 0 (.t 1)) [],oP 43 (.load false 1 (.t 42)) [0]]) (.cond (.t 43) (.reg [oP 44 (.call 52 [.t 8,.k (.i .u8 45)]) []]) .skip)) (.seq (.seq (.reg [oM 45 3 [],oP 46 (.len (.t 45)) [0],oP 47 (.bin .sub (.t 46) (.k (.i .i64 1))) [1],oM 9 47 [2,0,1,2]]) (.block 2 (.loop zwB))) (.seq (.reg [oP 57 (.call 54 [.t 8]) [],oM 2 57 [0,0,0]]) .ret)))))))),[.tmp 2]⟩
def zvF : XF := ⟨22,.seq (.reg [oP 3 (.box (.t 0)) [],oP 4 (.box (.t 1)) [],oP 5 (.box (.t 2)) [],oP 6 (.new [.b false,.sn,.b false,.sn,.b false,.sn,.b false,.sn,.b false,.sn,.b false,.sn,.b false,.sn,.b false,.sn,.b false,.sn]) []]) (.seq (.reg [oP 7 (.fad 0 (.t 3)) [],oP 8 (.load false 1 (.t 7)) [0],oP 9 (.fad 0 (.t 4)) [],oP 10 (.load false 1 (.t 9)) [2],oP 11 (.fad 0 (.t 5)) [],oP 12 (.load false 1 (.t 11)) [4],oP 13 (.fad 1 (.t 3)) [],oP 14 (.load false 1 (.t 13)) [6],oP 15 (.fad 1 (.t 4)) [],oP 16 (.load false 1 (.t 15)) [8],oP 17 (.fad 1 (.t 5)) [],oP 18 (.load false 1 (.t 17)) [10],oP 19 (.build [.i .i64 0,.i .i64 0,.i .i64 0,.i .i64 0,.i .i64 0,.i .i64 0,.i .i64 0,.i .i64 0,.i .i64 0] [(0,(1,.t 8)),(1,(1,.t 10)),(2,(1,.t 12)),(3,(1,.t 14)),(4,(1,.t 16)),(5,(1,.t 18)),(6,(1,.k (.i .i64 1))),(7,(1,.k (.i .i64 1))),(8,(1,.k (.i .i64 1)))]) [1,3,5,7,9,11],oP 20 (.build [.i .i64 0,.i .i64 0,.i .i64 0,.i .i64 0,.i .i64 0,.i .i64 0,.i .i64 0,.i .i64 0,.i .i64 0] [(0,(9,.t 19))]) [12],oP 21 (.call 307 [.t 20]) [13],oN (.store 18 (.t 6) (.t 21)) [14,14,0,1,2,3,4,5,6,7,8,9,10,11,12,13,14]]) .ret),[.cell 6 true 18]⟩
def zv6 : XF := ⟨14,.seq (.reg [oP 2 (.box (.t 0)) [],oP 3 (.box (.t 1)) [],oP 4 (.new [.b false,.sn]) []]) (.seq (.reg [oP 8 (.load true 2 (.t 2)) [],oP 9 (.load true 2 (.t 3)) [],oP 10 (.call 38 [.t 8,.t 9]) [0,1],oM 7 10 [2],oP 11 (.ext (.t 7) 0) [3],oP 12 (.ext (.t 7) 1) [3],oP 5 (.new [.b false,.sn]) [],oN (.store 2 (.t 5) (.t 11)) [6,4,2,0,1,2,3,4,6],oM 6 12 [5,7,0,1,2,3,4,5,6,7]]) (.seq (.reg [oP 13 (.load true 2 (.t 5)) [],oN (.store 2 (.t 4) (.t 13)) [0,0]]) .ret)),[.cell 4 true 2]⟩
def zxy : XC := .seq (.seq (.reg [oM 15 6 [],oP 16 (.len (.t 15)) [0],oP 17 (.bin .gtr (.t 16) (.k (.i .i64 0))) [1]]) (.cond (.t 17) .skip (.exit 0))) (.block 1 (.seq (.reg [oM 19 5 [],oM 20 6 [],oP 21 (.call 35 [.t 19,.t 20]) [0,1],oM 18 21 [2],oP 22 (.ext (.t 18) 0) [3],oP 23 (.ext (.t 18) 1) [3],oM 7 22 [4,2,0,1,2,3,4],oM 8 23 [5,6,0,1,2,3,4,5,6]]) (.reg [oM 24 6 [],oM 25 8 [],oM 5 24 [0,0],oM 6 25 [1,2,0,1,2]])))
def zwH : XF := ⟨32,.seq (.reg [oP 2 (.box (.t 0)) [],oP 3 (.box (.t 1)) [],oP 4 (.new [.b false,.sn]) []]) (.seq (.drw [oP 11 (.fad 1 (.t 2)) [],oP 12 (.load false 1 (.t 11)) [0],oP 13 (.fad 1 (.t 3)) [],oP 14 (.load false 1 (.t 13)) [2],oM 5 12 [1,0,1],oM 6 14 [3,4,0,1,2,3,4]] []) (.seq (.block 0 (.loop zxy)) (.seq (.reg [oM 27 5 [],oP 28 (.call 36 [.k (.b false),.t 27]) [0],oM 26 28 [1],oP 29 (.ext (.t 26) 0) [2],oP 30 (.ext (.t 26) 1) [2],oP 9 (.new [.b false,.sn]) [],oN (.store 2 (.t 9) (.t 29)) [5,3,1,0,1,2,3,5],oM 10 30 [4,6,0,1,2,3,4,5,6]]) (.seq (.reg [oP 31 (.load true 2 (.t 9)) [],oN (.store 2 (.t 4) (.t 31)) [0,0]]) .ret)))),[.cell 4 true 2]⟩
def zvy : XC := .seq (.reg [oP 12 (.bin .lss (.t 11) (.t 10)) []]) (.seq (.cond (.t 12) .skip (.exit 0)) (.seq (.block 1 (.seq (.reg [oM 13 11 [],oP 14 (.ixs 1 (.t 9) (.t 11)) [],oP 15 (.load false 1 (.t 14)) [1],oM 5 13 [0,0,1,2],oM 6 15 [2,3,0,1,2,3]]) (.seq (.seq (.reg [oM 16 5 [],oP 17 (.bin .gtr (.t 16) (.k (.i .i64 1))) [0]]) (.cond (.t 17) (.seq (.reg [oP 2 (.mov (.k (.i .i64 0))) [],oP 3 (.mov (.k (.b false))) [0,0]]) .ret) .skip)) (.reg [oM 18 4 [],oM 19 6 [],oP 20 (.cint .u64 (.t 19)) [1],oM 21 5 [],oP 22 (.bin .mul (.k (.i .i64 32)) (.t 21)) [3],oP 23 (.bin .shl (.t 20) (.t 22)) [2,4],oP 24 (.bin .or (.t 18) (.t 23)) [0,5],oM 4 24 [6,0,1,2,3,4,5,6]])))) (.reg [oP 25 (.bin .add (.t 11) (.k (.i .i64 1))) [],oM 11 25 [0]])))
def zu6 : XF := ⟨42,.seq (.reg [oP 1 (.box (.t 0)) [],oP 2 (.mov (.k (.i .i64 0))) [],oP 3 (.mov (.k (.b false))) [1]]) (.seq (.reg [oP 4 (.mov (.k (.i .u64 0))) []]) (.seq (.seq (.reg [oP 8 (.fad 1 (.t 1)) [],oP 9 (.load false 1 (.t 8)) [0],oP 10 (.len (.t 9)) [1],oP 11 (.mov (.k (.i .i64 0))) []]) (.block 0 (.loop zvy))) (.seq (.reg [oM 26 4 [],oP 27 (.cint .i64 (.t 26)) [0],oM 7 27 [1,0,1]]) (.seq (.seq (.reg [oP 28 (.fad 0 (.t 1)) [],oP 29 (.load false 1 (.t 28)) [0]]) (.cond (.t 29) (.reg [oM 30 7 [],oP 31 (.un .neg (.t 30)) [0],oM 7 31 [1,0,1]]) .skip)) (.seq (.seq (.reg [oM 32 4 [],oP 33 (.bin .neq (.t 32) (.k (.i .u64 0))) [0],oM 34 33 [1],oT 35 (.mov (.t 7)) [2] 34,oT 36 (.bin .lss (.t 35) (.k (.i .i64 0))) [3,2] 34,oT 37 (.fad 0 (.t 1)) [2] 34,oT 38 (.load false 1 (.t 37)) [5,2] 34,oT 39 (.eqt true 0 (.t 36) (.t 38)) [4,6,2] 34,oP 40 (.pick (.t 34) (.t 39) (.k (.b false))) [2,7]]) (.cond (.t 40) (.seq (.reg [oP 2 (.mov (.k (.i .i64 0))) [],oP 3 (.mov (.k (.b false))) [0,0]]) .ret) .skip)) (.seq (.reg [oM 41 7 [],oM 2 41 [0,0],oP 3 (.mov (.k (.b true))) [1,0,1]]) .ret)))))),[.tmp 2,.tmp 3]⟩
def zww : XF := ⟨14,.seq (.reg [oP 2 (.box (.t 0)) [],oP 3 (.box (.t 1)) [],oP 4 (.new [.b false,.sn]) []]) (.seq (.reg [oP 8 (.load true 2 (.t 2)) [],oP 9 (.load true 2 (.t 3)) [],oP 10 (.call 23 [.t 8,.t 9]) [0,1],oM 7 10 [2],oP 11 (.ext (.t 7) 0) [3],oP 12 (.ext (.t 7) 1) [3],oP 5 (.new [.b false,.sn]) [],oN (.store 2 (.t 5) (.t 11)) [6,4,2,0,1,2,3,4,6],oM 6 12 [5,7,0,1,2,3,4,5,6,7]]) (.seq (.reg [oP 13 (.load true 2 (.t 5)) [],oN (.store 2 (.t 4) (.t 13)) [0,0]]) .ret)),[.cell 4 true 2]⟩
def zuW : XF := ⟨49,.seq (.reg [oP 5 (.new [.b false,.sn]) []]) (.seq (.reg [oM 10 0 [],oP 11 (.bin .add (.t 10) (.k (.i .i64 1))) [0],oP 12 (.bin .rem (.t 11) (.k (.i .i64 3))) [1],oM 13 0 [],oP 14 (.bin .add (.t 13) (.k (.i .i64 2))) [3],oP 15 (.bin .rem (.t 14) (.k (.i .i64 3))) [4],oM 6 12 [2,0,1,2],oM 7 15 [5,6,0,1,2,3,4,5,6]]) (.seq (.reg [oM 16 1 [],oP 17 (.bin .add (.t 16) (.k (.i .i64 1))) [0],oP 18 (.bin .rem (.t 17) (.k (.i .i64 3))) [1],oM 19 1 [],oP 20 (.bin .add (.t 19) (.k (.i .i64 2))) [3],oP 21 (.bin .rem (.t 20) (.k (.i .i64 3))) [4],oM 8 18 [2,0,1,2],oM 9 21 [5,6,0,1,2,3,4,5,6]]) (.seq (.drw [oM 22 6 [],oP 23 (.bin .mul (.k (.i .i64 3)) (.t 22)) [0],oM 24 8 [],oP 25 (.bin .add (.t 23) (.t 24)) [1,2],oP 26 (.ixa 9 2 (.t 2) (.t 25)) [3],oP 27 (.load true 2 (.t 26)) [4],oM 28 7 [],oP 29 (.bin .mul (.k (.i .i64 3)) (.t 28)) [6],oM 30 9 [],oP 31 (.bin .add (.t 29) (.t 30)) [7,8],oP 32 (.ixa 9 2 (.t 2) (.t 31)) [9],oP 33 (.load true 2 (.t 32)) [10],oP 34 (.call 313 [.t 27,.t 33]) [5,11],oM 35 6 [],oP 36 (.bin .mul (.k (.i .i64 3)) (.t 35)) [13],oM 37 9 [],oP 38 (.bin .add (.t 36) (.t 37)) [14,15],oP 39 (.ixa 9 2 (.t 2) (.t 38)) [16],oP 40 (.load true 2 (.t 39)) [17],oM 41 7 [],oP 42 (.bin .mul (.k (.i .i64 3)) (.t 41)) [19],oM 43 8 [],oP 44 (.bin .add (.t 42) (.t 43)) [20,21],oP 45 (.ixa 9 2 (.t 2) (.t 44)) [22],oP 46 (.load true 2 (.t 45)) [23],oP 47 (.call 313 [.t 40,.t 46]) [18,24,12],oP 48 (.call 319 [.t 34,.t 47]) [12,25,25],oN (.store 2 (.t 5) (.t 48)) [26,26,0,1,2,3,4,5,6,7,8,9,10,11,12,13,14,15,16,17,18,19,20,21,22,23,24,25,26]] [(18,12),(24,12)]) .ret))),[.cell 5 true 2]⟩
def zv8 : XF := ⟨14,.seq (.reg [oP 2 (.box (.t 0)) [],oP 3 (.box (.t 1)) [],oP 4 (.new [.b false,.sn]) []]) (.seq (.reg [oP 8 (.load true 2 (.t 2)) [],oP 9 (.load true 2 (.t 3)) [],oP 10 (.call 39 [.t 8,.t 9]) [0,1],oM 7 10 [2],oP 11 (.ext (.t 7) 0) [3],oP 12 (.ext (.t 7) 1) [3],oP 5 (.new [.b false,.sn]) [],oN (.store 2 (.t 5) (.t 11)) [6,4,2,0,1,2,3,4,6],oM 6 12 [5,7,0,1,2,3,4,5,6,7]]) (.seq (.reg [oP 13 (.load true 2 (.t 5)) [],oN (.store 2 (.t 4) (.t 13)) [0,0]]) .ret)),[.cell 4 true 2]⟩
def zwC : XC := .seq (.seq (.reg [oM 22 4 [],oP 23 (.bin .gtr (.t 22) (.k (.i .i64 0))) [0]]) (.cond (.t 23) .skip (.exit 0))) (.seq (.block 1 (.reg [oM 26 3 [],oP 27 (.bin .add (.t 26) (.k (.i .i64 1))) [0],oM 3 27 [1,0,1]])) (.reg [oM 24 4 [],oP 25 (.bin .quo (.t 24) (.k (.i .i64 2))) [0],oM 4 25 [1,0,1]]))
def zvU : XC := .seq (.seq (.reg [oP 30 (.load true 2 (.t 1)) [],oP 31 (.load true 2 (.t 7)) [],oP 32 (.call 30 [.t 30,.t 31]) [0,1],oP 33 (.bin .geq (.t 32) (.k (.i .i64 0))) [2]]) (.cond (.t 33) .skip (.exit 2))) (.seq (.block 3 (.seq (.reg [oM 34 6 [],oP 35 (.load true 2 (.t 7)) [],oP 36 (.bsl 1 2 [.b false,.sn] [(0,(2,.t 35))]) [1],oP 37 (.app 2 32 (.t 34) (.t 36)) [0,2],oM 6 37 [3,3,0,1,2,3]]) (.seq (.reg [oP 39 (.load true 2 (.t 7)) [],oP 40 (.load true 2 (.t 7)) [],oP 41 (.call 38 [.t 39,.t 40]) [0,1],oM 38 41 [2],oP 42 (.ext (.t 38) 0) [3],oP 43 (.ext (.t 38) 1) [3],oP 8 (.new [.b false,.sn]) [],oN (.store 2 (.t 8) (.t 42)) [6,4,2,0,1,2,3,4,6],oM 9 43 [5,7,0,1,2,3,4,5,6,7]]) (.seq (.seq (.reg [oM 44 9 [],oP 45 (.bin .neq (.t 44) (.k (.i .i64 0))) [0]]) (.cond (.t 45) (.exit 2) .skip)) (.reg [oP 46 (.load true 2 (.t 8)) [],oN (.store 2 (.t 7) (.t 46)) [0,0]]))))) (.seq (.reg [oP 47 (.load true 2 (.t 7)) []]) (.reg [oP 7 (.new [.b false,.sn]) [],oN (.store 2 (.t 7) (.t 47)) [0,0]])))
def zwz : XC := .seq (.seq (.reg [oM 51 10 [],oP 52 (.bin .geq (.t 51) (.k (.i .i64 0))) [0]]) (.cond (.t 52) .skip (.exit 4))) (.seq (.block 5 (.seq (.drw [oP 55 (.load true 2 (.t 1)) [],oM 56 6 [],oM 57 10 [],oP 58 (.ixs 2 (.t 56) (.t 57)) [1,2],oP 59 (.load true 2 (.t 58)) [3],oP 60 (.call 30 [.t 55,.t 59]) [0,4],oP 61 (.bin .geq (.t 60) (.k (.i .i64 0))) [5]] []) (.cond (.t 61) (.seq (.drw [oP 63 (.load true 2 (.t 1)) [],oM 64 6 [],oM 65 10 [],oP 66 (.ixs 2 (.t 64) (.t 65)) [1,2],oP 67 (.load true 2 (.t 66)) [3],oP 68 (.call 29 [.t 63,.t 67]) [0,4],oM 62 68 [5],oP 69 (.ext (.t 62) 0) [6],oP 70 (.ext (.t 62) 1) [6],oP 71 (.ext (.t 62) 2) [6],oN (.store 2 (.t 1) (.t 69)) [7,5,0,1,2,3,4,5,6,7]] []) (.reg [oM 72 3 [],oM 73 10 [],oP 74 (.bin .shl (.k (.i .i64 1)) (.t 73)) [1],oP 75 (.bin .add (.t 72) (.t 74)) [0,2],oM 3 75 [3,0,1,2,3]])) .skip))) (.reg [oM 53 10 [],oP 54 (.bin .sub (.t 53) (.k (.i .i64 1))) [0],oM 10 54 [1,0,1]]))
def zvl : XF := ⟨80,.seq (.reg [oP 1 (.box (.t 0)) [],oP 2 (.mov (.k (.i .i64 0))) []]) (.seq (.seq (.reg [oP 11 (.load true 2 (.t 1)) [],oP 12 (.call 31 [.t 11]) [0],oP 13 (.bin .lss (.t 12) (.k (.i .i64 0))) [1]]) (.cond (.t 13) (.reg [oP 14 (.load true 2 (.t 1)) [],oP 15 (.call 43 [.t 14]) [0],oN (.store 2 (.t 1) (.t 15)) [1,1,0,1]]) .skip)) (.seq (.reg [oP 3 (.mov (.k (.i .i64 0))) []]) (.seq (.seq (.reg [oP 17 (.load true 2 (.t 1)) [],oP 18 (.call 80 [.t 17]) [0],oM 16 18 [1],oP 19 (.ext (.t 16) 0) [2],oP 20 (.ext (.t 16) 1) [2],oM 4 19 [3,1,0,1,2,3],oM 5 20 [4,5,0,1,2,3,4,5]]) (.seq (.reg [oM 21 5 []]) (.cond (.t 21) (.seq (.block 0 (.loop zwC)) (.seq (.reg [oM 28 3 [],oM 2 28 [0,0]]) .ret)) .skip))) (.seq (.reg [oP 6 (.mov (.k .sn)) []]) (.seq (.seq (.reg [oP 29 (.call 34 [.k (.i .i64 2)]) [],oP 7 (.new [.b false,.sn]) [],oN (.store 2 (.t 7) (.t 29)) [1,0,0,0,1]]) (.block 2 (.loop zvU))) (.seq (.seq (.reg [oM 48 6 [],oP 49 (.len (.t 48)) [0],oP 50 (.bin .sub (.t 49) (.k (.i .i64 1))) [1],oM 10 50 [2,0,1,2]]) (.block 4 (.loop zwz))) (.seq (.reg [oM 76 3 [],oP 77 (.load true 2 (.t 1)) [],oP 78 (.call 31 [.t 77]) [1],oP 79 (.bin .add (.t 76) (.t 78)) [0,2],oM 2 79 [3,2,0,1,2,3]]) .ret))))))),[.tmp 2]⟩
def zu8 : XF := ⟨5,.seq (.reg [oP 1 (.box (.t 0)) [],oP 2 (.new [.b false,.sn]) []]) (.seq (.reg [oP 3 (.fad 0 (.t 1)) [],oP 4 (.load true 2 (.t 3)) [0],oN (.store 2 (.t 2) (.t 4)) [1,0,1]]) .ret),[.cell 2 true 2]⟩
def zv7 : XF := ⟨11,.seq (.reg [oP 2 (.new [.b false,.sn,.b false,.sn]) []]) (.seq (.reg [oM 6 0 [],oP 7 (.call 17 [.t 6,.k (.i .i64 1)]) [0],oM 5 7 [1],oP 8 (.ext (.t 5) 0) [2],oP 9 (.ext (.t 5) 1) [2],oP 3 (.new [.b false,.sn,.b false,.sn]) [],oN (.store 4 (.t 3) (.t 8)) [5,3,1,0,1,2,3,5],oM 4 9 [4,6,0,1,2,3,4,5,6]]) (.seq (.reg [oP 10 (.load true 4 (.t 3)) [],oN (.store 4 (.t 2) (.t 10)) [0,0]]) .ret)),[.cell 2 true 4]⟩
def zwK : XF := ⟨55,.seq (.reg [oP 2 (.box (.t 0)) [],oP 3 (.box (.t 1)) [],oP 4 (.new [.b false,.sn,.b false,.sn]) [],oP 5 (.mov (.k (.i .i64 0))) []]) (.seq (.drw [oP 12 (.fad 0 (.t 2)) [],oP 13 (.load true 2 (.t 12)) [0],oP 14 (.load true 4 (.t 3)) [],oP 15 (.call 19 [.t 14]) [2],oP 16 (.call 18 [.t 13,.t 15]) [1,3,3],oP 17 (.fad 0 (.t 3)) [],oP 18 (.load true 2 (.t 17)) [5],oP 19 (.load true 4 (.t 2)) [],oP 20 (.call 19 [.t 19]) [7,4],oP 21 (.call 18 [.t 18,.t 20]) [6,8,8],oP 6 (.new [.b false,.sn]) [],oP 7 (.new [.b false,.sn]) [],oN (.store 2 (.t 6) (.t 16)) [10,4,9,0,1,2,3,4,10,11],oN (.store 2 (.t 7) (.t 21)) [11,9,12,0,1,2,3,4,5,6,7,8,9,10,11,12]] [(1,3),(6,3),(6,4),(7,3),(7,4),(6,8)]) (.seq (.drw [oP 23 (.fad 0 (.t 2)) [],oP 24 (.load true 2 (.t 23)) [0],oP 25 (.load true 2 (.t 6)) [],oP 26 (.call 21 [.t 24,.t 25]) [1,2],oP 27 (.fad 0 (.t 3)) [],oP 28 (.load true 2 (.t 27)) [4],oP 29 (.load true 2 (.t 7)) [],oP 30 (.call 21 [.t 28,.t 29]) [5,6,3],oP 31 (.bsl 2 2 [.b false,.sn] [(0,(2,.t 26)),(2,(2,.t 30))]) [3,7],oP 32 (.call 20 [.t 31]) [8,7],oM 22 32 [9],oP 33 (.ext (.t 22) 0) [10],oP 34 (.ext (.t 22) 1) [10],oP 8 (.new [.b false,.sn]) [],oN (.store 2 (.t 8) (.t 33)) [13,11,9,0,1,2,3,4,5,6,7,8,9,10,11,13],oM 9 34 [12,14,0,1,2,3,4,5,6,7,8,9,10,11,12,13,14]] [(5,3),(6,3)]) (.seq (.drw [oP 36 (.load true 4 (.t 2)) [],oP 37 (.call 19 [.t 36]) [0],oP 38 (.load true 2 (.t 7)) [],oP 39 (.call 21 [.t 37,.t 38]) [1,2,1],oP 40 (.load true 4 (.t 3)) [],oP 41 (.call 19 [.t 40]) [4,3],oP 42 (.load true 2 (.t 6)) [],oP 43 (.call 21 [.t 41,.t 42]) [5,6,5],oP 44 (.bsl 2 2 [.b false,.sn] [(0,(2,.t 39)),(2,(2,.t 43))]) [3,7],oP 45 (.call 20 [.t 44]) [8,7],oM 35 45 [9],oP 46 (.ext (.t 35) 0) [10],oP 47 (.ext (.t 35) 1) [10],oP 10 (.new [.b false,.sn]) [],oN (.store 2 (.t 10) (.t 46)) [13,11,9,0,1,2,3,4,5,6,7,8,9,10,11,13],oM 11 47 [12,14,0,1,2,3,4,5,6,7,8,9,10,11,12,13,14]] [(2,1),(4,1),(4,3),(6,1),(6,3),(6,5)]) (.seq (.reg [oP 48 (.load true 2 (.t 8)) [],oP 49 (.load true 2 (.t 10)) [],oM 50 9 [],oM 51 11 [],oP 52 (.call 22 [.t 48,.t 49,.t 50,.t 51]) [0,1,2,3],oP 53 (.ext (.t 52) 0) [4],oP 54 (.ext (.t 52) 1) [4],oN (.store 4 (.t 4) (.t 53)) [5,4,0,1,2,3,4,5,6],oM 5 54 [6,7,0,1,2,3,4,5,6,7]]) .ret)))),[.cell 4 true 4,.tmp 5]⟩
def zwL : XF := ⟨79,.seq (.reg [oP 2 (.box (.t 0)) [],oP 3 (.box (.t 1)) [],oP 4 (.new [.b false,.sn,.b false,.sn]) [],oP 5 (.mov (.k (.i .i64 0))) []]) (.seq (.drw [oP 15 (.load true 4 (.t 2)) [],oP 16 (.call 19 [.t 15]) [0],oP 17 (.load true 4 (.t 3)) [],oP 18 (.call 19 [.t 17]) [2,1],oP 19 (.call 18 [.t 16,.t 18]) [1,3,3],oP 6 (.new [.b false,.sn]) [],oN (.store 2 (.t 6) (.t 19)) [5,4,4,0,1,2,3,4,5]] [(2,1)]) (.seq (.drw [oP 21 (.fad 0 (.t 2)) [],oP 22 (.load true 2 (.t 21)) [0],oP 23 (.load true 4 (.t 3)) [],oP 24 (.call 19 [.t 23]) [2],oP 25 (.load true 2 (.t 6)) [],oP 26 (.call 21 [.t 24,.t 25]) [3,4,3],oP 27 (.bsl 2 2 [.b false,.sn] [(0,(2,.t 22)),(2,(2,.t 26))]) [1,5],oP 28 (.call 20 [.t 27]) [6,5],oM 20 28 [7],oP 29 (.ext (.t 20) 0) [8],oP 30 (.ext (.t 20) 1) [8],oP 7 (.new [.b false,.sn]) [],oN (.store 2 (.t 7) (.t 29)) [11,9,7,0,1,2,3,4,5,6,7,8,9,11],oM 8 30 [10,12,0,1,2,3,4,5,6,7,8,9,10,11,12]] [(1,3),(4,3),(1,5)]) (.seq (.drw [oP 32 (.fad 0 (.t 3)) [],oP 33 (.load true 2 (.t 32)) [0],oP 34 (.load true 4 (.t 2)) [],oP 35 (.call 19 [.t 34]) [2],oP 36 (.load true 2 (.t 6)) [],oP 37 (.call 21 [.t 35,.t 36]) [3,4,3],oP 38 (.bsl 2 2 [.b false,.sn] [(0,(2,.t 33)),(2,(2,.t 37))]) [1,5],oP 39 (.call 20 [.t 38]) [6,5],oM 31 39 [7],oP 40 (.ext (.t 31) 0) [8],oP 41 (.ext (.t 31) 1) [8],oP 9 (.new [.b false,.sn]) [],oN (.store 2 (.t 9) (.t 40)) [11,9,7,0,1,2,3,4,5,6,7,8,9,11],oM 10 41 [10,12,0,1,2,3,4,5,6,7,8,9,10,11,12]] [(1,3),(4,3),(1,5)]) (.seq (.reg [oP 43 (.load true 2 (.t 7)) [],oP 44 (.load true 2 (.t 9)) [],oP 45 (.call 23 [.t 43,.t 44]) [0,1],oM 42 45 [2],oP 46 (.ext (.t 42) 0) [3],oP 47 (.ext (.t 42) 1) [3],oP 11 (.new [.b false,.sn]) [],oN (.store 2 (.t 11) (.t 46)) [6,4,2,0,1,2,3,4,6],oM 12 47 [5,7,0,1,2,3,4,5,6,7]]) (.seq (.drw [oP 49 (.load true 4 (.t 2)) [],oP 50 (.call 19 [.t 49]) [0],oP 51 (.load true 2 (.t 6)) [],oP 52 (.call 21 [.t 50,.t 51]) [1,2,1],oP 53 (.load true 4 (.t 3)) [],oP 54 (.call 19 [.t 53]) [4,3],oP 55 (.bsl 2 2 [.b false,.sn] [(0,(2,.t 52)),(2,(2,.t 54))]) [3,5],oP 56 (.call 20 [.t 55]) [6,5],oM 48 56 [7],oP 57 (.ext (.t 48) 0) [8],oP 58 (.ext (.t 48) 1) [8],oP 13 (.new [.b false,.sn]) [],oN (.store 2 (.t 13) (.t 57)) [11,9,7,0,1,2,3,4,5,6,7,8,9,11],oM 14 58 [10,12,0,1,2,3,4,5,6,7,8,9,10,11,12]] [(2,1),(4,1),(4,3)]) (.seq (.seq (.reg [oM 59 8 [],oP 60 (.bin .neq (.t 59) (.k (.i .i64 0))) [0],oM 61 60 [1],oF 62 (.mov (.t 10)) [2] 61,oF 63 (.bin .neq (.t 62) (.k (.i .i64 0))) [3,2] 61,oP 64 (.pick (.t 61) (.k (.b true)) (.t 63)) [2,4],oM 65 64 [5,2],oF 66 (.mov (.t 12)) [6] 65,oF 67 (.bin .neq (.t 66) (.k (.i .i64 0))) [7,6] 65,oP 68 (.pick (.t 65) (.k (.b true)) (.t 67)) [6,8],oM 69 68 [9,6],oF 70 (.mov (.t 14)) [10] 69,oF 71 (.bin .neq (.t 70) (.k (.i .i64 0))) [11,10] 69,oP 72 (.pick (.t 69) (.k (.b true)) (.t 71)) [10,12]]) (.cond (.t 72) (.seq (.reg [oP 73 (.build [.b false,.sn,.b false,.sn] []) [],oN (.store 4 (.t 4) (.t 73)) [0,0],oP 5 (.mov (.k (.i .i64 4))) [1,0,1]]) .ret) .skip)) (.seq (.reg [oP 74 (.load true 2 (.t 11)) [],oP 75 (.load true 2 (.t 13)) [],oP 76 (.call 24 [.t 74,.t 75]) [0,1],oP 77 (.ext (.t 76) 0) [2],oP 78 (.ext (.t 76) 1) [2],oN (.store 4 (.t 4) (.t 77)) [3,2,0,1,2,3,4],oM 5 78 [4,5,0,1,2,3,4,5]]) .ret))))))),[.cell 4 true 4,.tmp 5]⟩
def zwk : XF := ⟨25,.seq (.reg [oP 2 (.new [.b false,.sn]) []]) (.seq (.reg [oM 6 0 [],oP 7 (.cint .u64 (.t 6)) [0],oM 3 7 [1,0,1]]) (.seq (.seq (.reg [oM 8 0 [],oP 9 (.bin .lss (.t 8) (.k (.i .i64 0))) [0]]) (.cond (.t 9) (.reg [oM 10 3 [],oP 11 (.un .neg (.t 10)) [0],oM 3 11 [1,0,1]]) .skip)) (.seq (.reg [oM 13 0 [],oP 14 (.bin .lss (.t 13) (.k (.i .i64 0))) [0],oM 15 3 [],oP 16 (.cint .u32 (.t 15)) [2],oM 17 3 [],oP 18 (.bin .shr (.t 17) (.k (.i .u64 32))) [4],oP 19 (.cint .u32 (.t 18)) [5],oP 20 (.bsl 2 1 [.i .u32 0] [(0,(1,.t 16)),(1,(1,.t 19))]) [3,6],oP 21 (.call 36 [.t 14,.t 20]) [1,7],oM 12 21 [8],oP 22 (.ext (.t 12) 0) [9],oP 23 (.ext (.t 12) 1) [9],oP 4 (.new [.b false,.sn]) [],oN (.store 2 (.t 4) (.t 22)) [12,10,8,0,1,2,3,4,5,6,7,8,9,10,12],oM 5 23 [11,13,0,1,2,3,4,5,6,7,8,9,10,11,12,13]]) (.seq (.reg [oP 24 (.load true 2 (.t 4)) [],oN (.store 2 (.t 2) (.t 24)) [0,0]]) .ret)))),[.cell 2 true 2]⟩
def zwu : XF := ⟨6,.seq (.reg [oP 2 (.box (.t 0)) [],oP 4 (.new [.b false,.sn]) []]) (.seq (.reg [oP 5 (.load true 2 (.t 2)) [],oN (.store 2 (.t 4) (.t 5)) [0,0]]) .ret),[.cell 4 true 2]⟩
def zwI : XF := ⟨39,.seq (.reg [oP 2 (.box (.t 0)) [],oP 3 (.box (.t 1)) [],oP 4 (.new [.b false,.sn]) [],oP 5 (.mov (.k (.i .i64 0))) []]) (.seq (.seq (.reg [oP 6 (.fad 0 (.t 2)) [],oP 7 (.load false 1 (.t 6)) [0],oP 8 (.fad 0 (.t 3)) [],oP 9 (.load false 1 (.t 8)) [2],oP 10 (.eqt false 0 (.t 7) (.t 9)) [1,3]]) (.cond (.t 10) (.seq (.drw [oP 11 (.fad 0 (.t 2)) [],oP 12 (.load false 1 (.t 11)) [0],oP 13 (.fad 1 (.t 2)) [],oP 14 (.load false 1 (.t 13)) [2],oP 15 (.fad 1 (.t 3)) [],oP 16 (.load false 1 (.t 15)) [4],oP 17 (.call 40 [.t 14,.t 16]) [3,5],oP 18 (.call 36 [.t 12,.t 17]) [1,6,6],oP 19 (.ext (.t 18) 0) [7],oP 20 (.ext (.t 18) 1) [7],oN (.store 2 (.t 4) (.t 19)) [8,7,0,1,2,3,4,5,6,7,8,9],oM 5 20 [9,10,0,1,2,3,4,5,6,7,8,9,10]] [(1,6)]) .ret) .skip)) (.seq (.seq (.reg [oP 21 (.fad 1 (.t 2)) [],oP 22 (.load false 1 (.t 21)) [0],oP 23 (.fad 1 (.t 3)) [],oP 24 (.load false 1 (.t 23)) [2],oP 25 (.call 41 [.t 22,.t 24]) [1,3],oP 26 (.bin .lss (.t 25) (.k (.i .i64 0))) [4]]) (.cond (.t 26) (.reg [oP 27 (.load true 2 (.t 3)) [],oP 28 (.load true 2 (.t 2)) [],oN (.store 2 (.t 2) (.t 27)) [0,0,1],oN (.store 2 (.t 3) (.t 28)) [1,2,0,1,2]]) .skip)) (.seq (.drw [oP 29 (.fad 0 (.t 2)) [],oP 30 (.load false 1 (.t 29)) [0],oP 31 (.fad 1 (.t 2)) [],oP 32 (.load false 1 (.t 31)) [2],oP 33 (.fad 1 (.t 3)) [],oP 34 (.load false 1 (.t 33)) [4],oP 35 (.call 42 [.t 32,.t 34]) [3,5],oP 36 (.call 36 [.t 30,.t 35]) [1,6,6],oP 37 (.ext (.t 36) 0) [7],oP 38 (.ext (.t 36) 1) [7],oN (.store 2 (.t 4) (.t 37)) [8,7,0,1,2,3,4,5,6,7,8,9],oM 5 38 [9,10,0,1,2,3,4,5,6,7,8,9,10]] [(1,6)]) .ret))),[.cell 4 true 2,.tmp 5]⟩
def zvS : XC := .seq (.seq (.reg [oM 111 17 [],oP 112 (.bin .shr (.t 111) (.k (.i .u64 32))) [0],oP 113 (.bin .gtr (.t 112) (.k (.i .u64 0))) [1],oM 114 113 [2],oF 115 (.mov (.t 17)) [3] 114,oF 116 (.mov (.t 14)) [3] 114,oF 117 (.bin .mul (.t 115) (.t 116)) [4,5,3] 114,oF 118 (.mov (.t 18)) [3] 114,oF 119 (.bin .shl (.t 118) (.k (.i .u64 32))) [7,3] 114,oF 120 (.mov (.t 9)) [3] 114,oF 121 (.mov (.t 15)) [3] 114,oF 122 (.mov (.t 11)) [3] 114,oF 123 (.bin .add (.t 121) (.t 122)) [10,11,3] 114,oF 124 (.bin .sub (.t 123) (.k (.i .i64 2))) [12,3] 114,oF 125 (.ixs 1 (.t 120) (.t 124)) [9,13,3] 114,oF 126 (.load false 1 (.t 125)) [14,3] 114,oF 127 (.cint .u64 (.t 126)) [15,3] 114,oF 128 (.bin .or (.t 119) (.t 127)) [8,16,3] 114,oF 129 (.bin .gtr (.t 117) (.t 128)) [6,17,3] 114,oP 130 (.pick (.t 114) (.k (.b true)) (.t 129)) [3,18]]) (.cond (.t 130) .skip (.exit 2))) (.block 3 (.seq (.reg [oM 131 17 [],oP 132 (.bin .sub (.t 131) (.k (.i .u64 1))) [0],oM 17 132 [1,0,1]]) (.seq (.reg [oM 133 18 [],oM 134 13 [],oP 135 (.bin .add (.t 133) (.t 134)) [0,1],oM 18 135 [2,0,1,2]]) (.seq (.reg [oM 136 18 [],oP 137 (.bin .shr (.t 136) (.k (.i .u64 32))) [0],oP 138 (.bin .gtr (.t 137) (.k (.i .u64 0))) [1]]) (.cond (.t 138) (.exit 2) .skip)))))
def zvT : XC := .seq (.reg [oP 171 (.bin .lss (.t 170) (.t 169)) []]) (.seq (.cond (.t 171) .skip (.exit 4)) (.seq (.block 5 (.seq (.reg [oM 172 170 [],oM 20 172 [0,0]]) (.seq (.reg [oP 21 (.mov (.k (.i .u64 0))) []]) (.seq (.seq (.reg [oM 173 20 [],oM 174 11 [],oP 175 (.bin .lss (.t 173) (.t 174)) [0,1]]) (.cond (.t 175) (.reg [oM 176 10 [],oM 177 20 [],oP 178 (.ixs 1 (.t 176) (.t 177)) [0,1],oP 179 (.load false 1 (.t 178)) [2],oP 180 (.cint .u64 (.t 179)) [3],oM 21 180 [4,0,1,2,3,4]]) .skip)) (.reg [oM 181 9 [],oM 182 15 [],oM 183 20 [],oP 184 (.bin .add (.t 182) (.t 183)) [1,2],oM 185 19 [],oM 186 9 [],oM 187 15 [],oM 188 20 [],oP 189 (.bin .add (.t 187) (.t 188)) [6,7],oP 190 (.ixs 1 (.t 186) (.t 189)) [5,8],oP 191 (.load false 1 (.t 190)) [9],oP 192 (.cint .u64 (.t 191)) [10],oM 193 21 [],oP 194 (.bin .add (.t 192) (.t 193)) [11,12],oP 195 (.callv (.t 185) [.t 194]) [4,13],oP 196 (.ixs 1 (.t 181) (.t 184)) [0,3,0,1,2,3,4,5,6,7,8,9,10,11,12,13,14],oN (.store 1 (.t 196) (.t 195)) [15,14,14,0,1,2,3,4,5,6,7,8,9,10,11,12,13,14]]))))) (.reg [oP 197 (.bin .add (.t 170) (.k (.i .i64 1))) [],oM 170 197 [0]])))
def zwA : XC := .seq (.seq (.reg [oM 84 15 [],oP 85 (.bin .geq (.t 84) (.k (.i .i64 0))) [0]]) (.cond (.t 85) .skip (.exit 0))) (.seq (.block 1 (.seq (.drw [oM 88 9 [],oM 89 15 [],oM 90 11 [],oP 91 (.bin .add (.t 89) (.t 90)) [1,2],oP 92 (.ixs 1 (.t 88) (.t 91)) [0,3],oP 93 (.load false 1 (.t 92)) [4],oP 94 (.cint .u64 (.t 93)) [5],oP 95 (.bin .shl (.t 94) (.k (.i .u64 32))) [6],oM 96 9 [],oM 97 15 [],oM 98 11 [],oP 99 (.bin .add (.t 97) (.t 98)) [9,10],oP 100 (.bin .sub (.t 99) (.k (.i .i64 1))) [11],oP 101 (.ixs 1 (.t 96) (.t 100)) [8,12],oP 102 (.load false 1 (.t 101)) [13],oP 103 (.cint .u64 (.t 102)) [14],oP 104 (.bin .or (.t 95) (.t 103)) [7,15],oM 16 104 [16,0,1,2,3,4,5,6,7,8,9,10,11,12,13,14,15,16]] []) (.seq (.drw [oM 105 16 [],oM 106 13 [],oP 107 (.bin .quo (.t 105) (.t 106)) [0,1],oM 108 16 [],oM 109 13 [],oP 110 (.bin .rem (.t 108) (.t 109)) [3,4],oM 17 107 [2,0,1,2],oM 18 110 [5,6,0,1,2,3,4,5,6]] []) (.seq (.block 2 (.loop zvS)) (.seq (.reg [oM 139 12 [],oM 140 15 [],oM 141 17 [],oP 142 (.cint .u32 (.t 141)) [2],oP 143 (.ixs 1 (.t 139) (.t 140)) [0,1,0,1,2,3],oN (.store 1 (.t 143) (.t 142)) [4,3,0,1,2,3]]) (.seq (.seq (.reg [oM 144 9 [],oM 145 15 [],oM 146 15 [],oM 147 11 [],oP 148 (.bin .add (.t 146) (.t 147)) [2,3],oP 149 (.bin .add (.t 148) (.k (.i .i64 1))) [4],oP 150 (.slsl 1 (.t 144) (some (.t 145)) (some (.t 149)) none) [0,1,5],oM 151 10 [],oM 152 17 [],oP 153 (.call 57 [.t 150,.t 151,.t 152]) [6,7,8],oP 154 (.un .not (.t 153)) [9]]) (.cond (.t 154) (.exit 1) .skip)) (.seq (.reg [oM 155 12 [],oM 156 15 [],oP 157 (.ixs 1 (.t 155) (.t 156)) [0,1],oP 158 (.load false 1 (.t 157)) [2],oP 159 (.bin .sub (.t 158) (.k (.i .u32 1))) [3],oP 160 (.ixs 1 (.t 155) (.t 156)) [0,1,0,1,2,3,4],oN (.store 1 (.t 160) (.t 159)) [5,4,0,1,2,3,4]]) (.seq (.reg [oP 161 (.call 58 []) [],oM 19 161 [0,0,0]]) (.seq (.reg [oM 162 9 [],oM 163 15 [],oM 164 15 [],oM 165 11 [],oP 166 (.bin .add (.t 164) (.t 165)) [2,3],oP 167 (.bin .add (.t 166) (.k (.i .i64 1))) [4],oP 168 (.slsl 1 (.t 162) (some (.t 163)) (some (.t 167)) none) [0,1,5],oP 169 (.len (.t 168)) [6],oP 170 (.mov (.k (.i .i64 0))) []]) (.block 4 (.loop zvT))))))))))) (.reg [oM 86 15 [],oP 87 (.bin .sub (.t 86) (.k (.i .i64 1))) [0],oM 15 87 [1,0,1]]))
def zwx : XC := .seq (.reg [oP 203 (.bin .lss (.t 202) (.t 201)) []]) (.seq (.cond (.t 203) .skip (.exit 6)) (.seq (.block 7 (.seq (.reg [oM 204 202 [],oM 23 204 [0,0]]) (.drw [oM 205 22 [],oM 206 23 [],oM 207 9 [],oM 208 23 [],oP 209 (.bin .add (.t 208) (.k (.i .i64 1))) [3],oP 210 (.ixs 1 (.t 207) (.t 209)) [2,4],oP 211 (.load false 1 (.t 210)) [5],oP 212 (.cint .u64 (.t 211)) [6],oP 213 (.bin .shl (.t 212) (.k (.i .u64 32))) [7],oM 214 9 [],oM 215 23 [],oP 216 (.ixs 1 (.t 214) (.t 215)) [9,10],oP 217 (.load false 1 (.t 216)) [11],oP 218 (.cint .u64 (.t 217)) [12],oP 219 (.bin .or (.t 213) (.t 218)) [8,13],oM 220 8 [],oP 221 (.bin .shr (.t 219) (.t 220)) [14,15],oP 222 (.cint .u32 (.t 221)) [16],oP 223 (.ixs 1 (.t 205) (.t 206)) [0,1,0,1,2,3,4,5,6,7,8,9,10,11,12,13,14,15,16,17],oN (.store 1 (.t 223) (.t 222)) [18,17,0,1,2,3,4,5,6,7,8,9,10,11,12,13,14,15,16,17]] []))) (.reg [oP 224 (.bin .add (.t 202) (.k (.i .i64 1))) [],oM 202 224 [0]])))
def zu9 : XF := ⟨229,.seq (.reg [oP 4 (.mov (.k .sn)) [],oP 5 (.mov (.k .sn)) [0]]) (.scope (.seq (.seq (.reg [oM 24 0 [],oM 25 1 [],oP 26 (.call 41 [.t 24,.t 25]) [0,1],oP 27 (.bin .lss (.t 26) (.k (.i .i64 0))) [2]]) (.cond (.t 27) (.seq (.reg [oM 28 0 [],oP 4 (.mov (.k .sn)) [],oM 5 28 [0,1,0,1]]) .ret) .skip)) (.seq (.seq (.reg [oM 29 1 [],oP 30 (.len (.t 29)) [0],oP 31 (.bin .eql (.t 30) (.k (.i .i64 1))) [1]]) (.cond (.t 31) (.seq (.reg [oM 33 0 [],oM 34 1 [],oP 35 (.ixs 1 (.t 34) (.k (.i .i64 0))) [1],oP 36 (.load false 1 (.t 35)) [2],oP 37 (.call 48 [.t 33,.t 36]) [0,3],oM 32 37 [4],oP 38 (.ext (.t 32) 0) [5],oP 39 (.ext (.t 32) 1) [5],oM 6 38 [6,4,0,1,2,3,4,5,6],oM 7 39 [7,8,0,1,2,3,4,5,6,7,8]]) (.seq (.reg [oM 40 6 [],oP 41 (.call 49 [.t 40]) [0],oM 42 7 [],oP 43 (.bsl 1 1 [.i .u32 0] [(0,(1,.t 42))]) [2],oP 44 (.call 49 [.t 43]) [3,1],oM 4 41 [1,4,0,1],oM 5 44 [4,5,0,1,2,3,4,5]]) .ret)) .skip)) (.seq (.reg [oM 45 1 [],oM 46 1 [],oP 47 (.len (.t 46)) [1],oP 48 (.bin .sub (.t 47) (.k (.i .i64 1))) [2],oP 49 (.ixs 1 (.t 45) (.t 48)) [0,3],oP 50 (.load false 1 (.t 49)) [4],oP 51 (.call 55 [.t 50]) [5],oM 8 51 [6,6,0,1,2,3,4,5,6]]) (.seq (.drw [oM 52 0 [],oM 53 8 [],oP 54 (.call 56 [.t 52,.t 53]) [0,1],oM 55 1 [],oM 56 8 [],oP 57 (.call 56 [.t 55,.t 56]) [3,4,2],oM 58 1 [],oP 59 (.len (.t 58)) [6],oP 60 (.slsl 1 (.t 57) none (some (.t 59)) none) [5,7],oM 9 54 [2,5,0,1,2],oM 10 60 [8,9,0,1,2,3,4,5,6,7,8,9]] []) (.seq (.reg [oM 61 10 [],oP 62 (.len (.t 61)) [0],oM 11 62 [1,0,1]]) (.seq (.reg [oM 63 0 [],oP 64 (.len (.t 63)) [0],oM 65 11 [],oP 66 (.bin .sub (.t 64) (.t 65)) [1,2],oP 67 (.bin .add (.t 66) (.k (.i .i64 1))) [3],oP 68 (.msl [.i .u32 0] 4 (.t 67) (.t 67)) [4,4],oM 12 68 [5,0,1,2,3,4,5]]) (.seq (.drw [oM 69 10 [],oM 70 11 [],oP 71 (.bin .sub (.t 70) (.k (.i .i64 1))) [1],oP 72 (.ixs 1 (.t 69) (.t 71)) [0,2],oP 73 (.load false 1 (.t 72)) [3],oP 74 (.cint .u64 (.t 73)) [4],oM 75 10 [],oM 76 11 [],oP 77 (.bin .sub (.t 76) (.k (.i .i64 2))) [7],oP 78 (.ixs 1 (.t 75) (.t 77)) [6,8],oP 79 (.load false 1 (.t 78)) [9],oP 80 (.cint .u64 (.t 79)) [10],oM 13 74 [5,0,1,2,3,4,5],oM 14 80 [11,12,0,1,2,3,4,5,6,7,8,9,10,11,12]] []) (.seq .skip (.seq (.seq (.reg [oM 81 12 [],oP 82 (.len (.t 81)) [0],oP 83 (.bin .sub (.t 82) (.k (.i .i64 1))) [1],oM 15 83 [2,0,1,2]]) (.block 0 (.loop zwA))) (.seq (.reg [oM 198 11 [],oP 199 (.msl [.i .u32 0] 4 (.t 198) (.t 198)) [0,0],oM 22 199 [1,0,1]]) (.seq (.seq (.reg [oM 200 22 [],oP 201 (.len (.t 200)) [0],oP 202 (.mov (.k (.i .i64 0))) []]) (.block 6 (.loop zwx))) (.seq (.reg [oM 225 12 [],oP 226 (.call 49 [.t 225]) [0],oM 227 22 [],oP 228 (.call 49 [.t 227]) [2,1],oM 4 226 [1,3,0,1],oM 5 228 [3,4,0,1,2,3,4]]) .ret))))))))))))),[.tmp 4,.tmp 5]⟩
def zvX : XC := .seq (.reg [oP 24 (.bin .lss (.t 23) (.t 22)) []]) (.seq (.cond (.t 24) .skip (.exit 0)) (.seq (.block 1 (.seq (.reg [oM 25 23 [],oM 7 25 [0,0]]) (.seq (.reg [oP 8 (.mov (.k (.i .u64 0))) []]) (.seq (.seq (.reg [oM 26 7 [],oM 27 0 [],oP 28 (.len (.t 27)) [1],oP 29 (.bin .lss (.t 26) (.t 28)) [0,2]]) (.cond (.t 29) (.reg [oM 30 8 [],oM 31 0 [],oM 32 7 [],oP 33 (.ixs 1 (.t 31) (.t 32)) [1,2],oP 34 (.load false 1 (.t 33)) [3],oP 35 (.cint .u64 (.t 34)) [4],oP 36 (.bin .add (.t 30) (.t 35)) [0,5],oM 8 36 [6,0,1,2,3,4,5,6]]) .skip)) (.seq (.seq (.reg [oM 37 7 [],oM 38 1 [],oP 39 (.len (.t 38)) [1],oP 40 (.bin .lss (.t 37) (.t 39)) [0,2]]) (.cond (.t 40) (.reg [oM 41 8 [],oM 42 1 [],oM 43 7 [],oP 44 (.ixs 1 (.t 42) (.t 43)) [1,2],oP 45 (.load false 1 (.t 44)) [3],oP 46 (.cint .u64 (.t 45)) [4],oP 47 (.bin .add (.t 41) (.t 46)) [0,5],oM 8 47 [6,0,1,2,3,4,5,6]]) .skip)) (.reg [oM 48 5 [],oM 49 7 [],oM 50 6 [],oM 51 8 [],oP 52 (.callv (.t 50) [.t 51]) [2,3],oP 53 (.ixs 1 (.t 48) (.t 49)) [0,1,0,1,2,3,4],oN (.store 1 (.t 53) (.t 52)) [5,4,4,0,1,2,3,4]])))))) (.reg [oP 54 (.bin .add (.t 23) (.k (.i .i64 1))) [],oM 23 54 [0]])))
def zwX : XF := ⟨56,.seq (.reg [oP 4 (.mov (.k .sn)) []]) (.seq (.seq (.reg [oM 9 0 [],oP 10 (.len (.t 9)) [0],oM 11 1 [],oP 12 (.len (.t 11)) [2],oP 13 (.bin .lss (.t 10) (.t 12)) [1,3]]) (.cond (.t 13) (.reg [oM 14 1 [],oM 15 0 [],oM 0 14 [0,0,1],oM 1 15 [1,2,0,1,2]]) .skip)) (.seq (.reg [oM 16 0 [],oP 17 (.len (.t 16)) [0],oP 18 (.bin .add (.t 17) (.k (.i .i64 1))) [1],oP 19 (.msl [.i .u32 0] 4 (.t 18) (.t 18)) [2,2],oM 5 19 [3,0,1,2,3]]) (.seq (.reg [oP 20 (.call 58 []) [],oM 6 20 [0,0,0]]) (.seq (.seq (.reg [oM 21 5 [],oP 22 (.len (.t 21)) [0],oP 23 (.mov (.k (.i .i64 0))) []]) (.block 0 (.loop zvX))) (.seq (.reg [oM 55 5 [],oM 4 55 [0,0]]) .ret))))),[.tmp 4]⟩
def zvb : XF := ⟨16,.seq (.reg [oP 4 (.mov (.k .sn)) []]) (.seq (.reg [oM 6 0 [],oP 7 (.len (.t 6)) [0],oP 8 (.msl [.i .u32 0] 4 (.t 7) (.t 7)) [1,1],oM 5 8 [2,0,1,2]]) (.seq (.reg [oM 9 5 [],oM 10 0 [],oP 11 (.cpy 1 (.t 9) (.t 10)) [0,1]]) (.seq (.reg [oM 12 5 [],oM 13 1 [],oP 14 (.call 62 [.t 12,.t 13]) [0,1]]) (.seq (.reg [oM 15 5 [],oM 4 15 [0,0]]) .ret)))),[.tmp 4]⟩
def zv0 : XF := ⟨20,.seq (.reg [oP 4 (.new [.b false,.sn]) [],oP 5 (.mov (.k (.i .i64 0))) []]) (.seq (.reg [oM 6 1 [],oP 7 (.call 49 [.t 6]) [0],oM 1 7 [1,1,0,1]]) (.seq (.seq (.reg [oM 8 1 [],oP 9 (.len (.t 8)) [0],oP 10 (.bin .gtr (.t 9) (.k (.i .i64 512))) [1]]) (.cond (.t 10) (.seq (.reg [oP 11 (.build [.b false,.sn] []) [],oN (.store 2 (.t 4) (.t 11)) [0,0],oP 5 (.mov (.k (.i .i64 4))) [1,0,1]]) .ret) .skip)) (.seq (.reg [oM 12 0 [],oM 13 12 [0],oT 14 (.mov (.t 1)) [1] 13,oT 15 (.len (.t 14)) [2,1] 13,oT 16 (.bin .gtr (.t 15) (.k (.i .i64 0))) [3,1] 13,oP 17 (.pick (.t 13) (.t 16) (.k (.b false))) [1,4],oM 18 1 [],oP 19 (.build [.b false,.sn] [(0,(1,.t 17)),(1,(1,.t 18))]) [5,6],oN (.store 2 (.t 4) (.t 19)) [7,1,0,1,2,3,4,5,6,7],oP 5 (.mov (.k (.i .i64 0))) [8,0,1,2,3,4,5,6,7,8]]) .ret))),[.cell 4 true 2,.tmp 5]⟩
def zxd : XC := .seq (.seq (.reg [oM 19 6 [],oP 20 (.bin .geq (.t 19) (.k (.i .i64 0))) [0]]) (.cond (.t 20) .skip (.exit 0))) (.seq (.block 1 (.seq (.drw [oM 23 0 [],oM 24 6 [],oP 25 (.ixs 1 (.t 23) (.t 24)) [0,1],oP 26 (.load false 1 (.t 25)) [2],oM 27 1 [],oM 28 6 [],oP 29 (.ixs 1 (.t 27) (.t 28)) [4,5],oP 30 (.load false 1 (.t 29)) [6],oP 31 (.call 61 [.t 26,.t 30]) [3,7],oM 7 31 [8,8,0,1,2,3,4,5,6,7,8]] []) (.seq (.reg [oM 32 7 [],oP 33 (.bin .neq (.t 32) (.k (.i .i64 0))) [0]]) (.cond (.t 33) (.seq (.reg [oM 34 7 [],oM 4 34 [0,0]]) .ret) .skip)))) (.reg [oM 21 6 [],oP 22 (.bin .sub (.t 21) (.k (.i .i64 1))) [0],oM 6 22 [1,0,1]]))
def zvJ : XF := ⟨35,.seq (.reg [oP 4 (.mov (.k (.i .i64 0))) []]) (.seq (.seq (.reg [oM 8 0 [],oP 9 (.len (.t 8)) [0],oM 10 1 [],oP 11 (.len (.t 10)) [2],oP 12 (.call 60 [.t 9,.t 11]) [1,3],oM 5 12 [4,4,0,1,2,3,4]]) (.seq (.reg [oM 13 5 [],oP 14 (.bin .neq (.t 13) (.k (.i .i64 0))) [0]]) (.cond (.t 14) (.seq (.reg [oM 15 5 [],oM 4 15 [0,0]]) .ret) .skip))) (.seq (.seq (.reg [oM 16 0 [],oP 17 (.len (.t 16)) [0],oP 18 (.bin .sub (.t 17) (.k (.i .i64 1))) [1],oM 6 18 [2,0,1,2]]) (.block 0 (.loop zxd))) (.seq (.reg [oP 4 (.mov (.k (.i .i64 0))) []]) .ret))),[.tmp 4]⟩
def zwD : XC := .seq (.seq (.reg [oM 57 12 [],oM 58 13 [],oP 59 (.bin .lss (.t 57) (.t 58)) [0,1]]) (.cond (.t 59) .skip (.exit 2))) (.block 3 (.seq (.reg [oM 60 12 [],oM 61 13 [],oP 62 (.bin .add (.t 60) (.t 61)) [0,1],oP 63 (.bin .add (.t 62) (.k (.i .i64 1))) [2],oP 64 (.bin .quo (.t 63) (.k (.i .i64 2))) [3],oM 14 64 [4,0,1,2,3,4]]) (.seq (.reg [oM 65 1 [],oM 66 14 [],oP 67 (.call 149 [.t 65,.t 66]) [0,1],oM 68 9 [],oP 69 (.call 134 [.t 67,.t 68]) [2,3,2],oP 70 (.bin .leq (.t 69) (.k (.i .i64 0))) [4]]) (.cond (.t 70) (.reg [oM 71 14 [],oM 12 71 [0,0]]) (.reg [oM 72 14 [],oP 73 (.bin .sub (.t 72) (.k (.i .i64 1))) [0],oM 13 73 [1,0,1]])))))
def zwy : XC := .seq (.seq (.reg [oM 37 10 [],oP 38 (.bin .geq (.t 37) (.k (.i .i64 0))) [0]]) (.cond (.t 38) .skip (.exit 0))) (.seq (.block 1 (.seq (.reg [oM 41 0 [],oM 42 10 [],oP 43 (.ixs 1 (.t 41) (.t 42)) [0,1],oP 44 (.load false 1 (.t 43)) [2],oP 45 (.bsl 1 1 [.i .i64 0] [(0,(1,.t 44))]) [3],oM 46 9 [],oP 47 (.app 1 8 (.t 45) (.t 46)) [4,5],oP 48 (.call 132 [.k (.b false),.t 47]) [6,6],oP 11 (.new [.b false,.sn]) [],oN (.store 2 (.t 11) (.t 48)) [8,7,7,0,1,2,3,4,5,6,7,8]]) (.seq (.reg [oP 49 (.fad 1 (.t 11)) [],oP 50 (.load false 1 (.t 49)) [0],oM 9 50 [1,0,1]]) (.seq (.reg [oM 52 9 [],oM 53 1 [],oP 54 (.call 148 [.t 52,.t 53]) [0,1],oM 51 54 [2],oP 55 (.ext (.t 51) 0) [3],oP 56 (.ext (.t 51) 1) [3],oM 12 55 [4,2,0,1,2,3,4],oM 13 56 [5,6,0,1,2,3,4,5,6]]) (.seq (.block 2 (.loop zwD)) (.seq (.reg [oM 74 9 [],oM 75 1 [],oM 76 12 [],oP 77 (.call 149 [.t 75,.t 76]) [1,2],oP 78 (.call 135 [.t 74,.t 77]) [0,3,3],oP 79 (.call 132 [.k (.b false),.t 78]) [4,4],oP 15 (.new [.b false,.sn]) [],oN (.store 2 (.t 15) (.t 79)) [6,5,5,0,1,2,3,4,5,6]]) (.seq (.reg [oM 80 6 [],oM 81 10 [],oM 82 12 [],oP 83 (.ixs 1 (.t 80) (.t 81)) [0,1,0,1,2],oN (.store 1 (.t 83) (.t 82)) [3,2,0,1,2]]) (.reg [oP 84 (.fad 1 (.t 15)) [],oP 85 (.load false 1 (.t 84)) [0],oM 9 85 [1,0,1]])))))))) (.reg [oM 39 10 [],oP 40 (.bin .sub (.t 39) (.k (.i .i64 1))) [0],oM 10 40 [1,0,1]]))
def zvk : XF := ⟨88,.seq (.reg [oP 4 (.mov (.k .sn)) [],oP 5 (.mov (.k .sn)) [0]]) (.seq (.reg [oM 16 0 [],oP 17 (.len (.t 16)) [0],oP 18 (.msl [.i .i64 0] 8 (.t 17) (.t 17)) [1,1],oM 6 18 [2,0,1,2]]) (.seq (.reg [oM 19 0 [],oP 20 (.len (.t 19)) [0],oM 21 0 [],oP 22 (.len (.t 21)) [2],oM 23 1 [],oP 24 (.len (.t 23)) [4],oP 25 (.bin .sub (.t 22) (.t 24)) [3,5],oP 26 (.bin .add (.t 25) (.k (.i .i64 1))) [6],oP 27 (.mm false (.t 20) [.t 26]) [1,7],oP 28 (.mm true (.k (.i .i64 0)) [.t 27]) [8],oM 7 28 [9,0,1,2,3,4,5,6,7,8,9]]) (.seq (.reg [oM 29 0 [],oM 30 7 [],oP 31 (.slsl 1 (.t 29) (some (.t 30)) none none) [0,1],oP 32 (.call 132 [.k (.b false),.t 31]) [2],oP 8 (.new [.b false,.sn]) [],oN (.store 2 (.t 8) (.t 32)) [4,3,3,0,1,2,3,4]]) (.seq (.reg [oP 33 (.fad 1 (.t 8)) [],oP 34 (.load false 1 (.t 33)) [0],oM 9 34 [1,0,1]]) (.seq (.seq (.reg [oM 35 7 [],oP 36 (.bin .sub (.t 35) (.k (.i .i64 1))) [0],oM 10 36 [1,0,1]]) (.block 0 (.loop zwy))) (.seq (.reg [oM 86 6 [],oM 87 9 [],oM 4 86 [0,0],oM 5 87 [1,2,0,1,2]]) .ret)))))),[.tmp 4,.tmp 5]⟩
def zxq : XF := ⟨13,.seq (.reg [oP 4 (.mov (.k (.i .i64 0))) []]) (.seq (.seq (.reg [oM 5 1 [],oM 6 0 [],oP 7 (.len (.t 6)) [1],oP 8 (.bin .lss (.t 5) (.t 7)) [0,2]]) (.cond (.t 8) (.seq (.reg [oM 9 0 [],oM 10 1 [],oP 11 (.ixs 1 (.t 9) (.t 10)) [0,1],oP 12 (.load false 1 (.t 11)) [2],oM 4 12 [3,0,1,2,3]]) .ret) .skip)) (.seq (.reg [oP 4 (.mov (.k (.i .i64 0))) []]) .ret)),[.tmp 4]⟩
def zw3 : XF := ⟨9,.seq (.reg [oP 2 (.box (.t 0)) [],oP 3 (.box (.t 1)) [],oP 4 (.new [.b false,.sn]) []]) (.seq (.drw [oP 5 (.load true 2 (.t 2)) [],oP 6 (.load true 2 (.t 3)) [],oP 7 (.call 123 [.t 6]) [1],oP 8 (.call 119 [.t 5,.t 7]) [0,2,2],oN (.store 2 (.t 4) (.t 8)) [3,3,0,1,2,3]] [(0,2)]) .ret),[.cell 4 true 2]⟩
def zvn : XF := ⟨11,.seq (.reg [oP 4 (.mov (.k (.s []))) [],oP 5 (.mov (.k (.b false))) [0]]) (.seq (.reg [oM 6 0 [],oM 7 1 [],oP 8 (.call 137 [.t 6,.t 7]) [0,1],oP 9 (.ext (.t 8) 0) [2],oP 10 (.ext (.t 8) 1) [2],oM 4 9 [3,2,0,1,2,3,4],oM 5 10 [4,5,0,1,2,3,4,5]]) .ret),[.tmp 4,.tmp 5]⟩
def zxo : XC := .seq (.seq (.reg [oM 3 0 [],oP 4 (.len (.t 3)) [0],oP 5 (.bin .gtr (.t 4) (.k (.i .i64 0))) [1],oM 6 5 [2],oT 7 (.mov (.t 0)) [3] 6,oT 8 (.mov (.t 0)) [3] 6,oT 9 (.len (.t 8)) [5,3] 6,oT 10 (.bin .sub (.t 9) (.k (.i .i64 1))) [6,3] 6,oT 11 (.ixs 1 (.t 7) (.t 10)) [4,7,3] 6,oT 12 (.load false 1 (.t 11)) [8,3] 6,oT 13 (.bin .eql (.t 12) (.k (.i .u32 0))) [9,3] 6,oP 14 (.pick (.t 6) (.t 13) (.k (.b false))) [3,10]]) (.cond (.t 14) .skip (.exit 0))) (.block 1 (.reg [oM 15 0 [],oM 16 0 [],oP 17 (.len (.t 16)) [1],oP 18 (.bin .sub (.t 17) (.k (.i .i64 1))) [2],oP 19 (.slsl 1 (.t 15) none (some (.t 18)) none) [0,3],oM 0 19 [4,0,1,2,3,4]]))
def zvz : XF := ⟨21,.seq (.reg [oP 2 (.mov (.k .sn)) []]) (.seq (.block 0 (.loop zxo)) (.seq (.reg [oM 20 0 [],oM 2 20 [0,0]]) .ret)),[.tmp 2]⟩
def zwG : XC := .seq (.reg [oP 28 (.bin .lss (.t 27) (.t 26)) []]) (.seq (.cond (.t 28) .skip (.exit 2)) (.seq (.block 3 (.seq (.reg [oM 29 27 [],oP 30 (.ixs 1 (.t 25) (.t 27)) [],oP 31 (.load false 1 (.t 30)) [1],oM 9 29 [0,0,1,2],oM 10 31 [2,3,0,1,2,3]]) (.seq (.reg [oM 32 7 [],oP 33 (.cint .u64 (.t 32)) [0],oM 34 10 [],oP 35 (.cint .u64 (.t 34)) [2],oP 36 (.bin .mul (.t 33) (.t 35)) [1,3],oM 37 5 [],oM 38 6 [],oM 39 9 [],oP 40 (.bin .add (.t 38) (.t 39)) [6,7],oP 41 (.ixs 1 (.t 37) (.t 40)) [5,8],oP 42 (.load false 1 (.t 41)) [9],oP 43 (.cint .u64 (.t 42)) [10],oP 44 (.bin .add (.t 36) (.t 43)) [4,11],oM 45 8 [],oP 46 (.bin .add (.t 44) (.t 45)) [12,13],oM 11 46 [14,0,1,2,3,4,5,6,7,8,9,10,11,12,13,14]]) (.seq (.reg [oM 47 5 [],oM 48 6 [],oM 49 9 [],oP 50 (.bin .add (.t 48) (.t 49)) [1,2],oM 51 11 [],oP 52 (.cint .u32 (.t 51)) [4],oP 53 (.ixs 1 (.t 47) (.t 50)) [0,3,0,1,2,3,4,5],oN (.store 1 (.t 53) (.t 52)) [6,5,0,1,2,3,4,5]]) (.reg [oM 54 11 [],oP 55 (.bin .shr (.t 54) (.k (.i .u64 32))) [0],oM 8 55 [1,0,1]]))))) (.reg [oP 56 (.bin .add (.t 27) (.k (.i .i64 1))) [],oM 27 56 [0]])))
def zwT : XC := .seq (.reg [oP 21 (.bin .lss (.t 20) (.t 19)) []]) (.seq (.cond (.t 21) .skip (.exit 0)) (.seq (.block 1 (.seq (.reg [oM 22 20 [],oP 23 (.ixs 1 (.t 18) (.t 20)) [],oP 24 (.load false 1 (.t 23)) [1],oM 6 22 [0,0,1,2],oM 7 24 [2,3,0,1,2,3]]) (.seq (.reg [oP 8 (.mov (.k (.i .u64 0))) []]) (.seq (.seq (.reg [oM 25 1 [],oP 26 (.len (.t 25)) [0],oP 27 (.mov (.k (.i .i64 0))) []]) (.block 2 (.loop zwG))) (.reg [oM 57 5 [],oM 58 6 [],oM 59 1 [],oP 60 (.len (.t 59)) [2],oP 61 (.bin .add (.t 58) (.t 60)) [1,3],oM 62 8 [],oP 63 (.cint .u32 (.t 62)) [5],oP 64 (.ixs 1 (.t 57) (.t 61)) [0,4,0,1,2,3,4,5,6],oN (.store 1 (.t 64) (.t 63)) [7,6,0,1,2,3,4,5,6]]))))) (.reg [oP 65 (.bin .add (.t 20) (.k (.i .i64 1))) [],oM 20 65 [0]])))
def zvq : XF := ⟨67,.seq (.reg [oP 4 (.mov (.k .sn)) []]) (.seq (.reg [oM 12 0 [],oP 13 (.len (.t 12)) [0],oM 14 1 [],oP 15 (.len (.t 14)) [2],oP 16 (.bin .add (.t 13) (.t 15)) [1,3],oP 17 (.msl [.i .u32 0] 4 (.t 16) (.t 16)) [4,4],oM 5 17 [5,0,1,2,3,4,5]]) (.seq (.seq (.reg [oM 18 0 [],oP 19 (.len (.t 18)) [0],oP 20 (.mov (.k (.i .i64 0))) []]) (.block 0 (.loop zwT))) (.seq (.reg [oM 66 5 [],oM 4 66 [0,0]]) .ret))),[.tmp 4]⟩
def zxi : XC := .seq (.seq (.reg [oM 10 5 [],oP 11 (.bin .neq (.t 10) (.k (.i .i64 0))) [0]]) (.cond (.t 11) .skip (.exit 0))) (.seq (.block 1 (.seq (.reg [oM 14 5 [],oP 15 (.bin .rem (.t 14) (.k (.i .i64 10))) [0],oM 6 15 [1,0,1]]) (.seq (.seq (.reg [oM 16 6 [],oP 17 (.bin .lss (.t 16) (.k (.i .i64 0))) [0]]) (.cond (.t 17) (.reg [oM 18 6 [],oP 19 (.un .neg (.t 18)) [0],oM 6 19 [1,0,1]]) .skip)) (.reg [oM 20 3 [],oM 21 6 [],oM 22 6 [],oP 23 (.bin .add (.t 22) (.k (.i .i64 1))) [2],oP 24 (.slstr (.t 20) (some (.t 21)) (some (.t 23))) [0,1,3],oM 25 4 [],oP 26 (.bin .add (.t 24) (.t 25)) [4,5],oM 4 26 [6,0,1,2,3,4,5,6]])))) (.reg [oM 12 5 [],oP 13 (.bin .quo (.t 12) (.k (.i .i64 10))) [0],oM 5 13 [1,0,1]]))
def zvY : XF := ⟨32,.seq (.reg [oP 2 (.mov (.k (.s []))) []]) (.seq (.seq (.reg [oM 7 0 [],oP 8 (.bin .eql (.t 7) (.k (.i .i64 0))) [0]]) (.cond (.t 8) (.seq (.reg [oP 2 (.mov (.k (.s [48]))) []]) .ret) .skip)) (.seq (.reg [oP 3 (.mov (.k (.s [48,49,50,51,52,53,54,55,56,57]))) []]) (.seq (.reg [oP 4 (.mov (.k (.s []))) []]) (.seq (.seq (.reg [oM 9 0 [],oM 5 9 [0,0]]) (.block 0 (.loop zxi))) (.seq (.seq (.reg [oM 27 0 [],oP 28 (.bin .lss (.t 27) (.k (.i .i64 0))) [0]]) (.cond (.t 28) (.seq (.reg [oM 29 4 [],oP 30 (.bin .add (.k (.s [45])) (.t 29)) [0],oM 2 30 [1,0,1]]) .ret) .skip)) (.seq (.reg [oM 31 4 [],oM 2 31 [0,0]]) .ret)))))),[.tmp 2]⟩
def zwM : XF := ⟨15,.seq (.reg [oP 1 (.box (.t 0)) [],oP 2 (.new [.b false,.sn]) []]) (.seq (.reg [oP 3 (.fad 0 (.t 1)) [],oP 4 (.load false 1 (.t 3)) [0],oP 5 (.un .not (.t 4)) [1],oM 6 5 [2],oT 7 (.fad 1 (.t 1)) [3] 6,oT 8 (.load false 1 (.t 7)) [4,3] 6,oT 9 (.len (.t 8)) [5,3] 6,oT 10 (.bin .gtr (.t 9) (.k (.i .i64 0))) [6,3] 6,oP 11 (.pick (.t 6) (.t 10) (.k (.b false))) [3,7],oP 12 (.fad 1 (.t 1)) [],oP 13 (.load false 1 (.t 12)) [9],oP 14 (.build [.b false,.sn] [(0,(1,.t 11)),(1,(1,.t 13))]) [8,10],oN (.store 2 (.t 2) (.t 14)) [11,3,0,1,2,3,4,5,6,7,8,9,10,11]]) .ret),[.cell 2 true 2]⟩
def zvj : XF := ⟨25,.seq (.reg [oP 4 (.box (.t 0)) [],oP 5 (.box (.t 1)) [],oP 8 (.new [.b false,.sn,.b false,.sn]) [],oP 9 (.mov (.k (.i .i64 0))) []]) (.seq (.seq (.reg [oM 10 2 [],oP 11 (.bin .neq (.t 10) (.k (.i .i64 0))) [0],oM 12 11 [1],oF 13 (.mov (.t 3)) [2] 12,oF 14 (.bin .neq (.t 13) (.k (.i .i64 0))) [3,2] 12,oP 15 (.pick (.t 12) (.k (.b true)) (.t 14)) [2,4]]) (.cond (.t 15) (.seq (.reg [oP 16 (.build [.b false,.sn,.b false,.sn] []) [],oN (.store 4 (.t 8) (.t 16)) [0,0],oP 9 (.mov (.k (.i .i64 4))) [1,0,1]]) .ret) .skip)) (.seq (.drw [oP 17 (.load true 2 (.t 4)) [],oP 18 (.load true 2 (.t 5)) [],oP 19 (.call 34 [.k (.i .i64 1)]) [],oP 20 (.call 39 [.t 18,.t 19]) [1,2,2],oP 21 (.ext (.t 20) 0) [3],oP 22 (.ext (.t 20) 1) [3],oP 23 (.call 37 [.t 21,.t 22]) [4,5,3],oP 24 (.build [.b false,.sn,.b false,.sn] [(0,(2,.t 17)),(2,(2,.t 23))]) [0,6],oN (.store 4 (.t 8) (.t 24)) [7,6,0,1,2,3,4,5,6,7],oP 9 (.mov (.k (.i .i64 0))) [8,0,1,2,3,4,5,6,7,8]] [(0,2),(1,2),(0,3),(0,6)]) .ret)),[.cell 8 true 4,.tmp 9]⟩
def zwj : XF := ⟨16,.seq (.reg [oP 2 (.box (.t 0)) [],oP 3 (.box (.t 1)) [],oP 4 (.new [.b false,.sn]) []]) (.seq (.reg [oP 9 (.load true 2 (.t 2)) [],oP 10 (.load true 2 (.t 3)) [],oP 11 (.call 29 [.t 9,.t 10]) [0,1],oM 8 11 [2],oP 12 (.ext (.t 8) 0) [3],oP 13 (.ext (.t 8) 1) [3],oP 14 (.ext (.t 8) 2) [3],oP 5 (.new [.b false,.sn]) [],oP 6 (.new [.b false,.sn]) [],oN (.store 2 (.t 5) (.t 12)) [7,4,2,0,1,2,3,4,7,8],oN (.store 2 (.t 6) (.t 13)) [8,5,9,0,1,2,3,4,5,7,8,9],oM 7 14 [6,10,0,1,2,3,4,5,6,7,8,9,10]]) (.seq (.reg [oP 15 (.load true 2 (.t 5)) [],oN (.store 2 (.t 4) (.t 15)) [0,0]]) .ret)),[.cell 4 true 2]⟩
def zxr : XC := .seq (.seq (.reg [oP 6 (.fad 1 (.t 1)) [],oP 7 (.load false 1 (.t 6)) [0],oP 8 (.len (.t 7)) [1],oP 9 (.bin .gtr (.t 8) (.k (.i .i64 0))) [2]]) (.cond (.t 9) .skip (.exit 0))) (.block 1 (.seq (.seq (.reg [oP 10 (.fad 1 (.t 1)) [],oP 11 (.load false 1 (.t 10)) [0],oP 12 (.len (.t 11)) [1],oP 13 (.bin .lss (.t 12) (.k (.i .i64 5))) [2]]) (.cond (.t 13) (.seq (.drw [oP 15 (.load true 2 (.t 1)) [],oP 16 (.call 114 [.k (.i .i64 2)]) [],oP 17 (.call 120 [.t 15,.t 16]) [0,1,1],oM 14 17 [2],oP 18 (.ext (.t 14) 0) [3],oP 19 (.ext (.t 14) 1) [3],oN (.store 2 (.t 1) (.t 18)) [4,2,0,1,2,3,4]] [(0,1)]) (.seq (.reg [oM 20 3 [],oP 21 (.bin .add (.t 20) (.k (.i .i64 1))) [0],oM 3 21 [1,0,1]]) (.exit 1))) .skip)) (.seq (.reg [oP 22 (.call 114 [.k (.i .i64 4294967296)]) [],oP 4 (.new [.b false,.sn]) [],oN (.store 2 (.t 4) (.t 22)) [1,0,0,0,1]]) (.seq (.reg [oP 23 (.load true 2 (.t 1)) [],oP 24 (.load true 2 (.t 4)) [],oP 25 (.call 124 [.t 23,.t 24]) [0,1],oP 26 (.bin .lss (.t 25) (.k (.i .i64 0))) [2]]) (.cond (.t 26) (.seq (.drw [oP 28 (.load true 2 (.t 1)) [],oP 29 (.call 114 [.k (.i .i64 2)]) [],oP 30 (.call 120 [.t 28,.t 29]) [0,1,1],oM 27 30 [2],oP 31 (.ext (.t 27) 0) [3],oP 32 (.ext (.t 27) 1) [3],oN (.store 2 (.t 1) (.t 31)) [4,2,0,1,2,3,4]] [(0,1)]) (.reg [oM 33 3 [],oP 34 (.bin .add (.t 33) (.k (.i .i64 1))) [0],oM 3 34 [1,0,1]])) (.seq (.reg [oP 36 (.load true 2 (.t 1)) [],oP 37 (.load true 2 (.t 4)) [],oP 38 (.call 120 [.t 36,.t 37]) [0,1],oM 35 38 [2],oP 39 (.ext (.t 35) 0) [3],oP 40 (.ext (.t 35) 1) [3],oN (.store 2 (.t 1) (.t 39)) [4,2,0,1,2,3,4]]) (.reg [oM 41 3 [],oP 42 (.bin .add (.t 41) (.k (.i .i64 32))) [0],oM 3 42 [1,0,1]])))))))
def zv4 : XF := ⟨44,.seq (.reg [oP 1 (.box (.t 0)) [],oP 2 (.mov (.k (.i .i64 0))) []]) (.seq (.reg [oP 5 (.fad 0 (.t 1)) [],oN (.store 1 (.t 5) (.k (.b false))) [0]]) (.seq (.reg [oP 3 (.mov (.k (.i .i64 0))) []]) (.seq (.block 0 (.loop zxr)) (.seq (.reg [oM 43 3 [],oM 2 43 [0,0]]) .ret)))),[.tmp 2]⟩
def zw5 : XF := ⟨27,.seq (.reg [oP 2 (.box (.t 0)) [],oP 3 (.box (.t 1)) [],oP 4 (.new [.b false,.sn,.b false,.sn]) [],oP 5 (.mov (.k (.i .i64 0))) []]) (.seq (.drw [oP 9 (.fad 0 (.t 2)) [],oP 10 (.load true 2 (.t 9)) [0],oP 11 (.fad 0 (.t 3)) [],oP 12 (.load true 2 (.t 11)) [2],oP 13 (.call 118 [.t 10,.t 12]) [1,3],oP 14 (.fad 2 (.t 2)) [],oP 15 (.load true 2 (.t 14)) [5],oP 16 (.fad 2 (.t 3)) [],oP 17 (.load true 2 (.t 16)) [7],oP 18 (.call 118 [.t 15,.t 17]) [6,8,4],oP 19 (.call 182 [.t 13,.t 18]) [4,9,9],oM 8 19 [10],oP 20 (.ext (.t 8) 0) [11],oP 21 (.ext (.t 8) 1) [11],oP 6 (.new [.b false,.sn,.b false,.sn]) [],oN (.store 4 (.t 6) (.t 20)) [14,12,10,0,1,2,3,4,5,6,7,8,9,10,11,12,14],oM 7 21 [13,15,0,1,2,3,4,5,6,7,8,9,10,11,12,13,14,15]] [(6,4),(8,4)]) (.seq (.reg [oP 22 (.load true 4 (.t 6)) [],oM 23 7 [],oP 24 (.call 208 [.t 22,.t 23]) [0,1],oP 25 (.ext (.t 24) 0) [2],oP 26 (.ext (.t 24) 1) [2],oN (.store 4 (.t 4) (.t 25)) [3,2,0,1,2,3,4],oM 5 26 [4,5,0,1,2,3,4,5]]) .ret)),[.cell 4 true 4,.tmp 5]⟩
def zvg : XC := .seq (.seq (.reg [oM 56 12 [],oP 57 (.bin .lss (.t 56) (.k (.i .i64 4))) [0]]) (.cond (.t 57) .skip (.exit 0))) (.seq (.block 1 (.seq (.reg [oM 60 11 [],oM 61 12 [],oP 62 (.ixs 2 (.t 60) (.t 61)) [0,1],oP 63 (.load true 2 (.t 62)) [2],oP 64 (.call 126 [.t 63]) [3],oM 13 64 [4,4,0,1,2,3,4]]) (.seq (.reg [oM 65 13 [],oP 66 (.un .not (.t 65)) [0]]) (.cond (.t 66) (.seq (.reg [oP 67 (.call 185 [.k (.i .i64 0)]) [],oN (.store 4 (.t 4) (.t 67)) [0,0,0],oP 5 (.mov (.k (.i .i64 4))) [1,0,1]]) .ret) .skip)))) (.reg [oM 58 12 [],oP 59 (.bin .add (.t 58) (.k (.i .i64 1))) [0],oM 12 59 [1,0,1]]))
def zvP : XF := ⟨77,.seq (.reg [oP 2 (.box (.t 0)) [],oP 3 (.box (.t 1)) [],oP 4 (.new [.b false,.sn,.b false,.sn]) [],oP 5 (.mov (.k (.i .i64 0))) []]) (.seq (.reg [oP 14 (.fad 2 (.t 2)) [],oP 15 (.load true 2 (.t 14)) [0],oP 16 (.fad 2 (.t 3)) [],oP 17 (.load true 2 (.t 16)) [2],oP 18 (.call 125 [.t 15,.t 17]) [1,3],oP 6 (.new [.b false,.sn]) [],oN (.store 2 (.t 6) (.t 18)) [5,4,4,0,1,2,3,4,5]]) (.seq (.reg [oP 20 (.fad 2 (.t 3)) [],oP 21 (.load true 2 (.t 20)) [0],oP 22 (.load true 2 (.t 6)) [],oP 23 (.call 120 [.t 21,.t 22]) [1,2],oM 19 23 [3],oP 24 (.ext (.t 19) 0) [4],oP 25 (.ext (.t 19) 1) [4],oP 7 (.new [.b false,.sn]) [],oP 8 (.new [.b false,.sn]) [],oN (.store 2 (.t 7) (.t 24)) [7,5,3,0,1,2,3,4,5,7,8],oN (.store 2 (.t 8) (.t 25)) [8,6,9,0,1,2,3,4,5,6,7,8,9]]) (.seq (.reg [oP 27 (.fad 2 (.t 2)) [],oP 28 (.load true 2 (.t 27)) [0],oP 29 (.load true 2 (.t 6)) [],oP 30 (.call 120 [.t 28,.t 29]) [1,2],oM 26 30 [3],oP 31 (.ext (.t 26) 0) [4],oP 32 (.ext (.t 26) 1) [4],oP 9 (.new [.b false,.sn]) [],oP 10 (.new [.b false,.sn]) [],oN (.store 2 (.t 9) (.t 31)) [7,5,3,0,1,2,3,4,5,7,8],oN (.store 2 (.t 10) (.t 32)) [8,6,9,0,1,2,3,4,5,6,7,8,9]]) (.seq (.drw [oP 33 (.fad 0 (.t 2)) [],oP 34 (.load true 2 (.t 33)) [0],oP 35 (.load true 2 (.t 7)) [],oP 36 (.call 118 [.t 34,.t 35]) [1,2],oP 37 (.fad 0 (.t 3)) [],oP 38 (.load true 2 (.t 37)) [4],oP 39 (.load true 2 (.t 9)) [],oP 40 (.call 118 [.t 38,.t 39]) [5,6,3],oP 41 (.load true 2 (.t 9)) [],oP 42 (.fad 2 (.t 3)) [],oP 43 (.load true 2 (.t 42)) [9],oP 44 (.call 118 [.t 41,.t 43]) [8,10,7],oP 45 (.bsl 3 2 [.b false,.sn] [(0,(2,.t 36)),(2,(2,.t 40)),(4,(2,.t 44))]) [3,7,11],oM 11 45 [12,11,0,1,2,3,4,5,6,7,8,9,10,11,12]] [(5,3),(6,3),(8,3),(8,7),(10,3),(10,7)]) (.seq (.drw [oM 46 11 [],oM 47 11 [],oP 48 (.ixs 2 (.t 47) (.k (.i .i64 0))) [1],oP 49 (.load true 2 (.t 48)) [2],oM 50 11 [],oP 51 (.ixs 2 (.t 50) (.k (.i .i64 1))) [4],oP 52 (.load true 2 (.t 51)) [5],oP 53 (.call 119 [.t 49,.t 52]) [3,6],oP 54 (.bsl 1 2 [.b false,.sn] [(0,(2,.t 53))]) [7],oP 55 (.app 2 32 (.t 46) (.t 54)) [0,8,7],oM 11 55 [9,9,0,1,2,3,4,5,6,7,8,9]] []) (.seq (.seq (.reg [oP 12 (.mov (.k (.i .i64 0))) []]) (.block 0 (.loop zvg))) (.seq (.drw [oM 68 11 [],oP 69 (.ixs 2 (.t 68) (.k (.i .i64 3))) [0],oP 70 (.load true 2 (.t 69)) [1],oM 71 11 [],oP 72 (.ixs 2 (.t 71) (.k (.i .i64 2))) [3],oP 73 (.load true 2 (.t 72)) [4],oP 74 (.call 182 [.t 70,.t 73]) [2,5],oP 75 (.ext (.t 74) 0) [6],oP 76 (.ext (.t 74) 1) [6],oN (.store 4 (.t 4) (.t 75)) [7,6,0,1,2,3,4,5,6,7,8],oM 5 76 [8,9,0,1,2,3,4,5,6,7,8,9]] []) .ret))))))),[.cell 4 true 4,.tmp 5]⟩
def zvd : XF := ⟨26,.seq (.reg [oP 2 (.box (.t 0)) [],oP 4 (.new [.b false,.sn,.b false,.sn]) [],oP 5 (.mov (.k (.i .i64 0))) []]) (.seq (.reg [oP 8 (.fad 0 (.t 2)) [],oP 9 (.load true 2 (.t 8)) [0],oP 10 (.call 126 [.t 9]) [1],oM 6 10 [2,2,0,1,2]]) (.seq (.reg [oP 11 (.fad 2 (.t 2)) [],oP 12 (.load true 2 (.t 11)) [0],oP 13 (.call 126 [.t 12]) [1],oM 7 13 [2,2,0,1,2]]) (.seq (.seq (.reg [oM 14 1 [],oP 15 (.bin .neq (.t 14) (.k (.i .i64 0))) [0]]) (.cond (.t 15) (.seq (.reg [oP 16 (.call 185 [.k (.i .i64 0)]) [],oM 17 1 [],oN (.store 4 (.t 4) (.t 16)) [0,0,0],oM 5 17 [1,2,0,1,2]]) .ret) .skip)) (.seq (.seq (.reg [oM 18 6 [],oP 19 (.un .not (.t 18)) [0],oM 20 19 [1],oF 21 (.mov (.t 7)) [2] 20,oF 22 (.un .not (.t 21)) [3,2] 20,oP 23 (.pick (.t 20) (.k (.b true)) (.t 22)) [2,4]]) (.cond (.t 23) (.seq (.reg [oP 24 (.call 185 [.k (.i .i64 0)]) [],oN (.store 4 (.t 4) (.t 24)) [0,0,0],oP 5 (.mov (.k (.i .i64 4))) [1,0,1]]) .ret) .skip)) (.seq (.reg [oP 25 (.load true 4 (.t 2)) [],oN (.store 4 (.t 4) (.t 25)) [0,0],oP 5 (.mov (.k (.i .i64 0))) [1,0,1]]) .ret))))),[.cell 4 true 4,.tmp 5]⟩
def zwS : XC := .seq (.seq (.reg [oM 15 8 [],oP 16 (.bin .geq (.t 15) (.k (.i .i64 0))) [0]]) (.cond (.t 16) .skip (.exit 0))) (.seq (.block 1 (.seq (.reg [oM 19 7 [],oP 20 (.bin .shl (.t 19) (.k (.i .u64 32))) [0],oM 21 0 [],oM 22 8 [],oP 23 (.ixs 1 (.t 21) (.t 22)) [2,3],oP 24 (.load false 1 (.t 23)) [4],oP 25 (.cint .u64 (.t 24)) [5],oP 26 (.bin .or (.t 20) (.t 25)) [1,6],oM 7 26 [7,0,1,2,3,4,5,6,7]]) (.seq (.reg [oM 27 6 [],oM 28 8 [],oM 29 7 [],oM 30 1 [],oP 31 (.cint .u64 (.t 30)) [3],oP 32 (.bin .quo (.t 29) (.t 31)) [2,4],oP 33 (.cint .u32 (.t 32)) [5],oP 34 (.ixs 1 (.t 27) (.t 28)) [0,1,0,1,2,3,4,5,6],oN (.store 1 (.t 34) (.t 33)) [7,6,0,1,2,3,4,5,6]]) (.reg [oM 35 7 [],oM 36 1 [],oP 37 (.cint .u64 (.t 36)) [1],oP 38 (.bin .rem (.t 35) (.t 37)) [0,2],oM 7 38 [3,0,1,2,3]])))) (.reg [oM 17 8 [],oP 18 (.bin .sub (.t 17) (.k (.i .i64 1))) [0],oM 8 18 [1,0,1]]))
def zvH : XF := ⟨42,.seq (.reg [oP 4 (.mov (.k .sn)) [],oP 5 (.mov (.k (.i .u32 0))) [0]]) (.seq (.reg [oM 9 0 [],oP 10 (.len (.t 9)) [0],oP 11 (.msl [.i .u32 0] 4 (.t 10) (.t 10)) [1,1],oM 6 11 [2,0,1,2]]) (.seq (.reg [oP 7 (.mov (.k (.i .u64 0))) []]) (.seq (.seq (.reg [oM 12 0 [],oP 13 (.len (.t 12)) [0],oP 14 (.bin .sub (.t 13) (.k (.i .i64 1))) [1],oM 8 14 [2,0,1,2]]) (.block 0 (.loop zwS))) (.seq (.reg [oM 39 6 [],oM 40 7 [],oP 41 (.cint .u32 (.t 40)) [1],oM 4 39 [0,0],oM 5 41 [2,3,0,1,2,3]]) .ret)))),[.tmp 4,.tmp 5]⟩
def zwP : XF := ⟨19,.seq (.reg [oP 2 (.box (.t 0)) [],oP 3 (.box (.t 1)) [],oP 4 (.new [.b false,.sn]) [],oP 5 (.mov (.k (.i .i64 0))) []]) (.seq (.drw [oP 6 (.fad 0 (.t 2)) [],oP 7 (.load false 1 (.t 6)) [0],oP 8 (.fad 0 (.t 3)) [],oP 9 (.load false 1 (.t 8)) [2],oP 10 (.eqt true 0 (.t 7) (.t 9)) [1,3],oP 11 (.fad 1 (.t 2)) [],oP 12 (.load false 1 (.t 11)) [5],oP 13 (.fad 1 (.t 3)) [],oP 14 (.load false 1 (.t 13)) [7],oP 15 (.call 59 [.t 12,.t 14]) [6,8],oP 16 (.call 36 [.t 10,.t 15]) [4,9,9],oP 17 (.ext (.t 16) 0) [10],oP 18 (.ext (.t 16) 1) [10],oN (.store 2 (.t 4) (.t 17)) [11,10,0,1,2,3,4,5,6,7,8,9,10,11,12],oM 5 18 [12,13,0,1,2,3,4,5,6,7,8,9,10,11,12,13]] [(1,9),(3,9)]) .ret),[.cell 4 true 2,.tmp 5]⟩
def zwQ : XF := ⟨12,.seq (.reg [oP 2 (.box (.t 0)) [],oP 3 (.box (.t 1)) [],oP 4 (.new [.b false,.sn]) [],oP 5 (.mov (.k (.i .i64 0))) []]) (.seq (.drw [oP 6 (.load true 2 (.t 2)) [],oP 7 (.load true 2 (.t 3)) [],oP 8 (.call 43 [.t 7]) [1],oP 9 (.call 23 [.t 6,.t 8]) [0,2,2],oP 10 (.ext (.t 9) 0) [3],oP 11 (.ext (.t 9) 1) [3],oN (.store 2 (.t 4) (.t 10)) [4,3,0,1,2,3,4,5],oM 5 11 [5,6,0,1,2,3,4,5,6]] [(0,2)]) .ret),[.cell 4 true 2,.tmp 5]⟩
def zvV : XF := ⟨24,.seq (.reg [oP 2 (.box (.t 0)) [],oP 3 (.box (.t 1)) [],oP 4 (.mov (.k (.i .i64 0))) []]) (.seq (.seq (.reg [oP 5 (.fad 0 (.t 2)) [],oP 6 (.load false 1 (.t 5)) [0],oP 7 (.fad 0 (.t 3)) [],oP 8 (.load false 1 (.t 7)) [2],oP 9 (.eqt true 0 (.t 6) (.t 8)) [1,3]]) (.cond (.t 9) (.seq (.seq (.reg [oP 10 (.fad 0 (.t 2)) [],oP 11 (.load false 1 (.t 10)) [0]]) (.cond (.t 11) (.seq (.reg [oP 4 (.mov (.k (.i .i64 (-1)))) []]) .ret) .skip)) (.seq (.reg [oP 4 (.mov (.k (.i .i64 1))) []]) .ret)) .skip)) (.seq (.seq (.reg [oP 12 (.fad 0 (.t 2)) [],oP 13 (.load false 1 (.t 12)) [0]]) (.cond (.t 13) (.seq (.reg [oP 14 (.fad 1 (.t 3)) [],oP 15 (.load false 1 (.t 14)) [0],oP 16 (.fad 1 (.t 2)) [],oP 17 (.load false 1 (.t 16)) [2],oP 18 (.call 134 [.t 15,.t 17]) [1,3],oM 4 18 [4,4,0,1,2,3,4]]) .ret) .skip)) (.seq (.reg [oP 19 (.fad 1 (.t 2)) [],oP 20 (.load false 1 (.t 19)) [0],oP 21 (.fad 1 (.t 3)) [],oP 22 (.load false 1 (.t 21)) [2],oP 23 (.call 134 [.t 20,.t 22]) [1,3],oM 4 23 [4,4,0,1,2,3,4]]) .ret))),[.tmp 4]⟩
def zv2 : XC := .seq (.reg [oP 13 (.bin .lss (.t 12) (.t 11)) []]) (.seq (.cond (.t 13) .skip (.exit 0)) (.seq (.block 1 (.seq (.reg [oP 14 (.ixs 2 (.t 10) (.t 12)) [],oP 15 (.load true 2 (.t 14)) [0],oP 6 (.new [.b false,.sn]) [],oN (.store 2 (.t 6) (.t 15)) [2,1,0,1,2]]) (.seq (.reg [oP 17 (.load true 2 (.t 4)) [],oP 18 (.load true 2 (.t 6)) [],oP 19 (.call 38 [.t 17,.t 18]) [0,1],oM 16 19 [2],oP 20 (.ext (.t 16) 0) [3],oP 21 (.ext (.t 16) 1) [3],oP 7 (.new [.b false,.sn]) [],oN (.store 2 (.t 7) (.t 20)) [6,4,2,0,1,2,3,4,6],oM 8 21 [5,7,0,1,2,3,4,5,6,7]]) (.seq (.seq (.reg [oM 22 8 [],oP 23 (.bin .neq (.t 22) (.k (.i .i64 0))) [0]]) (.cond (.t 23) (.seq (.reg [oP 24 (.build [.b false,.sn] []) [],oM 25 8 [],oN (.store 2 (.t 2) (.t 24)) [0,0],oM 3 25 [1,2,0,1,2]]) .ret) .skip)) (.reg [oP 26 (.load true 2 (.t 7)) [],oN (.store 2 (.t 4) (.t 26)) [0,0]]))))) (.reg [oP 27 (.bin .add (.t 12) (.k (.i .i64 1))) [],oM 12 27 [0]])))
def zwc : XF := ⟨29,.seq (.reg [oP 2 (.new [.b false,.sn]) [],oP 3 (.mov (.k (.i .i64 0))) []]) (.seq (.reg [oP 9 (.call 34 [.k (.i .i64 1)]) [],oP 4 (.new [.b false,.sn]) [],oN (.store 2 (.t 4) (.t 9)) [1,0,0,0,1]]) (.seq (.seq (.reg [oM 10 0 [],oP 11 (.len (.t 10)) [0],oP 12 (.mov (.k (.i .i64 0))) []]) (.block 0 (.loop zv2))) (.seq (.reg [oP 28 (.load true 2 (.t 4)) [],oN (.store 2 (.t 2) (.t 28)) [0,0],oP 3 (.mov (.k (.i .i64 0))) [1,0,1]]) .ret))),[.cell 2 true 2,.tmp 3]⟩
def zva : XF := ⟨6,.seq (.reg [oP 2 (.mov (.k (.i .i64 0))) []]) (.seq (.reg [oM 3 0 [],oP 4 (.call 76 [.t 3]) [0],oP 5 (.bin .sub (.k (.i .i64 32)) (.t 4)) [1],oM 2 5 [2,1,0,1,2]]) .ret),[.tmp 2]⟩
def zwi : XC := .seq (.reg [oP 16 (.bin .lss (.t 15) (.t 14)) []]) (.seq (.cond (.t 16) .skip (.exit 0)) (.seq (.block 1 (.seq (.reg [oM 17 15 [],oP 18 (.ixs 1 (.t 13) (.t 15)) [],oP 19 (.load false 1 (.t 18)) [1],oM 6 17 [0,0,1,2],oM 7 19 [2,3,0,1,2,3]]) (.seq (.reg [oM 20 7 [],oP 21 (.cint .u64 (.t 20)) [0],oM 22 1 [],oP 23 (.bin .shl (.t 21) (.t 22)) [1,2],oM 8 23 [3,0,1,2,3]]) (.seq (.reg [oM 24 5 [],oM 25 6 [],oP 26 (.ixs 1 (.t 24) (.t 25)) [0,1],oP 27 (.load false 1 (.t 26)) [2],oM 28 8 [],oP 29 (.cint .u32 (.t 28)) [4],oP 30 (.bin .or (.t 27) (.t 29)) [3,5],oP 31 (.ixs 1 (.t 24) (.t 25)) [0,1,0,1,2,3,4,5,6],oN (.store 1 (.t 31) (.t 30)) [7,6,0,1,2,3,4,5,6]]) (.reg [oM 32 5 [],oM 33 6 [],oP 34 (.bin .add (.t 33) (.k (.i .i64 1))) [1],oM 35 8 [],oP 36 (.bin .shr (.t 35) (.k (.i .u64 32))) [3],oP 37 (.cint .u32 (.t 36)) [4],oP 38 (.ixs 1 (.t 32) (.t 34)) [0,2,0,1,2,3,4,5],oN (.store 1 (.t 38) (.t 37)) [6,5,0,1,2,3,4,5]]))))) (.reg [oP 39 (.bin .add (.t 15) (.k (.i .i64 1))) [],oM 15 39 [0]])))
def zvL : XF := ⟨41,.seq (.reg [oP 4 (.mov (.k .sn)) []]) (.seq (.reg [oM 9 0 [],oP 10 (.len (.t 9)) [0],oP 11 (.bin .add (.t 10) (.k (.i .i64 1))) [1],oP 12 (.msl [.i .u32 0] 4 (.t 11) (.t 11)) [2,2],oM 5 12 [3,0,1,2,3]]) (.seq (.seq (.reg [oM 13 0 [],oP 14 (.len (.t 13)) [0],oP 15 (.mov (.k (.i .i64 0))) []]) (.block 0 (.loop zwi))) (.seq (.reg [oM 40 5 [],oM 4 40 [0,0]]) .ret))),[.tmp 4]⟩
def zwh : XC := .seq (.reg [oP 15 (.bin .lss (.t 14) (.t 13)) []]) (.seq (.cond (.t 15) .skip (.exit 0)) (.seq (.block 1 (.seq (.reg [oM 16 14 [],oM 9 16 [0,0]]) (.seq (.reg [oM 17 7 [],oM 10 17 [0,0]]) (.seq (.seq (.reg [oM 18 9 [],oM 19 1 [],oP 20 (.len (.t 19)) [1],oP 21 (.bin .lss (.t 18) (.t 20)) [0,2]]) (.cond (.t 21) (.reg [oM 22 10 [],oM 23 2 [],oM 24 1 [],oM 25 9 [],oP 26 (.ixs 1 (.t 24) (.t 25)) [2,3],oP 27 (.load false 1 (.t 26)) [4],oP 28 (.cint .u64 (.t 27)) [5],oP 29 (.bin .mul (.t 23) (.t 28)) [1,6],oP 30 (.bin .add (.t 22) (.t 29)) [0,7],oM 10 30 [8,0,1,2,3,4,5,6,7,8]]) .skip)) (.seq (.reg [oM 31 10 [],oP 32 (.bin .shr (.t 31) (.k (.i .u64 32))) [0],oM 7 32 [1,0,1]]) (.seq (.reg [oM 33 0 [],oM 34 9 [],oP 35 (.ixs 1 (.t 33) (.t 34)) [0,1],oP 36 (.load false 1 (.t 35)) [2],oP 37 (.cint .u64 (.t 36)) [3],oM 38 10 [],oP 39 (.cint .u32 (.t 38)) [5],oP 40 (.cint .u64 (.t 39)) [6],oP 41 (.bin .sub (.t 37) (.t 40)) [4,7],oM 42 8 [],oP 43 (.bin .sub (.t 41) (.t 42)) [8,9],oM 11 43 [10,0,1,2,3,4,5,6,7,8,9,10]]) (.seq (.reg [oM 44 0 [],oM 45 9 [],oM 46 11 [],oP 47 (.cint .u32 (.t 46)) [2],oP 48 (.ixs 1 (.t 44) (.t 45)) [0,1,0,1,2,3],oN (.store 1 (.t 48) (.t 47)) [4,3,0,1,2,3]]) (.reg [oM 49 11 [],oP 50 (.bin .shr (.t 49) (.k (.i .u64 63))) [0],oM 8 50 [1,0,1]])))))))) (.reg [oP 51 (.bin .add (.t 14) (.k (.i .i64 1))) [],oM 14 51 [0]])))
def zws : XF := ⟨54,.seq (.reg [oP 6 (.mov (.k (.b false))) []]) (.seq (.reg [oP 7 (.mov (.k (.i .u64 0))) [],oP 8 (.mov (.k (.i .u64 0))) [0]]) (.seq (.seq (.reg [oM 12 0 [],oP 13 (.len (.t 12)) [0],oP 14 (.mov (.k (.i .i64 0))) []]) (.block 0 (.loop zwh))) (.seq (.reg [oM 52 8 [],oP 53 (.bin .gtr (.t 52) (.k (.i .u64 0))) [0],oM 6 53 [1,0,1]]) .ret))),[.tmp 6]⟩
def zvG : XF := ⟨3,.seq (.reg [oP 0 (.mov (.k .fnil)) []]) (.seq (.reg [oP 1 (.new [.i .u64 0]) []]) (.seq (.reg [oP 2 (.mfn 77 [.t 1]) [],oM 0 2 [0,0]]) .ret)),[.tmp 0]⟩
def zvp : XC := .seq (.reg [oP 12 (.bin .lss (.t 11) (.t 10)) []]) (.seq (.cond (.t 12) .skip (.exit 0)) (.seq (.block 1 (.seq (.reg [oM 13 11 [],oM 6 13 [0,0]]) (.seq (.reg [oM 14 5 [],oM 7 14 [0,0]]) (.seq (.seq (.reg [oM 15 6 [],oM 16 1 [],oP 17 (.len (.t 16)) [1],oP 18 (.bin .lss (.t 15) (.t 17)) [0,2]]) (.cond (.t 18) (.reg [oM 19 7 [],oM 20 1 [],oM 21 6 [],oP 22 (.ixs 1 (.t 20) (.t 21)) [1,2],oP 23 (.load false 1 (.t 22)) [3],oP 24 (.cint .u64 (.t 23)) [4],oP 25 (.bin .add (.t 19) (.t 24)) [0,5],oM 7 25 [6,0,1,2,3,4,5,6]]) .skip)) (.seq (.reg [oM 26 0 [],oM 27 6 [],oP 28 (.ixs 1 (.t 26) (.t 27)) [0,1],oP 29 (.load false 1 (.t 28)) [2],oP 30 (.cint .u64 (.t 29)) [3],oM 8 30 [4,0,1,2,3,4]]) (.seq (.reg [oP 5 (.mov (.k (.i .u64 0))) []]) (.seq (.seq (.reg [oM 31 7 [],oM 32 8 [],oP 33 (.bin .gtr (.t 31) (.t 32)) [0,1]]) (.cond (.t 33) (.seq (.reg [oM 34 8 [],oP 35 (.bin .add (.t 34) (.k (.i .u64 4294967296))) [0],oM 8 35 [1,0,1]]) (.reg [oP 5 (.mov (.k (.i .u64 1))) []])) .skip)) (.reg [oM 36 0 [],oM 37 6 [],oM 38 8 [],oM 39 7 [],oP 40 (.bin .sub (.t 38) (.t 39)) [2,3],oP 41 (.cint .u32 (.t 40)) [4],oP 42 (.ixs 1 (.t 36) (.t 37)) [0,1,0,1,2,3,4,5],oN (.store 1 (.t 42) (.t 41)) [6,5,0,1,2,3,4,5]])))))))) (.reg [oP 43 (.bin .add (.t 11) (.k (.i .i64 1))) [],oM 11 43 [0]])))
def zve : XF := ⟨46,.seq (.reg [oP 4 (.mov (.k (.i .u32 0))) []]) (.seq (.reg [oP 5 (.mov (.k (.i .u64 0))) []]) (.seq (.seq (.reg [oM 9 0 [],oP 10 (.len (.t 9)) [0],oP 11 (.mov (.k (.i .i64 0))) []]) (.block 0 (.loop zvp))) (.seq (.reg [oM 44 5 [],oP 45 (.cint .u32 (.t 44)) [0],oM 4 45 [1,0,1]]) .ret))),[.tmp 4]⟩
def zvo : XF := ⟨20,.seq (.reg [oP 4 (.mov (.k (.i .i64 0))) []]) (.seq (.reg [oM 7 0 [],oP 8 (.call 78 [.t 7]) [0],oM 5 8 [1,1,0,1]]) (.seq (.reg [oM 9 1 [],oP 10 (.call 78 [.t 9]) [0],oM 6 10 [1,1,0,1]]) (.seq (.seq (.reg [oM 11 5 []]) (.cond (.t 11) (.seq (.seq (.reg [oM 12 6 []]) (.cond (.t 12) (.seq (.reg [oP 4 (.mov (.k (.i .i64 0))) []]) .ret) .skip)) (.seq (.reg [oP 4 (.mov (.k (.i .i64 (-1)))) []]) .ret)) .skip)) (.seq (.seq (.reg [oM 13 6 []]) (.cond (.t 13) (.seq (.reg [oP 4 (.mov (.k (.i .i64 1))) []]) .ret) .skip)) (.seq (.seq (.reg [oM 14 0 [],oM 15 1 [],oP 16 (.bin .lss (.t 14) (.t 15)) [0,1]]) (.cond (.t 16) (.seq (.reg [oP 4 (.mov (.k (.i .i64 (-1)))) []]) .ret) .skip)) (.seq (.seq (.reg [oM 17 0 [],oM 18 1 [],oP 19 (.bin .gtr (.t 17) (.t 18)) [0,1]]) (.cond (.t 19) (.seq (.reg [oP 4 (.mov (.k (.i .i64 1))) []]) .ret) .skip)) (.seq (.reg [oP 4 (.mov (.k (.i .i64 0))) []]) .ret))))))),[.tmp 4]⟩
def zvh : XF := ⟨20,.seq (.reg [oP 4 (.mov (.k (.i .i64 0))) []]) (.seq (.reg [oM 7 0 [],oP 8 (.call 79 [.t 7]) [0],oM 5 8 [1,1,0,1]]) (.seq (.reg [oM 9 1 [],oP 10 (.call 79 [.t 9]) [0],oM 6 10 [1,1,0,1]]) (.seq (.seq (.reg [oM 11 5 []]) (.cond (.t 11) (.seq (.seq (.reg [oM 12 6 []]) (.cond (.t 12) (.seq (.reg [oP 4 (.mov (.k (.i .i64 0))) []]) .ret) .skip)) (.seq (.reg [oP 4 (.mov (.k (.i .i64 (-1)))) []]) .ret)) .skip)) (.seq (.seq (.reg [oM 13 6 []]) (.cond (.t 13) (.seq (.reg [oP 4 (.mov (.k (.i .i64 1))) []]) .ret) .skip)) (.seq (.seq (.reg [oM 14 0 [],oM 15 1 [],oP 16 (.bin .lss (.t 14) (.t 15)) [0,1]]) (.cond (.t 16) (.seq (.reg [oP 4 (.mov (.k (.i .i64 (-1)))) []]) .ret) .skip)) (.seq (.seq (.reg [oM 17 0 [],oM 18 1 [],oP 19 (.bin .gtr (.t 17) (.t 18)) [0,1]]) (.cond (.t 19) (.seq (.reg [oP 4 (.mov (.k (.i .i64 1))) []]) .ret) .skip)) (.seq (.reg [oP 4 (.mov (.k (.i .i64 0))) []]) .ret))))))),[.tmp 4]⟩
def zvv : XF := ⟨53,.seq (.reg [oP 4 (.mov (.k (.i .i64 0))) [],oP 5 (.mov (.k (.i .i64 0))) [0]]) (.seq (.reg [oM 9 1 [],oP 10 (.len (.t 9)) [0],oM 6 10 [1,0,1]]) (.seq (.seq (.reg [oM 11 0 [],oP 12 (.len (.t 11)) [0],oM 13 6 [],oP 14 (.bin .lss (.t 12) (.t 13)) [1,2],oM 15 14 [3],oF 16 (.mov (.t 6)) [4] 15,oF 17 (.bin .eql (.t 16) (.k (.i .i64 0))) [5,4] 15,oP 18 (.pick (.t 15) (.k (.b true)) (.t 17)) [4,6]]) (.cond (.t 18) (.seq (.reg [oP 4 (.mov (.k (.i .i64 0))) [],oP 5 (.mov (.k (.i .i64 0))) [0,0]]) .ret) .skip)) (.seq (.reg [oM 19 0 [],oM 20 6 [],oP 21 (.call 159 [.t 19,.t 20]) [0,1],oP 22 (.bin .mul (.k (.i .i64 10000)) (.t 21)) [2],oM 23 0 [],oM 24 6 [],oP 25 (.bin .sub (.t 24) (.k (.i .i64 1))) [5],oP 26 (.call 159 [.t 23,.t 25]) [4,6,2],oP 27 (.bin .add (.t 22) (.t 26)) [3,7],oP 28 (.bin .mul (.k (.i .i64 10000)) (.t 27)) [8],oM 29 0 [],oM 30 6 [],oP 31 (.bin .sub (.t 30) (.k (.i .i64 2))) [11],oP 32 (.call 159 [.t 29,.t 31]) [10,12,7],oP 33 (.bin .add (.t 28) (.t 32)) [9,13],oM 7 33 [14,13,0,1,2,3,4,5,6,7,8,9,10,11,12,13,14]]) (.seq (.reg [oM 34 1 [],oM 35 6 [],oP 36 (.bin .sub (.t 35) (.k (.i .i64 1))) [1],oP 37 (.call 159 [.t 34,.t 36]) [0,2],oP 38 (.bin .mul (.k (.i .i64 10000)) (.t 37)) [3],oM 39 1 [],oM 40 6 [],oP 41 (.bin .sub (.t 40) (.k (.i .i64 2))) [6],oP 42 (.call 159 [.t 39,.t 41]) [5,7,3],oP 43 (.bin .add (.t 38) (.t 42)) [4,8],oM 8 43 [9,8,0,1,2,3,4,5,6,7,8,9]]) (.seq (.drw [oM 44 7 [],oM 45 8 [],oP 46 (.bin .add (.t 45) (.k (.i .i64 1))) [1],oP 47 (.bin .quo (.t 44) (.t 46)) [0,2],oP 48 (.mm false (.k (.i .i64 9999)) [.t 47]) [3],oM 49 7 [],oM 50 8 [],oP 51 (.bin .quo (.t 49) (.t 50)) [5,6],oP 52 (.mm false (.k (.i .i64 9999)) [.t 51]) [7],oM 4 48 [4,0,1,2,3,4],oM 5 52 [8,9,0,1,2,3,4,5,6,7,8,9]] []) .ret))))),[.tmp 4,.tmp 5]⟩
def zwv : XF := ⟨13,.seq (.reg [oP 4 (.mov (.k .sn)) []]) (.seq (.reg [oM 6 0 [],oP 7 (.build [.b false,.sn] [(1,(1,.t 6))]) [0],oM 8 1 [],oP 9 (.call 114 [.t 8]) [2],oP 10 (.call 118 [.t 7,.t 9]) [1,3,3],oP 5 (.new [.b false,.sn]) [],oN (.store 2 (.t 5) (.t 10)) [5,4,4,0,1,2,3,4,5]]) (.seq (.reg [oP 11 (.fad 1 (.t 5)) [],oP 12 (.load false 1 (.t 11)) [0],oM 4 12 [1,0,1]]) .ret)),[.tmp 4]⟩
def zu1 : XF := ⟨15,.seq (.reg [oP 4 (.mov (.k (.s []))) [],oP 5 (.mov (.k (.b false))) [0]]) (.seq (.seq (.reg [oM 6 0 [],oM 7 1 [],oP 8 (.call 85 [.t 6,.t 7]) [0,1],oP 9 (.un .not (.t 8)) [2]]) (.cond (.t 9) (.seq (.reg [oM 10 0 [],oM 4 10 [0,0],oP 5 (.mov (.k (.b false))) [1,0,1]]) .ret) .skip)) (.seq (.reg [oM 11 0 [],oM 12 1 [],oP 13 (.lens (.t 12)) [1],oP 14 (.slstr (.t 11) (some (.t 13)) none) [0,2],oM 4 14 [3,0,1,2,3],oP 5 (.mov (.k (.b true))) [4,0,1,2,3,4]]) .ret)),[.tmp 4,.tmp 5]⟩
def zwW : XF := ⟨15,.seq (.reg [oP 1 (.box (.t 0)) [],oP 2 (.mov (.k (.b false))) []]) (.seq (.seq (.reg [oP 4 (.fad 1 (.t 1)) [],oP 5 (.load false 1 (.t 4)) [0],oP 6 (.len (.t 5)) [1],oP 7 (.bin .lss (.t 6) (.k (.i .i64 1230))) [2]]) (.cond (.t 7) (.seq (.reg [oP 2 (.mov (.k (.b true))) []]) .ret) .skip)) (.seq (.reg [oP 8 (.call 128 [.k (.i .i64 16384)]) [],oP 3 (.new [.b false,.sn]) [],oN (.store 2 (.t 3) (.t 8)) [1,0,0,0,1]]) (.seq (.reg [oP 9 (.fad 1 (.t 1)) [],oP 10 (.load false 1 (.t 9)) [0],oP 11 (.fad 1 (.t 3)) [],oP 12 (.load false 1 (.t 11)) [2],oP 13 (.call 134 [.t 10,.t 12]) [1,3],oP 14 (.bin .lss (.t 13) (.k (.i .i64 0))) [4],oM 2 14 [5,4,0,1,2,3,4,5]]) .ret))),[.tmp 2]⟩
def zvs : XF := ⟨19,.seq (.reg [oP 2 (.mov (.k (.i .i64 0))) []]) (.seq (.seq (.reg [oM 3 0 [],oP 4 (.bin .geq (.t 3) (.k (.i .u32 65536))) [0]]) (.cond (.t 4) (.seq (.reg [oM 5 0 [],oP 6 (.bin .shr (.t 5) (.k (.i .u64 16))) [0],oM 0 6 [1,0,1]]) (.reg [oP 2 (.mov (.k (.i .i64 16))) []])) .skip)) (.seq (.seq (.reg [oM 7 0 [],oP 8 (.bin .geq (.t 7) (.k (.i .u32 256))) [0]]) (.cond (.t 8) (.seq (.reg [oM 9 0 [],oP 10 (.bin .shr (.t 9) (.k (.i .u64 8))) [0],oM 0 10 [1,0,1]]) (.reg [oM 11 2 [],oP 12 (.bin .add (.t 11) (.k (.i .i64 8))) [0],oM 2 12 [1,0,1]])) .skip)) (.seq (.reg [oM 13 2 [],oM 14 0 [],oP 15 (.cint .u8 (.t 14)) [1],oP 16 (.istr (.k (.s xs_1d3e63)) (.t 15)) [2],oP 17 (.cint .i64 (.t 16)) [3],oP 18 (.bin .add (.t 13) (.t 17)) [0,4],oM 2 18 [5,0,1,2,3,4,5]]) .ret))),[.tmp 2]⟩
def zvx : XF := ⟨13,.seq (.reg [oP 3 (.mov (.k (.i .u32 0))) []]) (.seq (.reg [oP 5 (.load false 1 (.t 1)) [],oM 6 0 [],oP 7 (.bin .add (.t 5) (.t 6)) [0,1],oN (.store 1 (.t 1) (.t 7)) [2,0,1,2]]) (.seq (.reg [oP 8 (.load false 1 (.t 1)) [],oP 9 (.cint .u32 (.t 8)) [0],oM 4 9 [1,0,1]]) (.seq (.reg [oP 10 (.load false 1 (.t 1)) [],oP 11 (.bin .shr (.t 10) (.k (.i .u64 32))) [0],oN (.store 1 (.t 1) (.t 11)) [1,0,1]]) (.seq (.reg [oM 12 4 [],oM 3 12 [0,0]]) .ret)))),[.tmp 3]⟩
def zvw : XF := ⟨6,.seq (.reg [oP 2 (.mov (.k (.b false))) []]) (.seq (.reg [oM 3 0 [],oM 4 0 [],oP 5 (.bin .neq (.t 3) (.t 4)) [0,1],oM 2 5 [2,0,1,2]]) .ret),[.tmp 2]⟩
def zvm : XF := ⟨6,.seq (.reg [oP 2 (.mov (.k (.b false))) []]) (.seq (.reg [oM 3 0 [],oM 4 0 [],oP 5 (.bin .neq (.t 3) (.t 4)) [0,1],oM 2 5 [2,0,1,2]]) .ret),[.tmp 2]⟩
def zwd : XF := ⟨17,.seq (.reg [oP 4 (.mov (.k (.i .i64 0))) []]) (.seq (.seq (.reg [oM 5 1 [],oP 6 (.bin .lss (.t 5) (.k (.i .i64 0))) [0],oM 7 6 [1],oF 8 (.mov (.t 1)) [2] 7,oF 9 (.mov (.t 0)) [2] 7,oF 10 (.len (.t 9)) [4,2] 7,oF 11 (.bin .geq (.t 8) (.t 10)) [3,5,2] 7,oP 12 (.pick (.t 7) (.k (.b true)) (.t 11)) [2,6]]) (.cond (.t 12) (.seq (.reg [oP 4 (.mov (.k (.i .i64 0))) []]) .ret) .skip)) (.seq (.reg [oM 13 0 [],oM 14 1 [],oP 15 (.ixs 1 (.t 13) (.t 14)) [0,1],oP 16 (.load false 1 (.t 15)) [2],oM 4 16 [3,0,1,2,3]]) .ret)),[.tmp 4]⟩
def zu2 : XF := ⟨18,.seq (.reg [oP 4 (.mov (.k (.b false))) []]) (.seq (.reg [oM 5 0 [],oP 6 (.lens (.t 5)) [0],oM 7 1 [],oP 8 (.lens (.t 7)) [2],oP 9 (.bin .geq (.t 6) (.t 8)) [1,3],oM 10 9 [4],oT 11 (.mov (.t 0)) [5] 10,oT 12 (.mov (.t 1)) [5] 10,oT 13 (.lens (.t 12)) [7,5] 10,oT 14 (.slstr (.t 11) none (some (.t 13))) [6,8,5] 10,oT 15 (.mov (.t 1)) [5] 10,oT 16 (.bin .eql (.t 14) (.t 15)) [9,10,5] 10,oP 17 (.pick (.t 10) (.t 16) (.k (.b false))) [5,11],oM 4 17 [12,5,0,1,2,3,4,5,6,7,8,9,10,11,12]]) .ret),[.tmp 4]⟩
noncomputable def progL : List (Option XD) := [
 none,
 none,
 none,
 none,
 none,
 none,
 none,
 none,
 some (.fn zwK),
 some (.fn zwL),
 none,
 none,
 none,
 none,
 none,
 none,
 some (.fn zu4),
 some (.fn zw1),
 some (.fn zwH),
 some (.fn zu7),
 some (.fn zwc),
 some (.fn zwj),
 some (.fn zvj),
 some (.fn zwI),
 some (.fn zvf),
 none,
 none,
 none,
 none,
 some (.fn zwZ),
 some (.fn zvN),
 some (.fn zwp),
 none,
 some (.orc (orcA 33)),
 some (.fn zwk),
 some (.fn zu9),
 some (.fn zv0),
 some (.fn zwu),
 some (.fn zwP),
 some (.fn zwQ),
 some (.fn zwX),
 some (.fn zvJ),
 some (.fn zvb),
 some (.fn zwM),
 some (.fn zvZ),
 none,
 none,
 none,
 some (.fn zvH),
 some (.fn zvz),
 some (.orc (orcA 50)),
 some (.orc (orcA 51)),
 none,
 none,
 none,
 some (.fn zva),
 some (.fn zvL),
 some (.fn zws),
 some (.fn zvG),
 some (.fn zvq),
 some (.fn zvo),
 some (.fn zvh),
 some (.fn zve),
 some (.fn zvl),
 some (.fn zu8),
 some (.fn zvE),
 none,
 some (.fn zwm),
 none,
 none,
 none,
 none,
 none,
 none,
 none,
 none,
 some (.fn zvs),
 some (.fn zvx),
 some (.fn zvw),
 some (.fn zvm),
 some (.fn zu6),
 none,
 none,
 none,
 none,
 some (.fn zu2),
 none,
 none,
 none,
 none,
 none,
 none,
 none,
 none,
 none,
 none,
 none,
 none,
 none,
 none,
 none,
 none,
 none,
 none,
 none,
 none,
 none,
 some (.fn zvC),
 none,
 none,
 some (.fn zvr),
 none,
 none,
 none,
 some (.fn zxh),
 none,
 none,
 none,
 some (.fn zvR),
 some (.fn zw9),
 some (.fn zw8),
 some (.fn zw3),
 none,
 some (.fn zw0),
 some (.fn zvV),
 some (.fn zw6),
 some (.fn zwW),
 some (.fn zvY),
 some (.fn zwo),
 some (.fn zvn),
 some (.orc (orcA 130)),
 some (.orc (orcA 131)),
 some (.fn zwe),
 some (.fn zwR),
 some (.fn zvI),
 some (.fn zwr),
 some (.fn zvk),
 some (.fn zu1),
 none,
 none,
 none,
 none,
 none,
 none,
 none,
 none,
 none,
 some (.fn zxq),
 some (.fn zvv),
 some (.fn zwv),
 none,
 none,
 none,
 none,
 none,
 none,
 none,
 none,
 none,
 some (.fn zwd),
 none,
 none,
 none,
 none,
 none,
 none,
 none,
 none,
 none,
 none,
 none,
 none,
 none,
 none,
 none,
 none,
 none,
 none,
 none,
 some (.fn zv3),
 some (.fn zvc),
 none,
 some (.fn zvB),
 none,
 none,
 some (.fn zxm),
 none,
 some (.fn zvD),
 none,
 none,
 some (.fn zvP),
 none,
 some (.fn zw5),
 some (.fn zvQ),
 none,
 none,
 some (.fn zwN),
 none,
 none,
 some (.fn zwY),
 none,
 none,
 none,
 none,
 none,
 none,
 none,
 none,
 some (.fn zvd),
 none,
 none,
 none,
 none,
 none,
 none,
 none,
 none,
 none,
 none,
 none,
 none,
 none,
 some (.orc (orcA 222)),
 none,
 none,
 none,
 none,
 none,
 none,
 none,
 none,
 none,
 none,
 none,
 none,
 none,
 none,
 none,
 none,
 none,
 none,
 none,
 none,
 none,
 none,
 none,
 none,
 none,
 none,
 none,
 none,
 none,
 none,
 none,
 none,
 none,
 none,
 none,
 none,
 none,
 none,
 none,
 none,
 none,
 none,
 none,
 none,
 none,
 none,
 none,
 none,
 none,
 none,
 none,
 none,
 none,
 none,
 none,
 none,
 none,
 none,
 none,
 none,
 none,
 none,
 none,
 none,
 none,
 none,
 none,
 none,
 none,
 none,
 none,
 none,
 none,
 none,
 none,
 none,
 none,
 none,
 some (.fn zwF),
 some (.fn zv9),
 some (.fn zwt),
 some (.fn zwl),
 some (.fn zuY),
 some (.fn zwO),
 some (.fn zw4),
 some (.fn zvi),
 some (.fn zwn),
 some (.fn zwU),
 some (.fn zvM),
 some (.fn zww),
 some (.fn zv6),
 some (.fn zvW),
 some (.fn zwf),
 some (.fn zvO),
 some (.fn zv7),
 some (.fn zuW),
 some (.fn zv8),
 some (.fn zvF),
 none,
 none,
 none,
 some (.fn zvt),
 none,
 none,
 none,
 none,
 none,
 some (.fn zuX),
 some (.fn zvK),
 none,
 none,
 none,
 none,
 none,
 none,
 none,
 none,
 none,
 some (.fn zwq),
 some (.fn zxp),
 some (.fn zu0),
 none,
 none,
 none,
 none,
 none,
 none,
 none,
 none,
 none,
 none,
 none,
 none,
 none,
 some (.fn zwa),
 some (.fn zw2),
 some (.fn zwb),
 some (.fn zw7),
 none,
 none,
 none,
 none,
 none,
 none,
 none,
 none,
 none,
 none,
 none,
 none,
 none,
 none,
 some (.fn zv4),
 none,
 none,
 none,
 none,
 none,
 none,
 none,
 none,
 none,
 none,
 none,
 none]
noncomputable def prog (f : Nat) : Option XD := (progL[f]?).join
end Go.Eng
namespace Go.Eng
def impL : List Nat := [52, 53, 54, 56, 57, 58, 62, 73, 74, 75, 77, 86, 89, 90, 263, 318]
noncomputable def E0 : PEnv := { prog := prog, pure := fun f => !(impL.contains f), glob := globG, orc := orcP }
@[go_sem] theorem zuh (a : List PV) (M : PM) : pcl E0 8 a M = pclA E0 8 M (fzL (fz M fzD) a) := zae a M rfl
@[go_sem] theorem zui (a : List PV) (M : PM) : pcl E0 9 a M = pclA E0 9 M (fzL (fz M fzD) a) := zae a M rfl
@[go_sem] theorem zsE (a : List PV) (M : PM) : pcl E0 16 a M = pclA E0 16 M (fzL (fz M fzD) a) := zae a M rfl
@[go_sem] theorem zsF (a : List PV) (M : PM) : pcl E0 17 a M = pclA E0 17 M (fzL (fz M fzD) a) := zae a M rfl
@[go_sem] theorem zsG (a : List PV) (M : PM) : pcl E0 18 a M = pclA E0 18 M (fzL (fz M fzD) a) := zae a M rfl
@[go_sem] theorem zsH (a : List PV) (M : PM) : pcl E0 19 a M = pclA E0 19 M (fzL (fz M fzD) a) := zae a M rfl
@[go_sem] theorem zsI (a : List PV) (M : PM) : pcl E0 20 a M = pclA E0 20 M (fzL (fz M fzD) a) := zae a M rfl
@[go_sem] theorem zsJ (a : List PV) (M : PM) : pcl E0 21 a M = pclA E0 21 M (fzL (fz M fzD) a) := zae a M rfl
@[go_sem] theorem zsK (a : List PV) (M : PM) : pcl E0 22 a M = pclA E0 22 M (fzL (fz M fzD) a) := zae a M rfl
@[go_sem] theorem zsL (a : List PV) (M : PM) : pcl E0 23 a M = pclA E0 23 M (fzL (fz M fzD) a) := zae a M rfl
@[go_sem] theorem zsM (a : List PV) (M : PM) : pcl E0 24 a M = pclA E0 24 M (fzL (fz M fzD) a) := zae a M rfl
@[go_sem] theorem zsN (a : List PV) (M : PM) : pcl E0 29 a M = pclA E0 29 M (fzL (fz M fzD) a) := zae a M rfl
@[go_sem] theorem zsO (a : List PV) (M : PM) : pcl E0 30 a M = pclA E0 30 M (fzL (fz M fzD) a) := zae a M rfl
@[go_sem] theorem zsP (a : List PV) (M : PM) : pcl E0 31 a M = pclA E0 31 M (fzL (fz M fzD) a) := zae a M rfl
@[go_sem] theorem zsQ (a : List PV) (M : PM) : pcl E0 33 a M = pclA E0 33 M (fzL (fz M fzD) a) := zae a M rfl
@[go_sem] theorem zsR (a : List PV) (M : PM) : pcl E0 34 a M = pclA E0 34 M (fzL (fz M fzD) a) := zae a M rfl
@[go_sem] theorem zsS (a : List PV) (M : PM) : pcl E0 35 a M = pclA E0 35 M (fzL (fz M fzD) a) := zae a M rfl
@[go_sem] theorem zsT (a : List PV) (M : PM) : pcl E0 36 a M = pclA E0 36 M (fzL (fz M fzD) a) := zae a M rfl
@[go_sem] theorem zsU (a : List PV) (M : PM) : pcl E0 37 a M = pclA E0 37 M (fzL (fz M fzD) a) := zae a M rfl
@[go_sem] theorem zsV (a : List PV) (M : PM) : pcl E0 38 a M = pclA E0 38 M (fzL (fz M fzD) a) := zae a M rfl
@[go_sem] theorem zsW (a : List PV) (M : PM) : pcl E0 39 a M = pclA E0 39 M (fzL (fz M fzD) a) := zae a M rfl
@[go_sem] theorem zsX (a : List PV) (M : PM) : pcl E0 40 a M = pclA E0 40 M (fzL (fz M fzD) a) := zae a M rfl
@[go_sem] theorem zsY (a : List PV) (M : PM) : pcl E0 41 a M = pclA E0 41 M (fzL (fz M fzD) a) := zae a M rfl
@[go_sem] theorem zsZ (a : List PV) (M : PM) : pcl E0 42 a M = pclA E0 42 M (fzL (fz M fzD) a) := zae a M rfl
@[go_sem] theorem zs0 (a : List PV) (M : PM) : pcl E0 43 a M = pclA E0 43 M (fzL (fz M fzD) a) := zae a M rfl
@[go_sem] theorem zs1 (a : List PV) (M : PM) : pcl E0 44 a M = pclA E0 44 M (fzL (fz M fzD) a) := zae a M rfl
@[go_sem] theorem zs2 (a : List PV) (M : PM) : pcl E0 48 a M = pclA E0 48 M (fzL (fz M fzD) a) := zae a M rfl
@[go_sem] theorem zs3 (a : List PV) (M : PM) : pcl E0 49 a M = pclA E0 49 M (fzL (fz M fzD) a) := zae a M rfl
@[go_sem] theorem zs4 (a : List PV) (M : PM) : pcl E0 55 a M = pclA E0 55 M (fzL (fz M fzD) a) := zae a M rfl
@[go_sem] theorem zs5 (a : List PV) (M : PM) : pcl E0 59 a M = pclA E0 59 M (fzL (fz M fzD) a) := zae a M rfl
@[go_sem] theorem zs6 (a : List PV) (M : PM) : pcl E0 60 a M = pclA E0 60 M (fzL (fz M fzD) a) := zae a M rfl
@[go_sem] theorem zs7 (a : List PV) (M : PM) : pcl E0 61 a M = pclA E0 61 M (fzL (fz M fzD) a) := zae a M rfl
@[go_sem] theorem zs8 (a : List PV) (M : PM) : pcl E0 63 a M = pclA E0 63 M (fzL (fz M fzD) a) := zae a M rfl
@[go_sem] theorem zs9 (a : List PV) (M : PM) : pcl E0 64 a M = pclA E0 64 M (fzL (fz M fzD) a) := zae a M rfl
@[go_sem] theorem zta (a : List PV) (M : PM) : pcl E0 65 a M = pclA E0 65 M (fzL (fz M fzD) a) := zae a M rfl
@[go_sem] theorem ztb (a : List PV) (M : PM) : pcl E0 67 a M = pclA E0 67 M (fzL (fz M fzD) a) := zae a M rfl
@[go_sem] theorem ztc (a : List PV) (M : PM) : pcl E0 76 a M = pclA E0 76 M (fzL (fz M fzD) a) := zae a M rfl
@[go_sem] theorem ztd (a : List PV) (M : PM) : pcl E0 78 a M = pclA E0 78 M (fzL (fz M fzD) a) := zae a M rfl
@[go_sem] theorem zte (a : List PV) (M : PM) : pcl E0 79 a M = pclA E0 79 M (fzL (fz M fzD) a) := zae a M rfl
@[go_sem] theorem ztf (a : List PV) (M : PM) : pcl E0 80 a M = pclA E0 80 M (fzL (fz M fzD) a) := zae a M rfl
@[go_sem] theorem ztg (a : List PV) (M : PM) : pcl E0 85 a M = pclA E0 85 M (fzL (fz M fzD) a) := zae a M rfl
@[go_sem] theorem zqH (a : List PV) (M : PM) : pcl E0 107 a M = pclA E0 107 M (fzL (fz M fzD) a) := zae a M rfl
@[go_sem] theorem zqI (a : List PV) (M : PM) : pcl E0 110 a M = pclA E0 110 M (fzL (fz M fzD) a) := zae a M rfl
@[go_sem] theorem zqJ (a : List PV) (M : PM) : pcl E0 114 a M = pclA E0 114 M (fzL (fz M fzD) a) := zae a M rfl
@[go_sem] theorem zqK (a : List PV) (M : PM) : pcl E0 118 a M = pclA E0 118 M (fzL (fz M fzD) a) := zae a M rfl
@[go_sem] theorem zqL (a : List PV) (M : PM) : pcl E0 119 a M = pclA E0 119 M (fzL (fz M fzD) a) := zae a M rfl
@[go_sem] theorem zqM (a : List PV) (M : PM) : pcl E0 120 a M = pclA E0 120 M (fzL (fz M fzD) a) := zae a M rfl
@[go_sem] theorem zqN (a : List PV) (M : PM) : pcl E0 121 a M = pclA E0 121 M (fzL (fz M fzD) a) := zae a M rfl
@[go_sem] theorem zqO (a : List PV) (M : PM) : pcl E0 123 a M = pclA E0 123 M (fzL (fz M fzD) a) := zae a M rfl
@[go_sem] theorem zqP (a : List PV) (M : PM) : pcl E0 124 a M = pclA E0 124 M (fzL (fz M fzD) a) := zae a M rfl
@[go_sem] theorem zqQ (a : List PV) (M : PM) : pcl E0 125 a M = pclA E0 125 M (fzL (fz M fzD) a) := zae a M rfl
@[go_sem] theorem zqR (a : List PV) (M : PM) : pcl E0 126 a M = pclA E0 126 M (fzL (fz M fzD) a) := zae a M rfl
@[go_sem] theorem zqS (a : List PV) (M : PM) : pcl E0 127 a M = pclA E0 127 M (fzL (fz M fzD) a) := zae a M rfl
@[go_sem] theorem zqT (a : List PV) (M : PM) : pcl E0 128 a M = pclA E0 128 M (fzL (fz M fzD) a) := zae a M rfl
@[go_sem] theorem zqU (a : List PV) (M : PM) : pcl E0 129 a M = pclA E0 129 M (fzL (fz M fzD) a) := zae a M rfl
@[go_sem] theorem zqV (a : List PV) (M : PM) : pcl E0 130 a M = pclA E0 130 M (fzL (fz M fzD) a) := zae a M rfl
@[go_sem] theorem zqW (a : List PV) (M : PM) : pcl E0 131 a M = pclA E0 131 M (fzL (fz M fzD) a) := zae a M rfl
@[go_sem] theorem zqX (a : List PV) (M : PM) : pcl E0 132 a M = pclA E0 132 M (fzL (fz M fzD) a) := zae a M rfl
@[go_sem] theorem zqY (a : List PV) (M : PM) : pcl E0 133 a M = pclA E0 133 M (fzL (fz M fzD) a) := zae a M rfl
@[go_sem] theorem zqZ (a : List PV) (M : PM) : pcl E0 134 a M = pclA E0 134 M (fzL (fz M fzD) a) := zae a M rfl
@[go_sem] theorem zq0 (a : List PV) (M : PM) : pcl E0 135 a M = pclA E0 135 M (fzL (fz M fzD) a) := zae a M rfl
@[go_sem] theorem zq1 (a : List PV) (M : PM) : pcl E0 136 a M = pclA E0 136 M (fzL (fz M fzD) a) := zae a M rfl
@[go_sem] theorem zq2 (a : List PV) (M : PM) : pcl E0 137 a M = pclA E0 137 M (fzL (fz M fzD) a) := zae a M rfl
@[go_sem] theorem zq3 (a : List PV) (M : PM) : pcl E0 147 a M = pclA E0 147 M (fzL (fz M fzD) a) := zae a M rfl
@[go_sem] theorem zq4 (a : List PV) (M : PM) : pcl E0 148 a M = pclA E0 148 M (fzL (fz M fzD) a) := zae a M rfl
@[go_sem] theorem zq5 (a : List PV) (M : PM) : pcl E0 149 a M = pclA E0 149 M (fzL (fz M fzD) a) := zae a M rfl
@[go_sem] theorem zq6 (a : List PV) (M : PM) : pcl E0 159 a M = pclA E0 159 M (fzL (fz M fzD) a) := zae a M rfl
@[go_sem] theorem zq7 (a : List PV) (M : PM) : pcl E0 179 a M = pclA E0 179 M (fzL (fz M fzD) a) := zae a M rfl
@[go_sem] theorem zq8 (a : List PV) (M : PM) : pcl E0 180 a M = pclA E0 180 M (fzL (fz M fzD) a) := zae a M rfl
@[go_sem] theorem zq9 (a : List PV) (M : PM) : pcl E0 182 a M = pclA E0 182 M (fzL (fz M fzD) a) := zae a M rfl
@[go_sem] theorem zra (a : List PV) (M : PM) : pcl E0 185 a M = pclA E0 185 M (fzL (fz M fzD) a) := zae a M rfl
@[go_sem] theorem zrb (a : List PV) (M : PM) : pcl E0 187 a M = pclA E0 187 M (fzL (fz M fzD) a) := zae a M rfl
@[go_sem] theorem zrc (a : List PV) (M : PM) : pcl E0 190 a M = pclA E0 190 M (fzL (fz M fzD) a) := zae a M rfl
@[go_sem] theorem zrd (a : List PV) (M : PM) : pcl E0 192 a M = pclA E0 192 M (fzL (fz M fzD) a) := zae a M rfl
@[go_sem] theorem zre (a : List PV) (M : PM) : pcl E0 193 a M = pclA E0 193 M (fzL (fz M fzD) a) := zae a M rfl
@[go_sem] theorem zrf (a : List PV) (M : PM) : pcl E0 196 a M = pclA E0 196 M (fzL (fz M fzD) a) := zae a M rfl
@[go_sem] theorem zrg (a : List PV) (M : PM) : pcl E0 199 a M = pclA E0 199 M (fzL (fz M fzD) a) := zae a M rfl
@[go_sem] theorem zrh (a : List PV) (M : PM) : pcl E0 208 a M = pclA E0 208 M (fzL (fz M fzD) a) := zae a M rfl
@[go_sem] theorem zri (a : List PV) (M : PM) : pcl E0 301 a M = pclA E0 301 M (fzL (fz M fzD) a) := zae a M rfl
@[go_sem] theorem zrj (a : List PV) (M : PM) : pcl E0 302 a M = pclA E0 302 M (fzL (fz M fzD) a) := zae a M rfl
@[go_sem] theorem zrk (a : List PV) (M : PM) : pcl E0 303 a M = pclA E0 303 M (fzL (fz M fzD) a) := zae a M rfl
@[go_sem] theorem zrl (a : List PV) (M : PM) : pcl E0 304 a M = pclA E0 304 M (fzL (fz M fzD) a) := zae a M rfl
@[go_sem] theorem zrm (a : List PV) (M : PM) : pcl E0 305 a M = pclA E0 305 M (fzL (fz M fzD) a) := zae a M rfl
@[go_sem] theorem zrn (a : List PV) (M : PM) : pcl E0 306 a M = pclA E0 306 M (fzL (fz M fzD) a) := zae a M rfl
@[go_sem] theorem zro (a : List PV) (M : PM) : pcl E0 307 a M = pclA E0 307 M (fzL (fz M fzD) a) := zae a M rfl
@[go_sem] theorem zrp (a : List PV) (M : PM) : pcl E0 308 a M = pclA E0 308 M (fzL (fz M fzD) a) := zae a M rfl
@[go_sem] theorem zrq (a : List PV) (M : PM) : pcl E0 309 a M = pclA E0 309 M (fzL (fz M fzD) a) := zae a M rfl
@[go_sem] theorem zrr (a : List PV) (M : PM) : pcl E0 310 a M = pclA E0 310 M (fzL (fz M fzD) a) := zae a M rfl
@[go_sem] theorem zrs (a : List PV) (M : PM) : pcl E0 311 a M = pclA E0 311 M (fzL (fz M fzD) a) := zae a M rfl
@[go_sem] theorem zrt (a : List PV) (M : PM) : pcl E0 312 a M = pclA E0 312 M (fzL (fz M fzD) a) := zae a M rfl
@[go_sem] theorem zru (a : List PV) (M : PM) : pcl E0 313 a M = pclA E0 313 M (fzL (fz M fzD) a) := zae a M rfl
@[go_sem] theorem zrv (a : List PV) (M : PM) : pcl E0 314 a M = pclA E0 314 M (fzL (fz M fzD) a) := zae a M rfl
@[go_sem] theorem zrw (a : List PV) (M : PM) : pcl E0 315 a M = pclA E0 315 M (fzL (fz M fzD) a) := zae a M rfl
@[go_sem] theorem zrx (a : List PV) (M : PM) : pcl E0 316 a M = pclA E0 316 M (fzL (fz M fzD) a) := zae a M rfl
@[go_sem] theorem zry (a : List PV) (M : PM) : pcl E0 317 a M = pclA E0 317 M (fzL (fz M fzD) a) := zae a M rfl
@[go_sem] theorem zrz (a : List PV) (M : PM) : pcl E0 319 a M = pclA E0 319 M (fzL (fz M fzD) a) := zae a M rfl
@[go_sem] theorem zrA (a : List PV) (M : PM) : pcl E0 320 a M = pclA E0 320 M (fzL (fz M fzD) a) := zae a M rfl
@[go_sem] theorem zrB (a : List PV) (M : PM) : pcl E0 330 a M = pclA E0 330 M (fzL (fz M fzD) a) := zae a M rfl
@[go_sem] theorem zrC (a : List PV) (M : PM) : pcl E0 331 a M = pclA E0 331 M (fzL (fz M fzD) a) := zae a M rfl
@[go_sem] theorem zrD (a : List PV) (M : PM) : pcl E0 341 a M = pclA E0 341 M (fzL (fz M fzD) a) := zae a M rfl
@[go_sem] theorem zrE (a : List PV) (M : PM) : pcl E0 342 a M = pclA E0 342 M (fzL (fz M fzD) a) := zae a M rfl
@[go_sem] theorem zrF (a : List PV) (M : PM) : pcl E0 343 a M = pclA E0 343 M (fzL (fz M fzD) a) := zae a M rfl
@[go_sem] theorem zrG (a : List PV) (M : PM) : pcl E0 357 a M = pclA E0 357 M (fzL (fz M fzD) a) := zae a M rfl
@[go_sem] theorem zrH (a : List PV) (M : PM) : pcl E0 358 a M = pclA E0 358 M (fzL (fz M fzD) a) := zae a M rfl
@[go_sem] theorem zrI (a : List PV) (M : PM) : pcl E0 359 a M = pclA E0 359 M (fzL (fz M fzD) a) := zae a M rfl
@[go_sem] theorem zrJ (a : List PV) (M : PM) : pcl E0 360 a M = pclA E0 360 M (fzL (fz M fzD) a) := zae a M rfl
@[go_sem] theorem zrK (a : List PV) (M : PM) : pcl E0 375 a M = pclA E0 375 M (fzL (fz M fzD) a) := zae a M rfl
theorem zmQ {a : List PV} {v : PV} (h : orcP 33 a [] = some (v, [])) (hz : (fz [] fzD v).map Prod.fst = some v) : pf E0 33 a = some v := zeF (o := orcA 33) rfl h hz
theorem zkz {a : List PV} {v : PV} (h : orcP 130 a [] = some (v, [])) (hz : (fz [] fzD v).map Prod.fst = some v) : pf E0 130 a = some v := zeF (o := orcA 130) rfl h hz
theorem zkA {a : List PV} {v : PV} (h : orcP 131 a [] = some (v, [])) (hz : (fz [] fzD v).map Prod.fst = some v) : pf E0 131 a = some v := zeF (o := orcA 131) rfl h hz
end Go.Eng
namespace Go.Eng
def Ok32 (xs : List Nat) : Prop := ∀ x ∈ xs, x < 4294967296
theorem zk3 : ∃ f : Nat → Nat → Nat, ∀ v i, f v i = v / 4294967296 ^ i % 4294967296 := ⟨fun v i => v / 4294967296 ^ i % 4294967296, fun _ _ => rfl⟩
noncomputable def dgt : Nat → Nat → Nat := Classical.choose zk3
theorem zaj (v i : Nat) : dgt v i = v / 4294967296 ^ i % 4294967296 := Classical.choose_spec zk3 v i
def tab {α : Type} (n : Nat) (f : Nat → α) : List α := (List.range n).map f
@[simp, go_sem] theorem za6 {α : Type} (n : Nat) (f : Nat → α) : (tab n f).length = n := by simp [tab]
theorem za5 {α : Type} (n : Nat) (f : Nat → α) (i : Nat) : (tab n f)[i]? = if i < n then some (f i) else none := by
 unfold tab
 rw [List.getElem?_map]
 split
 ·rename_i h; rw [List.getElem?_range h]; rfl
 ·rename_i h; rw [List.getElem?_eq_none (by simp; omega)]; rfl
theorem za0 {α : Type} {n : Nat} {f : Nat → α} {i : Nat} (h : i < n) : (tab n f)[i]? = some (f i) := by rw [za5, if_pos h]
theorem zaD {α : Type} (n : Nat) (f : Nat → α) (i : Nat) (x : α) : (tab n f).set i x = tab n fun k => if k = i then x else f k := by
 apply List.ext_getElem?
 intro k
 rw [List.getElem?_set, za5, za5]
 by_cases h : i = k
 ·subst h; simp
 ·simp only [h, if_false, show ¬ k = i from fun e => h e.symm]
theorem zai {α : Type} {n : Nat} {f g : Nat → α} (h : ∀ k, k < n → f k = g k) : tab n f = tab n g := by
 apply List.ext_getElem?
 intro k
 rw [za5, za5]
 split
 ·rename_i hk; rw [h k hk]
 ·rfl
theorem zm7 {α β : Type} (n : Nat) (f : Nat → α) (g : α → β) : (tab n f).map g = tab n fun k => g (f k) := by simp [tab]
theorem zcq {α : Type} (n : Nat) (x : α) : List.replicate n x = tab n fun _ => x := by
 apply List.ext_getElem?
 intro k
 rw [za5, List.getElem?_replicate]
theorem zfg {α : Type} (n : Nat) (f : Nat → α) (k : Nat) (h : k ≤ n) : (tab n f).take k = tab k f := by
 apply List.ext_getElem?
 intro i
 rw [List.getElem?_take, za5, za5]
 by_cases h1 : i < k
 ·rw [if_pos h1, if_pos (by omega), if_pos h1]
 ·rw [if_neg h1, if_neg h1]
theorem zkN {α : Type} (n : Nat) (f : Nat → α) (k : Nat) : (tab n f).drop k = tab (n - k) fun i => f (k + i) := by
 apply List.ext_getElem?
 intro i
 rw [List.getElem?_drop, za5, za5]
 by_cases h1 : i < n - k
 ·rw [if_pos (by omega), if_pos h1]
 ·rw [if_neg (by omega), if_neg h1]
theorem tab_of {α : Type} (l : List α) (d : α) : l = tab l.length fun k => l.getD k d := by
 apply List.ext_getElem?
 intro i
 rw [za5]
 by_cases h : i < l.length
 ·rw [if_pos h]; simp [List.getD, h]
 ·rw [if_neg h, List.getElem?_eq_none (by omega)]
noncomputable def dw (n v : Nat) : List Nat := tab n (dgt v)
theorem zbJ (i : Nat) : 0 < 4294967296 ^ i := Nat.pow_pos (by decide)
theorem zaC (v i : Nat) : dgt v i < 4294967296 := by rw [zaj]; exact Nat.mod_lt _ (by decide)
theorem zdC (i : Nat) : dgt 0 i = 0 := by simp [zaj]
theorem zfo (v : Nat) : dgt v 0 = v % 4294967296 := by simp [zaj]
theorem zgr (v i : Nat) : dgt v (i + 1) = dgt (v / 4294967296) i := by
 rw [zaj, zaj, Nat.pow_succ, Nat.mul_comm, Nat.div_div_eq_div_mul]
theorem zaH (v i : Nat) : v % 4294967296 ^ (i + 1) = v % 4294967296 ^ i + 4294967296 ^ i * dgt v i := by
 rw [zaj, Nat.pow_succ, Nat.mod_mul]
theorem zlB : ∀ {xs : List Nat}, Ok32 xs → val xs < 4294967296 ^ xs.length
 | [], _ => by simp [val]
 | x :: xs, h => by
  have h1 := h x (List.mem_cons_self ..)
  have h2 := zlB (xs := xs) fun y hy => h y (List.mem_cons_of_mem _ hy)
  simp only [val, List.length_cons, Nat.pow_succ]
  omega
theorem zhl : ∀ {xs : List Nat}, Ok32 xs → ∀ i, xs.getD i 0 = dgt (val xs) i
 | [], _, i => by simp [val, zdC, List.getD]
 | x :: xs, h, 0 => by
  have h1 := h x (List.mem_cons_self ..)
  simp [val, zfo, List.getD]; omega
 | x :: xs, h, i + 1 => by
  have h1 := h x (List.mem_cons_self ..)
  have := zhl (xs := xs) (fun y hy => h y (List.mem_cons_of_mem _ hy)) i
  have e : val (x :: xs) / 4294967296 = val xs := by simp only [val]; omega
  rw [zgr, e, ← this]; simp [List.getD]
theorem znI {xs : List Nat} (h : Ok32 xs) : xs = dw xs.length (val xs) := by
 have e := tab_of xs 0
 have e2 : tab xs.length (fun k => xs.getD k 0) = dw xs.length (val xs) := zai fun k _ => zhl h k
 exact e.trans e2
theorem zqB (n v : Nat) : Ok32 (dw n v) := fun x hx => by
 unfold dw tab at hx
 obtain ⟨i, _, rfl⟩ := List.mem_map.1 hx
 exact zaC v i
theorem zlS (n v : Nat) : dw (n + 1) v = v % 4294967296 :: dw n (v / 4294967296) := by
 apply List.ext_getElem?
 intro k
 unfold dw
 cases k with
 | zero => rw [za0 (by omega), zfo]; rfl
 | succ k =>
  rw [List.getElem?_cons_succ, za5, za5, zgr]
  by_cases h : k < n
  ·rw [if_pos h, if_pos (by omega)]
  ·rw [if_neg h, if_neg (by omega)]
theorem zlA : ∀ (n v : Nat), val (dw n v) = v % 4294967296 ^ n
 | 0, v => by
  have : dw 0 v = [] := rfl
  simp [this, val, Nat.mod_one]
 | n + 1, v => by
  rw [zlS, val, zlA n, Nat.pow_succ, Nat.mul_comm (4294967296 ^ n), Nat.mod_mul]
theorem znc {n v : Nat} (h : v < 4294967296 ^ n) : val (dw n v) = v := by rw [zlA, Nat.mod_eq_of_lt h]
@[simp, go_sem] theorem znH (n v : Nat) : (dw n v).length = n := by simp [dw]
def wlen (v : Nat) : Nat := if v = 0 then 0 else Nat.log2 v / 32 + 1
theorem zah (v : Nat) : v < 4294967296 ^ wlen v := by
 unfold wlen
 split
 ·rename_i h; subst h; decide
 ·rename_i h
  have h1 : v < 2 ^ (Nat.log2 v + 1) := Nat.lt_log2_self
  have h2 : (4294967296 : Nat) ^ (Nat.log2 v / 32 + 1) = 2 ^ (32 * (Nat.log2 v / 32 + 1)) := by rw [Nat.pow_mul]
  rw [h2]
  exact Nat.lt_of_lt_of_le h1 (Nat.pow_le_pow_right (by decide) (by omega))
theorem zfi {v : Nat} (h : v ≠ 0) : 4294967296 ^ (wlen v - 1) ≤ v := by
 unfold wlen
 rw [if_neg h]
 have h1 : 2 ^ Nat.log2 v ≤ v := Nat.log2_self_le h
 have h2 : (4294967296 : Nat) ^ (Nat.log2 v / 32 + 1 - 1) = 2 ^ (32 * (Nat.log2 v / 32)) := by rw [Nat.add_sub_cancel, Nat.pow_mul]
 rw [h2]
 exact Nat.le_trans (Nat.pow_le_pow_right (by decide) (by omega)) h1
theorem zaT {v n : Nat} : wlen v ≤ n ↔ v < 4294967296 ^ n := by
 constructor
 ·intro h
  exact Nat.lt_of_lt_of_le (zah v) (Nat.pow_le_pow_right (by decide) h)
 ·intro h
  by_cases h0 : v = 0
  ·subst h0; simp [wlen]
  ·have h1 := zfi h0
   have h2 : 4294967296 ^ (wlen v - 1) < 4294967296 ^ n := Nat.lt_of_le_of_lt h1 h
   have := (Nat.pow_lt_pow_iff_right (by decide : 1 < 4294967296)).1 h2
   omega
theorem zbA : wlen 0 = 0 := rfl
theorem za3 {v : Nat} (h : v ≠ 0) : 0 < wlen v := by unfold wlen; rw [if_neg h]; omega
noncomputable def dig (v : Nat) : List Nat := dw (wlen v) v
@[simp] theorem zen (v : Nat) : (dig v).length = wlen v := by simp [dig]
theorem znb (v : Nat) : val (dig v) = v := znc (zah v)
theorem zn2 (v : Nat) : Ok32 (dig v) := zqB _ _
def W (xs : List Nat) : PV := .lst (xs.map fun n => (PV.i .u32 ((n : Nat) : Int)))
noncomputable def Dw (n v : Nat) : PV := .lst (tab n fun k => (PV.i .u32 ((dgt v k : Nat) : Int)))
noncomputable abbrev D (v : Nat) : PV := Dw (wlen v) v
theorem zsf (n v : Nat) : W (dw n v) = Dw n v := by simp [W, dw, Dw, zm7]
noncomputable def intP (z : Int) : PV := .ag [.b (decide (z < 0)), D z.natAbs]
@[go_sem] theorem ztY (M : PM) (d n v : Nat) : fz M (d + 1) (Dw n v) = some (Dw n v, []) := _root_.id rfl
@[go_sem] theorem zo1 (n v : Nat) : (Dw n v).cells = [Dw n v] := _root_.id rfl
@[go_sem] theorem zrT (n v : Nat) : (Dw n v).scal = true := _root_.id rfl
@[go_sem] theorem zqs (n v : Nat) : lenP (Dw n v) = some (.i .i64 (n : Int)) := by simp [Dw, lenP]
theorem zaS {n v j : Nat} (h : j < n) : idxP 1 (Dw n v) (some j) = some (.fp [(PV.i .u32 ((dgt v j : Nat) : Int))]) := by
 rw [Dw, zeV, za0 h]; rfl
@[go_sem] theorem zqm (M : PM) (d n : Nat) (k : IntKind) (g : Nat → Int) : fzL (fz M (d + 1)) (tab n fun j => PV.i k (g j)) = some (tab n fun j => PV.i k (g j), []) := zj8 M d _ (fun _ => rfl) _
@[go_sem] theorem zkO (n : Nat) (f : Nat → PV) : (tab n f).take n = tab n f := by
 have := List.take_length (l := tab n f)
 rwa [za6] at this
@[go_sem] theorem znR (n : Nat) (f : Nat → PV) : group 1 n (tab n f) = tab n f := zcY n _ (by simp)
@[go_sem] theorem zqb (n v : Nat) : PV.lst (tab n fun k => PV.i .u32 ((dgt v k : Nat) : Int)) = Dw n v := _root_.id rfl
end Go.Eng
namespace Go.Eng
def cmpI (a b : Int) : Int := if a < b then -1 else if b < a then 1 else 0
@[go_sem] theorem zoq (a : Int) : pf E0 79 [.i .u32 a] = some (.b false) := by
 refine zaa (xf := zvm) rfl (by simp [zvm]) ?_
 simp only [zvm, go_sem, seval]
@[go_sem] theorem zor (a : Int) : pf E0 78 [.i .i64 a] = some (.b false) := by
 refine zaa (xf := zvw) rfl (by simp [zvw]) ?_
 simp only [zvw, go_sem, seval]
@[go_sem] theorem zqE (a b : Int) : pf E0 61 [.i .u32 a, .i .u32 b] = some (.i .i64 (cmpI a b)) := by
 refine zaa (xf := zvh) rfl (by simp [zvh]) ?_
 simp only [zvh, go_sem, seval]
 refine zdq (fun h => ?_) (fun h => ?_)
 ·simp only [go_sem, seval, cmpI, h]
 ·simp only [go_sem, seval]
  refine zdq (fun h2 => ?_) (fun h2 => ?_)
  ·simp only [go_sem, seval, cmpI, h, h2]
  ·simp only [go_sem, seval, cmpI, h, h2]
@[go_sem] theorem zqF (a b : Int) : pf E0 60 [.i .i64 a, .i .i64 b] = some (.i .i64 (cmpI a b)) := by
 refine zaa (xf := zvo) rfl (by simp [zvo]) ?_
 simp only [zvo, go_sem, seval]
 refine zdq (fun h => ?_) (fun h => ?_)
 ·simp only [go_sem, seval, cmpI, h]
 ·simp only [go_sem, seval]
  refine zdq (fun h2 => ?_) (fun h2 => ?_)
  ·simp only [go_sem, seval, cmpI, h, h2]
  ·simp only [go_sem, seval, cmpI, h, h2]
theorem zoK (n v k : Nat) (h : k ≤ n) : slP 1 (Dw n v) none (some (.i .i64 (k : Int))) none = some (Dw k v) := by
 have hz : ez 1 (tab n fun k => (PV.i .u32 ((dgt v k : Nat) : Int))) = true := by
  unfold ez tab
  simp [PV.cells]
 simp only [slP, Dw, Option.isSome_none, Bool.false_eq_true, if_false, optP, za7, hz, za6]
 rw [if_pos ⟨by omega, h, trivial⟩, List.drop_zero, zfg _ _ _ h]
theorem zfB {E : PEnv} (hE : E.prog 49 = some (.fn zvz)) (n v : Nat) (hv : v < 4294967296 ^ n) (hn : n < 1099511627776) : pf E 49 [Dw n v] = some (D v) := by
 refine zaa (xf := zvz) hE (by simp [zvz]) ?_
 simp only [zvz]
 simp only [go_sem, seval]
 refine zat zxo.eq_1 (fun (m : Nat) fr M => fr 0 = Dw m v ∧ v < 4294967296 ^ m ∧ m ≤ n ∧ M = []) id ?_ n ⟨by simp only [go_sem, seval], hv, Nat.le_refl _, rfl⟩
 rintro m fr M ⟨h0, h1, h2, rfl⟩ ih
 by_cases hm : m = 0
 ·subst hm
  have hv0 : v = 0 := by simpa using h1
  subst hv0
  simp only [go_sem, seval, h0, Int.ofNat_lt, Nat.lt_irrefl, Int.natCast_zero, Int.lt_irrefl]
  rfl
 ·have hm' : (0 : Int) < (m : Int) := by omega
  simp (disch := omega) only [go_sem, seval, wqq, h0, hm', zaI, zaS]
  have e : v = v % 4294967296 ^ (m - 1) + 4294967296 ^ (m - 1) * dgt v (m - 1) := by
   rw [← zaH, show m - 1 + 1 = m by omega, Nat.mod_eq_of_lt h1]
  refine zdq (fun h => ?_) (fun h => ?_)
  ·have hd : dgt v (m - 1) = 0 := by omega
   rw [hd, Nat.mul_zero, Nat.add_zero] at e
   simp (disch := omega) only [go_sem, seval, wqq, h0, zaI, zoK]
   exact ih (m - 1) _ _ (by simp only [id]; omega) ⟨by simp only [go_sem, seval], by rw [e]; exact Nat.mod_lt _ (zbJ _), by omega, rfl⟩
  ·have hd : dgt v (m - 1) ≠ 0 := by omega
   have hw : wlen v = m := by
    have h3 : wlen v ≤ m := zaT.2 h1
    have h4 : ¬ wlen v ≤ m - 1 := fun q => by
     have := zaT.1 q
     apply hd
     rw [zaj, Nat.div_eq_of_lt this]
    omega
   simp only [go_sem, seval, h0]
   rw [D, hw]
theorem zku (n v : Nat) (hv : v < 4294967296 ^ n) (hn : n < 1099511627776) : pf E0 49 [Dw n v] = some (D v) := zfB rfl n v hv hn
theorem zbT {n v : Nat} (hv : v < 4294967296 ^ n) (hn : n < 1099511627776) : pf E0 49 [Dw n v] = some (D v) := zku n v hv hn
theorem zaY (a b : Int) : (cmpI a b = 0) = (a = b) := by
 unfold cmpI
 apply propext
 by_cases h : a < b
 ·simp [h]; omega
 ·by_cases h2 : b < a
  ·simp [h, h2]; omega
  ·simp [h, h2]; omega
theorem zgo (a b c d : Nat) (h1 : a < b ↔ c < d) (h2 : b < a ↔ d < c) : cmpI (a : Int) (b : Int) = cmpI (c : Int) (d : Int) := by
 have e1 : ((a : Int) < (b : Int)) = ((c : Int) < (d : Int)) := by rw [zbv, zbv]; exact propext h1
 have e2 : ((b : Int) < (a : Int)) = ((d : Int) < (c : Int)) := by rw [zbv, zbv]; exact propext h2
 unfold cmpI
 simp only [e1, e2]
theorem zda {a b : Nat} (h : wlen a < wlen b) : a < b := by
 by_cases hab : a < b
 ·exact hab
 ·have h1 : b < 4294967296 ^ wlen a := Nat.lt_of_le_of_lt (by omega) (zah a)
  have := zaT.2 h1
  omega
theorem zbR (a b : Nat) (ha : wlen a < 1099511627776) (hb : wlen b < 1099511627776) : pf E0 41 [D a, D b] = some (.i .i64 (cmpI a b)) := by
 refine zaa (xf := zvJ) rfl (by simp [zvJ]) ?_
 simp only [zvJ]
 simp only [go_sem, seval]
 refine zdq (fun h => ?_) (fun h => ?_)
 ·simp only [go_sem, seval]
  rw [zaY] at h
  congr 2
  refine zgo _ _ _ _ ⟨fun q => zda q, fun q => ?_⟩ ⟨fun q => zda q, fun q => ?_⟩
  ·have : ¬ wlen b < wlen a := fun z => by have := zda z; omega
   omega
  ·have : ¬ wlen a < wlen b := fun z => by have := zda z; omega
   omega
 ·have hl : wlen a = wlen b := by
   rw [zaY] at h; omega
  simp (disch := omega) only [go_sem, seval, wqq]
  refine zat zxd.eq_1 (fun (m : Nat) fr M => fr 0 = D a ∧ fr 1 = D b ∧ fr 6 = .i .i64 ((m : Int) - 1) ∧ a / 4294967296 ^ m = b / 4294967296 ^ m ∧ m ≤ wlen a ∧ M = []) id ?_ (wlen a) ⟨by simp only [go_sem, seval], by simp only [go_sem, seval], by simp only [go_sem, seval], ?_, Nat.le_refl _, rfl⟩
  ·rintro m fr M ⟨h0, h1, h6, hq, hm, rfl⟩ ih
   by_cases hm0 : m = 0
   ·subst hm0
    have hab : a = b := by simpa using hq
    simp (disch := omega) only [go_sem, seval, wqq, h6, Int.natCast_zero, Int.zero_sub, Int.reduceNeg, Int.reduceLE]
    subst hab
    simp [cmpI]
   ·have hm' : (0 : Int) ≤ (m : Int) - 1 := by omega
    have ia : (D a) = Dw (wlen a) a := rfl
    have ib : (D b) = Dw (wlen b) b := rfl
    simp (disch := omega) only [go_sem, seval, wqq, h0, h1, h6, hm', zaI, ia, ib, zaS]
    have ea : a / 4294967296 ^ (m - 1) = 4294967296 * (a / 4294967296 ^ m) + dgt a (m - 1) := by
     rw [zaj, show (4294967296 : Nat) ^ m = 4294967296 ^ (m - 1) * 4294967296 by rw [← Nat.pow_succ]; congr 1; omega, ← Nat.div_div_eq_div_mul]
     exact (Nat.div_add_mod _ _).symm
    have eb : b / 4294967296 ^ (m - 1) = 4294967296 * (b / 4294967296 ^ m) + dgt b (m - 1) := by
     rw [zaj, show (4294967296 : Nat) ^ m = 4294967296 ^ (m - 1) * 4294967296 by rw [← Nat.pow_succ]; congr 1; omega, ← Nat.div_div_eq_div_mul]
     exact (Nat.div_add_mod _ _).symm
    have lt : ∀ x y : Nat, x / 4294967296 ^ (m - 1) < y / 4294967296 ^ (m - 1) → x < y := fun x y h => by
     by_cases q : x < y
     ·exact q
     ·have := Nat.div_le_div_right (c := 4294967296 ^ (m - 1)) (show y ≤ x by omega)
      omega
    refine zdq (fun h => ?_) (fun h => ?_)
    ·rw [zaY] at h
     simp only [go_sem, seval]
     congr 2
     have k1 := lt a b
     have k2 := lt b a
     refine zgo _ _ _ _ ⟨fun q => k1 (by omega), fun q => ?_⟩ ⟨fun q => k2 (by omega), fun q => ?_⟩
     ·have : ¬ dgt b (m - 1) < dgt a (m - 1) := fun z => by have := k2 (by omega); omega
      omega
     ·have : ¬ dgt a (m - 1) < dgt b (m - 1) := fun z => by have := k1 (by omega); omega
      omega
    ·have hd : dgt a (m - 1) = dgt b (m - 1) := by
      rw [zaY] at h; omega
     simp (disch := omega) only [go_sem, seval, wqq, h6, zaI]
     exact ih (m - 1) _ _ (by simp only [id]; omega) ⟨by simp only [go_sem, seval, h0], by simp only [go_sem, seval, h1], by simp only [go_sem, seval], by omega, by omega, rfl⟩
  ·rw [Nat.div_eq_of_lt (zah a), hl, Nat.div_eq_of_lt (zah b)]
end Go.Eng
namespace Go.Eng
structure WI where
 v : Int
 ok : wlen v.natAbs ≤ 512
theorem WI.ext' {x y : WI} (h : x.v = y.v) : x = y := by cases x; cases y; simp at h; subst h; rfl
theorem WI.lim (x : WI) : wlen x.v.natAbs ≤ 512 := x.ok
def wi0 : WI := ⟨0, by simp [wlen]⟩
def clip (z : Int) : WI := if h : wlen z.natAbs ≤ 512 then ⟨z, h⟩ else wi0
def lerr (z : Int) : Int := if wlen z.natAbs ≤ 512 then 0 else 4
theorem zbt {z : Int} (h : wlen z.natAbs ≤ 512) : clip z = ⟨z, h⟩ := by unfold clip; rw [dif_pos h]
theorem zdS {z : Int} (h : wlen z.natAbs ≤ 512) : (clip z).v = z := by rw [zbt h]
theorem zeM {z : Int} (h : ¬ wlen z.natAbs ≤ 512) : clip z = wi0 := by unfold clip; rw [dif_neg h]
theorem zde {z : Int} (h : wlen z.natAbs ≤ 512) : lerr z = 0 := by unfold lerr; rw [if_pos h]
theorem ze0 {z : Int} (h : ¬ wlen z.natAbs ≤ 512) : lerr z = 4 := by unfold lerr; rw [if_neg h]
theorem zeZ (z : Int) : lerr (-z) = lerr z := by unfold lerr; rw [Int.natAbs_neg]
noncomputable def wiP (x : WI) : PV := intP x.v
theorem zec (x : WI) : wiP x = .ag [.b (decide (x.v < 0)), D x.v.natAbs] := rfl
@[go_sem] theorem zsv (M : PM) (d : Nat) (x : WI) : fz M (d + 1 + 1) (wiP x) = some (wiP x, []) := _root_.id rfl
@[go_sem] theorem znB (x : WI) : (wiP x).cells = [.b (decide (x.v < 0)), D x.v.natAbs] := _root_.id rfl
@[go_sem] theorem zqj (x : WI) : PV.ag [.b (decide (x.v < 0)), D x.v.natAbs] = wiP x := _root_.id rfl
@[go_sem] theorem zpc : PV.ag [.b false, .lst []] = wiP wi0 := _root_.id rfl
theorem zni : PV.lst [] = D 0 := rfl
theorem zbX {M : PM} {n : Nat} {b : PB} (h : n < M.length) : PM.blk (M.set n (some b)) n = some b := by
 rw [zaK, List.getElem?_set]; simp [h]
theorem zbY {M : PM} {n k : Nat} {b : Option PB} (h : n ≠ k) : PM.blk (M.set n b) k = PM.blk M k := by
 unfold PM.blk; rw [List.getElem?_set_ne h]
theorem zci {M : PM} {n : Nat} {b : PB} (h : PM.blk M n = some b) : n < M.length := zaU (zaK.1 h)
attribute [go_sem] List.set_set
@[go_sem] theorem zoo (M : PM) : pcl E0 58 [] M = some (.fn 77 [.p M.length 0], M ++ [some ⟨[.i .u64 0], true, 0⟩]) := by
 refine zbw (xf := zvG) rfl rfl (by simp [zvG]) ?_
 simp only [zvG]
 simp only [go_sem, seval]
theorem zdj (M : PM) (n c v e : Nat) (hb : PM.blk M n = some ⟨[.i .u64 (c : Int)], true, e⟩) (h : c + v < 18446744073709551616) :
  pcl E0 77 [.i .u64 (v : Int), .p n 0] M = some ((PV.i .u32 (((c + v) % 4294967296 : Nat) : Int)), M.set n (some ⟨[.i .u64 (((c + v) / 4294967296 : Nat) : Int)], true, e + 2⟩)) := by
 refine zbw (xf := zvx) rfl rfl (by simp [zvx]) ?_
 simp only [zvx]
 have hl := zci hb
 simp (disch := omega) only [go_sem, seval, wqq, zbn, zb4, zb5, zaI, zbv, zc0, hb, zbX, zbj, Int.reduceToNat, Nat.reducePow]
theorem zc3 (x y : WI) : pf E0 30 [wiP x, wiP y] = some (.i .i64 (cmpI x.v y.v)) := by
 refine zaa (xf := zvN) rfl (by simp [zvN]) ?_
 simp only [zvN]
 have lx := x.lim
 have ly := y.lim
 by_cases hx : x.v < 0
 ·by_cases hy : y.v < 0
  ·simp (disch := omega) only [go_sem, seval, wqq, hx, hy, zbR]
   congr 2
   unfold cmpI
   simp only [zbv, show (y.v.natAbs < x.v.natAbs) = (x.v < y.v) by apply propext; omega, show (x.v.natAbs < y.v.natAbs) = (y.v < x.v) by apply propext; omega]
  ·simp (disch := omega) only [go_sem, seval, wqq, hx, hy, zbR]
   unfold cmpI
   rw [if_pos (by omega)]
 ·by_cases hy : y.v < 0
  ·simp (disch := omega) only [go_sem, seval, wqq, hx, hy, zbR]
   unfold cmpI
   rw [if_neg (by omega), if_pos (by omega)]
  ·simp (disch := omega) only [go_sem, seval, wqq, hx, hy, zbR]
   congr 2
   unfold cmpI
   simp only [zbv, show (y.v.natAbs < x.v.natAbs) = (y.v < x.v) by apply propext; omega, show (x.v.natAbs < y.v.natAbs) = (x.v < y.v) by apply propext; omega]
attribute [go_sem] zc3
@[go_sem] theorem zbQ (x : WI) : pf E0 31 [wiP x] = some (.i .i64 (cmpI x.v 0)) := by
 refine zaa (xf := zwp) rfl (by simp [zwp]) ?_
 simp only [zwp]
 simp only [go_sem, seval]
 rfl
def WI.neg (x : WI) : WI := ⟨-x.v, by rw [Int.natAbs_neg]; exact x.ok⟩
@[go_sem] theorem zks (x : WI) : pf E0 43 [wiP x] = some (wiP x.neg) := by
 refine zaa (xf := zwM) rfl (by simp [zwM]) ?_
 simp only [zwM]
 have hn : wiP x.neg = .ag [.b (decide (0 < x.v)), D x.v.natAbs] := by
  simp only [zec, WI.neg, Int.natAbs_neg]
  congr 3
  exact decide_eq_decide.2 (by omega)
 rw [hn]
 by_cases hx : x.v < 0
 ·have h2 : ¬ 0 < x.v := by omega
  simp (disch := omega) only [go_sem, seval, wqq, hx, h2]
 ·simp (disch := omega) only [go_sem, seval, wqq, hx]
  congr 4
  refine decide_eq_decide.2 ?_
  constructor
  ·intro h
   have : x.v.natAbs ≠ 0 := fun q => by rw [q] at h; simp [wlen] at h
   omega
  ·intro h
   have := za3 (v := x.v.natAbs) (by omega)
   omega
theorem zaL (neg : Bool) (n v : Nat) (hv : v < 4294967296 ^ n) (hn : n < 1099511627776) :
  pf E0 36 [.b neg, Dw n v] = some (.tu [wiP (clip (if neg then -(v : Int) else v)), .i .i64 (lerr (v : Int))]) := by
 refine zaa (xf := zv0) rfl (by simp [zv0]) ?_
 simp only [zv0]
 simp (disch := omega) only [go_sem, seval, wqq, zbT]
 refine zdq (fun h => ?_) (fun h => ?_)
 ·simp (disch := omega) only [go_sem, seval, wqq]
  have hn : ¬ wlen (v : Int).natAbs ≤ 512 := by simp only [Int.natAbs_natCast]; omega
  have hc : clip (if neg then -(v : Int) else v) = wi0 := by
   cases neg
   ·exact zeM hn
   ·exact zeM (by simpa using hn)
  rw [hc, ze0 hn]
 ·have hn : wlen (v : Int).natAbs ≤ 512 := by simp only [Int.natAbs_natCast]; omega
  rw [zde hn]
  cases neg
  ·simp (disch := omega) only [go_sem, seval, wqq]
   rw [zbt hn]
   rfl
  ·simp (disch := omega) only [go_sem, seval, wqq]
   have hn' : wlen (-(v : Int)).natAbs ≤ 512 := by rw [Int.natAbs_neg]; exact hn
   have e1 : ((decide ((0 : Int) < (wlen v : Int))) : Bool) = decide ((-(v : Int)) < 0) := by
    refine decide_eq_decide.2 ?_
    constructor
    ·intro h
     have : v ≠ 0 := fun q => by rw [q] at h; simp [wlen] at h
     omega
    ·intro h
     have := za3 (v := v) (by omega)
     omega
   rw [zbt hn', zec, ← e1]
   simp only [Int.natAbs_neg, Int.natAbs_natCast]
end Go.Eng
namespace Go.Eng
theorem zfV {P T s c d r : Nat} (hP : 0 < P) (hT : T = s % P + P * c) (hs : s = T + P * d + P * 4294967296 * r) :
  s / P % 4294967296 = (c + d) % 4294967296 ∧ T + P * d = s % (P * 4294967296) + P * 4294967296 * ((c + d) / 4294967296) := by
 have e1 : s / P = c + d + 4294967296 * r := by
  have h1 := Nat.div_add_mod s P
  have h2 : P * (s / P) = P * (c + d + 4294967296 * r) := by
   rw [Nat.mul_add, Nat.mul_add, ← Nat.mul_assoc]; omega
  exact Nat.eq_of_mul_eq_mul_left hP h2
 have e2 : s / P % 4294967296 = (c + d) % 4294967296 := by omega
 refine ⟨e2, ?_⟩
 rw [Nat.mod_mul, e2, hT]
 have h3 := Nat.div_add_mod (c + d) 4294967296
 have h4 : P * (c + d) = P * 4294967296 * ((c + d) / 4294967296) + P * ((c + d) % 4294967296) := by
  rw [Nat.mul_assoc, ← Nat.mul_add, h3]
 rw [Nat.mul_add] at h4
 omega
theorem zce (a i : Nat) : a = a % 4294967296 ^ i + 4294967296 ^ i * dgt a i + 4294967296 ^ i * 4294967296 * (a / (4294967296 ^ i * 4294967296)) := by
 have h := zaH a i
 have h2 := Nat.div_add_mod a (4294967296 ^ i * 4294967296)
 rw [Nat.pow_succ] at h
 omega
theorem zbD {a n i : Nat} (h : a < 4294967296 ^ n) (hi : n ≤ i) : dgt a i = 0 := by
 rw [zaj, Nat.div_eq_of_lt (Nat.lt_of_lt_of_le h (Nat.pow_le_pow_right (by decide) hi))]
theorem zd6 (b0 : Option PB) (c v e : Nat) (h : c + v < 18446744073709551616) :
  pcl E0 77 [.i .u64 (v : Int), .p 1 0] [b0, some ⟨[.i .u64 (c : Int)], true, e⟩] = some ((PV.i .u32 (((c + v) % 4294967296 : Nat) : Int)), [b0, some ⟨[.i .u64 (((c + v) / 4294967296 : Nat) : Int)], true, e + 2⟩]) :=
 zdj _ 1 c v e rfl h
theorem zf9 (b0 : Option PB) (c e : Nat) (h : c < 18446744073709551616) :
  pcl E0 77 [.i .u64 0, .p 1 0] [b0, some ⟨[.i .u64 (c : Int)], true, e⟩] = some ((PV.i .u32 ((c % 4294967296 : Nat) : Int)), [b0, some ⟨[.i .u64 ((c / 4294967296 : Nat) : Int)], true, e + 2⟩]) :=
 zdj _ 1 c 0 e rfl h
theorem zkL {F : PFin} {ks : List KI} {n m a b : Nat} (hm : m ≤ n) (ha : a < 4294967296 ^ n) (hb : b < 4294967296 ^ m) (hn : n < 1099511627776) {fr : PFr} {M : PM} (h0 : fr 0 = Dw n a) (h1 : fr 1 = Dw m b)
  (h5 : fr 5 = .sl 0 0 (n + 1) (n + 1) 1) (h6 : fr 6 = .fn 77 [.p 1 0]) (h22 : fr 22 = .i .i64 ((n + 1 : Nat) : Int)) (h23 : fr 23 = .i .i64 0) (hM : M = [some ⟨List.replicate (n + 1) (.i .u32 0), true, 0⟩, some ⟨[.i .u64 0], true, 0⟩])
  (cont : ∀ fr' e b2, fr' 5 = .sl 0 0 (n + 1) (n + 1) 1 → UK E0 F (.exit 0) ks fr' [some ⟨tab (n + 1) (fun k => (PV.i .u32 ((dgt (a + b) k : Nat) : Int))), true, e⟩, b2]) : WK E0 F (.loop zvX) ks fr M := by
 refine zat zvX.eq_1 (fun (i : Nat) fr M => i ≤ n + 1 ∧ fr 0 = Dw n a ∧ fr 1 = Dw m b ∧ fr 5 = .sl 0 0 (n + 1) (n + 1) 1 ∧ fr 6 = .fn 77 [.p 1 0] ∧ fr 22 = .i .i64 ((n + 1 : Nat) : Int) ∧ fr 23 = .i .i64 (i : Int) ∧
  ∃ c e1 e2 : Nat, M = [some ⟨tab (n + 1) fun k => (PV.i .u32 ((if k < i then dgt (a + b) k else 0 : Nat) : Int)), true, e1⟩, some ⟨[.i .u64 (c : Int)], true, e2⟩] ∧ c ≤ 1 ∧ a % 4294967296 ^ i + b % 4294967296 ^ i = (a + b) % 4294967296 ^ i + 4294967296 ^ i * c)
  (fun i => n + 1 - i) ?_ 0 ⟨Nat.zero_le _, h0, h1, h5, h6, h22, h23, 0, 0, 0, by rw [hM, zcq]; rfl, Nat.zero_le _, by simp [Nat.mod_one]⟩
 rintro i fr M ⟨hi, h0, h1, h5, h6, h22, h23, c, e1, e2, rfl, hc, hinv⟩ ih
 by_cases hin : i < n + 1
 ·have hc0 : ((i : Int) < ((n + 1 : Nat) : Int)) = True := by simp; omega
  have da := zaC a i
  have db := zaC b i
  have fin : ∀ v fr' e1 e2, v = dgt a i + dgt b i → fr' 0 = Dw n a → fr' 1 = Dw m b → fr' 5 = .sl 0 0 (n + 1) (n + 1) 1 → fr' 6 = .fn 77 [.p 1 0] → fr' 22 = .i .i64 ((n + 1 : Nat) : Int) → fr' 23 = .i .i64 ((i + 1 : Nat) : Int) →
    WK E0 F (.loop zvX) ks fr' [some ⟨tab (n + 1) fun k => if k = i then (PV.i .u32 (((c + v) % 4294967296 : Nat) : Int)) else (PV.i .u32 ((if k < i then dgt (a + b) k else 0 : Nat) : Int)), true, e1⟩, some ⟨[.i .u64 (((c + v) / 4294967296 : Nat) : Int)], true, e2⟩] := by
   intro v fr' e1 e2 hv g0 g1 g5 g6 g22 g23
   subst hv
   have sa := zce a i
   have sb := zce b i
   obtain ⟨k1, k2⟩ := zfV (P := 4294967296 ^ i) (T := a % 4294967296 ^ i + b % 4294967296 ^ i) (s := a + b) (c := c) (d := dgt a i + dgt b i) (r := a / (4294967296 ^ i * 4294967296) + b / (4294967296 ^ i * 4294967296)) (zbJ i) hinv (by rw [Nat.mul_add, Nat.mul_add]; omega)
   refine ih (i + 1) fr' _ (by omega) ⟨by omega, g0, g1, g5, g6, g22, g23, (c + (dgt a i + dgt b i)) / 4294967296, e1, e2, ?_, by omega, ?_⟩
   ·congr 3
    refine zai fun k hk => ?_
    by_cases hki : k = i
    ·subst hki
     rw [if_pos rfl, if_pos (by omega)]
     congr 2; rw [zaj (a + b)]; exact k1.symm
    ·rw [if_neg hki]
     congr 1
     by_cases h : k < i
     ·rw [if_pos h, if_pos (by omega)]
     ·rw [if_neg h, if_neg (by omega)]
   ·rw [zaH, zaH b, Nat.pow_succ, ← k2, Nat.mul_add]; omega
  by_cases hia : i < n
  ·have hc1 : ((i : Int) < (n : Int)) = True := by simp; omega
   by_cases him : i < m
   ·have hc2 : ((i : Int) < (m : Int)) = True := by simp; omega
    simp (disch := omega) only [go_sem, seval, wqq, zbn, zb4, zb5, zaI, zbv, zc0, h0, h1, h5, h6, h22, h23, hc0, hc1, hc2, Int.zero_add, zaS, zd6, zaD, hin]
    exact fin _ _ _ _ rfl (by simp only [go_sem, seval, h0]) (by simp only [go_sem, seval, h1]) (by simp only [go_sem, seval, h5]) (by simp only [go_sem, seval, h6]) (by simp only [go_sem, seval, h22]) (by simp only [go_sem, seval])
   ·have hc2 : ((i : Int) < (m : Int)) = False := by simp; omega
    have hz : dgt b i = 0 := zbD hb (by omega)
    simp (disch := omega) only [go_sem, seval, wqq, zbn, zb4, zb5, zaI, zbv, zc0, h0, h1, h5, h6, h22, h23, hc0, hc1, hc2, Int.zero_add, zaS, zd6, zaD, hin]
    exact fin _ _ _ _ (by omega) (by simp only [go_sem, seval, h0]) (by simp only [go_sem, seval, h1]) (by simp only [go_sem, seval, h5]) (by simp only [go_sem, seval, h6]) (by simp only [go_sem, seval, h22]) (by simp only [go_sem, seval])
  ·have hc1 : ((i : Int) < (n : Int)) = False := by simp; omega
   have hc2 : ((i : Int) < (m : Int)) = False := by simp; omega
   have hz : dgt b i = 0 := zbD hb (by omega)
   have hz2 : dgt a i = 0 := zbD ha (by omega)
   simp (disch := omega) only [go_sem, seval, wqq, zbn, zb4, zb5, zaI, zbv, zc0, h0, h1, h5, h6, h22, h23, hc0, hc1, hc2, Int.zero_add, zaS, zf9, zaD, hin]
   have f0 := fun fr' e1 e2 => fin 0 fr' e1 e2
   simp only [Nat.add_zero] at f0
   exact f0 _ _ _ (by omega) (by simp only [go_sem, seval, h0]) (by simp only [go_sem, seval, h1]) (by simp only [go_sem, seval, h5]) (by simp only [go_sem, seval, h6]) (by simp only [go_sem, seval, h22]) (by simp only [go_sem, seval])
 ·have hc0 : ((i : Int) < ((n + 1 : Nat) : Int)) = False := by simp; omega
  obtain rfl : i = n + 1 := by omega
  simp (disch := omega) only [go_sem, seval, wqq, zbn, zb4, zb5, zaI, zbv, zc0, h22, h23, hc0]
  have := cont (fr.put 24 (.b false)) e1 (some ⟨[.i .u64 (c : Int)], true, e2⟩) (by simp only [go_sem, seval, h5])
  have ht : (tab (n + 1) fun k => (PV.i .u32 ((if k < n + 1 then dgt (a + b) k else 0 : Nat) : Int))) = tab (n + 1) fun k => (PV.i .u32 ((dgt (a + b) k : Nat) : Int)) := zai fun k hk => by rw [if_pos hk]
  rw [← ht] at this
  exact this
theorem zmM {n m a b : Nat} (ha : a < 4294967296 ^ n) (hb : b < 4294967296 ^ m) (hn : n < 1073741824) (hm : m < 1073741824) : pf E0 40 [Dw n a, Dw m b] = some (Dw (max n m + 1) (a + b)) := by
 refine zaa (xf := zwX) rfl (by simp [zwX]) ?_
 simp only [zwX]
 have fin : ∀ (n m a b : Nat), m ≤ n → a < 4294967296 ^ n → b < 4294967296 ^ m → n < 1073741824 → ∀ fr M, fr 0 = Dw n a → fr 1 = Dw m b → fr 5 = .sl 0 0 (n + 1) (n + 1) 1 → fr 6 = .fn 77 [.p 1 0] → fr 22 = .i .i64 ((n + 1 : Nat) : Int) → fr 23 = .i .i64 0 → M = [some ⟨List.replicate (n + 1) (.i .u32 0), true, 0⟩, some ⟨[.i .u64 0], true, 0⟩] → ∀ n' s, n' = n + 1 → s = a + b →
   WK E0 { res := [XR.tmp 4], Q := fun w M2 => Option.map Prod.fst (fz M2 12 w) = some (Dw n' s) } (.loop zvX) [KI.block 0, KI.seq ((XC.reg [⟨some 55, .mov (.t 5), [], none⟩, ⟨some 4, .mov (.t 55), [0, 0], none⟩]).seq XC.ret)] fr M := by
  intro n m a b hm ha hb hn fr M h0 h1 h5 h6 h22 h23 hM n' s hn' hs
  subst hn' hs
  refine zkL hm ha hb (by omega) h0 h1 h5 h6 h22 h23 hM fun fr' e b2 g5 => ?_
  simp only [go_sem, seval, g5]
 by_cases h : n < m
 ·have hc : ((n : Int) < (m : Int)) = True := by simp; omega
  simp (disch := omega) only [go_sem, seval, wqq, zbn, zb4, zb5, zaI, zbv, zc0, hc, zcF]
  exact fin m n b a (by omega) hb ha (by omega) _ _ (by simp only [go_sem, seval]) (by simp only [go_sem, seval]) (by simp only [go_sem, seval]) (by simp only [go_sem, seval]) (by simp only [go_sem, seval]) (by simp only [go_sem, seval]) rfl _ _ (by omega) (by omega)
 ·have hc : ((n : Int) < (m : Int)) = False := by simp; omega
  simp (disch := omega) only [go_sem, seval, wqq, zbn, zb4, zb5, zaI, zbv, zc0, hc, zcF]
  exact fin n m a b (by omega) ha hb (by omega) _ _ (by simp only [go_sem, seval]) (by simp only [go_sem, seval]) (by simp only [go_sem, seval]) (by simp only [go_sem, seval]) (by simp only [go_sem, seval]) (by simp only [go_sem, seval]) rfl _ _ (by omega) rfl
theorem zia (n : Nat) (k : IntKind) (g : Nat → Int) : ez 1 (tab n fun j => PV.i k (g j)) = true := by
 unfold ez tab
 simp [PV.cells]
theorem zgB (n : Nat) (k : IntKind) (g : Nat → Int) : flat (tab n fun j => PV.i k (g j)) = tab n fun j => PV.i k (g j) := by
 unfold flat tab
 rw [List.flatMap_map]
 simp only [PV.cells]
 rw [← List.map_eq_flatMap]
theorem znD {n a e : Nat} {l : List PV} (hl : l.length = n) : cpyP [some ⟨l, true, e⟩] 1 (.sl 0 0 n n 1) (Dw n a) = some (.i .i64 (n : Int), [some ⟨tab n fun k => (PV.i .u32 ((dgt a k : Nat) : Int)), true, e + 1⟩]) := by
 have h1 : srcP [some ⟨l, true, e⟩] 1 (Dw n a) = some (n, tab n fun k => (PV.i .u32 ((dgt a k : Nat) : Int))) := by
  simp only [srcP, Dw, zia, if_true, zgB, za6]
 simp only [cpyP, h1, ne_eq, not_true_eq_false, if_false, zjP, Nat.min_self, Nat.mul_one, Nat.zero_add, hl, Nat.le_refl, and_self, if_true, List.set_cons_zero, zkO]
 congr 5
 simp [psplice, hl]
theorem zkK {F : PFin} {ks : List KI} {n m a b s e0 : Nat} (hs : a = s + b) (hb : b < 4294967296 ^ m) (hn : n < 1099511627776) (hm : m < 1099511627776) {fr : PFr} {M : PM} (h0 : fr 0 = .sl 0 0 n n 1) (h1 : fr 1 = Dw m b)
  (h5 : fr 5 = .i .u64 0) (h10 : fr 10 = .i .i64 (n : Int)) (h11 : fr 11 = .i .i64 0) (hM : M = [some ⟨tab n fun k => (PV.i .u32 ((dgt a k : Nat) : Int)), true, e0⟩])
  (cont : ∀ fr' e (c : Nat), fr' 5 = .i .u64 (c : Int) → UK E0 F (.exit 0) ks fr' [some ⟨tab n (fun k => (PV.i .u32 ((dgt s k : Nat) : Int))), true, e⟩]) : WK E0 F (.loop zvp) ks fr M := by
 refine zat zvp.eq_1 (fun (i : Nat) fr M => i ≤ n ∧ fr 0 = .sl 0 0 n n 1 ∧ fr 1 = Dw m b ∧ fr 10 = .i .i64 (n : Int) ∧ fr 11 = .i .i64 (i : Int) ∧
  ∃ c e : Nat, fr 5 = .i .u64 (c : Int) ∧ M = [some ⟨tab n fun k => (PV.i .u32 ((if k < i then dgt s k else dgt a k : Nat) : Int)), true, e⟩] ∧ c ≤ 1 ∧ s % 4294967296 ^ i + b % 4294967296 ^ i = a % 4294967296 ^ i + 4294967296 ^ i * c)
  (fun i => n - i) ?_ 0 ⟨Nat.zero_le _, h0, h1, h10, h11, 0, e0, h5, by rw [hM]; rfl, Nat.zero_le _, by simp [Nat.mod_one]⟩
 rintro i fr M ⟨hi, h0, h1, h10, h11, c, e, h5, rfl, hc, hinv⟩ ih
 by_cases hin : i < n
 ·have hc0 : ((i : Int) < (n : Int)) = True := by simp; omega
  have da := zaC a i
  have db := zaC b i
  have ds := zaC s i
  have hget : (tab n fun k => (PV.i .u32 ((if k < i then dgt s k else dgt a k : Nat) : Int)))[i]? = some ((PV.i .u32 ((dgt a i : Nat) : Int))) := by rw [za0 hin, if_neg (by omega)]
  have fin : ∀ z c' fr' e, z < 4294967296 → dgt a i + 4294967296 * c' = z + c + dgt b i → fr' 0 = .sl 0 0 n n 1 → fr' 1 = Dw m b → fr' 10 = .i .i64 (n : Int) → fr' 11 = .i .i64 ((i + 1 : Nat) : Int) → fr' 5 = .i .u64 (c' : Int) → ∀ M', M' = [some ⟨tab n fun k => if k = i then (PV.i .u32 ((z : Nat) : Int)) else (PV.i .u32 ((if k < i then dgt s k else dgt a k : Nat) : Int)), true, e⟩] →
    WK E0 F (.loop zvp) ks fr' M' := by
   intro z c' fr' e hz heq g0 g1 g10 g11 g5 M' hM'
   subst hM'
   have sa := zce s i
   have sb := zce b i
   obtain ⟨k1, k2⟩ := zfV (P := 4294967296 ^ i) (T := s % 4294967296 ^ i + b % 4294967296 ^ i) (s := a) (c := c) (d := dgt s i + dgt b i) (r := s / (4294967296 ^ i * 4294967296) + b / (4294967296 ^ i * 4294967296)) (zbJ i) hinv (by rw [Nat.mul_add, Nat.mul_add]; omega)
   have k1' : dgt a i = (c + (dgt s i + dgt b i)) % 4294967296 := by rw [zaj a]; exact k1
   have hz' : z = dgt s i := by omega
   have hc' : c' = (c + (dgt s i + dgt b i)) / 4294967296 := by omega
   refine ih (i + 1) fr' _ (by omega) ⟨by omega, g0, g1, g10, g11, c', e, g5, ?_, by omega, ?_⟩
   ·congr 3
    refine zai fun k hk => ?_
    by_cases hki : k = i
    ·subst hki
     rw [if_pos rfl, if_pos (by omega), hz']
    ·rw [if_neg hki]
     congr 1
     by_cases h : k < i
     ·rw [if_pos h, if_pos (by omega)]
     ·rw [if_neg h, if_neg (by omega)]
   ·rw [hc', zaH, zaH b, Nat.pow_succ, ← k2, Nat.mul_add]; omega
  have i0 : ((i : Int) + 1) = ((i + 1 : Nat) : Int) := by omega
  by_cases him : i < m
  ·have hc2 : ((i : Int) < (m : Int)) = True := by simp; omega
   by_cases hgt : dgt a i < c + dgt b i
   ·have hg : ((dgt a i : Int) < (c : Int) + (dgt b i : Int)) = True := by simp; omega
    simp (disch := omega) only [go_sem, seval, wqq, h0, h1, h5, h10, h11, hc0, hc2, zaS, hin, hget, hg, i0, zaD]
    refine fin (dgt a i + 4294967296 - (c + dgt b i)) 1 _ (e + 1) (by omega) (by omega) (by simp only [go_sem, seval, h0]) (by simp only [go_sem, seval, h1]) (by simp only [go_sem, seval, h10]) (by simp only [go_sem, seval]) (by simp only [go_sem, seval]; try rfl) _ ?_
    congr 3
    refine zai fun k hk => ?_
    split
    ·congr 1; omega
    ·rfl
   ·have hg : ((dgt a i : Int) < (c : Int) + (dgt b i : Int)) = False := by simp; omega
    simp (disch := omega) only [go_sem, seval, wqq, h0, h1, h5, h10, h11, hc0, hc2, zaS, hin, hget, hg, i0, zaD]
    refine fin (dgt a i - (c + dgt b i)) 0 _ (e + 1) (by omega) (by omega) (by simp only [go_sem, seval, h0]) (by simp only [go_sem, seval, h1]) (by simp only [go_sem, seval, h10]) (by simp only [go_sem, seval]) (by simp only [go_sem, seval]; try rfl) _ ?_
    congr 3
    refine zai fun k hk => ?_
    split
    ·congr 1; omega
    ·rfl
  ·have hc2 : ((i : Int) < (m : Int)) = False := by simp; omega
   have hz : dgt b i = 0 := zbD hb (by omega)
   by_cases hgt : dgt a i < c
   ·have hg : ((dgt a i : Int) < (c : Int)) = True := by simp; omega
    simp (disch := omega) only [go_sem, seval, wqq, h0, h1, h5, h10, h11, hc0, hc2, zaS, hin, hget, hg, i0, zaD]
    refine fin (dgt a i + 4294967296 - c) 1 _ (e + 1) (by omega) (by omega) (by simp only [go_sem, seval, h0]) (by simp only [go_sem, seval, h1]) (by simp only [go_sem, seval, h10]) (by simp only [go_sem, seval]) (by simp only [go_sem, seval]; try rfl) _ ?_
    congr 3
    refine zai fun k hk => ?_
    split
    ·congr 1; omega
    ·rfl
   ·have hg : ((dgt a i : Int) < (c : Int)) = False := by simp; omega
    simp (disch := omega) only [go_sem, seval, wqq, h0, h1, h5, h10, h11, hc0, hc2, zaS, hin, hget, hg, i0, zaD]
    refine fin (dgt a i - c) 0 _ (e + 1) (by omega) (by omega) (by simp only [go_sem, seval, h0]) (by simp only [go_sem, seval, h1]) (by simp only [go_sem, seval, h10]) (by simp only [go_sem, seval]) (by simp only [go_sem, seval]; try rfl) _ ?_
    congr 3
    refine zai fun k hk => ?_
    split
    ·congr 1; omega
    ·rfl
 ·have hc0 : ((i : Int) < (n : Int)) = False := by simp; omega
  obtain rfl : i = n := by omega
  simp only [go_sem, seval, h10, h11, hc0]
  have ht : (tab i fun k => (PV.i .u32 ((if k < i then dgt s k else dgt a k : Nat) : Int))) = tab i fun k => (PV.i .u32 ((dgt s k : Nat) : Int)) := zai fun k hk => by rw [if_pos hk]
  rw [ht]
  exact cont _ e c (by simp only [go_sem, seval, h5])
theorem zbf {n m a b s : Nat} (hs : a = s + b) (hb : b < 4294967296 ^ m) (hn : n < 1073741824) (hm : m < 1073741824) (ha : a < 4294967296 ^ n) : pf E0 42 [Dw n a, Dw m b] = some (Dw n s) := by
 by_cases h0 : n = 0
 ·subst h0
  have ha0 : a = 0 := by simpa using ha
  obtain rfl : s = 0 := by omega
  obtain rfl : b = 0 := by omega
  have hsub : ∃ v M', pcl E0 62 [.nl, Dw m 0] [] = some (v, M') ∧ M' = [] := by
   refine ze7 (xf := zve) rfl rfl (by simp [zve]) ?_
   simp only [zve]
   simp only [go_sem, seval]
   refine zcN ?_
   simp only [zvp]
   simp (disch := omega) only [go_sem, seval, wqq, Int.lt_irrefl]
  obtain ⟨v, M', h1, rfl⟩ := hsub
  refine zaa (xf := zvb) rfl (by simp [zvb]) ?_
  simp only [zvb]
  have hc : cpyP [] 1 .nl (Dw 0 a) = some (.i .i64 0, []) := by
   simp [cpyP, Dw, srcP, ez, tab]
  simp only [go_sem, seval, Int.natCast_zero, zcP, Int.reduceLE, Int.reduceToNat, zd3, hc, h1]
  rfl
 ·have hsub : ∃ v M', pcl E0 62 [.sl 0 0 n n 1, Dw m b] [some ⟨tab n fun k => (PV.i .u32 ((dgt a k : Nat) : Int)), true, 1⟩] = some (v, M') ∧ ∃ e, M' = [some ⟨tab n fun k => (PV.i .u32 ((dgt s k : Nat) : Int)), true, e⟩] := by
   refine ze7 (xf := zve) rfl rfl (by simp [zve]) ?_
   simp only [zve]
   simp only [go_sem, seval]
   refine zkK hs hb (by omega) (by omega) (by simp only [go_sem, seval]) (by simp only [go_sem, seval]) (by simp only [go_sem, seval]) (by simp only [go_sem, seval]) (by simp only [go_sem, seval]) rfl fun fr' e c g5 => ?_
   simp only [go_sem, seval, g5]
   exact ⟨e, rfl⟩
  obtain ⟨v, M', h1, e, rfl⟩ := hsub
  refine zaa (xf := zvb) rfl (by simp [zvb]) ?_
  simp only [zvb]
  have hc := znD (n := n) (a := a) (e := 0) (l := List.replicate n (.i .u32 0)) (by simp)
  simp (disch := omega) only [go_sem, seval, wqq, zcF, hc, h1, h0]
end Go.Eng
namespace Go.Eng
theorem zit {a b : Nat} : a + b < 4294967296 ^ (max (wlen a) (wlen b) + 1) := by
 have h1 := Nat.lt_of_lt_of_le (zah a) (Nat.pow_le_pow_right (by decide : 0 < 4294967296) (Nat.le_max_left (wlen a) (wlen b)))
 have h2 := Nat.lt_of_lt_of_le (zah b) (Nat.pow_le_pow_right (by decide : 0 < 4294967296) (Nat.le_max_right (wlen a) (wlen b)))
 rw [Nat.pow_succ]; omega
theorem zko (x y : WI) : pf E0 23 [wiP x, wiP y] = some (.tu [wiP (clip (x.v + y.v)), .i .i64 (lerr (x.v + y.v))]) := by
 refine zaa (xf := zwI) rfl (by simp [zwI]) ?_
 simp only [zwI]
 have lx := x.lim
 have ly := y.lim
 have hsum := zmM (zah x.v.natAbs) (zah y.v.natAbs) (by omega) (by omega)
 have hcmp := zbR x.v.natAbs y.v.natAbs (by omega) (by omega)
 have lm : max (wlen x.v.natAbs) (wlen y.v.natAbs) + 1 < 1099511627776 := by omega
 by_cases hx : x.v < 0
 ·by_cases hy : y.v < 0
  ·have hsg := zaL true _ _ (zit (a := x.v.natAbs) (b := y.v.natAbs)) lm
   have e1 : (if true = true then -((x.v.natAbs + y.v.natAbs : Nat) : Int) else ((x.v.natAbs + y.v.natAbs : Nat) : Int)) = x.v + y.v := by rw [if_pos rfl]; omega
   have e2 : lerr ((x.v.natAbs + y.v.natAbs : Nat) : Int) = lerr (x.v + y.v) := by rw [← e1, if_pos rfl, zeZ]
   rw [e1, e2] at hsg
   simp only [go_sem, seval, hx, hy]
   refine zbi rfl ?_
   simp only [go_sem, seval, hsum, hsg]
  ·by_cases hab : x.v.natAbs < y.v.natAbs
   ·have hc : (cmpI (x.v.natAbs : Int) (y.v.natAbs : Int) < 0) = True := by unfold cmpI; simp; omega
    have hd := zbf (a := y.v.natAbs) (b := x.v.natAbs) (s := y.v.natAbs - x.v.natAbs) (by omega) (zah _) (by omega) (by omega) (zah y.v.natAbs)
    have hsg := zaL false (wlen y.v.natAbs) (y.v.natAbs - x.v.natAbs) (Nat.lt_of_le_of_lt (Nat.sub_le _ _) (zah _)) (by omega)
    have e1 : ((y.v.natAbs - x.v.natAbs : Nat) : Int) = x.v + y.v := by omega
    rw [if_neg (by simp), e1] at hsg
    simp only [go_sem, seval, hx, hy, hcmp, hc]
    refine zbi rfl ?_
    simp only [go_sem, seval, hd, hsg]
   ·have hc : (cmpI (x.v.natAbs : Int) (y.v.natAbs : Int) < 0) = False := by unfold cmpI; simp; omega
    have hd := zbf (a := x.v.natAbs) (b := y.v.natAbs) (s := x.v.natAbs - y.v.natAbs) (by omega) (zah _) (by omega) (by omega) (zah x.v.natAbs)
    have hsg := zaL true (wlen x.v.natAbs) (x.v.natAbs - y.v.natAbs) (Nat.lt_of_le_of_lt (Nat.sub_le _ _) (zah _)) (by omega)
    have e1 : -((x.v.natAbs - y.v.natAbs : Nat) : Int) = x.v + y.v := by omega
    rw [if_pos rfl, e1, ← zeZ, e1] at hsg
    simp only [go_sem, seval, hx, hy, hcmp, hc]
    refine zbi rfl ?_
    simp only [go_sem, seval, hd, hsg]
 ·by_cases hy : y.v < 0
  ·by_cases hab : x.v.natAbs < y.v.natAbs
   ·have hc : (cmpI (x.v.natAbs : Int) (y.v.natAbs : Int) < 0) = True := by unfold cmpI; simp; omega
    have hd := zbf (a := y.v.natAbs) (b := x.v.natAbs) (s := y.v.natAbs - x.v.natAbs) (by omega) (zah _) (by omega) (by omega) (zah y.v.natAbs)
    have hsg := zaL true (wlen y.v.natAbs) (y.v.natAbs - x.v.natAbs) (Nat.lt_of_le_of_lt (Nat.sub_le _ _) (zah _)) (by omega)
    have e1 : -((y.v.natAbs - x.v.natAbs : Nat) : Int) = x.v + y.v := by omega
    rw [if_pos rfl, e1, ← zeZ, e1] at hsg
    simp only [go_sem, seval, hx, hy, hcmp, hc]
    refine zbi rfl ?_
    simp only [go_sem, seval, hd, hsg]
   ·have hc : (cmpI (x.v.natAbs : Int) (y.v.natAbs : Int) < 0) = False := by unfold cmpI; simp; omega
    have hd := zbf (a := x.v.natAbs) (b := y.v.natAbs) (s := x.v.natAbs - y.v.natAbs) (by omega) (zah _) (by omega) (by omega) (zah x.v.natAbs)
    have hsg := zaL false (wlen x.v.natAbs) (x.v.natAbs - y.v.natAbs) (Nat.lt_of_le_of_lt (Nat.sub_le _ _) (zah _)) (by omega)
    have e1 : ((x.v.natAbs - y.v.natAbs : Nat) : Int) = x.v + y.v := by omega
    rw [if_neg (by simp), e1] at hsg
    simp only [go_sem, seval, hx, hy, hcmp, hc]
    refine zbi rfl ?_
    simp only [go_sem, seval, hd, hsg]
  ·have hsg := zaL false _ _ (zit (a := x.v.natAbs) (b := y.v.natAbs)) lm
   have e1 : ((x.v.natAbs + y.v.natAbs : Nat) : Int) = x.v + y.v := by omega
   rw [if_neg (by simp), e1] at hsg
   simp only [go_sem, seval, hx, hy]
   refine zbi rfl ?_
   simp only [go_sem, seval, hsum, hsg]
attribute [go_sem] zko
theorem zmw (x y : WI) : pf E0 39 [wiP x, wiP y] = some (.tu [wiP (clip (x.v - y.v)), .i .i64 (lerr (x.v - y.v))]) := by
 refine zaa (xf := zwQ) rfl (by simp [zwQ]) ?_
 simp only [zwQ]
 simp only [go_sem, seval]
 refine zbi rfl ?_
 simp only [go_sem, seval]
 rfl
attribute [go_sem] zmw
theorem zoJ (P w b i j : Nat) : P + w * 4294967296 ^ i * b = (P % 4294967296 ^ (i + j) + w * 4294967296 ^ i * (b % 4294967296 ^ j)) + 4294967296 ^ (i + j) * (dgt P (i + j) + w * dgt b j) + 4294967296 ^ (i + j) * 4294967296 * (P / (4294967296 ^ (i + j) * 4294967296) + w * (b / (4294967296 ^ j * 4294967296))) := by
 have sp := zce P (i + j)
 have sb := zce b j
 rw [Nat.pow_add] at sp ⊢
 generalize 4294967296 ^ i = p at *
 generalize 4294967296 ^ j = q at *
 generalize P % (p * q) = r1 at *
 generalize P / (p * q * 4294967296) = r2 at *
 generalize b % q = r3 at *
 generalize b / (q * 4294967296) = r4 at *
 generalize dgt P (i + j) = r5 at *
 generalize dgt b j = r6 at *
 subst sp sb
 grind
theorem zkF {F : PFin} {ks : List KI} {n m P b w i e0 : Nat} (hb : b < 4294967296 ^ m) (hw : w < 4294967296) (hi : i < n) (hn : n < 1073741824) (hm : m < 1073741824) {fr : PFr} {M : PM} (h1 : fr 25 = Dw m b) (h5 : fr 5 = .sl 0 0 (n + m) (n + m) 1)
  (h6 : fr 6 = .i .i64 (i : Int)) (h7 : fr 7 = (PV.i .u32 ((w : Nat) : Int))) (h8 : fr 8 = .i .u64 0) (h26 : fr 26 = .i .i64 (m : Int)) (h27 : fr 27 = .i .i64 0) (hM : M = [some ⟨tab (n + m) fun k => (PV.i .u32 ((dgt P k : Nat) : Int)), true, e0⟩]) (a : PV) (h0 : fr 1 = a) (N : PV) (h19 : fr 19 = N) (L : PV) (h18 : fr 18 = L) (I : PV) (h20 : fr 20 = I)
  (cont : ∀ fr' e c, fr' 1 = a → fr' 5 = .sl 0 0 (n + m) (n + m) 1 → fr' 6 = .i .i64 (i : Int) → fr' 18 = L → fr' 19 = N → fr' 20 = I → fr' 8 = .i .u64 ((c : Nat) : Int) → c < 4294967296 → P % 4294967296 ^ (i + m) + w * 4294967296 ^ i * b = (P + w * 4294967296 ^ i * b) % 4294967296 ^ (i + m) + 4294967296 ^ (i + m) * c →
   UK E0 F (.exit 2) ks fr' [some ⟨tab (n + m) (fun k => (PV.i .u32 ((if k < i + m then dgt (P + w * 4294967296 ^ i * b) k else dgt P k : Nat) : Int))), true, e⟩]) : WK E0 F (.loop zwG) ks fr M := by
 refine zat zwG.eq_1 (fun (j : Nat) fr M => j ≤ m ∧ fr 25 = Dw m b ∧ fr 5 = .sl 0 0 (n + m) (n + m) 1 ∧ fr 6 = .i .i64 (i : Int) ∧ fr 7 = (PV.i .u32 ((w : Nat) : Int)) ∧ fr 26 = .i .i64 (m : Int) ∧ fr 27 = .i .i64 (j : Int) ∧ fr 1 = a ∧ fr 18 = L ∧ fr 19 = N ∧ fr 20 = I ∧
  ∃ c e : Nat, fr 8 = .i .u64 (c : Int) ∧ M = [some ⟨tab (n + m) fun k => (PV.i .u32 ((if k < i + j then dgt (P + w * 4294967296 ^ i * b) k else dgt P k : Nat) : Int)), true, e⟩] ∧ c < 4294967296 ∧ P % 4294967296 ^ (i + j) + w * 4294967296 ^ i * (b % 4294967296 ^ j) = (P + w * 4294967296 ^ i * b) % 4294967296 ^ (i + j) + 4294967296 ^ (i + j) * c)
  (fun j => m - j) ?_ 0 ⟨Nat.zero_le _, h1, h5, h6, h7, h26, h27, h0, h18, h19, h20, 0, e0, h8, ?_, by decide, ?_⟩
 ·rintro j fr M ⟨hj, h25, h5, h6, h7, h26, h27, h0, h18, h19, h20, c, e, h8, rfl, hc, hinv⟩ ih
  by_cases hjm : j < m
  ·have hc0 : ((j : Int) < (m : Int)) = True := by simp; omega
   have db := zaC b j
   have dp := zaC P (i + j)
   have hget : (tab (n + m) fun k => (PV.i .u32 ((if k < i + j then dgt (P + w * 4294967296 ^ i * b) k else dgt P k : Nat) : Int)))[i + j]? = some (PV.i .u32 ((dgt P (i + j) : Nat) : Int)) := by rw [za0 (by omega), if_neg (by omega)]
   have hij : ((i : Int) + (j : Int)) = ((i + j : Nat) : Int) := by omega
   have j1 : ((j : Int) + 1) = ((j + 1 : Nat) : Int) := by omega
   have hmul : w * dgt b j ≤ 4294967295 * 4294967295 := Nat.mul_le_mul (by omega) (by omega)
   have hww : ((w : Int) * (dgt b j : Int)) = ((w * dgt b j : Nat) : Int) := by simp
   have hadd : (((w * dgt b j : Nat) : Int) + (dgt P (i + j) : Int) + (c : Int)) = ((w * dgt b j + dgt P (i + j) + c : Nat) : Int) := by omega
   have hlt : i + j < n + m := by omega
   simp (disch := omega) only [go_sem, seval, wqq, h25, h5, h6, h7, h8, h26, h27, hc0, zaS, hij, hget, hww, hadd, hlt, j1, zbj, zaD, Int.reduceToNat, Nat.reducePow]
   obtain ⟨k1, k2⟩ := zfV (c := c) (zbJ (i + j)) hinv (zoJ P w b i j)
   have hx : c + (dgt P (i + j) + w * dgt b j) = w * dgt b j + dgt P (i + j) + c := by omega
   rw [hx] at k1 k2
   refine ih (j + 1) _ _ (by omega) ⟨by omega, by simp only [go_sem, seval, h25], by simp only [go_sem, seval, h5], by simp only [go_sem, seval, h6], by simp only [go_sem, seval, h7], by simp only [go_sem, seval, h26], by simp only [go_sem, seval], by simp only [go_sem, seval, h0], by simp only [go_sem, seval, h18], by simp only [go_sem, seval, h19], by simp only [go_sem, seval, h20], (w * dgt b j + dgt P (i + j) + c) / 4294967296, e + 1, by simp only [go_sem, seval], ?_, by omega, ?_⟩
   ·congr 3
    refine zai fun k hk => ?_
    by_cases hki : k = i + j
    ·subst hki
     rw [if_pos rfl, if_pos (by omega)]
     congr 2; rw [zaj (P + w * 4294967296 ^ i * b)]; exact k1.symm
    ·rw [if_neg hki]
     congr 2
     by_cases h : k < i + j
     ·rw [if_pos h, if_pos (by omega)]
     ·rw [if_neg h, if_neg (by omega)]
   ·rw [show i + (j + 1) = i + j + 1 by omega, Nat.pow_succ, ← k2, ← Nat.pow_succ, zaH P, zaH b]
    rw [Nat.pow_add]
    grind
  ·have hc0 : ((j : Int) < (m : Int)) = False := by simp; omega
   obtain rfl : j = m := by omega
   simp only [go_sem, seval, h26, h27, hc0]
   rw [Nat.mod_eq_of_lt hb] at hinv
   exact cont _ e c (by simp only [go_sem, seval, h0]) (by simp only [go_sem, seval, h5]) (by simp only [go_sem, seval, h6]) (by simp only [go_sem, seval, h18]) (by simp only [go_sem, seval, h19]) (by simp only [go_sem, seval, h20]) (by simp only [go_sem, seval, h8]) hc hinv
 ·rw [hM]
  congr 3
  refine zai fun k hk => ?_
  congr 2
  by_cases h : k < i + 0
  ·rw [if_pos h, zaj, zaj]
   have e1 : (4294967296 : Nat) ^ i = 4294967296 ^ k * (4294967296 ^ (i - k - 1) * 4294967296) := by
    rw [← Nat.pow_succ, ← Nat.pow_add]; congr 1; omega
   rw [e1, show w * (4294967296 ^ k * (4294967296 ^ (i - k - 1) * 4294967296)) * b = 4294967296 ^ k * (4294967296 * (w * 4294967296 ^ (i - k - 1) * b)) by grind, Nat.add_mul_div_left _ _ (zbJ k), Nat.add_mul_mod_self_left]
  ·rw [if_neg h]
 ·have e1 : P + w * 4294967296 ^ i * b = P + 4294967296 ^ i * (w * b) := by grind
  rw [Nat.add_zero, Nat.pow_zero, Nat.mod_one, e1, Nat.add_mul_mod_self_left]; simp
theorem zmN {n m a b : Nat} (ha : a < 4294967296 ^ n) (hb : b < 4294967296 ^ m) (hn : n < 536870912) (hm : m < 536870912) (h0 : n + m ≠ 0) : pf E0 59 [Dw n a, Dw m b] = some (Dw (n + m) (a * b)) := by
 refine zaa (xf := zvq) rfl (by simp [zvq]) ?_
 simp only [zvq]
 have hnm : ((n : Int) + (m : Int)) = ((n + m : Nat) : Int) := by omega
 simp (disch := omega) only [go_sem, seval, wqq, hnm, zcF]
 refine zat zwT.eq_1 (fun (i : Nat) fr M => i ≤ n ∧ fr 1 = Dw m b ∧ fr 5 = .sl 0 0 (n + m) (n + m) 1 ∧ fr 18 = Dw n a ∧ fr 19 = .i .i64 (n : Int) ∧ fr 20 = .i .i64 (i : Int) ∧
  ∃ e : Nat, M = [some ⟨tab (n + m) fun k => (PV.i .u32 ((dgt (a % 4294967296 ^ i * b) k : Nat) : Int)), true, e⟩]) (fun i => n - i) ?_ 0 ⟨Nat.zero_le _, by simp only [go_sem, seval], by simp only [go_sem, seval], by simp only [go_sem, seval], by simp only [go_sem, seval], by simp only [go_sem, seval]; try rfl, 0, ?_⟩
 ·rintro i fr M ⟨hi, h1, h5, h18, h19, h20, e, rfl⟩ ih
  by_cases hin : i < n
  ·have hc0 : ((i : Int) < (n : Int)) = True := by simp; omega
   have i1 : ((i : Int) + 1) = ((i + 1 : Nat) : Int) := by omega
   simp (disch := omega) only [go_sem, seval, wqq, h1, h5, h18, h19, h20, hc0, zaS]
   refine zkF (n := n) (P := a % 4294967296 ^ i * b) (w := dgt a i) hb (zaC a i) hin (by omega) (by omega) (by simp only [go_sem, seval, h1]) (by simp only [go_sem, seval, h5]) (by simp only [go_sem, seval]) (by simp only [go_sem, seval]) (by simp only [go_sem, seval]) (by simp only [go_sem, seval]) (by simp only [go_sem, seval]) rfl (Dw m b) (by simp only [go_sem, seval, h1]) (.i .i64 (n : Int)) (by simp only [go_sem, seval, h19]) (Dw n a) (by simp only [go_sem, seval, h18]) (.i .i64 (i : Int)) (by simp only [go_sem, seval, h20]) fun fr' e' c g1 g5 g6 g18 g19 g20 g8 hc hinv => ?_
   have him : ((i : Int) + (m : Int)) = ((i + m : Nat) : Int) := by omega
   have hlt : i + m < n + m := by omega
   simp (disch := omega) only [go_sem, seval, wqq, g1, g5, g6, g18, g19, g20, g8, him, hlt, i1, zaD]
   have hP : a % 4294967296 ^ (i + 1) * b = a % 4294967296 ^ i * b + dgt a i * 4294967296 ^ i * b := by rw [zaH]; grind
   have hPl : a % 4294967296 ^ i * b < 4294967296 ^ (i + m) := by
    rw [Nat.pow_add]
    exact Nat.mul_lt_mul'' (Nat.mod_lt _ (zbJ i)) hb
   refine ih (i + 1) _ _ (by omega) ⟨by omega, by simp only [go_sem, seval, g1], by simp only [go_sem, seval, g5], by simp only [go_sem, seval, g18], by simp only [go_sem, seval, g19], by simp only [go_sem, seval], e' + 1, ?_⟩
   congr 3
   refine zai fun k hk => ?_
   rw [hP]
   rw [Nat.mod_eq_of_lt hPl] at hinv
   have hval : a % 4294967296 ^ i * b + dgt a i * 4294967296 ^ i * b = (a % 4294967296 ^ i * b + dgt a i * 4294967296 ^ i * b) % 4294967296 ^ (i + m) + 4294967296 ^ (i + m) * c := hinv
   have hd : (a % 4294967296 ^ i * b + dgt a i * 4294967296 ^ i * b) / 4294967296 ^ (i + m) = c := by
    have h1 := Nat.div_add_mod (a % 4294967296 ^ i * b + dgt a i * 4294967296 ^ i * b) (4294967296 ^ (i + m))
    exact Nat.eq_of_mul_eq_mul_left (zbJ (i + m)) (by omega)
   by_cases hki : k = i + m
   ·subst hki
    rw [if_pos rfl, zaj, hd]
    congr 2; omega
   ·rw [if_neg hki]
    congr 2
    by_cases h : k < i + m
    ·rw [if_pos h]
    ·rw [if_neg h, zbD hPl (by omega)]
     have : a % 4294967296 ^ i * b + dgt a i * 4294967296 ^ i * b < 4294967296 ^ (i + m + 1) := by
      rw [Nat.pow_succ]
      have h2 := Nat.mod_lt (a % 4294967296 ^ i * b + dgt a i * 4294967296 ^ i * b) (zbJ (i + m))
      have h3 : 4294967296 ^ (i + m) * (c + 1) ≤ 4294967296 ^ (i + m) * 4294967296 := Nat.mul_le_mul_left _ (by omega)
      rw [Nat.mul_add] at h3
      omega
     rw [zbD this (by omega)]
  ·have hc0 : ((i : Int) < (n : Int)) = False := by simp; omega
   obtain rfl : i = n := by omega
   simp only [go_sem, seval, h5, h19, h20, hc0]
   rw [Nat.mod_eq_of_lt ha]
   simp only [h0, if_false]; rfl
 ·rw [zcq]
  congr 3
  refine zai fun k hk => ?_
  simp [Nat.mod_one, zdC]
end Go.Eng

/- The resolved code of the functions of this seat, with directions: written by a program out of the translation, checked by the kernel. -/
import Derived.Test.YtghggnfomlibjaaProg
import Derived.Test.YtghggnfomlibjaaVH
import Derived.KernelRfl
set_option maxRecDepth 100000
set_option linter.unusedVariables false
namespace Go.Proofs.Ytghggnfomlibjaa
open Go.Sy
/- 3 sealwright/sealwrightlaw39.LeasesGrant · params #[22, 22, 3, 3, 4] · tmps 60 · results .tmp 10 -/
def r3_0 : List RI := [.op ⟨some 10, none, .mov (.c (.bool false))⟩ [10]]
def r3_1 : List RI := [.op ⟨some 18, none, .call (.f 8) []⟩ [],
  .op ⟨some 19, none, .un .not (.t 18)⟩ [18]]
def r3_2 : List RI := [.op ⟨some 10, none, .mov (.c (.bool false))⟩ []]
def r3_3 : List RI := [.op ⟨some 21, none, .mov (.t 0)⟩ [0],
  .op ⟨some 22, none, .call (.f 9) [(.t 21)]⟩ [21],
  .op ⟨some 20, none, .mov (.t 22)⟩ [22],
  .op ⟨some 23, none, .ext (.t 20) 0⟩ [],
  .op ⟨some 24, none, .ext (.t 20) 1⟩ [20],
  .op ⟨some 11, none, .new (.rc [(.lst 3 [] .clip), (.lst 3 [] .clip)])⟩ [],
  .op ⟨none, none, .store 2 (.t 11) (.t 23)⟩ [23],
  .op ⟨some 12, none, .mov (.t 24)⟩ [24]]
def r3_4 : List RI := [.op ⟨some 25, none, .mov (.t 4)⟩ [4],
  .op ⟨some 26, none, .un .not (.t 25)⟩ [25]]
def r3_5 : List RI := [.op ⟨some 27, none, .mov (.t 2)⟩ [2],
  .op ⟨some 28, none, .call (.f 10) [(.t 27), (.c (.int .i64 6))]⟩ [27],
  .op ⟨some 29, none, .mov (.t 12)⟩ [12],
  .op ⟨some 30, none, .mov (.t 3)⟩ [3],
  .op ⟨some 31, none, .call (.f 10) [(.t 30), (.c (.int .i64 30))]⟩ [30],
  .op ⟨some 32, none, .bin .add (.t 29) (.t 31)⟩ [29, 31],
  .op ⟨some 2, none, .mov (.t 28)⟩ [28],
  .op ⟨some 3, none, .mov (.t 32)⟩ [32]]
def r3_6 : List RI := [.op ⟨some 33, none, .mov (.t 1)⟩ [1],
  .op ⟨some 34, none, .call (.f 12) [(.t 33), (.c (.int .i64 10))]⟩ [33],
  .op ⟨some 35, none, .call (.f 11) [(.t 34)]⟩ [34],
  .op ⟨some 13, none, .mov (.t 35)⟩ [35]]
def r3_7 : List RI := [.op ⟨some 37, none, .load 2 true (.t 11)⟩ [],
  .op ⟨some 38, none, .mov (.t 2)⟩ [],
  .op ⟨some 39, none, .mov (.t 3)⟩ [],
  .op ⟨some 40, none, .mov (.t 13)⟩ [],
  .op ⟨some 41, none, .call (.f 13) [(.t 37), (.t 38), (.t 39), (.t 40)]⟩ [37, 38, 39, 40],
  .op ⟨some 36, none, .mov (.t 41)⟩ [41],
  .op ⟨some 42, none, .ext (.t 36) 0⟩ [],
  .op ⟨some 43, none, .ext (.t 36) 1⟩ [36],
  .op ⟨some 14, none, .new (.rc [(.lst 3 [] .clip), (.lst 3 [] .clip)])⟩ [],
  .op ⟨none, none, .store 2 (.t 14) (.t 42)⟩ [42],
  .op ⟨some 15, none, .mov (.t 43)⟩ [43]]
def r3_8 : List RI := [.op ⟨some 45, none, .load 2 true (.t 11)⟩ [11],
  .op ⟨some 46, none, .mov (.t 2)⟩ [2],
  .op ⟨some 47, none, .mov (.t 3)⟩ [3],
  .op ⟨some 48, none, .mov (.t 13)⟩ [13],
  .op ⟨some 49, none, .call (.f 14) [(.t 45), (.t 46), (.t 47), (.t 48)]⟩ [45, 46, 47, 48],
  .op ⟨some 44, none, .mov (.t 49)⟩ [49],
  .op ⟨some 50, none, .ext (.t 44) 0⟩ [],
  .op ⟨some 51, none, .ext (.t 44) 1⟩ [44],
  .op ⟨some 16, none, .new (.rc [(.lst 3 [] .clip), (.lst 3 [] .clip)])⟩ [],
  .op ⟨none, none, .store 2 (.t 16) (.t 50)⟩ [50],
  .op ⟨some 17, none, .mov (.t 51)⟩ [51]]
def r3_9 : List RI := [.op ⟨some 52, none, .mov (.t 15)⟩ [15],
  .op ⟨some 53, none, .mov (.t 17)⟩ [17],
  .op ⟨some 54, none, .bin .eql (.t 52) (.t 53)⟩ [52, 53],
  .op ⟨some 55, none, .mov (.t 54)⟩ [54],
  .grp 55 true [⟨some 56, some (55, true), .load 2 true (.t 14)⟩,
    ⟨some 57, some (55, true), .load 2 true (.t 16)⟩,
    ⟨some 58, some (55, true), .call (.f 15) [(.t 56), (.t 57)]⟩] [14, 16, 56, 57],
  .op ⟨some 59, none, .pick (.t 55) (.t 58) (.c (.bool false))⟩ [55, 58],
  .op ⟨some 10, none, .mov (.t 59)⟩ [59]]
def r3 : RC := (.seq (.ops r3_0) (.seq (.seq (.ops r3_1) (.cond (.t 19) (.pre [.kill [0, 1, 2, 3, 4, 19]] (.seq (.ops r3_2) .ret)) (.pre [.kill [19]] .skip))) (.seq (.ops r3_3) (.seq (.seq (.ops r3_4) (.cond (.t 26) (.pre [.kill [26]] (.ops r3_5)) (.pre [.kill [12, 26]] .skip))) (.seq (.ops r3_6) (.seq (.ops r3_7) (.seq (.ops r3_8) (.seq (.ops r3_9) .ret))))))))
def F3 : FnC := ⟨r3, 60, [.tmp 10], [], []⟩
theorem r3_ok : ((Try.f3).body).bind (resCode Try.prog) = some r3.er := by kernel_rfl
/- 4 sealwright/sealwrightlaw39.LeasesHold · params #[22, 3, 3, 35, 4] · tmps 70 · results .tmp 10 -/
def r4_0 : List RI := [.op ⟨some 10, none, .mov (.c (.bool false))⟩ [10]]
def r4_1 : List RI := [.op ⟨some 17, none, .call (.f 8) []⟩ [],
  .op ⟨some 18, none, .un .not (.t 17)⟩ [17]]
def r4_2 : List RI := [.op ⟨some 10, none, .mov (.c (.bool false))⟩ []]
def r4_3 : List RI := [.op ⟨some 20, none, .mov (.t 0)⟩ [0],
  .op ⟨some 21, none, .call (.f 9) [(.t 20)]⟩ [20],
  .op ⟨some 19, none, .mov (.t 21)⟩ [21],
  .op ⟨some 22, none, .ext (.t 19) 0⟩ [],
  .op ⟨some 23, none, .ext (.t 19) 1⟩ [19],
  .op ⟨some 11, none, .new (.rc [(.lst 3 [] .clip), (.lst 3 [] .clip)])⟩ [],
  .op ⟨none, none, .store 2 (.t 11) (.t 22)⟩ [22],
  .op ⟨some 12, none, .mov (.t 23)⟩ [12, 23]]
def r4_4 : List RI := [.op ⟨some 24, none, .mov (.t 4)⟩ [4],
  .op ⟨some 25, none, .un .not (.t 24)⟩ [24]]
def r4_5 : List RI := [.op ⟨some 26, none, .mov (.t 1)⟩ [1],
  .op ⟨some 27, none, .call (.f 10) [(.t 26), (.c (.int .i64 6))]⟩ [26],
  .op ⟨some 1, none, .mov (.t 27)⟩ [27]]
def r4_6 : List RI := [.op ⟨some 29, none, .load 2 true (.t 11)⟩ [],
  .op ⟨some 30, none, .mov (.t 1)⟩ [],
  .op ⟨some 31, none, .call (.f 16) [(.t 29), (.t 30)]⟩ [29, 30],
  .op ⟨some 28, none, .mov (.t 31)⟩ [31],
  .op ⟨some 32, none, .ext (.t 28) 0⟩ [],
  .op ⟨some 33, none, .ext (.t 28) 1⟩ [28],
  .op ⟨some 13, none, .new (.rc [(.lst 3 [] .clip), (.lst 3 [] .clip)])⟩ [],
  .op ⟨none, none, .store 2 (.t 13) (.t 32)⟩ [32],
  .op ⟨some 14, none, .mov (.t 33)⟩ [33]]
def r4_7 : List RI := [.op ⟨some 35, none, .load 2 true (.t 11)⟩ [],
  .op ⟨some 36, none, .mov (.t 1)⟩ [],
  .op ⟨some 37, none, .call (.f 17) [(.t 35), (.t 36)]⟩ [35, 36],
  .op ⟨some 34, none, .mov (.t 37)⟩ [37],
  .op ⟨some 38, none, .ext (.t 34) 0⟩ [],
  .op ⟨some 39, none, .ext (.t 34) 1⟩ [34],
  .op ⟨some 15, none, .new (.rc [(.lst 3 [] .clip), (.lst 3 [] .clip)])⟩ [],
  .op ⟨none, none, .store 2 (.t 15) (.t 38)⟩ [38],
  .op ⟨some 16, none, .mov (.t 39)⟩ [39]]
def r4_8 : List FI := [⟨0, true, ⟨some 40, none, .load 2 true (.t 11)⟩⟩,
  ⟨1, true, ⟨some 41, none, .mov (.t 1)⟩⟩,
  ⟨2, true, ⟨some 42, none, .mov (.t 3)⟩⟩,
  ⟨3, true, ⟨some 43, none, .mov (.t 2)⟩⟩,
  ⟨5, true, ⟨some 45, none, .load 2 true (.t 11)⟩⟩,
  ⟨6, true, ⟨some 46, none, .mov (.t 1)⟩⟩,
  ⟨7, true, ⟨some 47, none, .mov (.t 3)⟩⟩,
  ⟨8, true, ⟨some 48, none, .mov (.t 2)⟩⟩,
  ⟨4, false, ⟨some 44, none, .call (.f 18) [(.t 40), (.t 41), (.t 42), (.t 43)]⟩⟩,
  ⟨9, false, ⟨some 49, none, .call (.f 19) [(.t 45), (.t 46), (.t 47), (.t 48)]⟩⟩,
  ⟨10, false, ⟨some 50, none, .call (.f 15) [(.t 44), (.t 49)]⟩⟩,
  ⟨11, true, ⟨some 51, none, .mov (.t 50)⟩⟩,
  ⟨12, true, ⟨some 52, some (51, true), .mov (.t 14)⟩⟩,
  ⟨13, true, ⟨some 53, some (51, true), .mov (.t 16)⟩⟩,
  ⟨14, true, ⟨some 54, some (51, true), .bin .eql (.t 52) (.t 53)⟩⟩,
  ⟨15, true, ⟨some 55, none, .pick (.t 51) (.t 54) (.c (.bool false))⟩⟩,
  ⟨16, true, ⟨some 56, none, .mov (.t 55)⟩⟩,
  ⟨17, true, ⟨some 57, some (56, true), .load 2 true (.t 13)⟩⟩,
  ⟨18, true, ⟨some 58, some (56, true), .load 2 true (.t 15)⟩⟩,
  ⟨19, false, ⟨some 59, some (56, true), .call (.f 15) [(.t 57), (.t 58)]⟩⟩,
  ⟨20, true, ⟨some 60, none, .pick (.t 56) (.t 59) (.c (.bool false))⟩⟩,
  ⟨21, true, ⟨some 61, none, .mov (.t 60)⟩⟩,
  ⟨22, true, ⟨some 62, some (61, true), .load 2 true (.t 11)⟩⟩,
  ⟨23, true, ⟨some 63, some (61, true), .mov (.t 1)⟩⟩,
  ⟨25, true, ⟨some 65, some (61, true), .load 2 true (.t 11)⟩⟩,
  ⟨26, true, ⟨some 66, some (61, true), .mov (.t 1)⟩⟩,
  ⟨24, false, ⟨some 64, some (61, true), .call (.f 20) [(.t 62), (.t 63)]⟩⟩,
  ⟨27, false, ⟨some 67, some (61, true), .call (.f 21) [(.t 65), (.t 66)]⟩⟩,
  ⟨28, true, ⟨some 68, some (61, true), .beq false (.t 64) (.t 67)⟩⟩,
  ⟨29, true, ⟨some 69, none, .pick (.t 61) (.t 68) (.c (.bool false))⟩⟩,
  ⟨30, true, ⟨some 10, none, .mov (.t 69)⟩⟩]
def r4 : RC := (.seq (.ops r4_0) (.seq (.seq (.ops r4_1) (.cond (.t 18) (.pre [.kill [0, 1, 2, 3, 4, 18]] (.seq (.ops r4_2) .ret)) (.pre [.kill [18]] .skip))) (.seq (.ops r4_3) (.seq (.seq (.ops r4_4) (.cond (.t 25) (.pre [.kill [25]] (.ops r4_5)) (.pre [.kill [25]] .skip))) (.seq (.ops r4_6) (.seq (.ops r4_7) (.seq (.flt [0, 0, 0, 0, 15, 0, 0, 0, 0, 511, 1023, 2047, 4095, 4095, 16383, 32767, 65535, 131071, 131071, 524287, 1048575, 2097151, 4194303, 4194303, 16777215, 4194303, 4194303, 134217727, 268435455, 536870911, 1073741823] [] r4_8 [1, 2, 3, 11, 13, 14, 15, 16, 40, 41, 42, 43, 44, 45, 46, 47, 48, 49, 50, 51, 52, 53, 54, 55, 56, 57, 58, 59, 60, 61, 62, 63, 64, 65, 66, 67, 68, 69]) .ret)))))))
def F4 : FnC := ⟨r4, 70, [.tmp 10], [], []⟩
theorem r4_ok : ((Try.f4).body).bind (resCode Try.prog) = some r4.er := by kernel_rfl
/- 5 sealwright/sealwrightlaw39.LeasesExclusive · params #[22, 3, 3] · tmps 140 · results .tmp 6 -/
def r5_0 : List RI := [.op ⟨some 6, none, .mov (.c (.bool false))⟩ [6]]
def r5_1 : List RI := [.op ⟨some 19, none, .call (.f 8) []⟩ [],
  .op ⟨some 20, none, .un .not (.t 19)⟩ [19]]
def r5_2 : List RI := [.op ⟨some 6, none, .mov (.c (.bool false))⟩ []]
def r5_3 : List RI := [.op ⟨some 21, none, .mov (.t 0)⟩ [0],
  .op ⟨some 22, none, .call (.f 12) [(.t 21), (.c (.int .i64 80))]⟩ [21],
  .op ⟨some 7, none, .mov (.t 22)⟩ [22]]
def r5_4 : List RI := [.op ⟨some 8, none, .new (.rc [(.lst 3 [] .clip), (.lst 3 [] .clip)])⟩ []]
def r5_5 : List RI := [.op ⟨some 9, none, .new (.arr 1 (List.replicate 5 [(.bool false)]))⟩ []]
def r5_6 : List RI := [.op ⟨some 10, none, .mov (.c (.int .i64 0))⟩ []]
def r5_7 : List RI := [.op ⟨some 23, none, .mov (.t 7)⟩ [],
  .op ⟨some 24, none, .call (.f 22) [(.t 23)]⟩ [23]]
def r5_8 : List RI := [.op ⟨some 25, none, .mov (.t 10)⟩ [10],
  .op ⟨some 26, none, .mov (.t 7)⟩ [],
  .op ⟨some 27, none, .call (.f 23) [(.t 26), (.c (.int .i64 20))]⟩ [26],
  .op ⟨some 28, none, .bin .add (.t 25) (.t 27)⟩ [25, 27],
  .op ⟨some 10, none, .mov (.t 28)⟩ [28]]
def r5_9 : List RI := [.op ⟨some 29, none, .mov (.t 7)⟩ [],
  .op ⟨some 30, none, .call (.f 23) [(.t 29), (.c (.int .i64 4))]⟩ [29],
  .op ⟨some 31, none, .bin .add (.c (.int .i64 1)) (.t 30)⟩ [30],
  .op ⟨some 11, none, .mov (.t 31)⟩ [31]]
def r5_10 : List RI := [.op ⟨some 32, none, .mov (.t 7)⟩ [],
  .op ⟨some 33, none, .call (.f 23) [(.t 32), (.c (.int .i64 5))]⟩ [32]]
def r5_11 : List RI := [.op ⟨some 44, none, .bin .eql (.t 33) (.c (.int .i64 0))⟩ [],
  .op ⟨some 43, none, .mov (.t 44)⟩ [44]]
def r5_12 : List RI := [.op ⟨some 45, none, .bin .eql (.t 33) (.c (.int .i64 1))⟩ [],
  .op ⟨some 43, none, .mov (.t 45)⟩ [45]]
def r5_13 : List RI := [.op ⟨some 46, none, .bin .eql (.t 33) (.c (.int .i64 2))⟩ [],
  .op ⟨some 43, none, .mov (.t 46)⟩ [46]]
def r5_14 : List RI := [.op ⟨some 48, none, .load 2 true (.t 8)⟩ [],
  .op ⟨some 49, none, .mov (.t 11)⟩ [],
  .op ⟨some 50, none, .mov (.t 10)⟩ [],
  .op ⟨some 51, none, .call (.f 13) [(.t 48), (.t 49), (.t 50), (.c (.lst 1 [] .clip))]⟩ [48, 49, 50],
  .op ⟨some 47, none, .mov (.t 51)⟩ [51],
  .op ⟨some 52, none, .ext (.t 47) 0⟩ [],
  .op ⟨some 53, none, .ext (.t 47) 1⟩ [47],
  .op ⟨some 12, none, .new (.rc [(.lst 3 [] .clip), (.lst 3 [] .clip)])⟩ [],
  .op ⟨none, none, .store 2 (.t 12) (.t 52)⟩ [52],
  .op ⟨some 13, none, .mov (.t 53)⟩ [53]]
def r5_15 : List RI := [.op ⟨some 54, none, .load 2 true (.t 8)⟩ [],
  .op ⟨some 55, none, .mov (.t 11)⟩ [],
  .op ⟨some 56, none, .call (.f 20) [(.t 54), (.t 55)]⟩ [54, 55],
  .op ⟨some 57, none, .mov (.t 13)⟩ [],
  .op ⟨some 58, none, .bin .eql (.t 57) (.c (.int .i64 48))⟩ [57],
  .op ⟨some 59, none, .beq true (.t 56) (.t 58)⟩ [56, 58]]
def r5_16 : List RI := [.op ⟨some 6, none, .mov (.c (.bool false))⟩ []]
def r5_17 : List RI := [.op ⟨some 60, none, .mov (.t 13)⟩ [13],
  .op ⟨some 61, none, .bin .eql (.t 60) (.c (.int .i64 0))⟩ [60]]
def r5_18 : List RI := [.op ⟨some 62, none, .mov (.t 11)⟩ [11],
  .op ⟨some 63, none, .load 2 true (.t 12)⟩ [12],
  .op ⟨none, none, .store 2 (.t 8) (.t 63)⟩ [63],
  .op ⟨some 64, none, .iaddrA 5 1 (.t 9) (.t 62)⟩ [62],
  .op ⟨none, none, .store 1 (.t 64) (.c (.bool true))⟩ [64]]
def r5_19 : List RI := [.op ⟨some 66, none, .bin .eql (.t 33) (.c (.int .i64 3))⟩ [33],
  .op ⟨some 65, none, .mov (.t 66)⟩ [66]]
def r5_20 : List RI := [.op ⟨some 67, none, .mov (.t 11)⟩ [],
  .op ⟨some 68, none, .load 2 true (.t 8)⟩ [],
  .op ⟨some 69, none, .mov (.t 11)⟩ [11],
  .op ⟨some 70, none, .mov (.t 10)⟩ [],
  .op ⟨some 71, none, .call (.f 18) [(.t 68), (.t 69), (.c (.int .i64 47)), (.t 70)]⟩ [68, 69, 70],
  .op ⟨none, none, .store 2 (.t 8) (.t 71)⟩ [71],
  .op ⟨some 72, none, .iaddrA 5 1 (.t 9) (.t 67)⟩ [67],
  .op ⟨none, none, .store 1 (.t 72) (.c (.bool false))⟩ [72]]
def r5_21 : List RI := [.op ⟨some 35, none, .load 2 true (.t 8)⟩ [],
  .op ⟨some 36, none, .mov (.t 11)⟩ [11],
  .op ⟨some 37, none, .call (.f 16) [(.t 35), (.t 36)]⟩ [35, 36],
  .op ⟨some 34, none, .mov (.t 37)⟩ [37],
  .op ⟨some 38, none, .ext (.t 34) 0⟩ [],
  .op ⟨some 39, none, .ext (.t 34) 1⟩ [34],
  .op ⟨some 14, none, .new (.rc [(.lst 3 [] .clip), (.lst 3 [] .clip)])⟩ [],
  .op ⟨none, none, .store 2 (.t 14) (.t 38)⟩ [38],
  .op ⟨some 15, none, .mov (.t 39)⟩ [39]]
def r5_22 : List RI := [.op ⟨some 40, none, .mov (.t 15)⟩ [15],
  .op ⟨some 41, none, .bin .eql (.t 40) (.c (.int .i64 0))⟩ [40]]
def r5_23 : List RI := [.op ⟨some 42, none, .load 2 true (.t 14)⟩ [14],
  .op ⟨none, none, .store 2 (.t 8) (.t 42)⟩ [42]]
def r5_24 : List RI := [.op ⟨some 16, none, .mov (.c (.int .i64 1))⟩ []]
def r5_25 : List RI := [.op ⟨some 73, none, .mov (.t 16)⟩ [],
  .op ⟨some 74, none, .bin .leq (.t 73) (.c (.int .i64 4))⟩ [73]]
def r5_26 : List RI := [.op ⟨some 77, none, .load 2 true (.t 8)⟩ [],
  .op ⟨some 78, none, .mov (.t 16)⟩ [],
  .op ⟨some 79, none, .call (.f 20) [(.t 77), (.t 78)]⟩ [77, 78],
  .op ⟨some 80, none, .mov (.t 79)⟩ [79],
  .grp 80 true [⟨some 81, some (80, true), .load 2 true (.t 8)⟩,
    ⟨some 82, some (80, true), .mov (.t 16)⟩,
    ⟨some 83, some (80, true), .mov (.t 10)⟩,
    ⟨some 84, some (80, true), .call (.f 24) [(.t 81), (.t 82), (.t 83)]⟩] [81, 82, 83],
  .op ⟨some 85, none, .pick (.t 80) (.t 84) (.c (.bool false))⟩ [80, 84],
  .op ⟨some 86, none, .mov (.t 85)⟩ [85],
  .grp 86 false [⟨some 87, some (86, false), .load 2 true (.t 8)⟩,
    ⟨some 88, some (86, false), .mov (.t 16)⟩,
    ⟨some 89, some (86, false), .mov (.t 10)⟩,
    ⟨some 90, some (86, false), .call (.f 24) [(.t 87), (.t 88), (.t 89)]⟩,
    ⟨some 91, some (86, false), .mov (.t 90)⟩] [87, 88, 89, 90],
  .grp 91 true [⟨some 92, some (91, true), .mov (.t 16)⟩,
    ⟨some 93, some (91, true), .iaddrA 5 1 (.t 9) (.t 92)⟩,
    ⟨some 94, some (91, true), .load 1 false (.t 93)⟩,
    ⟨some 95, some (91, true), .un .not (.t 94)⟩] [92, 93, 94],
  .grp 86 false [⟨some 96, some (86, false), .pick (.t 91) (.t 95) (.c (.bool false))⟩] [91, 95],
  .op ⟨some 97, none, .pick (.t 86) (.c (.bool true)) (.t 96)⟩ [86, 96]]
def r5_27 : List RI := [.op ⟨some 6, none, .mov (.c (.bool false))⟩ []]
def r5_28 : List RI := [.op ⟨some 75, none, .mov (.t 16)⟩ [16],
  .op ⟨some 76, none, .bin .add (.t 75) (.c (.int .i64 1))⟩ [75],
  .op ⟨some 16, none, .mov (.t 76)⟩ [76]]
/- live at the loop's head: [7, 8, 9, 10, 16]; at its end (exits): [(3, [7, 8, 9, 10]), (1, [7, 8, 9, 10]), (0, [])]; then [7, 8, 9, 10] -/
def r5_29 : RC := (.seq (.seq (.ops r5_25) (.cond (.t 74) (.pre [.kill [74]] .skip) (.pre [.kill [16, 74]] (.exit 3)))) (.seq (.block 4 (.seq (.ops r5_26) (.cond (.t 97) (.pre [.kill [7, 8, 9, 10, 16, 97]] (.seq (.ops r5_27) .ret)) (.pre [.kill [97]] .skip)))) (.ops r5_28)))
def r5_30 : List RI := [.op ⟨some 17, none, .mov (.c (.int .i64 1))⟩ []]
def r5_31 : List RI := [.op ⟨some 98, none, .mov (.t 17)⟩ [],
  .op ⟨some 99, none, .faddr 0 (.t 8)⟩ [],
  .op ⟨some 100, none, .load 1 false (.t 99)⟩ [99],
  .op ⟨some 101, none, .len false (.t 100)⟩ [100],
  .op ⟨some 102, none, .bin .lss (.t 98) (.t 101)⟩ [98, 101]]
def r5_32 : List FI := [⟨0, true, ⟨some 105, none, .faddr 0 (.t 8)⟩⟩,
  ⟨1, true, ⟨some 106, none, .load 1 false (.t 105)⟩⟩,
  ⟨2, true, ⟨some 107, none, .mov (.t 17)⟩⟩,
  ⟨3, true, ⟨some 108, none, .iaddrL 3 (.t 106) (.t 107)⟩⟩,
  ⟨4, true, ⟨some 109, none, .faddr 0 (.t 108)⟩⟩,
  ⟨5, true, ⟨some 110, none, .load 1 false (.t 109)⟩⟩,
  ⟨6, true, ⟨some 111, none, .faddr 0 (.t 8)⟩⟩,
  ⟨7, true, ⟨some 112, none, .load 1 false (.t 111)⟩⟩,
  ⟨8, true, ⟨some 113, none, .mov (.t 17)⟩⟩,
  ⟨9, true, ⟨some 114, none, .bin .sub (.t 113) (.c (.int .i64 1))⟩⟩,
  ⟨10, true, ⟨some 115, none, .iaddrL 3 (.t 112) (.t 114)⟩⟩,
  ⟨11, true, ⟨some 116, none, .faddr 0 (.t 115)⟩⟩,
  ⟨12, true, ⟨some 117, none, .load 1 false (.t 116)⟩⟩,
  ⟨13, true, ⟨some 118, none, .bin .leq (.t 110) (.t 117)⟩⟩]
def r5_33 : List RI := [.op ⟨some 6, none, .mov (.c (.bool false))⟩ []]
def r5_34 : List RI := [.op ⟨some 103, none, .mov (.t 17)⟩ [17],
  .op ⟨some 104, none, .bin .add (.t 103) (.c (.int .i64 1))⟩ [103],
  .op ⟨some 17, none, .mov (.t 104)⟩ [104]]
/- live at the loop's head: [7, 8, 9, 10, 17]; at its end (exits): [(5, [7, 8, 9, 10]), (1, [7, 8, 9, 10]), (0, [])]; then [7, 8, 9, 10] -/
def r5_35 : RC := (.seq (.seq (.ops r5_31) (.cond (.t 102) (.pre [.kill [102]] .skip) (.pre [.kill [17, 102]] (.exit 5)))) (.seq (.block 6 (.seq (.flt [0, 1, 0, 7, 15, 31, 0, 64, 0, 256, 960, 1984, 4032, 8191] [] r5_32 [105, 106, 107, 108, 109, 110, 111, 112, 113, 114, 115, 116, 117]) (.cond (.t 118) (.pre [.kill [7, 8, 9, 10, 17, 118]] (.seq (.ops r5_33) .ret)) (.pre [.kill [118]] .skip)))) (.ops r5_34)))
def r5_36 : List RI := [.op ⟨some 18, none, .mov (.c (.int .i64 1))⟩ []]
def r5_37 : List RI := [.op ⟨some 119, none, .mov (.t 18)⟩ [],
  .op ⟨some 120, none, .faddr 1 (.t 8)⟩ [],
  .op ⟨some 121, none, .load 1 false (.t 120)⟩ [120],
  .op ⟨some 122, none, .len false (.t 121)⟩ [121],
  .op ⟨some 123, none, .bin .lss (.t 119) (.t 122)⟩ [119, 122]]
def r5_38 : List FI := [⟨0, true, ⟨some 126, none, .faddr 1 (.t 8)⟩⟩,
  ⟨1, true, ⟨some 127, none, .load 1 false (.t 126)⟩⟩,
  ⟨2, true, ⟨some 128, none, .mov (.t 18)⟩⟩,
  ⟨3, true, ⟨some 129, none, .iaddrL 3 (.t 127) (.t 128)⟩⟩,
  ⟨4, true, ⟨some 130, none, .faddr 0 (.t 129)⟩⟩,
  ⟨5, true, ⟨some 131, none, .load 1 false (.t 130)⟩⟩,
  ⟨6, true, ⟨some 132, none, .faddr 1 (.t 8)⟩⟩,
  ⟨7, true, ⟨some 133, none, .load 1 false (.t 132)⟩⟩,
  ⟨8, true, ⟨some 134, none, .mov (.t 18)⟩⟩,
  ⟨9, true, ⟨some 135, none, .bin .sub (.t 134) (.c (.int .i64 1))⟩⟩,
  ⟨10, true, ⟨some 136, none, .iaddrL 3 (.t 133) (.t 135)⟩⟩,
  ⟨11, true, ⟨some 137, none, .faddr 0 (.t 136)⟩⟩,
  ⟨12, true, ⟨some 138, none, .load 1 false (.t 137)⟩⟩,
  ⟨13, true, ⟨some 139, none, .bin .leq (.t 131) (.t 138)⟩⟩]
def r5_39 : List RI := [.op ⟨some 6, none, .mov (.c (.bool false))⟩ []]
def r5_40 : List RI := [.op ⟨some 124, none, .mov (.t 18)⟩ [18],
  .op ⟨some 125, none, .bin .add (.t 124) (.c (.int .i64 1))⟩ [124],
  .op ⟨some 18, none, .mov (.t 125)⟩ [125]]
/- live at the loop's head: [7, 8, 9, 10, 18]; at its end (exits): [(7, [7, 8, 9, 10]), (1, [7, 8, 9, 10]), (0, [])]; then [7, 8, 9, 10] -/
def r5_41 : RC := (.seq (.seq (.ops r5_37) (.cond (.t 123) (.pre [.kill [123]] .skip) (.pre [.kill [18, 123]] (.exit 7)))) (.seq (.block 8 (.seq (.flt [0, 1, 0, 7, 15, 31, 0, 64, 0, 256, 960, 1984, 4032, 8191] [] r5_38 [126, 127, 128, 129, 130, 131, 132, 133, 134, 135, 136, 137, 138]) (.cond (.t 139) (.pre [.kill [7, 8, 9, 10, 18, 139]] (.seq (.ops r5_39) .ret)) (.pre [.kill [139]] .skip)))) (.ops r5_40)))
/- live at the loop's head: [7, 8, 9, 10]; at its end (exits): [(0, [])]; then [] -/
def r5_42 : RC := (.post (.seq (.seq (.ops r5_7) (.cond (.t 24) (.pre [.kill [24]] .skip) (.pre [.kill [7, 8, 9, 10, 24]] (.exit 0)))) (.block 1 (.seq (.ops r5_8) (.seq (.ops r5_9) (.seq (.seq (.ops r5_10) (.block 2 (.seq (.seq (.ops r5_11) (.cond (.t 43) .skip (.pre [.kill [43]] (.seq (.ops r5_12) (.cond (.t 43) .skip (.pre [.kill [43]] (.ops r5_13))))))) (.cond (.t 43) (.pre [.kill [33, 43]] (.seq (.ops r5_14) (.seq (.seq (.ops r5_15) (.cond (.t 59) (.pre [.kill [7, 8, 9, 10, 11, 12, 13, 59]] (.seq (.ops r5_16) .ret)) (.pre [.kill [59]] .skip))) (.seq (.ops r5_17) (.cond (.t 61) (.pre [.kill [61]] (.ops r5_18)) (.pre [.kill [11, 12, 61]] .skip)))))) (.pre [.kill [43]] (.seq (.ops r5_19) (.cond (.t 65) (.pre [.kill [65]] (.ops r5_20)) (.pre [.kill [65]] (.seq (.ops r5_21) (.seq (.ops r5_22) (.cond (.t 41) (.pre [.kill [41]] (.ops r5_23)) (.pre [.kill [14, 41]] .skip)))))))))))) (.seq (.seq (.ops r5_24) (.block 3 (.loop r5_29))) (.seq (.seq (.ops r5_30) (.block 5 (.loop r5_35))) (.seq (.ops r5_36) (.block 7 (.loop r5_41)))))))))) [.gc [112, 114]])
def r5_43 : List RI := [.op ⟨some 6, none, .mov (.c (.bool true))⟩ []]
def r5 : RC := (.pre [.kill [1, 2]] (.seq (.ops r5_0) (.seq (.seq (.ops r5_1) (.cond (.t 20) (.pre [.kill [0, 20]] (.seq (.ops r5_2) .ret)) (.pre [.kill [20]] .skip))) (.seq (.ops r5_3) (.seq (.ops r5_4) (.seq (.ops r5_5) (.seq (.ops r5_6) (.seq (.block 0 (.loop r5_42)) (.seq (.ops r5_43) .ret)))))))))
def F5 : FnC := ⟨r5, 140, [.tmp 6], [], []⟩
theorem r5_ok : ((Try.f5).body).bind (resCode Try.prog) = some r5.er := by kernel_rfl
/- 6 sealwright/sealwrightlaw39.LeasesSweep · params #[22, 22, 3, 3, 4] · tmps 64 · results .tmp 10 -/
def r6_0 : List RI := [.op ⟨some 10, none, .mov (.c (.bool false))⟩ [10]]
def r6_1 : List RI := [.op ⟨some 15, none, .call (.f 8) []⟩ [],
  .op ⟨some 16, none, .un .not (.t 15)⟩ [15]]
def r6_2 : List RI := [.op ⟨some 10, none, .mov (.c (.bool false))⟩ []]
def r6_3 : List RI := [.op ⟨some 18, none, .mov (.t 0)⟩ [0],
  .op ⟨some 19, none, .call (.f 9) [(.t 18)]⟩ [18],
  .op ⟨some 17, none, .mov (.t 19)⟩ [19],
  .op ⟨some 20, none, .ext (.t 17) 0⟩ [],
  .op ⟨some 21, none, .ext (.t 17) 1⟩ [17],
  .op ⟨some 11, none, .new (.rc [(.lst 3 [] .clip), (.lst 3 [] .clip)])⟩ [],
  .op ⟨none, none, .store 2 (.t 11) (.t 20)⟩ [20],
  .op ⟨some 12, none, .mov (.t 21)⟩ [21]]
def r6_4 : List RI := [.op ⟨some 22, none, .mov (.t 4)⟩ [4],
  .op ⟨some 23, none, .un .not (.t 22)⟩ [22]]
def r6_5 : List RI := [.op ⟨some 24, none, .mov (.t 12)⟩ [12],
  .op ⟨some 25, none, .mov (.t 3)⟩ [3],
  .op ⟨some 26, none, .call (.f 10) [(.t 25), (.c (.int .i64 90))]⟩ [25],
  .op ⟨some 27, none, .bin .add (.t 24) (.t 26)⟩ [24, 26],
  .op ⟨some 3, none, .mov (.t 27)⟩ [27]]
def r6_6 : List RI := [.op ⟨some 28, none, .mov (.t 1)⟩ [1],
  .op ⟨some 29, none, .call (.f 12) [(.t 28), (.c (.int .i64 10))]⟩ [28],
  .op ⟨some 30, none, .call (.f 11) [(.t 29)]⟩ [29],
  .op ⟨some 13, none, .mov (.t 30)⟩ [30]]
def r6_7 : List RI := [.op ⟨some 14, none, .mov (.c (.int .i64 0))⟩ []]
def r6_8 : List RI := [.op ⟨some 31, none, .mov (.t 14)⟩ [],
  .op ⟨some 32, none, .bin .leq (.t 31) (.c (.int .i64 5))⟩ [31]]
def r6_9 : List FI := [⟨0, true, ⟨some 35, none, .load 2 true (.t 11)⟩⟩,
  ⟨1, true, ⟨some 36, none, .mov (.t 14)⟩⟩,
  ⟨2, true, ⟨some 37, none, .mov (.t 3)⟩⟩,
  ⟨4, true, ⟨some 39, none, .load 2 true (.t 11)⟩⟩,
  ⟨5, true, ⟨some 40, none, .mov (.t 14)⟩⟩,
  ⟨6, true, ⟨some 41, none, .mov (.t 3)⟩⟩,
  ⟨3, false, ⟨some 38, none, .call (.f 24) [(.t 35), (.t 36), (.t 37)]⟩⟩,
  ⟨7, false, ⟨some 42, none, .call (.f 25) [(.t 39), (.t 40), (.t 41)]⟩⟩,
  ⟨8, true, ⟨some 43, none, .beq true (.t 38) (.t 42)⟩⟩]
def r6_10 : List RI := [.op ⟨some 10, none, .mov (.c (.bool false))⟩ []]
def r6_11 : List RI := [.op ⟨some 33, none, .mov (.t 14)⟩ [14],
  .op ⟨some 34, none, .bin .add (.t 33) (.c (.int .i64 1))⟩ [33],
  .op ⟨some 14, none, .mov (.t 34)⟩ [34]]
/- live at the loop's head: [2, 3, 11, 13, 14]; at its end (exits): [(0, [2, 3, 11, 13])]; then [2, 3, 11, 13] -/
def r6_12 : RC := (.seq (.seq (.ops r6_8) (.cond (.t 32) (.pre [.kill [32]] .skip) (.pre [.kill [14, 32]] (.exit 0)))) (.seq (.block 1 (.seq (.flt [0, 0, 0, 7, 0, 0, 0, 127, 255] [] r6_9 [35, 36, 37, 38, 39, 40, 41, 42]) (.cond (.t 43) (.pre [.kill [2, 3, 11, 13, 14, 43]] (.seq (.ops r6_10) .ret)) (.pre [.kill [43]] .skip)))) (.ops r6_11)))
def r6_13 : List FI := [⟨0, true, ⟨some 44, none, .load 2 true (.t 11)⟩⟩,
  ⟨1, true, ⟨some 45, none, .mov (.t 2)⟩⟩,
  ⟨2, true, ⟨some 46, none, .mov (.t 3)⟩⟩,
  ⟨4, true, ⟨some 48, none, .load 2 true (.t 11)⟩⟩,
  ⟨5, true, ⟨some 49, none, .mov (.t 2)⟩⟩,
  ⟨6, true, ⟨some 50, none, .mov (.t 3)⟩⟩,
  ⟨3, false, ⟨some 47, none, .call (.f 24) [(.t 44), (.t 45), (.t 46)]⟩⟩,
  ⟨7, false, ⟨some 51, none, .call (.f 25) [(.t 48), (.t 49), (.t 50)]⟩⟩,
  ⟨8, true, ⟨some 52, none, .beq false (.t 47) (.t 51)⟩⟩,
  ⟨9, true, ⟨some 53, none, .mov (.t 52)⟩⟩,
  ⟨10, true, ⟨some 54, some (53, true), .load 2 true (.t 11)⟩⟩,
  ⟨11, true, ⟨some 55, some (53, true), .mov (.t 3)⟩⟩,
  ⟨12, true, ⟨some 56, some (53, true), .mov (.t 13)⟩⟩,
  ⟨14, true, ⟨some 58, some (53, true), .load 2 true (.t 11)⟩⟩,
  ⟨15, true, ⟨some 59, some (53, true), .mov (.t 3)⟩⟩,
  ⟨16, true, ⟨some 60, some (53, true), .mov (.t 13)⟩⟩,
  ⟨13, false, ⟨some 57, some (53, true), .call (.f 26) [(.t 54), (.t 55), (.t 56)]⟩⟩,
  ⟨17, false, ⟨some 61, some (53, true), .call (.f 27) [(.t 58), (.t 59), (.t 60)]⟩⟩,
  ⟨18, false, ⟨some 62, some (53, true), .call (.f 15) [(.t 57), (.t 61)]⟩⟩,
  ⟨19, true, ⟨some 63, none, .pick (.t 53) (.t 62) (.c (.bool false))⟩⟩,
  ⟨20, true, ⟨some 10, none, .mov (.t 63)⟩⟩]
def r6 : RC := (.seq (.ops r6_0) (.seq (.seq (.ops r6_1) (.cond (.t 16) (.pre [.kill [0, 1, 2, 3, 4, 16]] (.seq (.ops r6_2) .ret)) (.pre [.kill [16]] .skip))) (.seq (.ops r6_3) (.seq (.seq (.ops r6_4) (.cond (.t 23) (.pre [.kill [23]] (.ops r6_5)) (.pre [.kill [12, 23]] .skip))) (.seq (.ops r6_6) (.seq (.seq (.ops r6_7) (.block 0 (.loop r6_12))) (.seq (.flt [0, 0, 0, 7, 0, 0, 0, 127, 255, 511, 1023, 1023, 1023, 8191, 1023, 1023, 1023, 131071, 262143, 524287, 1048575] [] r6_13 [2, 3, 11, 13, 44, 45, 46, 47, 48, 49, 50, 51, 52, 53, 54, 55, 56, 57, 58, 59, 60, 61, 62, 63]) .ret)))))))
def F6 : FnC := ⟨r6, 64, [.tmp 10], [], []⟩
theorem r6_ok : ((Try.f6).body).bind (resCode Try.prog) = some r6.er := by kernel_rfl
/- 7 sealwright/sealwrightlaw39.LeasesLess · params #[22, 22, 3, 3, 3] · tmps 115 · results .tmp 10 -/
def r7_0 : List RI := [.op ⟨some 10, none, .mov (.c (.bool false))⟩ [10]]
def r7_1 : List RI := [.op ⟨some 20, none, .call (.f 8) []⟩ [],
  .op ⟨some 21, none, .un .not (.t 20)⟩ [20]]
def r7_2 : List RI := [.op ⟨some 10, none, .mov (.c (.bool false))⟩ []]
def r7_3 : List RI := [.op ⟨some 23, none, .mov (.t 0)⟩ [0],
  .op ⟨some 24, none, .call (.f 9) [(.t 23)]⟩ [23],
  .op ⟨some 22, none, .mov (.t 24)⟩ [24],
  .op ⟨some 25, none, .ext (.t 22) 0⟩ [],
  .op ⟨some 26, none, .ext (.t 22) 1⟩ [22],
  .op ⟨some 11, none, .new (.rc [(.lst 3 [] .clip), (.lst 3 [] .clip)])⟩ [],
  .op ⟨none, none, .store 2 (.t 11) (.t 25)⟩ [25],
  .op ⟨some 12, none, .mov (.t 26)⟩ [26]]
def r7_4 : List RI := [.op ⟨some 27, none, .mov (.t 12)⟩ [12],
  .op ⟨some 28, none, .mov (.t 2)⟩ [2],
  .op ⟨some 29, none, .call (.f 10) [(.t 28), (.c (.int .i64 60))]⟩ [28],
  .op ⟨some 30, none, .bin .add (.t 27) (.t 29)⟩ [27, 29],
  .op ⟨some 2, none, .mov (.t 30)⟩ [30]]
def r7_5 : List RI := [.op ⟨some 31, none, .mov (.t 2)⟩ [],
  .op ⟨some 32, none, .mov (.t 3)⟩ [3],
  .op ⟨some 33, none, .call (.f 10) [(.t 32), (.c (.int .i64 30))]⟩ [32],
  .op ⟨some 34, none, .bin .add (.t 31) (.t 33)⟩ [31, 33],
  .op ⟨some 3, none, .mov (.t 34)⟩ [34]]
def r7_6 : List RI := [.op ⟨some 35, none, .mov (.t 1)⟩ [1],
  .op ⟨some 36, none, .call (.f 12) [(.t 35), (.c (.int .i64 10))]⟩ [35],
  .op ⟨some 37, none, .call (.f 11) [(.t 36)]⟩ [36],
  .op ⟨some 13, none, .mov (.t 37)⟩ [37]]
def r7_7 : List RI := [.op ⟨some 38, none, .mov (.t 13)⟩ [],
  .op ⟨some 39, none, .mov (.t 4)⟩ [4],
  .op ⟨some 40, none, .mov (.t 13)⟩ [],
  .op ⟨some 41, none, .len false (.t 40)⟩ [40],
  .op ⟨some 42, none, .bin .add (.t 41) (.c (.int .i64 1))⟩ [41],
  .op ⟨some 43, none, .call (.f 10) [(.t 39), (.t 42)]⟩ [39, 42],
  .op ⟨some 44, none, .slcL 1 (.t 38) none (some (.t 43)) none⟩ [38, 43],
  .op ⟨some 14, none, .mov (.t 44)⟩ [44]]
def r7_8 : List SI := [⟨some 45, none, .load 2 true (.t 11)⟩,
  ⟨some 46, none, .mov (.t 2)⟩,
  ⟨some 47, none, .mov (.t 13)⟩,
  ⟨some 48, none, .call (.f 26) [(.t 45), (.t 46), (.t 47)]⟩,
  ⟨some 49, none, .load 2 true (.t 11)⟩,
  ⟨some 50, none, .mov (.t 3)⟩,
  ⟨some 51, none, .mov (.t 14)⟩,
  ⟨some 52, none, .call (.f 26) [(.t 49), (.t 50), (.t 51)]⟩,
  ⟨some 15, none, .new (.rc [(.lst 3 [] .clip), (.lst 3 [] .clip)])⟩,
  ⟨some 16, none, .new (.rc [(.lst 3 [] .clip), (.lst 3 [] .clip)])⟩,
  ⟨none, none, .store 2 (.t 15) (.t 48)⟩,
  ⟨none, none, .store 2 (.t 16) (.t 52)⟩]
def r7_9 : List FI := [⟨0, true, ⟨some 53, none, .load 2 true (.t 15)⟩⟩,
  ⟨1, true, ⟨some 54, none, .mov (.t 2)⟩⟩,
  ⟨2, true, ⟨some 55, none, .mov (.t 13)⟩⟩,
  ⟨4, true, ⟨some 57, none, .load 2 true (.t 15)⟩⟩,
  ⟨3, false, ⟨some 56, none, .call (.f 26) [(.t 53), (.t 54), (.t 55)]⟩⟩,
  ⟨5, false, ⟨some 58, none, .call (.f 15) [(.t 56), (.t 57)]⟩⟩,
  ⟨6, true, ⟨some 59, none, .un .not (.t 58)⟩⟩]
def r7_10 : List RI := [.op ⟨some 10, none, .mov (.c (.bool false))⟩ []]
def r7_11 : List RI := [.op ⟨some 17, none, .mov (.c (.int .i64 0))⟩ []]
def r7_12 : List RI := [.op ⟨some 60, none, .mov (.t 17)⟩ [],
  .op ⟨some 61, none, .faddr 0 (.t 16)⟩ [],
  .op ⟨some 62, none, .load 1 false (.t 61)⟩ [61],
  .op ⟨some 63, none, .len false (.t 62)⟩ [62],
  .op ⟨some 64, none, .bin .lss (.t 60) (.t 63)⟩ [60, 63]]
def r7_13 : List SI := [⟨some 68, none, .load 2 true (.t 15)⟩,
  ⟨some 69, none, .faddr 0 (.t 16)⟩,
  ⟨some 70, none, .load 1 false (.t 69)⟩,
  ⟨some 71, none, .mov (.t 17)⟩,
  ⟨some 72, none, .iaddrL 3 (.t 70) (.t 71)⟩,
  ⟨some 73, none, .faddr 0 (.t 72)⟩,
  ⟨some 74, none, .load 1 false (.t 73)⟩,
  ⟨some 75, none, .call (.f 28) [(.t 68), (.t 74)]⟩,
  ⟨some 67, none, .mov (.t 75)⟩,
  ⟨some 76, none, .ext (.t 67) 0⟩,
  ⟨some 77, none, .ext (.t 67) 1⟩,
  ⟨some 18, none, .new (.rc [(.int .i64 0), (.int .i64 0), (.lst 1 [] .clip)])⟩,
  ⟨none, none, .store 3 (.t 18) (.t 76)⟩,
  ⟨some 19, none, .mov (.t 77)⟩]
def r7_14 : List FI := [⟨0, true, ⟨some 78, none, .mov (.t 19)⟩⟩,
  ⟨1, true, ⟨some 79, none, .un .not (.t 78)⟩⟩,
  ⟨2, true, ⟨some 80, none, .mov (.t 79)⟩⟩,
  ⟨3, true, ⟨some 81, some (80, false), .faddr 1 (.t 18)⟩⟩,
  ⟨4, true, ⟨some 82, some (80, false), .load 1 false (.t 81)⟩⟩,
  ⟨5, true, ⟨some 83, some (80, false), .faddr 0 (.t 16)⟩⟩,
  ⟨6, true, ⟨some 84, some (80, false), .load 1 false (.t 83)⟩⟩,
  ⟨7, true, ⟨some 85, some (80, false), .mov (.t 17)⟩⟩,
  ⟨8, true, ⟨some 86, some (80, false), .iaddrL 3 (.t 84) (.t 85)⟩⟩,
  ⟨9, true, ⟨some 87, some (80, false), .faddr 1 (.t 86)⟩⟩,
  ⟨10, true, ⟨some 88, some (80, false), .load 1 false (.t 87)⟩⟩,
  ⟨11, true, ⟨some 89, some (80, false), .bin .neq (.t 82) (.t 88)⟩⟩,
  ⟨12, true, ⟨some 90, none, .pick (.t 80) (.c (.bool true)) (.t 89)⟩⟩,
  ⟨13, true, ⟨some 91, none, .mov (.t 90)⟩⟩,
  ⟨14, true, ⟨some 92, some (91, false), .load 2 true (.t 11)⟩⟩,
  ⟨15, true, ⟨some 93, some (91, false), .faddr 0 (.t 18)⟩⟩,
  ⟨16, true, ⟨some 94, some (91, false), .load 1 false (.t 93)⟩⟩,
  ⟨17, true, ⟨some 95, some (91, false), .mov (.t 3)⟩⟩,
  ⟨18, false, ⟨some 96, some (91, false), .call (.f 24) [(.t 92), (.t 94), (.t 95)]⟩⟩,
  ⟨19, true, ⟨some 97, some (91, false), .un .not (.t 96)⟩⟩,
  ⟨20, true, ⟨some 98, none, .pick (.t 91) (.c (.bool true)) (.t 97)⟩⟩]
def r7_15 : List RI := [.op ⟨some 10, none, .mov (.c (.bool false))⟩ []]
def r7_16 : List RI := [.op ⟨some 65, none, .mov (.t 17)⟩ [17],
  .op ⟨some 66, none, .bin .add (.t 65) (.c (.int .i64 1))⟩ [65],
  .op ⟨some 17, none, .mov (.t 66)⟩ [66]]
/- live at the loop's head: [3, 11, 15, 16, 17]; at its end (exits): [(0, [11, 15])]; then [11, 15] -/
def r7_17 : RC := (.post (.seq (.seq (.ops r7_12) (.cond (.t 64) (.pre [.kill [64]] .skip) (.pre [.kill [3, 16, 17, 64]] (.exit 0)))) (.seq (.block 1 (.seq (.drw [0, 0, 2, 0, 14, 30, 62, 127, 255, 511, 511, 0, 3071, 8191] [118] r7_13 [67, 68, 69, 70, 71, 72, 73, 74, 75, 76, 77]) (.seq (.flt [0, 1, 3, 7, 15, 7, 39, 7, 231, 487, 999, 2047, 4095, 8191, 16383, 16383, 49151, 16383, 262143, 524287, 1048575] [] r7_14 [18, 19, 78, 79, 80, 81, 82, 83, 84, 85, 86, 87, 88, 89, 90, 91, 92, 93, 94, 95, 96, 97]) (.cond (.t 98) (.pre [.kill [3, 11, 15, 16, 17, 98]] (.seq (.ops r7_15) .ret)) (.pre [.kill [98]] .skip))))) (.ops r7_16))) [.gc [118]])
def r7_18 : List RI := [.op ⟨some 99, none, .faddr 0 (.t 15)⟩ [],
  .op ⟨some 100, none, .load 1 false (.t 99)⟩ [99],
  .op ⟨some 101, none, .len false (.t 100)⟩ [100],
  .op ⟨some 102, none, .faddr 0 (.t 11)⟩ [],
  .op ⟨some 103, none, .load 1 false (.t 102)⟩ [102],
  .op ⟨some 104, none, .len false (.t 103)⟩ [103],
  .op ⟨some 105, none, .bin .leq (.t 101) (.t 104)⟩ [101, 104],
  .op ⟨some 106, none, .mov (.t 105)⟩ [105],
  .grp 106 true [⟨some 107, some (106, true), .faddr 1 (.t 15)⟩,
    ⟨some 108, some (106, true), .load 1 false (.t 107)⟩,
    ⟨some 109, some (106, true), .len false (.t 108)⟩,
    ⟨some 110, some (106, true), .faddr 1 (.t 11)⟩,
    ⟨some 111, some (106, true), .load 1 false (.t 110)⟩,
    ⟨some 112, some (106, true), .len false (.t 111)⟩,
    ⟨some 113, some (106, true), .bin .eql (.t 109) (.t 112)⟩] [11, 15, 107, 108, 109, 110, 111, 112],
  .op ⟨some 114, none, .pick (.t 106) (.t 113) (.c (.bool false))⟩ [106, 113],
  .op ⟨some 10, none, .mov (.t 114)⟩ [114]]
def r7 : RC := (.seq (.ops r7_0) (.seq (.seq (.ops r7_1) (.cond (.t 21) (.pre [.kill [0, 1, 2, 3, 4, 21]] (.seq (.ops r7_2) .ret)) (.pre [.kill [21]] .skip))) (.seq (.ops r7_3) (.seq (.ops r7_4) (.seq (.ops r7_5) (.seq (.ops r7_6) (.seq (.ops r7_7) (.seq (.drw [0, 0, 0, 7, 0, 0, 0, 127, 0, 0, 1023, 2047] [115, 116] r7_8 [14, 45, 46, 47, 48, 49, 50, 51, 52]) (.seq (.seq (.flt [0, 0, 0, 7, 0, 31, 63] [] r7_9 [2, 13, 53, 54, 55, 56, 57, 58]) (.cond (.t 59) (.pre [.kill [3, 11, 15, 16, 59]] (.seq (.ops r7_10) .ret)) (.pre [.kill [59]] .skip))) (.seq (.seq (.ops r7_11) (.block 0 (.loop r7_17))) (.seq (.ops r7_18) .ret)))))))))))
def F7 : FnC := ⟨r7, 115, [.tmp 10], [], []⟩
theorem r7_ok : ((Try.f7).body).bind (resCode Try.prog) = some r7.er := by kernel_rfl
/- 8 sealwright/sealwrightlaw39.awake · params #[] · tmps 58 · results .tmp 0 -/
def r8_0 : List RI := [.op ⟨some 0, none, .mov (.c (.bool false))⟩ [0]]
def r8_1 : List RI := [.op ⟨some 9, none, .build [(.lst 3 [] .clip), (.lst 3 [] .clip)] []⟩ [],
  .op ⟨some 10, none, .call (.f 13) [(.t 9), (.c (.int .i64 2)), (.c (.int .i64 3)), (.c (.lst 1 [] .clip))]⟩ [9],
  .op ⟨some 8, none, .mov (.t 10)⟩ [10],
  .op ⟨some 11, none, .ext (.t 8) 0⟩ [],
  .op ⟨some 12, none, .ext (.t 8) 1⟩ [8],
  .op ⟨some 1, none, .new (.rc [(.lst 3 [] .clip), (.lst 3 [] .clip)])⟩ [],
  .op ⟨none, none, .store 2 (.t 1) (.t 11)⟩ [11],
  .op ⟨some 2, none, .mov (.t 12)⟩ [12]]
def r8_2 : List RI := [.op ⟨some 13, none, .load 2 true (.t 1)⟩ [],
  .op ⟨some 14, none, .call (.f 18) [(.t 13), (.c (.int .i64 2)), (.c (.int .i64 47)), (.c (.int .i64 9))]⟩ [13],
  .op ⟨some 3, none, .new (.rc [(.lst 3 [] .clip), (.lst 3 [] .clip)])⟩ [],
  .op ⟨none, none, .store 2 (.t 3) (.t 14)⟩ [14]]
def r8_3 : List RI := [.op ⟨some 16, none, .load 2 true (.t 3)⟩ [],
  .op ⟨some 17, none, .call (.f 13) [(.t 16), (.c (.int .i64 2)), (.c (.int .i64 9)), (.c (.lst 1 [] .clip))]⟩ [16],
  .op ⟨some 15, none, .mov (.t 17)⟩ [17],
  .op ⟨some 18, none, .ext (.t 15) 0⟩ [],
  .op ⟨some 19, none, .ext (.t 15) 1⟩ [15],
  .op ⟨some 4, none, .new (.rc [(.lst 3 [] .clip), (.lst 3 [] .clip)])⟩ [],
  .op ⟨none, none, .store 2 (.t 4) (.t 18)⟩ [4, 18],
  .op ⟨some 5, none, .mov (.t 19)⟩ [19]]
def r8_4 : List RI := [.op ⟨some 21, none, .load 2 true (.t 3)⟩ [],
  .op ⟨some 22, none, .call (.f 16) [(.t 21), (.c (.int .i64 2))]⟩ [21],
  .op ⟨some 20, none, .mov (.t 22)⟩ [22],
  .op ⟨some 23, none, .ext (.t 20) 0⟩ [],
  .op ⟨some 24, none, .ext (.t 20) 1⟩ [20],
  .op ⟨some 6, none, .new (.rc [(.lst 3 [] .clip), (.lst 3 [] .clip)])⟩ [],
  .op ⟨none, none, .store 2 (.t 6) (.t 23)⟩ [23],
  .op ⟨some 7, none, .mov (.t 24)⟩ [24]]
def r8_5 : List RI := [.op ⟨some 25, none, .mov (.t 2)⟩ [2],
  .op ⟨some 26, none, .bin .eql (.t 25) (.c (.int .i64 0))⟩ [25],
  .op ⟨some 27, none, .mov (.t 26)⟩ [26],
  .grp 27 true [⟨some 28, some (27, true), .load 2 true (.t 1)⟩,
    ⟨some 29, some (27, true), .call (.f 24) [(.t 28), (.c (.int .i64 2)), (.c (.int .i64 66))]⟩] [28],
  .op ⟨some 30, none, .pick (.t 27) (.t 29) (.c (.bool false))⟩ [27, 29],
  .op ⟨some 31, none, .mov (.t 30)⟩ [30],
  .grp 31 true [⟨some 32, some (31, true), .load 2 true (.t 1)⟩,
    ⟨some 33, some (31, true), .call (.f 24) [(.t 32), (.c (.int .i64 2)), (.c (.int .i64 67))]⟩,
    ⟨some 34, some (31, true), .un .not (.t 33)⟩] [1, 32, 33],
  .op ⟨some 35, none, .pick (.t 31) (.t 34) (.c (.bool false))⟩ [31, 34],
  .op ⟨some 36, none, .mov (.t 35)⟩ [35],
  .grp 36 true [⟨some 37, some (36, true), .load 2 true (.t 3)⟩,
    ⟨some 38, some (36, true), .call (.f 20) [(.t 37), (.c (.int .i64 2))]⟩] [37],
  .op ⟨some 39, none, .pick (.t 36) (.t 38) (.c (.bool false))⟩ [36, 38],
  .op ⟨some 40, none, .mov (.t 39)⟩ [39],
  .grp 40 true [⟨some 41, some (40, true), .load 2 true (.t 3)⟩,
    ⟨some 42, some (40, true), .call (.f 24) [(.t 41), (.c (.int .i64 2)), (.c (.int .i64 9))]⟩,
    ⟨some 43, some (40, true), .un .not (.t 42)⟩] [3, 41, 42],
  .op ⟨some 44, none, .pick (.t 40) (.t 43) (.c (.bool false))⟩ [40, 43],
  .op ⟨some 45, none, .mov (.t 44)⟩ [44],
  .grp 45 true [⟨some 46, some (45, true), .mov (.t 5)⟩,
    ⟨some 47, some (45, true), .bin .eql (.t 46) (.c (.int .i64 48))⟩] [5, 46],
  .op ⟨some 48, none, .pick (.t 45) (.t 47) (.c (.bool false))⟩ [45, 47],
  .op ⟨some 49, none, .mov (.t 48)⟩ [48],
  .grp 49 true [⟨some 50, some (49, true), .mov (.t 7)⟩,
    ⟨some 51, some (49, true), .bin .eql (.t 50) (.c (.int .i64 0))⟩] [7, 50],
  .op ⟨some 52, none, .pick (.t 49) (.t 51) (.c (.bool false))⟩ [49, 51],
  .op ⟨some 53, none, .mov (.t 52)⟩ [52],
  .grp 53 true [⟨some 54, some (53, true), .load 2 true (.t 6)⟩,
    ⟨some 55, some (53, true), .call (.f 20) [(.t 54), (.c (.int .i64 2))]⟩,
    ⟨some 56, some (53, true), .un .not (.t 55)⟩] [6, 54, 55],
  .op ⟨some 57, none, .pick (.t 53) (.t 56) (.c (.bool false))⟩ [53, 56],
  .op ⟨some 0, none, .mov (.t 57)⟩ [57]]
def r8 : RC := (.seq (.ops r8_0) (.seq (.ops r8_1) (.seq (.ops r8_2) (.seq (.ops r8_3) (.seq (.ops r8_4) (.seq (.ops r8_5) .ret))))))
def F8 : FnC := ⟨r8, 58, [.tmp 0], [], []⟩
theorem r8_ok : ((Try.f8).body).bind (resCode Try.prog) = some r8.er := by kernel_rfl
/- 9 sealwright/sealwrightlaw39.play · params #[22] · tmps 67 · results .cell 2 27, .tmp 3 -/
def r9_0 : List RI := [.op ⟨some 2, none, .new (.rc [(.lst 3 [] .clip), (.lst 3 [] .clip)])⟩ [],
  .op ⟨some 3, none, .mov (.c (.int .i64 0))⟩ [3]]
def r9_1 : List RI := [.op ⟨some 10, none, .mov (.t 0)⟩ [0],
  .op ⟨some 11, none, .call (.f 12) [(.t 10), (.c (.int .i64 80))]⟩ [10],
  .op ⟨some 4, none, .mov (.t 11)⟩ [11]]
def r9_2 : List RI := [.op ⟨some 5, none, .new (.rc [(.lst 3 [] .clip), (.lst 3 [] .clip)])⟩ []]
def r9_3 : List RI := [.op ⟨some 6, none, .mov (.c (.int .i64 0))⟩ []]
def r9_4 : List RI := [.op ⟨some 12, none, .mov (.t 4)⟩ [],
  .op ⟨some 13, none, .call (.f 22) [(.t 12)]⟩ [12]]
def r9_5 : List RI := [.op ⟨some 14, none, .mov (.t 6)⟩ [6],
  .op ⟨some 15, none, .mov (.t 4)⟩ [],
  .op ⟨some 16, none, .call (.f 23) [(.t 15), (.c (.int .i64 20))]⟩ [15],
  .op ⟨some 17, none, .bin .add (.t 14) (.t 16)⟩ [14, 16],
  .op ⟨some 6, none, .mov (.t 17)⟩ [17]]
def r9_6 : List RI := [.op ⟨some 18, none, .mov (.t 4)⟩ [],
  .op ⟨some 19, none, .call (.f 23) [(.t 18), (.c (.int .i64 4))]⟩ [18],
  .op ⟨some 20, none, .bin .add (.c (.int .i64 1)) (.t 19)⟩ [19],
  .op ⟨some 7, none, .mov (.t 20)⟩ [20]]
def r9_7 : List RI := [.op ⟨some 21, none, .load 2 true (.t 5)⟩ [],
  .op ⟨some 8, none, .new (.rc [(.lst 3 [] .clip), (.lst 3 [] .clip)])⟩ [],
  .op ⟨none, none, .store 2 (.t 8) (.t 21)⟩ [21],
  .op ⟨some 9, none, .mov (.c (.int .i64 0))⟩ []]
def r9_8 : List RI := [.op ⟨some 22, none, .mov (.t 4)⟩ [],
  .op ⟨some 23, none, .call (.f 23) [(.t 22), (.c (.int .i64 6))]⟩ [22]]
def r9_9 : List RI := [.op ⟨some 33, none, .bin .eql (.t 23) (.c (.int .i64 0))⟩ [],
  .op ⟨some 32, none, .mov (.t 33)⟩ [33]]
def r9_10 : List RI := [.op ⟨some 34, none, .bin .eql (.t 23) (.c (.int .i64 1))⟩ [],
  .op ⟨some 32, none, .mov (.t 34)⟩ [34]]
def r9_11 : List RI := [.op ⟨some 35, none, .bin .eql (.t 23) (.c (.int .i64 2))⟩ [],
  .op ⟨some 32, none, .mov (.t 35)⟩ [35]]
def r9_12 : List FI := [⟨0, true, ⟨some 37, none, .load 2 true (.t 5)⟩⟩,
  ⟨1, true, ⟨some 38, none, .mov (.t 7)⟩⟩,
  ⟨2, true, ⟨some 39, none, .mov (.t 6)⟩⟩,
  ⟨3, true, ⟨some 40, none, .mov (.t 4)⟩⟩,
  ⟨4, false, ⟨some 41, none, .call (.f 11) [(.t 40)]⟩⟩,
  ⟨5, false, ⟨some 42, none, .call (.f 14) [(.t 37), (.t 38), (.t 39), (.t 41)]⟩⟩,
  ⟨6, true, ⟨some 36, none, .mov (.t 42)⟩⟩,
  ⟨7, true, ⟨some 43, none, .ext (.t 36) 0⟩⟩,
  ⟨8, true, ⟨some 44, none, .ext (.t 36) 1⟩⟩,
  ⟨9, false, ⟨none, none, .store 2 (.t 8) (.t 43)⟩⟩,
  ⟨10, true, ⟨some 9, none, .mov (.t 44)⟩⟩]
def r9_13 : List RI := [.op ⟨some 46, none, .bin .eql (.t 23) (.c (.int .i64 3))⟩ [],
  .op ⟨some 45, none, .mov (.t 46)⟩ [46]]
def r9_14 : List FI := [⟨0, true, ⟨some 47, none, .load 2 true (.t 5)⟩⟩,
  ⟨1, true, ⟨some 48, none, .mov (.t 7)⟩⟩,
  ⟨2, true, ⟨some 49, none, .mov (.t 4)⟩⟩,
  ⟨5, true, ⟨some 52, none, .mov (.t 6)⟩⟩,
  ⟨3, false, ⟨some 50, none, .call (.f 23) [(.t 49), (.c (.int .i64 8))]⟩⟩,
  ⟨4, true, ⟨some 51, none, .bin .add (.c (.int .i64 41)) (.t 50)⟩⟩,
  ⟨6, false, ⟨some 53, none, .call (.f 19) [(.t 47), (.t 48), (.t 51), (.t 52)]⟩⟩,
  ⟨7, false, ⟨none, none, .store 2 (.t 8) (.t 53)⟩⟩]
def r9_15 : List RI := [.op ⟨some 55, none, .bin .eql (.t 23) (.c (.int .i64 4))⟩ [23],
  .op ⟨some 54, none, .mov (.t 55)⟩ [55]]
def r9_16 : List RI := [.op ⟨some 57, none, .load 2 true (.t 5)⟩ [],
  .op ⟨some 58, none, .mov (.t 7)⟩ [7],
  .op ⟨some 59, none, .call (.f 17) [(.t 57), (.t 58)]⟩ [57, 58],
  .op ⟨some 56, none, .mov (.t 59)⟩ [59],
  .op ⟨some 60, none, .ext (.t 56) 0⟩ [],
  .op ⟨some 61, none, .ext (.t 56) 1⟩ [56],
  .op ⟨none, none, .store 2 (.t 8) (.t 60)⟩ [60],
  .op ⟨some 9, none, .mov (.t 61)⟩ [61]]
def r9_17 : List FI := [⟨0, true, ⟨some 24, none, .load 2 true (.t 5)⟩⟩,
  ⟨1, true, ⟨some 25, none, .mov (.t 6)⟩⟩,
  ⟨2, true, ⟨some 26, none, .mov (.t 4)⟩⟩,
  ⟨4, true, ⟨some 28, none, .mov (.t 4)⟩⟩,
  ⟨3, false, ⟨some 27, none, .call (.f 11) [(.t 26)]⟩⟩,
  ⟨5, false, ⟨some 29, none, .call (.f 11) [(.t 28)]⟩⟩,
  ⟨6, false, ⟨some 30, none, .app [(.byt [] .clip)] 24 (.t 27) (.t 29)⟩⟩,
  ⟨7, false, ⟨some 31, none, .call (.f 27) [(.t 24), (.t 25), (.t 30)]⟩⟩,
  ⟨8, false, ⟨none, none, .store 2 (.t 8) (.t 31)⟩⟩]
def r9_18 : List RI := [.op ⟨some 62, none, .mov (.t 9)⟩ [9],
  .op ⟨some 63, none, .bin .eql (.t 62) (.c (.int .i64 0))⟩ [62]]
def r9_19 : List RI := [.op ⟨some 64, none, .load 2 true (.t 8)⟩ [8],
  .op ⟨none, none, .store 2 (.t 5) (.t 64)⟩ [64]]
/- live at the loop's head: [2, 4, 5, 6]; at its end (exits): [(0, [2, 5, 6])]; then [2, 5, 6] -/
def r9_20 : RC := (.post (.seq (.seq (.ops r9_4) (.cond (.t 13) (.pre [.kill [13]] .skip) (.pre [.kill [4, 13]] (.exit 0)))) (.block 1 (.seq (.ops r9_5) (.seq (.ops r9_6) (.seq (.ops r9_7) (.seq (.seq (.ops r9_8) (.block 2 (.seq (.seq (.ops r9_9) (.cond (.t 32) .skip (.pre [.kill [32]] (.seq (.ops r9_10) (.cond (.t 32) .skip (.pre [.kill [32]] (.ops r9_11))))))) (.cond (.t 32) (.pre [.kill [9, 23, 32]] (.flt [0, 0, 0, 0, 8, 31, 63, 127, 127, 255, 1023] [] r9_12 [7, 36, 37, 38, 39, 40, 41, 42, 43, 44])) (.pre [.kill [32]] (.seq (.ops r9_13) (.cond (.t 45) (.pre [.kill [23, 45]] (.flt [0, 0, 0, 4, 12, 0, 63, 127] [] r9_14 [7, 47, 48, 49, 50, 51, 52, 53])) (.pre [.kill [45]] (.seq (.ops r9_15) (.cond (.t 54) (.pre [.kill [9, 54]] (.ops r9_16)) (.pre [.kill [7, 54]] (.flt [0, 0, 0, 4, 0, 28, 60, 127, 255] [130] r9_17 [24, 25, 26, 27, 28, 29, 30, 31])))))))))))) (.seq (.ops r9_18) (.cond (.t 63) (.pre [.kill [63]] (.ops r9_19)) (.pre [.kill [8, 63]] .skip))))))))) [.gc [108, 130], .gcr 28000 29000, .gcr 30000 31000, .gcr 42000 43000])
def r9_21 : List RI := [.op ⟨some 65, none, .load 2 true (.t 5)⟩ [5],
  .op ⟨some 66, none, .mov (.t 6)⟩ [6],
  .op ⟨none, none, .store 2 (.t 2) (.t 65)⟩ [65],
  .op ⟨some 3, none, .mov (.t 66)⟩ [66]]
def r9 : RC := (.seq (.ops r9_0) (.seq (.ops r9_1) (.seq (.ops r9_2) (.seq (.ops r9_3) (.seq (.block 0 (.loop r9_20)) (.seq (.ops r9_21) .ret))))))
def F9 : FnC := ⟨r9, 67, [.cell 2 2 true, .tmp 3], [], []⟩
theorem r9_ok : ((Try.f9).body).bind (resCode Try.prog) = some r9.er := by kernel_rfl
/- 10 sealwright/sealwrightdraw.Mod · params #[3, 3] · tmps 17 · results .tmp 4 -/
def r10_0 : List RI := [.op ⟨some 4, none, .mov (.c (.int .i64 0))⟩ [4]]
def r10_1 : List RI := [.op ⟨some 6, none, .mov (.t 1)⟩ [],
  .op ⟨some 7, none, .bin .lss (.t 6) (.c (.int .i64 1))⟩ [6]]
def r10_2 : List RI := [.op ⟨some 4, none, .mov (.c (.int .i64 0))⟩ []]
def r10_3 : List RI := [.op ⟨some 8, none, .mov (.t 0)⟩ [0],
  .op ⟨some 9, none, .mov (.t 1)⟩ [],
  .op ⟨some 10, none, .bin .rem (.t 8) (.t 9)⟩ [8, 9],
  .op ⟨some 5, none, .mov (.t 10)⟩ [10]]
def r10_4 : List RI := [.op ⟨some 11, none, .mov (.t 5)⟩ [],
  .op ⟨some 12, none, .bin .lss (.t 11) (.c (.int .i64 0))⟩ [11]]
def r10_5 : List RI := [.op ⟨some 13, none, .mov (.t 5)⟩ [5],
  .op ⟨some 14, none, .mov (.t 1)⟩ [1],
  .op ⟨some 15, none, .bin .add (.t 13) (.t 14)⟩ [13, 14],
  .op ⟨some 5, none, .mov (.t 15)⟩ [15]]
def r10_6 : List RI := [.op ⟨some 16, none, .mov (.t 5)⟩ [5],
  .op ⟨some 4, none, .mov (.t 16)⟩ [16]]
def r10 : RC := (.seq (.ops r10_0) (.seq (.seq (.ops r10_1) (.cond (.t 7) (.pre [.kill [0, 1, 7]] (.seq (.ops r10_2) .ret)) (.pre [.kill [7]] .skip))) (.seq (.ops r10_3) (.seq (.seq (.ops r10_4) (.cond (.t 12) (.pre [.kill [12]] (.ops r10_5)) (.pre [.kill [1, 12]] .skip))) (.seq (.ops r10_6) .ret)))))
def F10 : FnC := ⟨r10, 17, [.tmp 4], [], []⟩
theorem r10_ok : ((Try.f10).body).bind (resCode Try.prog) = some r10.er := by kernel_rfl
/- 11 sealwright/sealwrightlaw39.ground · params #[33] · tmps 20 · results .tmp 2 -/
def r11_0 : List RI := [.op ⟨some 2, none, .mov (.c (.lst 1 [] .clip))⟩ [2]]
def r11_1 : List RI := [.op ⟨some 3, none, .mov (.c (.lst 1 [] .clip))⟩ []]
def r11_2 : List RI := [.op ⟨some 4, none, .mov (.c (.int .i64 0))⟩ []]
def r11_3 : List RI := [.op ⟨some 5, none, .mov (.t 4)⟩ [],
  .op ⟨some 6, none, .bin .lss (.t 5) (.c (.int .i64 4))⟩ [5]]
def r11_4 : List RI := [.op ⟨some 9, none, .mov (.t 0)⟩ [],
  .op ⟨some 10, none, .call (.f 23) [(.t 9), (.c (.int .i64 3))]⟩ [9],
  .op ⟨some 11, none, .bin .eql (.t 10) (.c (.int .i64 1))⟩ [10]]
def r11_5 : List RI := [.op ⟨some 12, none, .mov (.t 3)⟩ [3],
  .op ⟨some 13, none, .mov (.t 4)⟩ [],
  .op ⟨some 14, none, .toInt .u8 (.t 13)⟩ [13],
  .op ⟨some 15, none, .litB [(.t 14)]⟩ [14],
  .op ⟨some 16, none, .call (.f 29) [(.t 15)]⟩ [15],
  .op ⟨some 17, none, .lit 1 [(.t 16)]⟩ [16],
  .op ⟨some 18, none, .app [(.byt [] .clip)] 24 (.t 12) (.t 17)⟩ [12, 17],
  .op ⟨some 3, none, .mov (.t 18)⟩ [18]]
def r11_6 : List RI := [.op ⟨some 7, none, .mov (.t 4)⟩ [4],
  .op ⟨some 8, none, .bin .add (.t 7) (.c (.int .i64 1))⟩ [7],
  .op ⟨some 4, none, .mov (.t 8)⟩ [8]]
/- live at the loop's head: [0, 3, 4]; at its end (exits): [(0, [3])]; then [3] -/
def r11_7 : RC := (.post (.seq (.seq (.ops r11_3) (.cond (.t 6) (.pre [.kill [6]] .skip) (.pre [.kill [0, 4, 6]] (.exit 0)))) (.seq (.block 1 (.seq (.ops r11_4) (.cond (.t 11) (.pre [.kill [11]] (.ops r11_5)) (.pre [.kill [11]] .skip)))) (.ops r11_6))) [.tok 3 103])
def r11_8 : List RI := [.op ⟨some 19, none, .mov (.t 3)⟩ [3],
  .op ⟨some 2, none, .mov (.t 19)⟩ [19]]
def r11 : RC := (.seq (.ops r11_0) (.seq (.ops r11_1) (.seq (.seq (.ops r11_2) (.block 0 (.pre [.tok 3 103] (.loop r11_7)))) (.seq (.ops r11_8) .ret))))
def F11 : FnC := ⟨r11, 20, [.tmp 2], [0], []⟩
theorem r11_ok : ((Try.f11).body).bind (resCode Try.prog) = some r11.er := by kernel_rfl
/- 12 sealwright/sealwrightdraw.New · params #[22, 3] · tmps 15 · results .tmp 4 -/
def r12_0 : List RI := [.op ⟨some 4, none, .mov (.c .nilp)⟩ [4]]
def r12_1 : List RI := [.op ⟨some 5, none, .mov (.t 0)⟩ [],
  .op ⟨some 6, none, .len false (.t 5)⟩ [5],
  .op ⟨some 7, none, .mov (.t 1)⟩ [],
  .op ⟨some 8, none, .bin .gtr (.t 6) (.t 7)⟩ [6, 7]]
def r12_2 : List RI := [.op ⟨some 9, none, .mov (.t 0)⟩ [0],
  .op ⟨some 10, none, .mov (.t 1)⟩ [1],
  .op ⟨some 11, none, .slcL 1 (.t 9) none (some (.t 10)) none⟩ [9, 10],
  .op ⟨some 0, none, .mov (.t 11)⟩ [11]]
def r12_3 : List RI := [.op ⟨some 12, none, .mov (.t 0)⟩ [0],
  .op ⟨some 13, none, .build [(.byt [] .clip), (.int .i64 0)] [(0, 1, (.t 12))]⟩ [12],
  .op ⟨some 14, none, .box (.t 13)⟩ [13],
  .op ⟨some 4, none, .mov (.t 14)⟩ [14]]
def r12 : RC := (.seq (.ops r12_0) (.seq (.seq (.ops r12_1) (.cond (.t 8) (.pre [.kill [8]] (.ops r12_2)) (.pre [.kill [1, 8]] .skip))) (.seq (.ops r12_3) .ret)))
def F12 : FnC := ⟨r12, 15, [.tmp 4], [], []⟩
theorem r12_ok : ((Try.f12).body).bind (resCode Try.prog) = some r12.er := by kernel_rfl
/- 14 sealwright/sealwrightref36.Grant · params #[27, 3, 3, 31] · tmps 61 · results .cell 8 27, .tmp 9 -/
def r14_0 : List RI := [.op ⟨some 4, none, .box (.t 0)⟩ [0],
  .op ⟨some 8, none, .new (.rc [(.lst 3 [] .clip), (.lst 3 [] .clip)])⟩ [],
  .op ⟨some 9, none, .mov (.c (.int .i64 0))⟩ [9]]
def r14_1 : List RI := [.op ⟨some 14, none, .mov (.t 1)⟩ [],
  .op ⟨some 15, none, .bin .lss (.t 14) (.c (.int .i64 1))⟩ [14],
  .op ⟨some 16, none, .mov (.t 15)⟩ [15],
  .grp 16 false [⟨some 17, some (16, false), .mov (.t 1)⟩,
    ⟨some 18, some (16, false), .bin .gtr (.t 17) (.c (.int .i64 4))⟩] [17],
  .op ⟨some 19, none, .pick (.t 16) (.c (.bool true)) (.t 18)⟩ [16, 18]]
def r14_2 : List RI := [.op ⟨some 20, none, .build [(.lst 3 [] .clip), (.lst 3 [] .clip)] []⟩ [],
  .op ⟨none, none, .store 2 (.t 8) (.t 20)⟩ [20],
  .op ⟨some 9, none, .mov (.c (.int .i64 49))⟩ []]
def r14_3 : List RI := [.op ⟨some 21, none, .mov (.t 2)⟩ [],
  .op ⟨some 22, none, .bin .lss (.t 21) (.c (.int .i64 0))⟩ [21],
  .op ⟨some 23, none, .mov (.t 22)⟩ [22],
  .grp 23 false [⟨some 24, some (23, false), .mov (.t 2)⟩,
    ⟨some 25, some (23, false), .bin .gtr (.t 24) (.c (.int .i64 1099511627776))⟩] [24],
  .op ⟨some 26, none, .pick (.t 23) (.c (.bool true)) (.t 25)⟩ [23, 25]]
def r14_4 : List RI := [.op ⟨some 27, none, .build [(.lst 3 [] .clip), (.lst 3 [] .clip)] []⟩ [],
  .op ⟨none, none, .store 2 (.t 8) (.t 27)⟩ [27],
  .op ⟨some 9, none, .mov (.c (.int .i64 1))⟩ []]
def r14_5 : List RI := [.op ⟨some 28, none, .load 2 true (.t 4)⟩ [],
  .op ⟨some 29, none, .mov (.t 1)⟩ [],
  .op ⟨some 30, none, .call (.f 21) [(.t 28), (.t 29)]⟩ [28, 29]]
def r14_6 : List RI := [.op ⟨some 31, none, .build [(.lst 3 [] .clip), (.lst 3 [] .clip)] []⟩ [],
  .op ⟨none, none, .store 2 (.t 8) (.t 31)⟩ [31],
  .op ⟨some 9, none, .mov (.c (.int .i64 48))⟩ []]
def r14_7 : List RI := [.op ⟨some 10, none, .mov (.c (.lst 3 [] .clip))⟩ []]
def r14_8 : List RI := [.op ⟨some 11, none, .mov (.c (.int .i64 1))⟩ []]
def r14_9 : List RI := [.op ⟨some 32, none, .mov (.t 11)⟩ [],
  .op ⟨some 33, none, .bin .leq (.t 32) (.c (.int .i64 4))⟩ [32]]
def r14_10 : List RI := [.op ⟨some 36, none, .mov (.t 11)⟩ [],
  .op ⟨some 37, none, .mov (.t 1)⟩ [],
  .op ⟨some 38, none, .bin .eql (.t 36) (.t 37)⟩ [36, 37]]
def r14_11 : List RI := [.op ⟨some 39, none, .mov (.t 10)⟩ [10],
  .op ⟨some 40, none, .mov (.t 1)⟩ [],
  .op ⟨some 41, none, .mov (.t 2)⟩ [],
  .op ⟨some 42, none, .bin .add (.t 41) (.c (.int .i64 64))⟩ [41],
  .op ⟨some 43, none, .mov (.t 3)⟩ [],
  .op ⟨some 44, none, .build [(.int .i64 0), (.int .i64 0), (.lst 1 [] .clip)] [(0, 1, (.t 40)), (1, 1, (.t 42)), (2, 1, (.t 43))]⟩ [40, 42, 43],
  .op ⟨some 45, none, .lit 3 [(.t 44)]⟩ [44],
  .op ⟨some 46, none, .app [(.int .i64 0), (.int .i64 0), (.lst 1 [] .clip)] 40 (.t 39) (.t 45)⟩ [39, 45],
  .op ⟨some 10, none, .mov (.t 46)⟩ [46]]
def r14_12 : List RI := [.op ⟨some 48, none, .load 2 true (.t 4)⟩ [],
  .op ⟨some 49, none, .mov (.t 11)⟩ [],
  .op ⟨some 50, none, .call (.f 28) [(.t 48), (.t 49)]⟩ [48, 49],
  .op ⟨some 47, none, .mov (.t 50)⟩ [50],
  .op ⟨some 51, none, .ext (.t 47) 0⟩ [],
  .op ⟨some 52, none, .ext (.t 47) 1⟩ [47],
  .op ⟨some 12, none, .new (.rc [(.int .i64 0), (.int .i64 0), (.lst 1 [] .clip)])⟩ [],
  .op ⟨none, none, .store 3 (.t 12) (.t 51)⟩ [51],
  .op ⟨some 13, none, .mov (.t 52)⟩ [52]]
def r14_13 : List RI := [.op ⟨some 53, none, .mov (.t 13)⟩ [13]]
def r14_14 : List RI := [.op ⟨some 54, none, .mov (.t 10)⟩ [10],
  .op ⟨some 55, none, .load 3 true (.t 12)⟩ [12],
  .op ⟨some 56, none, .lit 3 [(.t 55)]⟩ [55],
  .op ⟨some 57, none, .app [(.int .i64 0), (.int .i64 0), (.lst 1 [] .clip)] 40 (.t 54) (.t 56)⟩ [54, 56],
  .op ⟨some 10, none, .mov (.t 57)⟩ [57]]
def r14_15 : List RI := [.op ⟨some 34, none, .mov (.t 11)⟩ [11],
  .op ⟨some 35, none, .bin .add (.t 34) (.c (.int .i64 1))⟩ [34],
  .op ⟨some 11, none, .mov (.t 35)⟩ [35]]
/- live at the loop's head: [1, 2, 3, 4, 8, 10, 11]; at its end (exits): [(0, [4, 8, 10])]; then [4, 8, 10] -/
def r14_16 : RC := (.post (.seq (.seq (.ops r14_9) (.cond (.t 33) (.pre [.kill [33]] .skip) (.pre [.kill [1, 2, 3, 11, 33]] (.exit 0)))) (.seq (.block 1 (.seq (.seq (.ops r14_10) (.cond (.t 38) (.pre [.kill [38]] (.seq (.ops r14_11) (.exit 1))) (.pre [.kill [38]] .skip))) (.seq (.ops r14_12) (.seq (.ops r14_13) (.cond (.t 53) (.pre [.kill [53]] (.ops r14_14)) (.pre [.kill [12, 53]] .skip)))))) (.ops r14_15))) [.gc [112], .tok 10 110])
def r14_17 : List RI := [.op ⟨some 58, none, .mov (.t 10)⟩ [10],
  .op ⟨some 59, none, .faddr 0 (.t 4)⟩ [],
  .op ⟨none, none, .store 1 (.t 59) (.t 58)⟩ [58, 59]]
def r14_18 : List RI := [.op ⟨some 60, none, .load 2 true (.t 4)⟩ [4],
  .op ⟨none, none, .store 2 (.t 8) (.t 60)⟩ [60],
  .op ⟨some 9, none, .mov (.c (.int .i64 0))⟩ []]
def r14 : RC := (.seq (.ops r14_0) (.seq (.seq (.ops r14_1) (.cond (.t 19) (.pre [.kill [1, 2, 3, 4, 19]] (.seq (.ops r14_2) .ret)) (.pre [.kill [19]] .skip))) (.seq (.seq (.ops r14_3) (.cond (.t 26) (.pre [.kill [1, 2, 3, 4, 26]] (.seq (.ops r14_4) .ret)) (.pre [.kill [26]] .skip))) (.seq (.seq (.ops r14_5) (.cond (.t 30) (.pre [.kill [1, 2, 3, 4, 30]] (.seq (.ops r14_6) .ret)) (.pre [.kill [30]] .skip))) (.seq (.ops r14_7) (.seq (.seq (.ops r14_8) (.block 0 (.pre [.tok 10 110] (.loop r14_16)))) (.seq (.ops r14_17) (.seq (.ops r14_18) .ret))))))))
def F14 : FnC := ⟨r14, 61, [.cell 8 2 true, .tmp 9], [], []⟩
theorem r14_ok : ((Try.f14).body).bind (resCode Try.prog) = some r14.er := by kernel_rfl
/- 15 sealwright/sealwrightref36.SameLeases · params #[27, 27] · tmps 80 · results .tmp 4 -/
def r15_0 : List RI := [.op ⟨some 2, none, .box (.t 0)⟩ [0],
  .op ⟨some 3, none, .box (.t 1)⟩ [1],
  .op ⟨some 4, none, .mov (.c (.bool false))⟩ [4]]
def r15_1 : List RI := [.op ⟨some 9, none, .faddr 0 (.t 2)⟩ [],
  .op ⟨some 10, none, .load 1 false (.t 9)⟩ [9],
  .op ⟨some 11, none, .len false (.t 10)⟩ [10],
  .op ⟨some 12, none, .faddr 0 (.t 3)⟩ [],
  .op ⟨some 13, none, .load 1 false (.t 12)⟩ [12],
  .op ⟨some 14, none, .len false (.t 13)⟩ [13],
  .op ⟨some 15, none, .bin .neq (.t 11) (.t 14)⟩ [11, 14],
  .op ⟨some 16, none, .mov (.t 15)⟩ [15],
  .grp 16 false [⟨some 17, some (16, false), .faddr 1 (.t 2)⟩,
    ⟨some 18, some (16, false), .load 1 false (.t 17)⟩,
    ⟨some 19, some (16, false), .len false (.t 18)⟩,
    ⟨some 20, some (16, false), .faddr 1 (.t 3)⟩,
    ⟨some 21, some (16, false), .load 1 false (.t 20)⟩,
    ⟨some 22, some (16, false), .len false (.t 21)⟩,
    ⟨some 23, some (16, false), .bin .neq (.t 19) (.t 22)⟩] [17, 18, 19, 20, 21, 22],
  .op ⟨some 24, none, .pick (.t 16) (.c (.bool true)) (.t 23)⟩ [16, 23]]
def r15_2 : List RI := [.op ⟨some 4, none, .mov (.c (.bool false))⟩ []]
def r15_3 : List RI := [.op ⟨some 5, none, .mov (.c (.int .i64 0))⟩ []]
def r15_4 : List RI := [.op ⟨some 25, none, .mov (.t 5)⟩ [],
  .op ⟨some 26, none, .faddr 0 (.t 2)⟩ [],
  .op ⟨some 27, none, .load 1 false (.t 26)⟩ [26],
  .op ⟨some 28, none, .len false (.t 27)⟩ [27],
  .op ⟨some 29, none, .bin .lss (.t 25) (.t 28)⟩ [25, 28]]
def r15_5 : List SI := [⟨some 32, none, .faddr 0 (.t 2)⟩,
  ⟨some 33, none, .load 1 false (.t 32)⟩,
  ⟨some 34, none, .mov (.t 5)⟩,
  ⟨some 35, none, .iaddrL 3 (.t 33) (.t 34)⟩,
  ⟨some 36, none, .load 3 true (.t 35)⟩,
  ⟨some 37, none, .faddr 0 (.t 3)⟩,
  ⟨some 38, none, .load 1 false (.t 37)⟩,
  ⟨some 39, none, .mov (.t 5)⟩,
  ⟨some 40, none, .iaddrL 3 (.t 38) (.t 39)⟩,
  ⟨some 41, none, .load 3 true (.t 40)⟩,
  ⟨some 6, none, .new (.rc [(.int .i64 0), (.int .i64 0), (.lst 1 [] .clip)])⟩,
  ⟨some 7, none, .new (.rc [(.int .i64 0), (.int .i64 0), (.lst 1 [] .clip)])⟩,
  ⟨none, none, .store 3 (.t 6) (.t 36)⟩,
  ⟨none, none, .store 3 (.t 7) (.t 41)⟩]
def r15_6 : List RI := [.op ⟨some 42, none, .faddr 0 (.t 6)⟩ [],
  .op ⟨some 43, none, .load 1 false (.t 42)⟩ [42],
  .op ⟨some 44, none, .faddr 0 (.t 7)⟩ [],
  .op ⟨some 45, none, .load 1 false (.t 44)⟩ [44],
  .op ⟨some 46, none, .bin .neq (.t 43) (.t 45)⟩ [43, 45],
  .op ⟨some 47, none, .mov (.t 46)⟩ [46],
  .grp 47 false [⟨some 48, some (47, false), .faddr 1 (.t 6)⟩,
    ⟨some 49, some (47, false), .load 1 false (.t 48)⟩,
    ⟨some 50, some (47, false), .faddr 1 (.t 7)⟩,
    ⟨some 51, some (47, false), .load 1 false (.t 50)⟩,
    ⟨some 52, some (47, false), .bin .neq (.t 49) (.t 51)⟩] [48, 49, 50, 51],
  .op ⟨some 53, none, .pick (.t 47) (.c (.bool true)) (.t 52)⟩ [47, 52],
  .op ⟨some 54, none, .mov (.t 53)⟩ [53],
  .grp 54 false [⟨some 55, some (54, false), .faddr 2 (.t 6)⟩,
    ⟨some 56, some (54, false), .load 1 false (.t 55)⟩,
    ⟨some 57, some (54, false), .faddr 2 (.t 7)⟩,
    ⟨some 58, some (54, false), .load 1 false (.t 57)⟩,
    ⟨some 59, some (54, false), .call (.f 34) [(.t 56), (.t 58)]⟩,
    ⟨some 60, some (54, false), .un .not (.t 59)⟩] [6, 7, 55, 56, 57, 58, 59],
  .op ⟨some 61, none, .pick (.t 54) (.c (.bool true)) (.t 60)⟩ [54, 60]]
def r15_7 : List RI := [.op ⟨some 4, none, .mov (.c (.bool false))⟩ []]
def r15_8 : List RI := [.op ⟨some 30, none, .mov (.t 5)⟩ [5],
  .op ⟨some 31, none, .bin .add (.t 30) (.c (.int .i64 1))⟩ [30],
  .op ⟨some 5, none, .mov (.t 31)⟩ [31]]
/- live at the loop's head: [2, 3, 5]; at its end (exits): [(0, [2, 3])]; then [2, 3] -/
def r15_9 : RC := (.post (.seq (.seq (.ops r15_4) (.cond (.t 29) (.pre [.kill [29]] .skip) (.pre [.kill [5, 29]] (.exit 0)))) (.seq (.block 1 (.seq (.drw [0, 1, 0, 7, 15, 0, 32, 0, 224, 480, 0, 0, 3103, 8191] [106, 107] r15_5 [32, 33, 34, 35, 36, 37, 38, 39, 40, 41]) (.seq (.ops r15_6) (.cond (.t 61) (.pre [.kill [2, 3, 5, 61]] (.seq (.ops r15_7) .ret)) (.pre [.kill [61]] .skip))))) (.ops r15_8))) [.gc [106, 107]])
def r15_10 : List RI := [.op ⟨some 8, none, .mov (.c (.int .i64 0))⟩ []]
def r15_11 : List RI := [.op ⟨some 62, none, .mov (.t 8)⟩ [],
  .op ⟨some 63, none, .faddr 1 (.t 2)⟩ [],
  .op ⟨some 64, none, .load 1 false (.t 63)⟩ [63],
  .op ⟨some 65, none, .len false (.t 64)⟩ [64],
  .op ⟨some 66, none, .bin .lss (.t 62) (.t 65)⟩ [62, 65]]
def r15_12 : List FI := [⟨0, true, ⟨some 69, none, .faddr 1 (.t 2)⟩⟩,
  ⟨1, true, ⟨some 70, none, .load 1 false (.t 69)⟩⟩,
  ⟨2, true, ⟨some 71, none, .mov (.t 8)⟩⟩,
  ⟨3, true, ⟨some 72, none, .iaddrL 3 (.t 70) (.t 71)⟩⟩,
  ⟨4, true, ⟨some 73, none, .load 3 true (.t 72)⟩⟩,
  ⟨5, true, ⟨some 74, none, .faddr 1 (.t 3)⟩⟩,
  ⟨6, true, ⟨some 75, none, .load 1 false (.t 74)⟩⟩,
  ⟨7, true, ⟨some 76, none, .mov (.t 8)⟩⟩,
  ⟨8, true, ⟨some 77, none, .iaddrL 3 (.t 75) (.t 76)⟩⟩,
  ⟨9, true, ⟨some 78, none, .load 3 true (.t 77)⟩⟩,
  ⟨10, true, ⟨some 79, none, .eqS true [1, 1, 1] (.t 73) (.t 78)⟩⟩]
def r15_13 : List RI := [.op ⟨some 4, none, .mov (.c (.bool false))⟩ []]
def r15_14 : List RI := [.op ⟨some 67, none, .mov (.t 8)⟩ [8],
  .op ⟨some 68, none, .bin .add (.t 67) (.c (.int .i64 1))⟩ [67],
  .op ⟨some 8, none, .mov (.t 68)⟩ [68]]
/- live at the loop's head: [2, 3, 8]; at its end (exits): [(2, [])]; then [] -/
def r15_15 : RC := (.seq (.seq (.ops r15_11) (.cond (.t 66) (.pre [.kill [66]] .skip) (.pre [.kill [2, 3, 8, 66]] (.exit 2)))) (.seq (.block 3 (.seq (.flt [0, 1, 0, 7, 15, 0, 32, 0, 224, 480, 1023] [] r15_12 [69, 70, 71, 72, 73, 74, 75, 76, 77, 78]) (.cond (.t 79) (.pre [.kill [2, 3, 8, 79]] (.seq (.ops r15_13) .ret)) (.pre [.kill [79]] .skip)))) (.ops r15_14)))
def r15_16 : List RI := [.op ⟨some 4, none, .mov (.c (.bool true))⟩ []]
def r15 : RC := (.seq (.ops r15_0) (.seq (.seq (.ops r15_1) (.cond (.t 24) (.pre [.kill [2, 3, 24]] (.seq (.ops r15_2) .ret)) (.pre [.kill [24]] .skip))) (.seq (.seq (.ops r15_3) (.block 0 (.loop r15_9))) (.seq (.seq (.ops r15_10) (.block 2 (.loop r15_15))) (.seq (.ops r15_16) .ret)))))
def F15 : FnC := ⟨r15, 80, [.tmp 4], [], []⟩
theorem r15_ok : ((Try.f15).body).bind (resCode Try.prog) = some r15.er := by kernel_rfl
/- 16 sealwright/leases.Release · params #[27, 3] · tmps 34 · results .cell 4 27, .tmp 5 -/
def r16_0 : List RI := [.op ⟨some 2, none, .box (.t 0)⟩ [0],
  .op ⟨some 4, none, .new (.rc [(.lst 3 [] .clip), (.lst 3 [] .clip)])⟩ [],
  .op ⟨some 5, none, .mov (.c (.int .i64 0))⟩ [5]]
def r16_1 : List RI := [.op ⟨some 8, none, .mov (.t 1)⟩ [],
  .op ⟨some 9, none, .call (.f 30) [(.t 8)]⟩ [8],
  .op ⟨some 10, none, .un .not (.t 9)⟩ [9]]
def r16_2 : List RI := [.op ⟨some 11, none, .build [(.lst 3 [] .clip), (.lst 3 [] .clip)] []⟩ [],
  .op ⟨none, none, .store 2 (.t 4) (.t 11)⟩ [11],
  .op ⟨some 5, none, .mov (.c (.int .i64 49))⟩ []]
def r16_3 : List RI := [.op ⟨some 13, none, .load 2 true (.t 2)⟩ [],
  .op ⟨some 14, none, .mov (.t 1)⟩ [1],
  .op ⟨some 15, none, .call (.f 35) [(.t 13), (.t 14)]⟩ [13, 14],
  .op ⟨some 12, none, .mov (.t 15)⟩ [15],
  .op ⟨some 16, none, .ext (.t 12) 0⟩ [],
  .op ⟨some 17, none, .ext (.t 12) 1⟩ [12],
  .op ⟨some 6, none, .mov (.t 16)⟩ [16],
  .op ⟨some 7, none, .mov (.t 17)⟩ [17]]
def r16_4 : List RI := [.op ⟨some 18, none, .mov (.t 7)⟩ [7],
  .op ⟨some 19, none, .un .not (.t 18)⟩ [18]]
def r16_5 : List RI := [.op ⟨some 20, none, .build [(.lst 3 [] .clip), (.lst 3 [] .clip)] []⟩ [],
  .op ⟨none, none, .store 2 (.t 4) (.t 20)⟩ [20],
  .op ⟨some 5, none, .mov (.c (.int .i64 40))⟩ []]
def r16_6 : List FI := [⟨0, true, ⟨some 21, none, .faddr 1 (.t 2)⟩⟩,
  ⟨1, true, ⟨some 22, none, .load 1 false (.t 21)⟩⟩,
  ⟨2, true, ⟨some 23, none, .mov (.t 6)⟩⟩,
  ⟨3, true, ⟨some 24, none, .mov (.t 6)⟩⟩,
  ⟨4, true, ⟨some 25, none, .slcL 3 (.t 22) none (some (.t 23)) (some (.t 24))⟩⟩,
  ⟨5, true, ⟨some 26, none, .faddr 1 (.t 2)⟩⟩,
  ⟨6, true, ⟨some 27, none, .load 1 false (.t 26)⟩⟩,
  ⟨7, true, ⟨some 28, none, .mov (.t 6)⟩⟩,
  ⟨8, true, ⟨some 29, none, .bin .add (.t 28) (.c (.int .i64 1))⟩⟩,
  ⟨9, true, ⟨some 30, none, .slcL 3 (.t 27) (some (.t 29)) none none⟩⟩,
  ⟨10, false, ⟨some 31, none, .app [(.int .i64 0), (.int .i64 0), (.int .i64 0)] 24 (.t 25) (.t 30)⟩⟩,
  ⟨11, true, ⟨some 32, none, .faddr 1 (.t 2)⟩⟩,
  ⟨12, false, ⟨none, none, .store 1 (.t 32) (.t 31)⟩⟩]
def r16_7 : List RI := [.op ⟨some 33, none, .load 2 true (.t 2)⟩ [2],
  .op ⟨none, none, .store 2 (.t 4) (.t 33)⟩ [33],
  .op ⟨some 5, none, .mov (.c (.int .i64 0))⟩ []]
def r16 : RC := (.seq (.ops r16_0) (.seq (.seq (.ops r16_1) (.cond (.t 10) (.pre [.kill [1, 2, 10]] (.seq (.ops r16_2) .ret)) (.pre [.kill [10]] .skip))) (.seq (.ops r16_3) (.seq (.seq (.ops r16_4) (.cond (.t 19) (.pre [.kill [2, 6, 19]] (.seq (.ops r16_5) .ret)) (.pre [.kill [19]] .skip))) (.seq (.flt [0, 1, 0, 0, 15, 0, 32, 0, 128, 480, 1023, 2047, 4095] [131] r16_6 [6, 21, 22, 23, 24, 25, 26, 27, 28, 29, 30, 31, 32]) (.seq (.ops r16_7) .ret))))))
def F16 : FnC := ⟨r16, 34, [.cell 4 2 true, .tmp 5], [], []⟩
theorem r16_ok : ((Try.f16).body).bind (resCode Try.prog) = some r16.er := by kernel_rfl
/- 17 sealwright/sealwrightref36.Release · params #[27, 3] · tmps 47 · results .cell 4 27, .tmp 5 -/
def r17_0 : List RI := [.op ⟨some 2, none, .box (.t 0)⟩ [0],
  .op ⟨some 4, none, .new (.rc [(.lst 3 [] .clip), (.lst 3 [] .clip)])⟩ [],
  .op ⟨some 5, none, .mov (.c (.int .i64 0))⟩ [5]]
def r17_1 : List RI := [.op ⟨some 8, none, .mov (.t 1)⟩ [],
  .op ⟨some 9, none, .bin .lss (.t 8) (.c (.int .i64 1))⟩ [8],
  .op ⟨some 10, none, .mov (.t 9)⟩ [9],
  .grp 10 false [⟨some 11, some (10, false), .mov (.t 1)⟩,
    ⟨some 12, some (10, false), .bin .gtr (.t 11) (.c (.int .i64 4))⟩] [11],
  .op ⟨some 13, none, .pick (.t 10) (.c (.bool true)) (.t 12)⟩ [10, 12]]
def r17_2 : List RI := [.op ⟨some 14, none, .build [(.lst 3 [] .clip), (.lst 3 [] .clip)] []⟩ [],
  .op ⟨none, none, .store 2 (.t 4) (.t 14)⟩ [14],
  .op ⟨some 5, none, .mov (.c (.int .i64 49))⟩ []]
def r17_3 : List RI := [.op ⟨some 15, none, .load 2 true (.t 2)⟩ [],
  .op ⟨some 16, none, .mov (.t 1)⟩ [],
  .op ⟨some 17, none, .call (.f 21) [(.t 15), (.t 16)]⟩ [15, 16],
  .op ⟨some 18, none, .un .not (.t 17)⟩ [17]]
def r17_4 : List RI := [.op ⟨some 19, none, .build [(.lst 3 [] .clip), (.lst 3 [] .clip)] []⟩ [],
  .op ⟨none, none, .store 2 (.t 4) (.t 19)⟩ [19],
  .op ⟨some 5, none, .mov (.c (.int .i64 40))⟩ []]
def r17_5 : List RI := [.op ⟨some 6, none, .mov (.c (.lst 3 [] .clip))⟩ []]
def r17_6 : List RI := [.op ⟨some 7, none, .mov (.c (.int .i64 0))⟩ []]
def r17_7 : List RI := [.op ⟨some 20, none, .mov (.t 7)⟩ [],
  .op ⟨some 21, none, .faddr 1 (.t 2)⟩ [],
  .op ⟨some 22, none, .load 1 false (.t 21)⟩ [21],
  .op ⟨some 23, none, .len false (.t 22)⟩ [22],
  .op ⟨some 24, none, .bin .lss (.t 20) (.t 23)⟩ [20, 23]]
def r17_8 : List RI := [.op ⟨some 27, none, .faddr 1 (.t 2)⟩ [],
  .op ⟨some 28, none, .load 1 false (.t 27)⟩ [27],
  .op ⟨some 29, none, .mov (.t 7)⟩ [],
  .op ⟨some 30, none, .iaddrL 3 (.t 28) (.t 29)⟩ [28, 29],
  .op ⟨some 31, none, .faddr 0 (.t 30)⟩ [30],
  .op ⟨some 32, none, .load 1 false (.t 31)⟩ [31],
  .op ⟨some 33, none, .mov (.t 1)⟩ [],
  .op ⟨some 34, none, .bin .neq (.t 32) (.t 33)⟩ [32, 33]]
def r17_9 : List RI := [.op ⟨some 35, none, .mov (.t 6)⟩ [6],
  .op ⟨some 36, none, .faddr 1 (.t 2)⟩ [],
  .op ⟨some 37, none, .load 1 false (.t 36)⟩ [36],
  .op ⟨some 38, none, .mov (.t 7)⟩ [],
  .op ⟨some 39, none, .iaddrL 3 (.t 37) (.t 38)⟩ [37, 38],
  .op ⟨some 40, none, .load 3 true (.t 39)⟩ [39],
  .op ⟨some 41, none, .lit 3 [(.t 40)]⟩ [40],
  .op ⟨some 42, none, .app [(.int .i64 0), (.int .i64 0), (.int .i64 0)] 24 (.t 35) (.t 41)⟩ [35, 41],
  .op ⟨some 6, none, .mov (.t 42)⟩ [42]]
def r17_10 : List RI := [.op ⟨some 25, none, .mov (.t 7)⟩ [7],
  .op ⟨some 26, none, .bin .add (.t 25) (.c (.int .i64 1))⟩ [25],
  .op ⟨some 7, none, .mov (.t 26)⟩ [26]]
/- live at the loop's head: [1, 2, 4, 6, 7]; at its end (exits): [(0, [2, 4, 6])]; then [2, 4, 6] -/
def r17_11 : RC := (.post (.seq (.seq (.ops r17_7) (.cond (.t 24) (.pre [.kill [24]] .skip) (.pre [.kill [1, 7, 24]] (.exit 0)))) (.seq (.block 1 (.seq (.ops r17_8) (.cond (.t 34) (.pre [.kill [34]] (.ops r17_9)) (.pre [.kill [34]] .skip)))) (.ops r17_10))) [.tok 6 106])
def r17_12 : List RI := [.op ⟨some 43, none, .faddr 0 (.t 2)⟩ [2],
  .op ⟨some 44, none, .load 1 false (.t 43)⟩ [43],
  .op ⟨some 45, none, .mov (.t 6)⟩ [6],
  .op ⟨some 46, none, .build [(.lst 3 [] .clip), (.lst 3 [] .clip)] [(0, 1, (.t 44)), (1, 1, (.t 45))]⟩ [44, 45],
  .op ⟨none, none, .store 2 (.t 4) (.t 46)⟩ [46],
  .op ⟨some 5, none, .mov (.c (.int .i64 0))⟩ []]
def r17 : RC := (.seq (.ops r17_0) (.seq (.seq (.ops r17_1) (.cond (.t 13) (.pre [.kill [1, 2, 13]] (.seq (.ops r17_2) .ret)) (.pre [.kill [13]] .skip))) (.seq (.seq (.ops r17_3) (.cond (.t 18) (.pre [.kill [1, 2, 18]] (.seq (.ops r17_4) .ret)) (.pre [.kill [18]] .skip))) (.seq (.ops r17_5) (.seq (.seq (.ops r17_6) (.block 0 (.pre [.tok 6 106] (.loop r17_11)))) (.seq (.ops r17_12) .ret))))))
def F17 : FnC := ⟨r17, 47, [.cell 4 2 true, .tmp 5], [], []⟩
theorem r17_ok : ((Try.f17).body).bind (resCode Try.prog) = some r17.er := by kernel_rfl
/- 19 sealwright/sealwrightref36.Hold · params #[27, 3, 35, 3] · tmps 63 · results .cell 8 27 -/
def r19_0 : List RI := [.op ⟨some 4, none, .box (.t 0)⟩ [0],
  .op ⟨some 8, none, .new (.rc [(.lst 3 [] .clip), (.lst 3 [] .clip)])⟩ []]
def r19_1 : List RI := [.op ⟨some 11, none, .mov (.t 1)⟩ [],
  .op ⟨some 12, none, .bin .lss (.t 11) (.c (.int .i64 1))⟩ [11],
  .op ⟨some 13, none, .mov (.t 12)⟩ [12],
  .grp 13 false [⟨some 14, some (13, false), .mov (.t 1)⟩,
    ⟨some 15, some (13, false), .bin .gtr (.t 14) (.c (.int .i64 4))⟩] [14],
  .op ⟨some 16, none, .pick (.t 13) (.c (.bool true)) (.t 15)⟩ [13, 15],
  .op ⟨some 17, none, .mov (.t 16)⟩ [16],
  .grp 17 false [⟨some 18, some (17, false), .load 2 true (.t 4)⟩,
    ⟨some 19, some (17, false), .mov (.t 1)⟩,
    ⟨some 20, some (17, false), .call (.f 21) [(.t 18), (.t 19)]⟩] [18, 19],
  .op ⟨some 21, none, .pick (.t 17) (.c (.bool true)) (.t 20)⟩ [17, 20]]
def r19_2 : List RI := [.op ⟨some 22, none, .load 2 true (.t 4)⟩ [4],
  .op ⟨none, none, .store 2 (.t 8) (.t 22)⟩ [22]]
def r19_3 : List RI := [.op ⟨some 9, none, .mov (.c (.int .i64 0))⟩ []]
def r19_4 : List RI := [.op ⟨some 23, none, .mov (.t 9)⟩ [],
  .op ⟨some 24, none, .faddr 1 (.t 4)⟩ [],
  .op ⟨some 25, none, .load 1 false (.t 24)⟩ [24],
  .op ⟨some 26, none, .len false (.t 25)⟩ [25],
  .op ⟨some 27, none, .bin .lss (.t 23) (.t 26)⟩ [23, 26],
  .op ⟨some 28, none, .mov (.t 27)⟩ [27],
  .grp 28 true [⟨some 29, some (28, true), .faddr 1 (.t 4)⟩,
    ⟨some 30, some (28, true), .load 1 false (.t 29)⟩,
    ⟨some 31, some (28, true), .mov (.t 9)⟩,
    ⟨some 32, some (28, true), .iaddrL 3 (.t 30) (.t 31)⟩,
    ⟨some 33, some (28, true), .faddr 0 (.t 32)⟩,
    ⟨some 34, some (28, true), .load 1 false (.t 33)⟩,
    ⟨some 35, some (28, true), .mov (.t 1)⟩,
    ⟨some 36, some (28, true), .bin .lss (.t 34) (.t 35)⟩] [29, 30, 31, 32, 33, 34, 35],
  .op ⟨some 37, none, .pick (.t 28) (.t 36) (.c (.bool false))⟩ [28, 36]]
def r19_5 : List RI := [.op ⟨some 38, none, .mov (.t 9)⟩ [9],
  .op ⟨some 39, none, .bin .add (.t 38) (.c (.int .i64 1))⟩ [38],
  .op ⟨some 9, none, .mov (.t 39)⟩ [39]]
/- live at the loop's head: [1, 2, 3, 4, 8, 9]; at its end (exits): [(0, [1, 2, 3, 4, 8, 9])]; then [1, 2, 3, 4, 8, 9] -/
def r19_6 : RC := (.seq (.seq (.ops r19_4) (.cond (.t 37) (.pre [.kill [37]] .skip) (.pre [.kill [37]] (.exit 0)))) (.block 1 (.ops r19_5)))
def r19_7 : List FI := [⟨0, true, ⟨some 40, none, .lit 3 []⟩⟩,
  ⟨1, true, ⟨some 41, none, .faddr 1 (.t 4)⟩⟩,
  ⟨2, true, ⟨some 42, none, .load 1 false (.t 41)⟩⟩,
  ⟨3, true, ⟨some 43, none, .mov (.t 9)⟩⟩,
  ⟨4, true, ⟨some 44, none, .slcL 3 (.t 42) none (some (.t 43)) none⟩⟩,
  ⟨6, true, ⟨some 46, none, .mov (.t 1)⟩⟩,
  ⟨7, true, ⟨some 47, none, .mov (.t 2)⟩⟩,
  ⟨8, true, ⟨some 48, none, .mov (.t 3)⟩⟩,
  ⟨9, true, ⟨some 49, none, .build [(.int .i64 0), (.int .i64 0), (.int .i64 0)] [(0, 1, (.t 46)), (1, 1, (.t 47)), (2, 1, (.t 48))]⟩⟩,
  ⟨10, true, ⟨some 50, none, .lit 3 [(.t 49)]⟩⟩,
  ⟨12, true, ⟨some 52, none, .faddr 1 (.t 4)⟩⟩,
  ⟨13, true, ⟨some 53, none, .load 1 false (.t 52)⟩⟩,
  ⟨14, true, ⟨some 54, none, .mov (.t 9)⟩⟩,
  ⟨15, true, ⟨some 55, none, .slcL 3 (.t 53) (some (.t 54)) none none⟩⟩,
  ⟨5, false, ⟨some 45, none, .app [(.int .i64 0), (.int .i64 0), (.int .i64 0)] 24 (.t 40) (.t 44)⟩⟩,
  ⟨11, false, ⟨some 51, none, .app [(.int .i64 0), (.int .i64 0), (.int .i64 0)] 24 (.t 45) (.t 50)⟩⟩,
  ⟨16, false, ⟨some 56, none, .app [(.int .i64 0), (.int .i64 0), (.int .i64 0)] 24 (.t 51) (.t 55)⟩⟩,
  ⟨17, true, ⟨some 10, none, .mov (.t 56)⟩⟩]
def r19_8 : List RI := [.op ⟨some 57, none, .faddr 0 (.t 4)⟩ [4],
  .op ⟨some 58, none, .load 1 false (.t 57)⟩ [57],
  .op ⟨some 59, none, .mov (.t 1)⟩ [1],
  .op ⟨some 60, none, .call (.f 39) [(.t 58), (.t 59)]⟩ [58, 59],
  .op ⟨some 61, none, .mov (.t 10)⟩ [10],
  .op ⟨some 62, none, .build [(.lst 3 [] .clip), (.lst 3 [] .clip)] [(0, 1, (.t 60)), (1, 1, (.t 61))]⟩ [60, 61],
  .op ⟨none, none, .store 2 (.t 8) (.t 62)⟩ [62]]
def r19 : RC := (.seq (.ops r19_0) (.seq (.seq (.ops r19_1) (.cond (.t 21) (.pre [.kill [1, 2, 3, 21]] (.seq (.ops r19_2) .ret)) (.pre [.kill [21]] .skip))) (.seq (.ops r19_3) (.seq (.block 0 (.loop r19_6)) (.seq (.flt [0, 0, 2, 0, 14, 31, 0, 0, 0, 448, 960, 2047, 0, 4096, 0, 28672, 65535, 131071] [145, 151, 156] r19_7 [2, 3, 9, 40, 41, 42, 43, 44, 45, 46, 47, 48, 49, 50, 51, 52, 53, 54, 55, 56]) (.seq (.ops r19_8) .ret))))))
def F19 : FnC := ⟨r19, 63, [.cell 8 2 true], [], []⟩
theorem r19_ok : ((Try.f19).body).bind (resCode Try.prog) = some r19.er := by kernel_rfl
/- 20 sealwright/leases.Held · params #[27, 3] · tmps 14 · results .tmp 4 -/
def r20_0 : List RI := [.op ⟨some 2, none, .box (.t 0)⟩ [0],
  .op ⟨some 4, none, .mov (.c (.bool false))⟩ [4]]
def r20_1 : List RI := [.op ⟨some 8, none, .load 2 true (.t 2)⟩ [2],
  .op ⟨some 9, none, .mov (.t 1)⟩ [1],
  .op ⟨some 10, none, .call (.f 35) [(.t 8), (.t 9)]⟩ [8, 9],
  .op ⟨some 7, none, .mov (.t 10)⟩ [10],
  .op ⟨some 11, none, .ext (.t 7) 0⟩ [],
  .op ⟨some 12, none, .ext (.t 7) 1⟩ [7],
  .op ⟨some 5, none, .mov (.t 11)⟩ [5, 11],
  .op ⟨some 6, none, .mov (.t 12)⟩ [12]]
def r20_2 : List RI := [.op ⟨some 13, none, .mov (.t 6)⟩ [6],
  .op ⟨some 4, none, .mov (.t 13)⟩ [13]]
def r20 : RC := (.seq (.ops r20_0) (.seq (.ops r20_1) (.seq (.ops r20_2) .ret)))
def F20 : FnC := ⟨r20, 14, [.tmp 4], [], []⟩
theorem r20_ok : ((Try.f20).body).bind (resCode Try.prog) = some r20.er := by kernel_rfl
/- 21 sealwright/sealwrightref36.Held · params #[27, 3] · tmps 21 · results .tmp 4 -/
def r21_0 : List RI := [.op ⟨some 2, none, .box (.t 0)⟩ [0],
  .op ⟨some 4, none, .mov (.c (.bool false))⟩ [4]]
def r21_1 : List RI := [.op ⟨some 5, none, .mov (.c (.int .i64 0))⟩ []]
def r21_2 : List RI := [.op ⟨some 6, none, .mov (.t 5)⟩ [],
  .op ⟨some 7, none, .faddr 1 (.t 2)⟩ [],
  .op ⟨some 8, none, .load 1 false (.t 7)⟩ [7],
  .op ⟨some 9, none, .len false (.t 8)⟩ [8],
  .op ⟨some 10, none, .bin .lss (.t 6) (.t 9)⟩ [6, 9]]
def r21_3 : List RI := [.op ⟨some 13, none, .faddr 1 (.t 2)⟩ [],
  .op ⟨some 14, none, .load 1 false (.t 13)⟩ [13],
  .op ⟨some 15, none, .mov (.t 5)⟩ [],
  .op ⟨some 16, none, .iaddrL 3 (.t 14) (.t 15)⟩ [14, 15],
  .op ⟨some 17, none, .faddr 0 (.t 16)⟩ [16],
  .op ⟨some 18, none, .load 1 false (.t 17)⟩ [17],
  .op ⟨some 19, none, .mov (.t 1)⟩ [],
  .op ⟨some 20, none, .bin .eql (.t 18) (.t 19)⟩ [18, 19]]
def r21_4 : List RI := [.op ⟨some 4, none, .mov (.c (.bool true))⟩ []]
def r21_5 : List RI := [.op ⟨some 11, none, .mov (.t 5)⟩ [5],
  .op ⟨some 12, none, .bin .add (.t 11) (.c (.int .i64 1))⟩ [11],
  .op ⟨some 5, none, .mov (.t 12)⟩ [12]]
/- live at the loop's head: [1, 2, 5]; at its end (exits): [(0, [])]; then [] -/
def r21_6 : RC := (.seq (.seq (.ops r21_2) (.cond (.t 10) (.pre [.kill [10]] .skip) (.pre [.kill [1, 2, 5, 10]] (.exit 0)))) (.seq (.block 1 (.seq (.ops r21_3) (.cond (.t 20) (.pre [.kill [1, 2, 5, 20]] (.seq (.ops r21_4) .ret)) (.pre [.kill [20]] .skip)))) (.ops r21_5)))
def r21_7 : List RI := [.op ⟨some 4, none, .mov (.c (.bool false))⟩ []]
def r21 : RC := (.seq (.ops r21_0) (.seq (.seq (.ops r21_1) (.block 0 (.loop r21_6))) (.seq (.ops r21_7) .ret)))
def F21 : FnC := ⟨r21, 21, [.tmp 4], [], []⟩
theorem r21_ok : ((Try.f21).body).bind (resCode Try.prog) = some r21.er := by kernel_rfl
/- 22 (*sealwright/sealwrightdraw.Codes).Left · params #[33] · tmps 13 · results .tmp 2 -/
def r22_0 : List RI := [.op ⟨some 2, none, .mov (.c (.bool false))⟩ [2]]
def r22_1 : List FI := [⟨0, true, ⟨some 3, none, .mov (.t 0)⟩⟩,
  ⟨1, true, ⟨some 4, none, .nchk (.t 3)⟩⟩,
  ⟨2, true, ⟨some 5, none, .faddr 1 (.t 4)⟩⟩,
  ⟨3, true, ⟨some 6, none, .load 1 false (.t 5)⟩⟩,
  ⟨4, true, ⟨some 7, none, .mov (.t 0)⟩⟩,
  ⟨5, true, ⟨some 8, none, .nchk (.t 7)⟩⟩,
  ⟨6, true, ⟨some 9, none, .faddr 0 (.t 8)⟩⟩,
  ⟨7, true, ⟨some 10, none, .load 1 false (.t 9)⟩⟩,
  ⟨8, true, ⟨some 11, none, .len false (.t 10)⟩⟩,
  ⟨9, true, ⟨some 12, none, .bin .lss (.t 6) (.t 11)⟩⟩,
  ⟨10, true, ⟨some 2, none, .mov (.t 12)⟩⟩]
def r22 : RC := (.seq (.ops r22_0) (.seq (.flt [0, 1, 3, 7, 0, 16, 48, 112, 240, 511, 1023] [] r22_1 [0, 3, 4, 5, 6, 7, 8, 9, 10, 11, 12]) .ret))
def F22 : FnC := ⟨r22, 13, [.tmp 2], [], []⟩
theorem r22_ok : ((Try.f22).body).bind (resCode Try.prog) = some r22.er := by kernel_rfl
/- 23 (*sealwright/sealwrightdraw.Codes).Next · params #[33, 3] · tmps 36 · results .tmp 4 -/
def r23_0 : List RI := [.op ⟨some 4, none, .mov (.c (.int .i64 0))⟩ [4]]
def r23_1 : List FI := [⟨0, true, ⟨some 5, none, .mov (.t 0)⟩⟩,
  ⟨1, true, ⟨some 6, none, .nchk (.t 5)⟩⟩,
  ⟨2, true, ⟨some 7, none, .faddr 1 (.t 6)⟩⟩,
  ⟨3, true, ⟨some 8, none, .load 1 false (.t 7)⟩⟩,
  ⟨4, true, ⟨some 9, none, .mov (.t 0)⟩⟩,
  ⟨5, true, ⟨some 10, none, .nchk (.t 9)⟩⟩,
  ⟨6, true, ⟨some 11, none, .faddr 0 (.t 10)⟩⟩,
  ⟨7, true, ⟨some 12, none, .load 1 false (.t 11)⟩⟩,
  ⟨8, true, ⟨some 13, none, .len false (.t 12)⟩⟩,
  ⟨9, true, ⟨some 14, none, .bin .geq (.t 8) (.t 13)⟩⟩]
def r23_2 : List RI := [.op ⟨some 4, none, .mov (.c (.int .i64 0))⟩ []]
def r23_3 : List RI := [.op ⟨some 15, none, .mov (.t 0)⟩ [],
  .op ⟨some 16, none, .nchk (.t 15)⟩ [],
  .op ⟨some 17, none, .faddr 1 (.t 16)⟩ [16],
  .op ⟨some 18, none, .load 1 false (.t 17)⟩ [17],
  .op ⟨some 19, none, .bin .add (.t 18) (.c (.int .i64 1))⟩ [18],
  .op ⟨some 20, none, .nchk (.t 15)⟩ [15],
  .op ⟨some 21, none, .faddr 1 (.t 20)⟩ [20],
  .op ⟨none, none, .store 1 (.t 21) (.t 19)⟩ [19, 21]]
def r23_4 : List FI := [⟨0, true, ⟨some 22, none, .mov (.t 0)⟩⟩,
  ⟨1, true, ⟨some 23, none, .nchk (.t 22)⟩⟩,
  ⟨2, true, ⟨some 24, none, .faddr 0 (.t 23)⟩⟩,
  ⟨3, true, ⟨some 25, none, .load 1 false (.t 24)⟩⟩,
  ⟨4, true, ⟨some 26, none, .mov (.t 0)⟩⟩,
  ⟨5, true, ⟨some 27, none, .nchk (.t 26)⟩⟩,
  ⟨6, true, ⟨some 28, none, .faddr 1 (.t 27)⟩⟩,
  ⟨7, true, ⟨some 29, none, .load 1 false (.t 28)⟩⟩,
  ⟨8, true, ⟨some 30, none, .bin .sub (.t 29) (.c (.int .i64 1))⟩⟩,
  ⟨9, true, ⟨some 31, none, .iaddrL 1 (.t 25) (.t 30)⟩⟩,
  ⟨10, true, ⟨some 32, none, .load 1 false (.t 31)⟩⟩,
  ⟨11, true, ⟨some 33, none, .toInt .i64 (.t 32)⟩⟩,
  ⟨12, true, ⟨some 34, none, .mov (.t 1)⟩⟩,
  ⟨13, true, ⟨some 35, none, .bin .rem (.t 33) (.t 34)⟩⟩,
  ⟨14, true, ⟨some 4, none, .mov (.t 35)⟩⟩]
def r23 : RC := (.seq (.ops r23_0) (.seq (.seq (.flt [0, 1, 3, 7, 0, 16, 48, 112, 240, 511] [] r23_1 [5, 6, 7, 8, 9, 10, 11, 12, 13]) (.cond (.t 14) (.pre [.kill [0, 1, 14]] (.seq (.ops r23_2) .ret)) (.pre [.kill [14]] .skip))) (.seq (.ops r23_3) (.seq (.flt [0, 1, 3, 7, 0, 16, 48, 112, 240, 511, 1023, 2047, 0, 8191, 16383] [] r23_4 [0, 1, 22, 23, 24, 25, 26, 27, 28, 29, 30, 31, 32, 33, 34, 35]) .ret))))
def F23 : FnC := ⟨r23, 36, [.tmp 4], [], []⟩
theorem r23_ok : ((Try.f23).body).bind (resCode Try.prog) = some r23.er := by kernel_rfl
/- 24 sealwright/leases.Admitted · params #[27, 3, 3] · tmps 26 · results .tmp 6 -/
def r24_0 : List RI := [.op ⟨some 3, none, .box (.t 0)⟩ [0],
  .op ⟨some 6, none, .mov (.c (.bool false))⟩ [6]]
def r24_1 : List RI := [.op ⟨some 10, none, .load 2 true (.t 3)⟩ [],
  .op ⟨some 11, none, .mov (.t 1)⟩ [1],
  .op ⟨some 12, none, .call (.f 31) [(.t 10), (.t 11)]⟩ [10, 11],
  .op ⟨some 9, none, .mov (.t 12)⟩ [12],
  .op ⟨some 13, none, .ext (.t 9) 0⟩ [],
  .op ⟨some 14, none, .ext (.t 9) 1⟩ [9],
  .op ⟨some 7, none, .mov (.t 13)⟩ [13],
  .op ⟨some 8, none, .mov (.t 14)⟩ [14]]
def r24_2 : List RI := [.op ⟨some 15, none, .mov (.t 8)⟩ [8],
  .op ⟨some 16, none, .mov (.t 15)⟩ [15],
  .grp 16 true [⟨some 17, some (16, true), .mov (.t 2)⟩,
    ⟨some 18, some (16, true), .faddr 0 (.t 3)⟩,
    ⟨some 19, some (16, true), .load 1 false (.t 18)⟩,
    ⟨some 20, some (16, true), .mov (.t 7)⟩,
    ⟨some 21, some (16, true), .iaddrL 3 (.t 19) (.t 20)⟩,
    ⟨some 22, some (16, true), .faddr 1 (.t 21)⟩,
    ⟨some 23, some (16, true), .load 1 false (.t 22)⟩,
    ⟨some 24, some (16, true), .bin .lss (.t 17) (.t 23)⟩] [2, 3, 7, 17, 18, 19, 20, 21, 22, 23],
  .op ⟨some 25, none, .pick (.t 16) (.t 24) (.c (.bool false))⟩ [16, 24],
  .op ⟨some 6, none, .mov (.t 25)⟩ [25]]
def r24 : RC := (.seq (.ops r24_0) (.seq (.ops r24_1) (.seq (.ops r24_2) .ret)))
def F24 : FnC := ⟨r24, 26, [.tmp 6], [], []⟩
theorem r24_ok : ((Try.f24).body).bind (resCode Try.prog) = some r24.er := by kernel_rfl
/- 25 sealwright/sealwrightref36.Admitted · params #[27, 3, 3] · tmps 22 · results .tmp 6 -/
def r25_0 : List RI := [.op ⟨some 3, none, .box (.t 0)⟩ [0],
  .op ⟨some 6, none, .mov (.c (.bool false))⟩ [6]]
def r25_1 : List RI := [.op ⟨some 10, none, .load 2 true (.t 3)⟩ [3],
  .op ⟨some 11, none, .mov (.t 1)⟩ [1],
  .op ⟨some 12, none, .call (.f 28) [(.t 10), (.t 11)]⟩ [10, 11],
  .op ⟨some 9, none, .mov (.t 12)⟩ [12],
  .op ⟨some 13, none, .ext (.t 9) 0⟩ [],
  .op ⟨some 14, none, .ext (.t 9) 1⟩ [9],
  .op ⟨some 7, none, .new (.rc [(.int .i64 0), (.int .i64 0), (.lst 1 [] .clip)])⟩ [],
  .op ⟨none, none, .store 3 (.t 7) (.t 13)⟩ [13],
  .op ⟨some 8, none, .mov (.t 14)⟩ [14]]
def r25_2 : List RI := [.op ⟨some 15, none, .mov (.t 8)⟩ [8],
  .op ⟨some 16, none, .mov (.t 15)⟩ [15],
  .grp 16 true [⟨some 17, some (16, true), .mov (.t 2)⟩,
    ⟨some 18, some (16, true), .faddr 1 (.t 7)⟩,
    ⟨some 19, some (16, true), .load 1 false (.t 18)⟩,
    ⟨some 20, some (16, true), .bin .lss (.t 17) (.t 19)⟩] [2, 7, 17, 18, 19],
  .op ⟨some 21, none, .pick (.t 16) (.t 20) (.c (.bool false))⟩ [16, 20],
  .op ⟨some 6, none, .mov (.t 21)⟩ [21]]
def r25 : RC := (.seq (.ops r25_0) (.seq (.ops r25_1) (.seq (.ops r25_2) .ret)))
def F25 : FnC := ⟨r25, 22, [.tmp 6], [], []⟩
theorem r25_ok : ((Try.f25).body).bind (resCode Try.prog) = some r25.er := by kernel_rfl
/- 26 sealwright/leases.Sweep · params #[27, 3, 31] · tmps 38 · results .cell 6 27 -/
def r26_0 : List RI := [.op ⟨some 3, none, .box (.t 0)⟩ [0],
  .op ⟨some 5, none, .box (.t 2)⟩ [2],
  .op ⟨some 6, none, .new (.rc [(.lst 3 [] .clip), (.lst 3 [] .clip)])⟩ []]
def r26_1 : List RI := [.op ⟨some 7, none, .mov (.c (.lst 3 [] .clip))⟩ []]
def r26_2 : List RI := [.op ⟨some 11, none, .faddr 0 (.t 3)⟩ [],
  .op ⟨some 12, none, .load 1 false (.t 11)⟩ [11],
  .op ⟨some 13, none, .len false (.t 12)⟩ [],
  .op ⟨some 14, none, .mov (.c (.int .i64 0))⟩ []]
def r26_3 : List RI := [.op ⟨some 15, none, .bin .lss (.t 14) (.t 13)⟩ []]
def r26_4 : List RI := [.op ⟨some 16, none, .iaddrL 3 (.t 12) (.t 14)⟩ [],
  .op ⟨some 17, none, .load 3 true (.t 16)⟩ [16],
  .op ⟨some 9, none, .new (.rc [(.int .i64 0), (.int .i64 0), (.lst 1 [] .clip)])⟩ [],
  .op ⟨none, none, .store 3 (.t 9) (.t 17)⟩ [17]]
def r26_5 : List RI := [.op ⟨some 18, none, .faddr 2 (.t 9)⟩ [],
  .op ⟨some 19, none, .load 1 false (.t 18)⟩ [18],
  .op ⟨some 20, none, .mkfn 41 [] [(.t 5)]⟩ [],
  .op ⟨some 21, none, .call (.f 40) [(.t 19), (.t 20)]⟩ [19, 20],
  .op ⟨some 10, none, .mov (.t 21)⟩ [21]]
def r26_6 : List RI := [.op ⟨some 22, none, .mov (.t 1)⟩ [],
  .op ⟨some 23, none, .faddr 1 (.t 9)⟩ [],
  .op ⟨some 24, none, .load 1 false (.t 23)⟩ [23],
  .op ⟨some 25, none, .bin .lss (.t 22) (.t 24)⟩ [22, 24],
  .op ⟨some 26, none, .mov (.t 25)⟩ [25],
  .grp 26 true [⟨some 27, some (26, true), .mov (.t 10)⟩,
    ⟨some 28, some (26, true), .un .not (.t 27)⟩] [10, 27],
  .op ⟨some 29, none, .pick (.t 26) (.t 28) (.c (.bool false))⟩ [26, 28]]
def r26_7 : List RI := [.op ⟨some 30, none, .mov (.t 7)⟩ [7],
  .op ⟨some 31, none, .load 3 true (.t 9)⟩ [9],
  .op ⟨some 32, none, .lit 3 [(.t 31)]⟩ [31],
  .op ⟨some 33, none, .app [(.int .i64 0), (.int .i64 0), (.lst 1 [] .clip)] 40 (.t 30) (.t 32)⟩ [30, 32],
  .op ⟨some 7, none, .mov (.t 33)⟩ [33]]
def r26_8 : List RI := [.op ⟨some 34, none, .bin .add (.t 14) (.c (.int .i64 1))⟩ [14],
  .op ⟨some 14, none, .mov (.t 34)⟩ [34]]
/- live at the loop's head: [1, 3, 5, 6, 7, 12, 13, 14]; at its end (exits): [(0, [3, 6, 7])]; then [3, 6, 7] -/
def r26_9 : RC := (.post (.seq (.ops r26_3) (.seq (.cond (.t 15) (.pre [.kill [15]] .skip) (.pre [.kill [1, 5, 12, 13, 14, 15]] (.exit 0))) (.seq (.block 1 (.seq (.ops r26_4) (.seq (.ops r26_5) (.seq (.ops r26_6) (.cond (.t 29) (.pre [.kill [29]] (.ops r26_7)) (.pre [.kill [9, 29]] .skip)))))) (.ops r26_8)))) [.gc [109], .tok 7 107])
def r26_10 : List RI := [.op ⟨some 35, none, .mov (.t 7)⟩ [7],
  .op ⟨some 36, none, .faddr 0 (.t 3)⟩ [],
  .op ⟨none, none, .store 1 (.t 36) (.t 35)⟩ [35, 36]]
def r26_11 : List RI := [.op ⟨some 37, none, .load 2 true (.t 3)⟩ [3],
  .op ⟨none, none, .store 2 (.t 6) (.t 37)⟩ [37]]
def r26 : RC := (.seq (.ops r26_0) (.seq (.ops r26_1) (.seq (.seq (.ops r26_2) (.block 0 (.pre [.tok 7 107] (.loop r26_9)))) (.seq (.ops r26_10) (.seq (.ops r26_11) .ret)))))
def F26 : FnC := ⟨r26, 38, [.cell 6 2 true], [], []⟩
theorem r26_ok : ((Try.f26).body).bind (resCode Try.prog) = some r26.er := by kernel_rfl
/- 27 sealwright/sealwrightref36.Sweep · params #[27, 3, 31] · tmps 39 · results .cell 6 27 -/
def r27_0 : List RI := [.op ⟨some 3, none, .box (.t 0)⟩ [0],
  .op ⟨some 6, none, .new (.rc [(.lst 3 [] .clip), (.lst 3 [] .clip)])⟩ []]
def r27_1 : List RI := [.op ⟨some 7, none, .mov (.c (.lst 3 [] .clip))⟩ []]
def r27_2 : List RI := [.op ⟨some 8, none, .mov (.c (.int .i64 0))⟩ []]
def r27_3 : List RI := [.op ⟨some 10, none, .mov (.t 8)⟩ [],
  .op ⟨some 11, none, .faddr 0 (.t 3)⟩ [],
  .op ⟨some 12, none, .load 1 false (.t 11)⟩ [11],
  .op ⟨some 13, none, .len false (.t 12)⟩ [12],
  .op ⟨some 14, none, .bin .lss (.t 10) (.t 13)⟩ [10, 13]]
def r27_4 : List RI := [.op ⟨some 17, none, .faddr 0 (.t 3)⟩ [],
  .op ⟨some 18, none, .load 1 false (.t 17)⟩ [17],
  .op ⟨some 19, none, .mov (.t 8)⟩ [],
  .op ⟨some 20, none, .iaddrL 3 (.t 18) (.t 19)⟩ [18, 19],
  .op ⟨some 21, none, .load 3 true (.t 20)⟩ [20],
  .op ⟨some 9, none, .new (.rc [(.int .i64 0), (.int .i64 0), (.lst 1 [] .clip)])⟩ [],
  .op ⟨none, none, .store 3 (.t 9) (.t 21)⟩ [21]]
def r27_5 : List RI := [.op ⟨some 22, none, .faddr 1 (.t 9)⟩ [],
  .op ⟨some 23, none, .load 1 false (.t 22)⟩ [22],
  .op ⟨some 24, none, .mov (.t 1)⟩ [],
  .op ⟨some 25, none, .bin .gtr (.t 23) (.t 24)⟩ [23, 24],
  .op ⟨some 26, none, .mov (.t 25)⟩ [25],
  .grp 26 true [⟨some 27, some (26, true), .faddr 2 (.t 9)⟩,
    ⟨some 28, some (26, true), .load 1 false (.t 27)⟩,
    ⟨some 29, some (26, true), .mov (.t 2)⟩,
    ⟨some 30, some (26, true), .call (.f 44) [(.t 28), (.t 29)]⟩] [27, 28, 29],
  .op ⟨some 31, none, .pick (.t 26) (.t 30) (.c (.bool false))⟩ [26, 30]]
def r27_6 : List RI := [.op ⟨some 32, none, .mov (.t 7)⟩ [7],
  .op ⟨some 33, none, .load 3 true (.t 9)⟩ [9],
  .op ⟨some 34, none, .lit 3 [(.t 33)]⟩ [33],
  .op ⟨some 35, none, .app [(.int .i64 0), (.int .i64 0), (.lst 1 [] .clip)] 40 (.t 32) (.t 34)⟩ [32, 34],
  .op ⟨some 7, none, .mov (.t 35)⟩ [35]]
def r27_7 : List RI := [.op ⟨some 15, none, .mov (.t 8)⟩ [8],
  .op ⟨some 16, none, .bin .add (.t 15) (.c (.int .i64 1))⟩ [15],
  .op ⟨some 8, none, .mov (.t 16)⟩ [16]]
/- live at the loop's head: [1, 2, 3, 6, 7, 8]; at its end (exits): [(0, [3, 6, 7])]; then [3, 6, 7] -/
def r27_8 : RC := (.post (.seq (.seq (.ops r27_3) (.cond (.t 14) (.pre [.kill [14]] .skip) (.pre [.kill [1, 2, 8, 14]] (.exit 0)))) (.seq (.block 1 (.seq (.ops r27_4) (.seq (.ops r27_5) (.cond (.t 31) (.pre [.kill [31]] (.ops r27_6)) (.pre [.kill [9, 31]] .skip))))) (.ops r27_7))) [.gc [109], .tok 7 107])
def r27_9 : List RI := [.op ⟨some 36, none, .mov (.t 7)⟩ [7],
  .op ⟨some 37, none, .faddr 0 (.t 3)⟩ [],
  .op ⟨none, none, .store 1 (.t 37) (.t 36)⟩ [36, 37]]
def r27_10 : List RI := [.op ⟨some 38, none, .load 2 true (.t 3)⟩ [3],
  .op ⟨none, none, .store 2 (.t 6) (.t 38)⟩ [38]]
def r27 : RC := (.seq (.ops r27_0) (.seq (.ops r27_1) (.seq (.seq (.ops r27_2) (.block 0 (.pre [.tok 7 107] (.loop r27_8)))) (.seq (.ops r27_9) (.seq (.ops r27_10) .ret)))))
def F27 : FnC := ⟨r27, 39, [.cell 6 2 true], [], []⟩
theorem r27_ok : ((Try.f27).body).bind (resCode Try.prog) = some r27.er := by kernel_rfl
/- 28 sealwright/sealwrightref36.Find · params #[27, 3] · tmps 28 · results .cell 4 48, .tmp 5 -/
def r28_0 : List RI := [.op ⟨some 2, none, .box (.t 0)⟩ [0],
  .op ⟨some 4, none, .new (.rc [(.int .i64 0), (.int .i64 0), (.lst 1 [] .clip)])⟩ [],
  .op ⟨some 5, none, .mov (.c (.bool false))⟩ [5]]
def r28_1 : List RI := [.op ⟨some 6, none, .mov (.c (.int .i64 0))⟩ []]
def r28_2 : List RI := [.op ⟨some 7, none, .mov (.t 6)⟩ [],
  .op ⟨some 8, none, .faddr 0 (.t 2)⟩ [],
  .op ⟨some 9, none, .load 1 false (.t 8)⟩ [8],
  .op ⟨some 10, none, .len false (.t 9)⟩ [9],
  .op ⟨some 11, none, .bin .lss (.t 7) (.t 10)⟩ [7, 10]]
def r28_3 : List RI := [.op ⟨some 14, none, .faddr 0 (.t 2)⟩ [],
  .op ⟨some 15, none, .load 1 false (.t 14)⟩ [14],
  .op ⟨some 16, none, .mov (.t 6)⟩ [],
  .op ⟨some 17, none, .iaddrL 3 (.t 15) (.t 16)⟩ [15, 16],
  .op ⟨some 18, none, .faddr 0 (.t 17)⟩ [17],
  .op ⟨some 19, none, .load 1 false (.t 18)⟩ [18],
  .op ⟨some 20, none, .mov (.t 1)⟩ [],
  .op ⟨some 21, none, .bin .eql (.t 19) (.t 20)⟩ [19, 20]]
def r28_4 : List RI := [.op ⟨some 22, none, .faddr 0 (.t 2)⟩ [2],
  .op ⟨some 23, none, .load 1 false (.t 22)⟩ [22],
  .op ⟨some 24, none, .mov (.t 6)⟩ [6],
  .op ⟨some 25, none, .iaddrL 3 (.t 23) (.t 24)⟩ [23, 24],
  .op ⟨some 26, none, .load 3 true (.t 25)⟩ [25],
  .op ⟨none, none, .store 3 (.t 4) (.t 26)⟩ [26],
  .op ⟨some 5, none, .mov (.c (.bool true))⟩ []]
def r28_5 : List RI := [.op ⟨some 12, none, .mov (.t 6)⟩ [6],
  .op ⟨some 13, none, .bin .add (.t 12) (.c (.int .i64 1))⟩ [12],
  .op ⟨some 6, none, .mov (.t 13)⟩ [13]]
/- live at the loop's head: [1, 2, 4, 6]; at its end (exits): [(0, [4])]; then [4] -/
def r28_6 : RC := (.seq (.seq (.ops r28_2) (.cond (.t 11) (.pre [.kill [11]] .skip) (.pre [.kill [1, 2, 6, 11]] (.exit 0)))) (.seq (.block 1 (.seq (.ops r28_3) (.cond (.t 21) (.pre [.kill [1, 21]] (.seq (.ops r28_4) .ret)) (.pre [.kill [21]] .skip)))) (.ops r28_5)))
def r28_7 : List RI := [.op ⟨some 27, none, .build [(.int .i64 0), (.int .i64 0), (.lst 1 [] .clip)] []⟩ [],
  .op ⟨none, none, .store 3 (.t 4) (.t 27)⟩ [27],
  .op ⟨some 5, none, .mov (.c (.bool false))⟩ []]
def r28 : RC := (.seq (.ops r28_0) (.seq (.seq (.ops r28_1) (.block 0 (.loop r28_6))) (.seq (.ops r28_7) .ret)))
def F28 : FnC := ⟨r28, 28, [.cell 4 3 true, .tmp 5], [], []⟩
theorem r28_ok : ((Try.f28).body).bind (resCode Try.prog) = some r28.er := by kernel_rfl
/- 29 sealwright/sealwrightdraw.Seed · params #[22] · tmps 9 · results .tmp 2 -/
def r29_0 : List RI := [.op ⟨some 2, none, .mov (.c (.byt [] .clip))⟩ [2]]
def r29_1 : List RI := [.op ⟨some 4, none, .mkB (.c (.int .i64 32)) (.c (.int .i64 32))⟩ [],
  .op ⟨some 3, none, .mov (.t 4)⟩ [4]]
def r29_2 : List RI := [.op ⟨some 5, none, .mov (.t 3)⟩ [],
  .op ⟨some 6, none, .mov (.t 0)⟩ [0],
  .op ⟨some 7, none, .cpy 1 (.t 5) (.t 6)⟩ [5, 6, 7]]
def r29_3 : List RI := [.op ⟨some 8, none, .mov (.t 3)⟩ [3],
  .op ⟨some 2, none, .mov (.t 8)⟩ [8]]
def r29 : RC := (.seq (.ops r29_0) (.seq (.ops r29_1) (.seq (.ops r29_2) (.seq (.ops r29_3) .ret))))
def F29 : FnC := ⟨r29, 9, [.tmp 2], [], []⟩
theorem r29_ok : ((Try.f29).body).bind (resCode Try.prog) = some r29.er := by kernel_rfl
/- 30 sealwright/leases.known · params #[3] · tmps 9 · results .tmp 2 -/
def r30_0 : List RI := [.op ⟨some 2, none, .mov (.c (.bool false))⟩ [2]]
def r30_1 : List RI := [.op ⟨some 3, none, .mov (.t 0)⟩ [],
  .op ⟨some 4, none, .bin .geq (.t 3) (.c (.int .i64 1))⟩ [3],
  .op ⟨some 5, none, .mov (.t 4)⟩ [4],
  .grp 5 true [⟨some 6, some (5, true), .mov (.t 0)⟩,
    ⟨some 7, some (5, true), .bin .leq (.t 6) (.c (.int .i64 4))⟩] [0, 6],
  .op ⟨some 8, none, .pick (.t 5) (.t 7) (.c (.bool false))⟩ [5, 7],
  .op ⟨some 2, none, .mov (.t 8)⟩ [8]]
def r30 : RC := (.seq (.ops r30_0) (.seq (.ops r30_1) .ret))
def F30 : FnC := ⟨r30, 9, [.tmp 2], [], []⟩
theorem r30_ok : ((Try.f30).body).bind (resCode Try.prog) = some r30.er := by kernel_rfl
/- 31 sealwright/leases.findLease · params #[27, 3] · tmps 12 · results .tmp 4, .tmp 5 -/
def r31_0 : List RI := [.op ⟨some 2, none, .box (.t 0)⟩ [0],
  .op ⟨some 4, none, .mov (.c (.int .i64 0))⟩ [4],
  .op ⟨some 5, none, .mov (.c (.bool false))⟩ [5]]
def r31_1 : List RI := [.op ⟨some 6, none, .faddr 0 (.t 2)⟩ [2],
  .op ⟨some 7, none, .load 1 false (.t 6)⟩ [6],
  .op ⟨some 8, none, .mov (.t 1)⟩ [1],
  .op ⟨some 9, none, .call (.f 45) [(.t 7), (.t 8), (.f 46)]⟩ [7, 8],
  .op ⟨some 10, none, .ext (.t 9) 0⟩ [],
  .op ⟨some 11, none, .ext (.t 9) 1⟩ [9],
  .op ⟨some 4, none, .mov (.t 10)⟩ [10],
  .op ⟨some 5, none, .mov (.t 11)⟩ [11]]
def r31 : RC := (.seq (.ops r31_0) (.seq (.ops r31_1) .ret))
def F31 : FnC := ⟨r31, 12, [.tmp 4, .tmp 5], [], []⟩
theorem r31_ok : ((Try.f31).body).bind (resCode Try.prog) = some r31.er := by kernel_rfl
/- 32 slices.Clone[[]sealwright/api.Lease,sealwright/api.Lease] · params #[24] · tmps 8 · results .tmp 2 -/
def r32_0 : List RI := [.op ⟨some 2, none, .mov (.c (.lst 3 [] .clip))⟩ [2]]
def r32_1 : List RI := [.op ⟨some 3, none, .mov (.t 0)⟩ [],
  .op ⟨some 4, none, .isnil false (.t 3)⟩ [3]]
def r32_2 : List RI := [.op ⟨some 2, none, .mov (.c (.lst 3 [] .clip))⟩ []]
def r32_3 : List RI := [.op ⟨some 5, none, .lit 3 []⟩ [],
  .op ⟨some 6, none, .mov (.t 0)⟩ [0],
  .op ⟨some 7, none, .app [(.int .i64 0), (.int .i64 0), (.lst 1 [] .clip)] 40 (.t 5) (.t 6)⟩ [5, 6],
  .op ⟨some 2, none, .mov (.t 7)⟩ [7]]
def r32 : RC := (.seq (.ops r32_0) (.seq (.seq (.ops r32_1) (.cond (.t 4) (.pre [.kill [0, 4]] (.seq (.ops r32_2) .ret)) (.pre [.kill [4]] .skip))) (.seq (.ops r32_3) .ret)))
def F32 : FnC := ⟨r32, 8, [.tmp 2], [], []⟩
theorem r32_ok : ((Try.f32).body).bind (resCode Try.prog) = some r32.er := by kernel_rfl
/- 33 slices.Insert[[]sealwright/api.Lease,sealwright/api.Lease] · params #[24, 3, 24] · tmps 95 · results .tmp 6 -/
def r33_0 : List RI := [.op ⟨some 6, none, .mov (.c (.lst 3 [] .clip))⟩ [6]]
def r33_1 : List RI := [.op ⟨some 10, none, .mov (.t 0)⟩ [],
  .op ⟨some 11, none, .mov (.t 1)⟩ [],
  .op ⟨some 12, none, .slcL 3 (.t 10) (some (.t 11)) none none⟩ [10, 11, 12]]
def r33_2 : List RI := [.op ⟨some 13, none, .mov (.t 2)⟩ [],
  .op ⟨some 14, none, .len false (.t 13)⟩ [13],
  .op ⟨some 7, none, .mov (.t 14)⟩ [14]]
def r33_3 : List RI := [.op ⟨some 15, none, .mov (.t 7)⟩ [],
  .op ⟨some 16, none, .bin .eql (.t 15) (.c (.int .i64 0))⟩ [15]]
def r33_4 : List RI := [.op ⟨some 17, none, .mov (.t 0)⟩ [0],
  .op ⟨some 6, none, .mov (.t 17)⟩ [17]]
def r33_5 : List RI := [.op ⟨some 18, none, .mov (.t 0)⟩ [],
  .op ⟨some 19, none, .len false (.t 18)⟩ [18],
  .op ⟨some 8, none, .mov (.t 19)⟩ [19]]
def r33_6 : List RI := [.op ⟨some 20, none, .mov (.t 1)⟩ [],
  .op ⟨some 21, none, .mov (.t 8)⟩ [],
  .op ⟨some 22, none, .bin .eql (.t 20) (.t 21)⟩ [20, 21]]
def r33_7 : List RI := [.op ⟨some 23, none, .mov (.t 0)⟩ [0],
  .op ⟨some 24, none, .mov (.t 2)⟩ [2],
  .op ⟨some 25, none, .app [(.int .i64 0), (.int .i64 0), (.lst 1 [] .clip)] 40 (.t 23) (.t 24)⟩ [23, 24],
  .op ⟨some 6, none, .mov (.t 25)⟩ [25]]
def r33_8 : List RI := [.op ⟨some 26, none, .mov (.t 8)⟩ [],
  .op ⟨some 27, none, .mov (.t 7)⟩ [],
  .op ⟨some 28, none, .bin .add (.t 26) (.t 27)⟩ [26, 27],
  .op ⟨some 29, none, .mov (.t 0)⟩ [],
  .op ⟨some 30, none, .cap (.t 29)⟩ [29],
  .op ⟨some 31, none, .bin .gtr (.t 28) (.t 30)⟩ [28, 30]]
def r33_9 : List RI := [.op ⟨some 32, none, .mov (.t 0)⟩ [],
  .op ⟨some 33, none, .mov (.t 1)⟩ [],
  .op ⟨some 34, none, .slcL 3 (.t 32) none (some (.t 33)) none⟩ [32, 33],
  .op ⟨some 35, none, .mov (.t 8)⟩ [8],
  .op ⟨some 36, none, .mov (.t 7)⟩ [],
  .op ⟨some 37, none, .bin .add (.t 35) (.t 36)⟩ [35, 36],
  .op ⟨some 38, none, .mov (.t 1)⟩ [],
  .op ⟨some 39, none, .bin .sub (.t 37) (.t 38)⟩ [37, 38],
  .op ⟨some 40, none, .appM [(.int .i64 0), (.int .i64 0), (.lst 1 [] .clip)] 40 (.t 34) (.t 39)⟩ [34, 39],
  .op ⟨some 9, none, .mov (.t 40)⟩ [40]]
def r33_10 : List RI := [.op ⟨some 41, none, .mov (.t 9)⟩ [],
  .op ⟨some 42, none, .mov (.t 1)⟩ [],
  .op ⟨some 43, none, .slcL 3 (.t 41) (some (.t 42)) none none⟩ [41, 42],
  .op ⟨some 44, none, .mov (.t 2)⟩ [2],
  .op ⟨some 45, none, .cpy 3 (.t 43) (.t 44)⟩ [43, 44, 45]]
def r33_11 : List FI := [⟨0, true, ⟨some 46, none, .mov (.t 9)⟩⟩,
  ⟨1, true, ⟨some 47, none, .mov (.t 1)⟩⟩,
  ⟨2, true, ⟨some 48, none, .mov (.t 7)⟩⟩,
  ⟨3, true, ⟨some 49, none, .bin .add (.t 47) (.t 48)⟩⟩,
  ⟨4, true, ⟨some 50, none, .slcL 3 (.t 46) (some (.t 49)) none none⟩⟩,
  ⟨5, true, ⟨some 51, none, .mov (.t 0)⟩⟩,
  ⟨6, true, ⟨some 52, none, .mov (.t 1)⟩⟩,
  ⟨7, true, ⟨some 53, none, .slcL 3 (.t 51) (some (.t 52)) none none⟩⟩,
  ⟨8, false, ⟨some 54, none, .cpy 3 (.t 50) (.t 53)⟩⟩]
def r33_12 : List RI := [.op ⟨some 55, none, .mov (.t 9)⟩ [9],
  .op ⟨some 6, none, .mov (.t 55)⟩ [55]]
def r33_13 : List RI := [.op ⟨some 56, none, .mov (.t 0)⟩ [0],
  .op ⟨some 57, none, .mov (.t 8)⟩ [],
  .op ⟨some 58, none, .mov (.t 7)⟩ [],
  .op ⟨some 59, none, .bin .add (.t 57) (.t 58)⟩ [57, 58],
  .op ⟨some 60, none, .slcL 3 (.t 56) none (some (.t 59)) none⟩ [56, 59],
  .op ⟨some 0, none, .mov (.t 60)⟩ [60]]
def r33_14 : List RI := [.op ⟨some 61, none, .mov (.t 2)⟩ [],
  .op ⟨some 62, none, .mov (.t 0)⟩ [],
  .op ⟨some 63, none, .mov (.t 1)⟩ [],
  .op ⟨some 64, none, .mov (.t 7)⟩ [],
  .op ⟨some 65, none, .bin .add (.t 63) (.t 64)⟩ [63, 64],
  .op ⟨some 66, none, .slcL 3 (.t 62) (some (.t 65)) none none⟩ [62, 65],
  .op ⟨some 67, none, .ovl (.t 61) (.t 66)⟩ [61, 66],
  .op ⟨some 68, none, .un .not (.t 67)⟩ [67]]
def r33_15 : List FI := [⟨0, true, ⟨some 69, none, .mov (.t 0)⟩⟩,
  ⟨1, true, ⟨some 70, none, .mov (.t 1)⟩⟩,
  ⟨2, true, ⟨some 71, none, .mov (.t 7)⟩⟩,
  ⟨3, true, ⟨some 72, none, .bin .add (.t 70) (.t 71)⟩⟩,
  ⟨4, true, ⟨some 73, none, .slcL 3 (.t 69) (some (.t 72)) none none⟩⟩,
  ⟨5, true, ⟨some 74, none, .mov (.t 0)⟩⟩,
  ⟨6, true, ⟨some 75, none, .mov (.t 1)⟩⟩,
  ⟨7, true, ⟨some 76, none, .slcL 3 (.t 74) (some (.t 75)) none none⟩⟩,
  ⟨8, false, ⟨some 77, none, .cpy 3 (.t 73) (.t 76)⟩⟩]
def r33_16 : List RI := [.op ⟨some 78, none, .mov (.t 0)⟩ [],
  .op ⟨some 79, none, .mov (.t 1)⟩ [1],
  .op ⟨some 80, none, .slcL 3 (.t 78) (some (.t 79)) none none⟩ [78, 79],
  .op ⟨some 81, none, .mov (.t 2)⟩ [2],
  .op ⟨some 82, none, .cpy 3 (.t 80) (.t 81)⟩ [80, 81, 82]]
def r33_17 : List RI := [.op ⟨some 83, none, .mov (.t 0)⟩ [0],
  .op ⟨some 6, none, .mov (.t 83)⟩ [83]]
def r33_18 : List RI := [.op ⟨some 84, none, .mov (.t 0)⟩ [],
  .op ⟨some 85, none, .mov (.t 8)⟩ [8],
  .op ⟨some 86, none, .slcL 3 (.t 84) (some (.t 85)) none none⟩ [84, 85],
  .op ⟨some 87, none, .mov (.t 2)⟩ [2],
  .op ⟨some 88, none, .cpy 3 (.t 86) (.t 87)⟩ [86, 87, 88]]
def r33_19 : List RI := [.op ⟨some 89, none, .mov (.t 0)⟩ [],
  .op ⟨some 90, none, .mov (.t 1)⟩ [1],
  .op ⟨some 91, none, .slcL 3 (.t 89) (some (.t 90)) none none⟩ [89, 90],
  .op ⟨some 92, none, .mov (.t 7)⟩ [7],
  .op ⟨some 93, none, .call (.f 49) [(.t 91), (.t 92)]⟩ [91, 92, 93]]
def r33_20 : List RI := [.op ⟨some 94, none, .mov (.t 0)⟩ [0],
  .op ⟨some 6, none, .mov (.t 94)⟩ [94]]
def r33 : RC := (.seq (.ops r33_0) (.seq (.ops r33_1) (.seq (.ops r33_2) (.seq (.seq (.ops r33_3) (.cond (.t 16) (.pre [.kill [1, 2, 7, 16]] (.seq (.ops r33_4) .ret)) (.pre [.kill [16]] .skip))) (.seq (.ops r33_5) (.seq (.seq (.ops r33_6) (.cond (.t 22) (.pre [.kill [1, 7, 8, 22]] (.seq (.ops r33_7) .ret)) (.pre [.kill [22]] .skip))) (.seq (.seq (.ops r33_8) (.cond (.t 31) (.pre [.kill [31]] (.seq (.ops r33_9) (.seq (.ops r33_10) (.seq (.flt [0, 0, 0, 6, 15, 0, 0, 96, 255] [] r33_11 [0, 1, 7, 46, 47, 48, 49, 50, 51, 52, 53, 54]) (.seq (.ops r33_12) .ret))))) (.pre [.kill [31]] .skip))) (.seq (.ops r33_13) (.seq (.seq (.ops r33_14) (.cond (.t 68) (.pre [.kill [8, 68]] (.seq (.flt [0, 0, 0, 6, 15, 0, 0, 96, 255] [] r33_15 [7, 69, 70, 71, 72, 73, 74, 75, 76, 77]) (.seq (.ops r33_16) (.seq (.ops r33_17) .ret)))) (.pre [.kill [68]] .skip))) (.seq (.ops r33_18) (.seq (.ops r33_19) (.seq (.ops r33_20) .ret))))))))))))
def F33 : FnC := ⟨r33, 95, [.tmp 6], [], []⟩
theorem r33_ok : ((Try.f33).body).bind (resCode Try.prog) = some r33.er := by kernel_rfl
/- 34 sealwright/sealwrightref1.Lists · params #[31, 31] · tmps 27 · results .tmp 4 -/
def r34_0 : List RI := [.op ⟨some 4, none, .mov (.c (.bool false))⟩ [4]]
def r34_1 : List RI := [.op ⟨some 6, none, .mov (.t 0)⟩ [],
  .op ⟨some 7, none, .len false (.t 6)⟩ [6],
  .op ⟨some 8, none, .mov (.t 1)⟩ [],
  .op ⟨some 9, none, .len false (.t 8)⟩ [8],
  .op ⟨some 10, none, .bin .neq (.t 7) (.t 9)⟩ [7, 9]]
def r34_2 : List RI := [.op ⟨some 4, none, .mov (.c (.bool false))⟩ []]
def r34_3 : List RI := [.op ⟨some 5, none, .mov (.c (.int .i64 0))⟩ []]
def r34_4 : List RI := [.op ⟨some 11, none, .mov (.t 5)⟩ [],
  .op ⟨some 12, none, .mov (.t 0)⟩ [],
  .op ⟨some 13, none, .len false (.t 12)⟩ [12],
  .op ⟨some 14, none, .bin .lss (.t 11) (.t 13)⟩ [11, 13]]
def r34_5 : List FI := [⟨0, true, ⟨some 17, none, .mov (.t 0)⟩⟩,
  ⟨1, true, ⟨some 18, none, .mov (.t 5)⟩⟩,
  ⟨2, true, ⟨some 19, none, .iaddrL 1 (.t 17) (.t 18)⟩⟩,
  ⟨3, true, ⟨some 20, none, .load 1 false (.t 19)⟩⟩,
  ⟨4, true, ⟨some 21, none, .mov (.t 1)⟩⟩,
  ⟨5, true, ⟨some 22, none, .mov (.t 5)⟩⟩,
  ⟨6, true, ⟨some 23, none, .iaddrL 1 (.t 21) (.t 22)⟩⟩,
  ⟨7, true, ⟨some 24, none, .load 1 false (.t 23)⟩⟩,
  ⟨8, false, ⟨some 25, none, .call (.f 50) [(.t 20), (.t 24)]⟩⟩,
  ⟨9, true, ⟨some 26, none, .un .not (.t 25)⟩⟩]
def r34_6 : List RI := [.op ⟨some 4, none, .mov (.c (.bool false))⟩ []]
def r34_7 : List RI := [.op ⟨some 15, none, .mov (.t 5)⟩ [5],
  .op ⟨some 16, none, .bin .add (.t 15) (.c (.int .i64 1))⟩ [15],
  .op ⟨some 5, none, .mov (.t 16)⟩ [16]]
/- live at the loop's head: [0, 1, 5]; at its end (exits): [(0, [])]; then [] -/
def r34_8 : RC := (.seq (.seq (.ops r34_4) (.cond (.t 14) (.pre [.kill [14]] .skip) (.pre [.kill [0, 1, 5, 14]] (.exit 0)))) (.seq (.block 1 (.seq (.flt [0, 0, 3, 7, 0, 0, 48, 112, 255, 511] [] r34_5 [17, 18, 19, 20, 21, 22, 23, 24, 25]) (.cond (.t 26) (.pre [.kill [0, 1, 5, 26]] (.seq (.ops r34_6) .ret)) (.pre [.kill [26]] .skip)))) (.ops r34_7)))
def r34_9 : List RI := [.op ⟨some 4, none, .mov (.c (.bool true))⟩ []]
def r34 : RC := (.seq (.ops r34_0) (.seq (.seq (.ops r34_1) (.cond (.t 10) (.pre [.kill [0, 1, 10]] (.seq (.ops r34_2) .ret)) (.pre [.kill [10]] .skip))) (.seq (.seq (.ops r34_3) (.block 0 (.loop r34_8))) (.seq (.ops r34_9) .ret))))
def F34 : FnC := ⟨r34, 27, [.tmp 4], [], []⟩
theorem r34_ok : ((Try.f34).body).bind (resCode Try.prog) = some r34.er := by kernel_rfl
/- 35 sealwright/leases.findHold · params #[27, 3] · tmps 12 · results .tmp 4, .tmp 5 -/
def r35_0 : List RI := [.op ⟨some 2, none, .box (.t 0)⟩ [0],
  .op ⟨some 4, none, .mov (.c (.int .i64 0))⟩ [4],
  .op ⟨some 5, none, .mov (.c (.bool false))⟩ [5]]
def r35_1 : List RI := [.op ⟨some 6, none, .faddr 1 (.t 2)⟩ [2],
  .op ⟨some 7, none, .load 1 false (.t 6)⟩ [6],
  .op ⟨some 8, none, .mov (.t 1)⟩ [1],
  .op ⟨some 9, none, .call (.f 51) [(.t 7), (.t 8), (.f 52)]⟩ [7, 8],
  .op ⟨some 10, none, .ext (.t 9) 0⟩ [],
  .op ⟨some 11, none, .ext (.t 9) 1⟩ [9],
  .op ⟨some 4, none, .mov (.t 10)⟩ [10],
  .op ⟨some 5, none, .mov (.t 11)⟩ [11]]
def r35 : RC := (.seq (.ops r35_0) (.seq (.ops r35_1) .ret))
def F35 : FnC := ⟨r35, 12, [.tmp 4, .tmp 5], [], []⟩
theorem r35_ok : ((Try.f35).body).bind (resCode Try.prog) = some r35.er := by kernel_rfl
/- 36 slices.Insert[[]sealwright/api.Hold,sealwright/api.Hold] · params #[25, 3, 25] · tmps 95 · results .tmp 6 -/
def r36_0 : List RI := [.op ⟨some 6, none, .mov (.c (.lst 3 [] .clip))⟩ [6]]
def r36_1 : List RI := [.op ⟨some 10, none, .mov (.t 0)⟩ [],
  .op ⟨some 11, none, .mov (.t 1)⟩ [],
  .op ⟨some 12, none, .slcL 3 (.t 10) (some (.t 11)) none none⟩ [10, 11, 12]]
def r36_2 : List RI := [.op ⟨some 13, none, .mov (.t 2)⟩ [],
  .op ⟨some 14, none, .len false (.t 13)⟩ [13],
  .op ⟨some 7, none, .mov (.t 14)⟩ [14]]
def r36_3 : List RI := [.op ⟨some 15, none, .mov (.t 7)⟩ [],
  .op ⟨some 16, none, .bin .eql (.t 15) (.c (.int .i64 0))⟩ [15]]
def r36_4 : List RI := [.op ⟨some 17, none, .mov (.t 0)⟩ [0],
  .op ⟨some 6, none, .mov (.t 17)⟩ [17]]
def r36_5 : List RI := [.op ⟨some 18, none, .mov (.t 0)⟩ [],
  .op ⟨some 19, none, .len false (.t 18)⟩ [18],
  .op ⟨some 8, none, .mov (.t 19)⟩ [19]]
def r36_6 : List RI := [.op ⟨some 20, none, .mov (.t 1)⟩ [],
  .op ⟨some 21, none, .mov (.t 8)⟩ [],
  .op ⟨some 22, none, .bin .eql (.t 20) (.t 21)⟩ [20, 21]]
def r36_7 : List RI := [.op ⟨some 23, none, .mov (.t 0)⟩ [0],
  .op ⟨some 24, none, .mov (.t 2)⟩ [2],
  .op ⟨some 25, none, .app [(.int .i64 0), (.int .i64 0), (.int .i64 0)] 24 (.t 23) (.t 24)⟩ [23, 24],
  .op ⟨some 6, none, .mov (.t 25)⟩ [25]]
def r36_8 : List RI := [.op ⟨some 26, none, .mov (.t 8)⟩ [],
  .op ⟨some 27, none, .mov (.t 7)⟩ [],
  .op ⟨some 28, none, .bin .add (.t 26) (.t 27)⟩ [26, 27],
  .op ⟨some 29, none, .mov (.t 0)⟩ [],
  .op ⟨some 30, none, .cap (.t 29)⟩ [29],
  .op ⟨some 31, none, .bin .gtr (.t 28) (.t 30)⟩ [28, 30]]
def r36_9 : List RI := [.op ⟨some 32, none, .mov (.t 0)⟩ [],
  .op ⟨some 33, none, .mov (.t 1)⟩ [],
  .op ⟨some 34, none, .slcL 3 (.t 32) none (some (.t 33)) none⟩ [32, 33],
  .op ⟨some 35, none, .mov (.t 8)⟩ [8],
  .op ⟨some 36, none, .mov (.t 7)⟩ [],
  .op ⟨some 37, none, .bin .add (.t 35) (.t 36)⟩ [35, 36],
  .op ⟨some 38, none, .mov (.t 1)⟩ [],
  .op ⟨some 39, none, .bin .sub (.t 37) (.t 38)⟩ [37, 38],
  .op ⟨some 40, none, .appM [(.int .i64 0), (.int .i64 0), (.int .i64 0)] 24 (.t 34) (.t 39)⟩ [34, 39],
  .op ⟨some 9, none, .mov (.t 40)⟩ [40]]
def r36_10 : List RI := [.op ⟨some 41, none, .mov (.t 9)⟩ [],
  .op ⟨some 42, none, .mov (.t 1)⟩ [],
  .op ⟨some 43, none, .slcL 3 (.t 41) (some (.t 42)) none none⟩ [41, 42],
  .op ⟨some 44, none, .mov (.t 2)⟩ [2],
  .op ⟨some 45, none, .cpy 3 (.t 43) (.t 44)⟩ [43, 44, 45]]
def r36_11 : List FI := [⟨0, true, ⟨some 46, none, .mov (.t 9)⟩⟩,
  ⟨1, true, ⟨some 47, none, .mov (.t 1)⟩⟩,
  ⟨2, true, ⟨some 48, none, .mov (.t 7)⟩⟩,
  ⟨3, true, ⟨some 49, none, .bin .add (.t 47) (.t 48)⟩⟩,
  ⟨4, true, ⟨some 50, none, .slcL 3 (.t 46) (some (.t 49)) none none⟩⟩,
  ⟨5, true, ⟨some 51, none, .mov (.t 0)⟩⟩,
  ⟨6, true, ⟨some 52, none, .mov (.t 1)⟩⟩,
  ⟨7, true, ⟨some 53, none, .slcL 3 (.t 51) (some (.t 52)) none none⟩⟩,
  ⟨8, false, ⟨some 54, none, .cpy 3 (.t 50) (.t 53)⟩⟩]
def r36_12 : List RI := [.op ⟨some 55, none, .mov (.t 9)⟩ [9],
  .op ⟨some 6, none, .mov (.t 55)⟩ [55]]
def r36_13 : List RI := [.op ⟨some 56, none, .mov (.t 0)⟩ [0],
  .op ⟨some 57, none, .mov (.t 8)⟩ [],
  .op ⟨some 58, none, .mov (.t 7)⟩ [],
  .op ⟨some 59, none, .bin .add (.t 57) (.t 58)⟩ [57, 58],
  .op ⟨some 60, none, .slcL 3 (.t 56) none (some (.t 59)) none⟩ [56, 59],
  .op ⟨some 0, none, .mov (.t 60)⟩ [60]]
def r36_14 : List RI := [.op ⟨some 61, none, .mov (.t 2)⟩ [],
  .op ⟨some 62, none, .mov (.t 0)⟩ [],
  .op ⟨some 63, none, .mov (.t 1)⟩ [],
  .op ⟨some 64, none, .mov (.t 7)⟩ [],
  .op ⟨some 65, none, .bin .add (.t 63) (.t 64)⟩ [63, 64],
  .op ⟨some 66, none, .slcL 3 (.t 62) (some (.t 65)) none none⟩ [62, 65],
  .op ⟨some 67, none, .ovl (.t 61) (.t 66)⟩ [61, 66],
  .op ⟨some 68, none, .un .not (.t 67)⟩ [67]]
def r36_15 : List FI := [⟨0, true, ⟨some 69, none, .mov (.t 0)⟩⟩,
  ⟨1, true, ⟨some 70, none, .mov (.t 1)⟩⟩,
  ⟨2, true, ⟨some 71, none, .mov (.t 7)⟩⟩,
  ⟨3, true, ⟨some 72, none, .bin .add (.t 70) (.t 71)⟩⟩,
  ⟨4, true, ⟨some 73, none, .slcL 3 (.t 69) (some (.t 72)) none none⟩⟩,
  ⟨5, true, ⟨some 74, none, .mov (.t 0)⟩⟩,
  ⟨6, true, ⟨some 75, none, .mov (.t 1)⟩⟩,
  ⟨7, true, ⟨some 76, none, .slcL 3 (.t 74) (some (.t 75)) none none⟩⟩,
  ⟨8, false, ⟨some 77, none, .cpy 3 (.t 73) (.t 76)⟩⟩]
def r36_16 : List RI := [.op ⟨some 78, none, .mov (.t 0)⟩ [],
  .op ⟨some 79, none, .mov (.t 1)⟩ [1],
  .op ⟨some 80, none, .slcL 3 (.t 78) (some (.t 79)) none none⟩ [78, 79],
  .op ⟨some 81, none, .mov (.t 2)⟩ [2],
  .op ⟨some 82, none, .cpy 3 (.t 80) (.t 81)⟩ [80, 81, 82]]
def r36_17 : List RI := [.op ⟨some 83, none, .mov (.t 0)⟩ [0],
  .op ⟨some 6, none, .mov (.t 83)⟩ [83]]
def r36_18 : List RI := [.op ⟨some 84, none, .mov (.t 0)⟩ [],
  .op ⟨some 85, none, .mov (.t 8)⟩ [8],
  .op ⟨some 86, none, .slcL 3 (.t 84) (some (.t 85)) none none⟩ [84, 85],
  .op ⟨some 87, none, .mov (.t 2)⟩ [2],
  .op ⟨some 88, none, .cpy 3 (.t 86) (.t 87)⟩ [86, 87, 88]]
def r36_19 : List RI := [.op ⟨some 89, none, .mov (.t 0)⟩ [],
  .op ⟨some 90, none, .mov (.t 1)⟩ [1],
  .op ⟨some 91, none, .slcL 3 (.t 89) (some (.t 90)) none none⟩ [89, 90],
  .op ⟨some 92, none, .mov (.t 7)⟩ [7],
  .op ⟨some 93, none, .call (.f 54) [(.t 91), (.t 92)]⟩ [91, 92, 93]]
def r36_20 : List RI := [.op ⟨some 94, none, .mov (.t 0)⟩ [0],
  .op ⟨some 6, none, .mov (.t 94)⟩ [94]]
def r36 : RC := (.seq (.ops r36_0) (.seq (.ops r36_1) (.seq (.ops r36_2) (.seq (.seq (.ops r36_3) (.cond (.t 16) (.pre [.kill [1, 2, 7, 16]] (.seq (.ops r36_4) .ret)) (.pre [.kill [16]] .skip))) (.seq (.ops r36_5) (.seq (.seq (.ops r36_6) (.cond (.t 22) (.pre [.kill [1, 7, 8, 22]] (.seq (.ops r36_7) .ret)) (.pre [.kill [22]] .skip))) (.seq (.seq (.ops r36_8) (.cond (.t 31) (.pre [.kill [31]] (.seq (.ops r36_9) (.seq (.ops r36_10) (.seq (.flt [0, 0, 0, 6, 15, 0, 0, 96, 255] [] r36_11 [0, 1, 7, 46, 47, 48, 49, 50, 51, 52, 53, 54]) (.seq (.ops r36_12) .ret))))) (.pre [.kill [31]] .skip))) (.seq (.ops r36_13) (.seq (.seq (.ops r36_14) (.cond (.t 68) (.pre [.kill [8, 68]] (.seq (.flt [0, 0, 0, 6, 15, 0, 0, 96, 255] [] r36_15 [7, 69, 70, 71, 72, 73, 74, 75, 76, 77]) (.seq (.ops r36_16) (.seq (.ops r36_17) .ret)))) (.pre [.kill [68]] .skip))) (.seq (.ops r36_18) (.seq (.ops r36_19) (.seq (.ops r36_20) .ret))))))))))))
def F36 : FnC := ⟨r36, 95, [.tmp 6], [], []⟩
theorem r36_ok : ((Try.f36).body).bind (resCode Try.prog) = some r36.er := by kernel_rfl
/- 37 slices.Clone[[]sealwright/api.Hold,sealwright/api.Hold] · params #[25] · tmps 8 · results .tmp 2 -/
def r37_0 : List RI := [.op ⟨some 2, none, .mov (.c (.lst 3 [] .clip))⟩ [2]]
def r37_1 : List RI := [.op ⟨some 3, none, .mov (.t 0)⟩ [],
  .op ⟨some 4, none, .isnil false (.t 3)⟩ [3]]
def r37_2 : List RI := [.op ⟨some 2, none, .mov (.c (.lst 3 [] .clip))⟩ []]
def r37_3 : List RI := [.op ⟨some 5, none, .lit 3 []⟩ [],
  .op ⟨some 6, none, .mov (.t 0)⟩ [0],
  .op ⟨some 7, none, .app [(.int .i64 0), (.int .i64 0), (.int .i64 0)] 24 (.t 5) (.t 6)⟩ [5, 6],
  .op ⟨some 2, none, .mov (.t 7)⟩ [7]]
def r37 : RC := (.seq (.ops r37_0) (.seq (.seq (.ops r37_1) (.cond (.t 4) (.pre [.kill [0, 4]] (.seq (.ops r37_2) .ret)) (.pre [.kill [4]] .skip))) (.seq (.ops r37_3) .ret)))
def F37 : FnC := ⟨r37, 8, [.tmp 2], [], []⟩
theorem r37_ok : ((Try.f37).body).bind (resCode Try.prog) = some r37.er := by kernel_rfl
/- 38 sealwright/leases.without · params #[24, 3] · tmps 14 · results .tmp 4 -/
def r38_0 : List RI := [.op ⟨some 4, none, .mov (.c (.lst 3 [] .clip))⟩ [4]]
def r38_1 : List FI := [⟨0, true, ⟨some 5, none, .mov (.t 0)⟩⟩,
  ⟨1, true, ⟨some 6, none, .mov (.t 1)⟩⟩,
  ⟨2, true, ⟨some 7, none, .mov (.t 1)⟩⟩,
  ⟨3, true, ⟨some 8, none, .slcL 3 (.t 5) none (some (.t 6)) (some (.t 7))⟩⟩,
  ⟨4, true, ⟨some 9, none, .mov (.t 0)⟩⟩,
  ⟨5, true, ⟨some 10, none, .mov (.t 1)⟩⟩,
  ⟨6, true, ⟨some 11, none, .bin .add (.t 10) (.c (.int .i64 1))⟩⟩,
  ⟨7, true, ⟨some 12, none, .slcL 3 (.t 9) (some (.t 11)) none none⟩⟩,
  ⟨8, false, ⟨some 13, none, .app [(.int .i64 0), (.int .i64 0), (.lst 1 [] .clip)] 40 (.t 8) (.t 12)⟩⟩,
  ⟨9, true, ⟨some 4, none, .mov (.t 13)⟩⟩]
def r38 : RC := (.seq (.ops r38_0) (.seq (.flt [0, 0, 0, 7, 0, 0, 32, 112, 255, 511] [113] r38_1 [0, 1, 5, 6, 7, 8, 9, 10, 11, 12, 13]) .ret))
def F38 : FnC := ⟨r38, 14, [.tmp 4], [], []⟩
theorem r38_ok : ((Try.f38).body).bind (resCode Try.prog) = some r38.er := by kernel_rfl
/- 39 sealwright/sealwrightref36.without · params #[24, 3] · tmps 28 · results .tmp 4 -/
def r39_0 : List RI := [.op ⟨some 4, none, .mov (.c (.lst 3 [] .clip))⟩ [4]]
def r39_1 : List RI := [.op ⟨some 5, none, .mov (.c (.lst 3 [] .clip))⟩ []]
def r39_2 : List RI := [.op ⟨some 6, none, .mov (.c (.int .i64 0))⟩ []]
def r39_3 : List RI := [.op ⟨some 7, none, .mov (.t 6)⟩ [],
  .op ⟨some 8, none, .mov (.t 0)⟩ [],
  .op ⟨some 9, none, .len false (.t 8)⟩ [8],
  .op ⟨some 10, none, .bin .lss (.t 7) (.t 9)⟩ [7, 9]]
def r39_4 : List RI := [.op ⟨some 13, none, .mov (.t 0)⟩ [],
  .op ⟨some 14, none, .mov (.t 6)⟩ [],
  .op ⟨some 15, none, .iaddrL 3 (.t 13) (.t 14)⟩ [13, 14],
  .op ⟨some 16, none, .faddr 0 (.t 15)⟩ [15],
  .op ⟨some 17, none, .load 1 false (.t 16)⟩ [16],
  .op ⟨some 18, none, .mov (.t 1)⟩ [],
  .op ⟨some 19, none, .bin .neq (.t 17) (.t 18)⟩ [17, 18]]
def r39_5 : List RI := [.op ⟨some 20, none, .mov (.t 5)⟩ [5],
  .op ⟨some 21, none, .mov (.t 0)⟩ [],
  .op ⟨some 22, none, .mov (.t 6)⟩ [],
  .op ⟨some 23, none, .iaddrL 3 (.t 21) (.t 22)⟩ [21, 22],
  .op ⟨some 24, none, .load 3 true (.t 23)⟩ [23],
  .op ⟨some 25, none, .lit 3 [(.t 24)]⟩ [24],
  .op ⟨some 26, none, .app [(.int .i64 0), (.int .i64 0), (.lst 1 [] .clip)] 40 (.t 20) (.t 25)⟩ [20, 25],
  .op ⟨some 5, none, .mov (.t 26)⟩ [26]]
def r39_6 : List RI := [.op ⟨some 11, none, .mov (.t 6)⟩ [6],
  .op ⟨some 12, none, .bin .add (.t 11) (.c (.int .i64 1))⟩ [11],
  .op ⟨some 6, none, .mov (.t 12)⟩ [12]]
/- live at the loop's head: [0, 1, 5, 6]; at its end (exits): [(0, [5])]; then [5] -/
def r39_7 : RC := (.post (.seq (.seq (.ops r39_3) (.cond (.t 10) (.pre [.kill [10]] .skip) (.pre [.kill [0, 1, 6, 10]] (.exit 0)))) (.seq (.block 1 (.seq (.ops r39_4) (.cond (.t 19) (.pre [.kill [19]] (.ops r39_5)) (.pre [.kill [19]] .skip)))) (.ops r39_6))) [.tok 5 105])
def r39_8 : List RI := [.op ⟨some 27, none, .mov (.t 5)⟩ [5],
  .op ⟨some 4, none, .mov (.t 27)⟩ [27]]
def r39 : RC := (.seq (.ops r39_0) (.seq (.ops r39_1) (.seq (.seq (.ops r39_2) (.block 0 (.pre [.tok 5 105] (.loop r39_7)))) (.seq (.ops r39_8) .ret))))
def F39 : FnC := ⟨r39, 28, [.tmp 4], [], []⟩
theorem r39_ok : ((Try.f39).body).bind (resCode Try.prog) = some r39.er := by kernel_rfl
/- 40 slices.ContainsFunc[[][]byte,[]byte] · params #[31, 70] · tmps 9 · results .tmp 4 -/
def r40_0 : List RI := [.op ⟨some 4, none, .mov (.c (.bool false))⟩ [4]]
def r40_1 : List RI := [.op ⟨some 5, none, .mov (.t 0)⟩ [0],
  .op ⟨some 6, none, .mov (.t 1)⟩ [1],
  .op ⟨some 7, none, .call (.f 55) [(.t 5), (.t 6)]⟩ [5, 6],
  .op ⟨some 8, none, .bin .geq (.t 7) (.c (.int .i64 0))⟩ [7],
  .op ⟨some 4, none, .mov (.t 8)⟩ [8]]
def r40 : RC := (.seq (.ops r40_0) (.seq (.ops r40_1) .ret))
def F40 : FnC := ⟨r40, 9, [.tmp 4], [], []⟩
theorem r40_ok : ((Try.f40).body).bind (resCode Try.prog) = some r40.er := by kernel_rfl
/- 41 sealwright/leases.Sweep$1 · params #[22] · tmps 8 · results .tmp 3 -/
def r41_0 : List RI := [.op ⟨some 2, none, .box (.t 0)⟩ [0],
  .op ⟨some 3, none, .mov (.c (.bool false))⟩ [3]]
def r41_1 : List RI := [.op ⟨some 4, none, .load 1 false (.t 1)⟩ [1],
  .op ⟨some 5, none, .mkfn 42 [] [(.t 2)]⟩ [2],
  .op ⟨some 6, none, .call (.f 40) [(.t 4), (.t 5)]⟩ [4, 5],
  .op ⟨some 7, none, .un .not (.t 6)⟩ [6],
  .op ⟨some 3, none, .mov (.t 7)⟩ [7]]
def r41 : RC := (.seq (.ops r41_0) (.seq (.ops r41_1) .ret))
def F41 : FnC := ⟨r41, 8, [.tmp 3], [], []⟩
theorem r41_ok : ((Try.f41).body).bind (resCode Try.prog) = some r41.er := by kernel_rfl
/- 42 sealwright/leases.Sweep$1$1 · params #[22] · tmps 7 · results .tmp 3 -/
def r42_0 : List RI := [.op ⟨some 3, none, .mov (.c (.bool false))⟩ [3]]
def r42_1 : List RI := [.op ⟨some 4, none, .mov (.t 0)⟩ [0],
  .op ⟨some 5, none, .load 1 false (.t 1)⟩ [1],
  .op ⟨some 6, none, .call (.f 43) [(.t 4), (.t 5)]⟩ [4, 5],
  .op ⟨some 3, none, .mov (.t 6)⟩ [6]]
def r42 : RC := (.seq (.ops r42_0) (.seq (.ops r42_1) .ret))
def F42 : FnC := ⟨r42, 7, [.tmp 3], [], []⟩
theorem r42_ok : ((Try.f42).body).bind (resCode Try.prog) = some r42.er := by kernel_rfl
/- 43 bytes.Equal · params #[22, 22] · tmps 10 · results .tmp 4 -/
def r43_0 : List RI := [.op ⟨some 4, none, .mov (.c (.bool false))⟩ [4]]
def r43_1 : List RI := [.op ⟨some 5, none, .mov (.t 0)⟩ [0],
  .op ⟨some 6, none, .b2s (.t 5)⟩ [5],
  .op ⟨some 7, none, .mov (.t 1)⟩ [1],
  .op ⟨some 8, none, .b2s (.t 7)⟩ [7],
  .op ⟨some 9, none, .bin .eql (.t 6) (.t 8)⟩ [6, 8],
  .op ⟨some 4, none, .mov (.t 9)⟩ [9]]
def r43 : RC := (.seq (.ops r43_0) (.seq (.ops r43_1) .ret))
def F43 : FnC := ⟨r43, 10, [.tmp 4], [], []⟩
theorem r43_ok : ((Try.f43).body).bind (resCode Try.prog) = some r43.er := by kernel_rfl
/- 44 sealwright/sealwrightref36.Subset · params #[31, 31] · tmps 34 · results .tmp 4 -/
def r44_0 : List RI := [.op ⟨some 4, none, .mov (.c (.bool false))⟩ [4]]
def r44_1 : List RI := [.op ⟨some 5, none, .mov (.c (.int .i64 0))⟩ []]
def r44_2 : List RI := [.op ⟨some 8, none, .mov (.t 5)⟩ [],
  .op ⟨some 9, none, .mov (.t 0)⟩ [],
  .op ⟨some 10, none, .len false (.t 9)⟩ [9],
  .op ⟨some 11, none, .bin .lss (.t 8) (.t 10)⟩ [8, 10]]
def r44_3 : List RI := [.op ⟨some 6, none, .mov (.c (.bool false))⟩ []]
def r44_4 : List RI := [.op ⟨some 7, none, .mov (.c (.int .i64 0))⟩ []]
def r44_5 : List RI := [.op ⟨some 14, none, .mov (.t 7)⟩ [],
  .op ⟨some 15, none, .mov (.t 1)⟩ [],
  .op ⟨some 16, none, .len false (.t 15)⟩ [15],
  .op ⟨some 17, none, .bin .lss (.t 14) (.t 16)⟩ [14, 16]]
def r44_6 : List FI := [⟨0, true, ⟨some 20, none, .mov (.t 6)⟩⟩,
  ⟨1, true, ⟨some 21, none, .mov (.t 20)⟩⟩,
  ⟨2, true, ⟨some 22, some (21, false), .mov (.t 0)⟩⟩,
  ⟨3, true, ⟨some 23, some (21, false), .mov (.t 5)⟩⟩,
  ⟨4, true, ⟨some 24, some (21, false), .iaddrL 1 (.t 22) (.t 23)⟩⟩,
  ⟨5, true, ⟨some 25, some (21, false), .load 1 false (.t 24)⟩⟩,
  ⟨6, true, ⟨some 26, some (21, false), .mov (.t 1)⟩⟩,
  ⟨7, true, ⟨some 27, some (21, false), .mov (.t 7)⟩⟩,
  ⟨8, true, ⟨some 28, some (21, false), .iaddrL 1 (.t 26) (.t 27)⟩⟩,
  ⟨9, true, ⟨some 29, some (21, false), .load 1 false (.t 28)⟩⟩,
  ⟨10, false, ⟨some 30, some (21, false), .call (.f 50) [(.t 25), (.t 29)]⟩⟩,
  ⟨11, true, ⟨some 31, none, .pick (.t 21) (.c (.bool true)) (.t 30)⟩⟩,
  ⟨12, false, ⟨some 6, none, .mov (.t 31)⟩⟩]
def r44_7 : List RI := [.op ⟨some 18, none, .mov (.t 7)⟩ [7],
  .op ⟨some 19, none, .bin .add (.t 18) (.c (.int .i64 1))⟩ [18],
  .op ⟨some 7, none, .mov (.t 19)⟩ [19]]
/- live at the loop's head: [0, 1, 5, 6, 7]; at its end (exits): [(2, [0, 1, 5, 6]), (1, [0, 1, 5]), (0, [])]; then [0, 1, 5, 6] -/
def r44_8 : RC := (.seq (.seq (.ops r44_5) (.cond (.t 17) (.pre [.kill [17]] .skip) (.pre [.kill [7, 17]] (.exit 2)))) (.seq (.block 3 (.flt [0, 1, 3, 3, 15, 31, 3, 3, 195, 451, 1023, 2047, 4095] [] r44_6 [20, 21, 22, 23, 24, 25, 26, 27, 28, 29, 30, 31])) (.ops r44_7)))
def r44_9 : List RI := [.op ⟨some 32, none, .mov (.t 6)⟩ [6],
  .op ⟨some 33, none, .un .not (.t 32)⟩ [32]]
def r44_10 : List RI := [.op ⟨some 4, none, .mov (.c (.bool false))⟩ []]
def r44_11 : List RI := [.op ⟨some 12, none, .mov (.t 5)⟩ [5],
  .op ⟨some 13, none, .bin .add (.t 12) (.c (.int .i64 1))⟩ [12],
  .op ⟨some 5, none, .mov (.t 13)⟩ [13]]
/- live at the loop's head: [0, 1, 5]; at its end (exits): [(0, [])]; then [] -/
def r44_12 : RC := (.seq (.seq (.ops r44_2) (.cond (.t 11) (.pre [.kill [11]] .skip) (.pre [.kill [0, 1, 5, 11]] (.exit 0)))) (.seq (.block 1 (.seq (.ops r44_3) (.seq (.seq (.ops r44_4) (.block 2 (.loop r44_8))) (.seq (.ops r44_9) (.cond (.t 33) (.pre [.kill [0, 1, 5, 33]] (.seq (.ops r44_10) .ret)) (.pre [.kill [33]] .skip)))))) (.ops r44_11)))
def r44_13 : List RI := [.op ⟨some 4, none, .mov (.c (.bool true))⟩ []]
def r44 : RC := (.seq (.ops r44_0) (.seq (.seq (.ops r44_1) (.block 0 (.loop r44_12))) (.seq (.ops r44_13) .ret)))
def F44 : FnC := ⟨r44, 34, [.tmp 4], [], []⟩
theorem r44_ok : ((Try.f44).body).bind (resCode Try.prog) = some r44.er := by kernel_rfl
/- 45 slices.BinarySearchFunc[[]sealwright/api.Lease,sealwright/api.Lease,int] · params #[24, 3, 72] · tmps 49 · results .tmp 6, .tmp 7 -/
def r45_0 : List RI := [.op ⟨some 6, none, .mov (.c (.int .i64 0))⟩ [6],
  .op ⟨some 7, none, .mov (.c (.bool false))⟩ [7]]
def r45_1 : List RI := [.op ⟨some 12, none, .mov (.t 0)⟩ [],
  .op ⟨some 13, none, .len false (.t 12)⟩ [12],
  .op ⟨some 8, none, .mov (.t 13)⟩ [13]]
def r45_2 : List RI := [.op ⟨some 14, none, .mov (.t 8)⟩ [],
  .op ⟨some 9, none, .mov (.c (.int .i64 0))⟩ [],
  .op ⟨some 10, none, .mov (.t 14)⟩ [14]]
def r45_3 : List RI := [.op ⟨some 15, none, .mov (.t 9)⟩ [],
  .op ⟨some 16, none, .mov (.t 10)⟩ [],
  .op ⟨some 17, none, .bin .lss (.t 15) (.t 16)⟩ [15, 16]]
def r45_4 : List RI := [.op ⟨some 18, none, .mov (.t 9)⟩ [],
  .op ⟨some 19, none, .mov (.t 10)⟩ [],
  .op ⟨some 20, none, .bin .add (.t 18) (.t 19)⟩ [18, 19],
  .op ⟨some 21, none, .toInt .u64 (.t 20)⟩ [20],
  .op ⟨some 22, none, .bin .shr (.t 21) (.c (.int .u64 1))⟩ [21],
  .op ⟨some 23, none, .toInt .i64 (.t 22)⟩ [22],
  .op ⟨some 11, none, .mov (.t 23)⟩ [23]]
def r45_5 : List RI := [.op ⟨some 24, none, .mov (.t 2)⟩ [],
  .op ⟨some 25, none, .mov (.t 0)⟩ [],
  .op ⟨some 26, none, .mov (.t 11)⟩ [],
  .op ⟨some 27, none, .iaddrL 3 (.t 25) (.t 26)⟩ [25, 26],
  .op ⟨some 28, none, .load 3 true (.t 27)⟩ [27],
  .op ⟨some 29, none, .mov (.t 1)⟩ [],
  .op ⟨some 30, none, .call (.t 24) [(.t 28), (.t 29)]⟩ [24, 28, 29],
  .op ⟨some 31, none, .bin .lss (.t 30) (.c (.int .i64 0))⟩ [30]]
def r45_6 : List RI := [.op ⟨some 32, none, .mov (.t 11)⟩ [11],
  .op ⟨some 33, none, .bin .add (.t 32) (.c (.int .i64 1))⟩ [32],
  .op ⟨some 9, none, .mov (.t 33)⟩ [33]]
def r45_7 : List RI := [.op ⟨some 34, none, .mov (.t 11)⟩ [11],
  .op ⟨some 10, none, .mov (.t 34)⟩ [34]]
/- live at the loop's head: [0, 1, 2, 8, 9, 10]; at its end (exits): [(0, [0, 1, 2, 8, 9])]; then [0, 1, 2, 8, 9] -/
def r45_8 : RC := (.seq (.seq (.ops r45_3) (.cond (.t 17) (.pre [.kill [17]] .skip) (.pre [.kill [10, 17]] (.exit 0)))) (.block 1 (.seq (.ops r45_4) (.seq (.ops r45_5) (.cond (.t 31) (.pre [.kill [9, 31]] (.ops r45_6)) (.pre [.kill [10, 31]] (.ops r45_7)))))))
def r45_9 : List RI := [.op ⟨some 35, none, .mov (.t 9)⟩ [],
  .op ⟨some 36, none, .mov (.t 9)⟩ [],
  .op ⟨some 37, none, .mov (.t 8)⟩ [8],
  .op ⟨some 38, none, .bin .lss (.t 36) (.t 37)⟩ [36, 37],
  .op ⟨some 39, none, .mov (.t 38)⟩ [38],
  .grp 39 true [⟨some 40, some (39, true), .mov (.t 2)⟩,
    ⟨some 41, some (39, true), .mov (.t 0)⟩,
    ⟨some 42, some (39, true), .mov (.t 9)⟩,
    ⟨some 43, some (39, true), .iaddrL 3 (.t 41) (.t 42)⟩,
    ⟨some 44, some (39, true), .load 3 true (.t 43)⟩,
    ⟨some 45, some (39, true), .mov (.t 1)⟩,
    ⟨some 46, some (39, true), .call (.t 40) [(.t 44), (.t 45)]⟩,
    ⟨some 47, some (39, true), .bin .eql (.t 46) (.c (.int .i64 0))⟩] [0, 1, 2, 9, 40, 41, 42, 43, 44, 45, 46],
  .op ⟨some 48, none, .pick (.t 39) (.t 47) (.c (.bool false))⟩ [39, 47],
  .op ⟨some 6, none, .mov (.t 35)⟩ [35],
  .op ⟨some 7, none, .mov (.t 48)⟩ [48]]
def r45 : RC := (.seq (.ops r45_0) (.seq (.ops r45_1) (.seq (.ops r45_2) (.seq (.block 0 (.loop r45_8)) (.seq (.ops r45_9) .ret)))))
def F45 : FnC := ⟨r45, 49, [.tmp 6, .tmp 7], [], []⟩
theorem r45_ok : ((Try.f45).body).bind (resCode Try.prog) = some r45.er := by kernel_rfl
/- 46 sealwright/leases.findLease$1 · params #[48, 3] · tmps 9 · results .tmp 4 -/
def r46_0 : List RI := [.op ⟨some 2, none, .box (.t 0)⟩ [0],
  .op ⟨some 4, none, .mov (.c (.int .i64 0))⟩ [4]]
def r46_1 : List RI := [.op ⟨some 5, none, .faddr 0 (.t 2)⟩ [2],
  .op ⟨some 6, none, .load 1 false (.t 5)⟩ [5],
  .op ⟨some 7, none, .mov (.t 1)⟩ [1],
  .op ⟨some 8, none, .call (.f 47) [(.t 6), (.t 7)]⟩ [6, 7],
  .op ⟨some 4, none, .mov (.t 8)⟩ [8]]
def r46 : RC := (.seq (.ops r46_0) (.seq (.ops r46_1) .ret))
def F46 : FnC := ⟨r46, 9, [.tmp 4], [], []⟩
theorem r46_ok : ((Try.f46).body).bind (resCode Try.prog) = some r46.er := by kernel_rfl
/- 47 cmp.Compare[int] · params #[3, 3] · tmps 20 · results .tmp 4 -/
def r47_0 : List RI := [.op ⟨some 4, none, .mov (.c (.int .i64 0))⟩ [4]]
def r47_1 : List RI := [.op ⟨some 7, none, .mov (.t 0)⟩ [],
  .op ⟨some 8, none, .call (.f 56) [(.t 7)]⟩ [7],
  .op ⟨some 5, none, .mov (.t 8)⟩ [8]]
def r47_2 : List RI := [.op ⟨some 9, none, .mov (.t 1)⟩ [],
  .op ⟨some 10, none, .call (.f 56) [(.t 9)]⟩ [9],
  .op ⟨some 6, none, .mov (.t 10)⟩ [10]]
def r47_3 : List RI := [.op ⟨some 11, none, .mov (.t 5)⟩ [5]]
def r47_4 : List RI := [.op ⟨some 12, none, .mov (.t 6)⟩ [6]]
def r47_5 : List RI := [.op ⟨some 4, none, .mov (.c (.int .i64 0))⟩ []]
def r47_6 : List RI := [.op ⟨some 4, none, .mov (.c (.int .i64 (-1)))⟩ []]
def r47_7 : List RI := [.op ⟨some 13, none, .mov (.t 6)⟩ [6]]
def r47_8 : List RI := [.op ⟨some 4, none, .mov (.c (.int .i64 1))⟩ []]
def r47_9 : List RI := [.op ⟨some 14, none, .mov (.t 0)⟩ [],
  .op ⟨some 15, none, .mov (.t 1)⟩ [],
  .op ⟨some 16, none, .bin .lss (.t 14) (.t 15)⟩ [14, 15]]
def r47_10 : List RI := [.op ⟨some 4, none, .mov (.c (.int .i64 (-1)))⟩ []]
def r47_11 : List RI := [.op ⟨some 17, none, .mov (.t 0)⟩ [0],
  .op ⟨some 18, none, .mov (.t 1)⟩ [1],
  .op ⟨some 19, none, .bin .gtr (.t 17) (.t 18)⟩ [17, 18]]
def r47_12 : List RI := [.op ⟨some 4, none, .mov (.c (.int .i64 1))⟩ []]
def r47_13 : List RI := [.op ⟨some 4, none, .mov (.c (.int .i64 0))⟩ []]
def r47 : RC := (.seq (.ops r47_0) (.seq (.ops r47_1) (.seq (.ops r47_2) (.seq (.seq (.ops r47_3) (.cond (.t 11) (.pre [.kill [0, 1, 11]] (.seq (.seq (.ops r47_4) (.cond (.t 12) (.pre [.kill [12]] (.seq (.ops r47_5) .ret)) (.pre [.kill [12]] .skip))) (.seq (.ops r47_6) .ret))) (.pre [.kill [11]] .skip))) (.seq (.seq (.ops r47_7) (.cond (.t 13) (.pre [.kill [0, 1, 13]] (.seq (.ops r47_8) .ret)) (.pre [.kill [13]] .skip))) (.seq (.seq (.ops r47_9) (.cond (.t 16) (.pre [.kill [0, 1, 16]] (.seq (.ops r47_10) .ret)) (.pre [.kill [16]] .skip))) (.seq (.seq (.ops r47_11) (.cond (.t 19) (.pre [.kill [19]] (.seq (.ops r47_12) .ret)) (.pre [.kill [19]] .skip))) (.seq (.ops r47_13) .ret))))))))
def F47 : FnC := ⟨r47, 20, [.tmp 4], [], []⟩
theorem r47_ok : ((Try.f47).body).bind (resCode Try.prog) = some r47.er := by kernel_rfl
/- 49 slices.rotateRight[sealwright/api.Lease] · params #[24, 3] · tmps 10 · results  -/
def r49_0 : List RI := [.op ⟨some 4, none, .mov (.t 0)⟩ [],
  .op ⟨some 5, none, .mov (.t 0)⟩ [0],
  .op ⟨some 6, none, .len false (.t 5)⟩ [5],
  .op ⟨some 7, none, .mov (.t 1)⟩ [1],
  .op ⟨some 8, none, .bin .sub (.t 6) (.t 7)⟩ [6, 7],
  .op ⟨some 9, none, .call (.f 57) [(.t 4), (.t 8)]⟩ [4, 8, 9]]
def r49 : RC := (.ops r49_0)
def F49 : FnC := ⟨r49, 10, [], [], []⟩
theorem r49_ok : ((Try.f49).body).bind (resCode Try.prog) = some r49.er := by kernel_rfl
/- 50 sealwright/sealwrightref1.Same · params #[22, 22] · tmps 26 · results .tmp 4 -/
def r50_0 : List RI := [.op ⟨some 4, none, .mov (.c (.bool false))⟩ [4]]
def r50_1 : List RI := [.op ⟨some 6, none, .mov (.t 0)⟩ [],
  .op ⟨some 7, none, .len false (.t 6)⟩ [6],
  .op ⟨some 8, none, .mov (.t 1)⟩ [],
  .op ⟨some 9, none, .len false (.t 8)⟩ [8],
  .op ⟨some 10, none, .bin .neq (.t 7) (.t 9)⟩ [7, 9]]
def r50_2 : List RI := [.op ⟨some 4, none, .mov (.c (.bool false))⟩ []]
def r50_3 : List RI := [.op ⟨some 5, none, .mov (.c (.int .i64 0))⟩ []]
def r50_4 : List RI := [.op ⟨some 11, none, .mov (.t 5)⟩ [],
  .op ⟨some 12, none, .mov (.t 0)⟩ [],
  .op ⟨some 13, none, .len false (.t 12)⟩ [12],
  .op ⟨some 14, none, .bin .lss (.t 11) (.t 13)⟩ [11, 13]]
def r50_5 : List FI := [⟨0, true, ⟨some 17, none, .mov (.t 0)⟩⟩,
  ⟨1, true, ⟨some 18, none, .mov (.t 5)⟩⟩,
  ⟨2, true, ⟨some 19, none, .iaddrL 1 (.t 17) (.t 18)⟩⟩,
  ⟨3, true, ⟨some 20, none, .load 1 false (.t 19)⟩⟩,
  ⟨4, true, ⟨some 21, none, .mov (.t 1)⟩⟩,
  ⟨5, true, ⟨some 22, none, .mov (.t 5)⟩⟩,
  ⟨6, true, ⟨some 23, none, .iaddrL 1 (.t 21) (.t 22)⟩⟩,
  ⟨7, true, ⟨some 24, none, .load 1 false (.t 23)⟩⟩,
  ⟨8, true, ⟨some 25, none, .bin .neq (.t 20) (.t 24)⟩⟩]
def r50_6 : List RI := [.op ⟨some 4, none, .mov (.c (.bool false))⟩ []]
def r50_7 : List RI := [.op ⟨some 15, none, .mov (.t 5)⟩ [5],
  .op ⟨some 16, none, .bin .add (.t 15) (.c (.int .i64 1))⟩ [15],
  .op ⟨some 5, none, .mov (.t 16)⟩ [16]]
/- live at the loop's head: [0, 1, 5]; at its end (exits): [(0, [])]; then [] -/
def r50_8 : RC := (.seq (.seq (.ops r50_4) (.cond (.t 14) (.pre [.kill [14]] .skip) (.pre [.kill [0, 1, 5, 14]] (.exit 0)))) (.seq (.block 1 (.seq (.flt [0, 0, 3, 7, 0, 0, 48, 112, 255] [] r50_5 [17, 18, 19, 20, 21, 22, 23, 24]) (.cond (.t 25) (.pre [.kill [0, 1, 5, 25]] (.seq (.ops r50_6) .ret)) (.pre [.kill [25]] .skip)))) (.ops r50_7)))
def r50_9 : List RI := [.op ⟨some 4, none, .mov (.c (.bool true))⟩ []]
def r50 : RC := (.seq (.ops r50_0) (.seq (.seq (.ops r50_1) (.cond (.t 10) (.pre [.kill [0, 1, 10]] (.seq (.ops r50_2) .ret)) (.pre [.kill [10]] .skip))) (.seq (.seq (.ops r50_3) (.block 0 (.loop r50_8))) (.seq (.ops r50_9) .ret))))
def F50 : FnC := ⟨r50, 26, [.tmp 4], [], []⟩
theorem r50_ok : ((Try.f50).body).bind (resCode Try.prog) = some r50.er := by kernel_rfl
/- 51 slices.BinarySearchFunc[[]sealwright/api.Hold,sealwright/api.Hold,int] · params #[25, 3, 76] · tmps 49 · results .tmp 6, .tmp 7 -/
def r51_0 : List RI := [.op ⟨some 6, none, .mov (.c (.int .i64 0))⟩ [6],
  .op ⟨some 7, none, .mov (.c (.bool false))⟩ [7]]
def r51_1 : List RI := [.op ⟨some 12, none, .mov (.t 0)⟩ [],
  .op ⟨some 13, none, .len false (.t 12)⟩ [12],
  .op ⟨some 8, none, .mov (.t 13)⟩ [13]]
def r51_2 : List RI := [.op ⟨some 14, none, .mov (.t 8)⟩ [],
  .op ⟨some 9, none, .mov (.c (.int .i64 0))⟩ [],
  .op ⟨some 10, none, .mov (.t 14)⟩ [14]]
def r51_3 : List RI := [.op ⟨some 15, none, .mov (.t 9)⟩ [],
  .op ⟨some 16, none, .mov (.t 10)⟩ [],
  .op ⟨some 17, none, .bin .lss (.t 15) (.t 16)⟩ [15, 16]]
def r51_4 : List RI := [.op ⟨some 18, none, .mov (.t 9)⟩ [],
  .op ⟨some 19, none, .mov (.t 10)⟩ [],
  .op ⟨some 20, none, .bin .add (.t 18) (.t 19)⟩ [18, 19],
  .op ⟨some 21, none, .toInt .u64 (.t 20)⟩ [20],
  .op ⟨some 22, none, .bin .shr (.t 21) (.c (.int .u64 1))⟩ [21],
  .op ⟨some 23, none, .toInt .i64 (.t 22)⟩ [22],
  .op ⟨some 11, none, .mov (.t 23)⟩ [23]]
def r51_5 : List RI := [.op ⟨some 24, none, .mov (.t 2)⟩ [],
  .op ⟨some 25, none, .mov (.t 0)⟩ [],
  .op ⟨some 26, none, .mov (.t 11)⟩ [],
  .op ⟨some 27, none, .iaddrL 3 (.t 25) (.t 26)⟩ [25, 26],
  .op ⟨some 28, none, .load 3 true (.t 27)⟩ [27],
  .op ⟨some 29, none, .mov (.t 1)⟩ [],
  .op ⟨some 30, none, .call (.t 24) [(.t 28), (.t 29)]⟩ [24, 28, 29],
  .op ⟨some 31, none, .bin .lss (.t 30) (.c (.int .i64 0))⟩ [30]]
def r51_6 : List RI := [.op ⟨some 32, none, .mov (.t 11)⟩ [11],
  .op ⟨some 33, none, .bin .add (.t 32) (.c (.int .i64 1))⟩ [32],
  .op ⟨some 9, none, .mov (.t 33)⟩ [33]]
def r51_7 : List RI := [.op ⟨some 34, none, .mov (.t 11)⟩ [11],
  .op ⟨some 10, none, .mov (.t 34)⟩ [34]]
/- live at the loop's head: [0, 1, 2, 8, 9, 10]; at its end (exits): [(0, [0, 1, 2, 8, 9])]; then [0, 1, 2, 8, 9] -/
def r51_8 : RC := (.seq (.seq (.ops r51_3) (.cond (.t 17) (.pre [.kill [17]] .skip) (.pre [.kill [10, 17]] (.exit 0)))) (.block 1 (.seq (.ops r51_4) (.seq (.ops r51_5) (.cond (.t 31) (.pre [.kill [9, 31]] (.ops r51_6)) (.pre [.kill [10, 31]] (.ops r51_7)))))))
def r51_9 : List RI := [.op ⟨some 35, none, .mov (.t 9)⟩ [],
  .op ⟨some 36, none, .mov (.t 9)⟩ [],
  .op ⟨some 37, none, .mov (.t 8)⟩ [8],
  .op ⟨some 38, none, .bin .lss (.t 36) (.t 37)⟩ [36, 37],
  .op ⟨some 39, none, .mov (.t 38)⟩ [38],
  .grp 39 true [⟨some 40, some (39, true), .mov (.t 2)⟩,
    ⟨some 41, some (39, true), .mov (.t 0)⟩,
    ⟨some 42, some (39, true), .mov (.t 9)⟩,
    ⟨some 43, some (39, true), .iaddrL 3 (.t 41) (.t 42)⟩,
    ⟨some 44, some (39, true), .load 3 true (.t 43)⟩,
    ⟨some 45, some (39, true), .mov (.t 1)⟩,
    ⟨some 46, some (39, true), .call (.t 40) [(.t 44), (.t 45)]⟩,
    ⟨some 47, some (39, true), .bin .eql (.t 46) (.c (.int .i64 0))⟩] [0, 1, 2, 9, 40, 41, 42, 43, 44, 45, 46],
  .op ⟨some 48, none, .pick (.t 39) (.t 47) (.c (.bool false))⟩ [39, 47],
  .op ⟨some 6, none, .mov (.t 35)⟩ [35],
  .op ⟨some 7, none, .mov (.t 48)⟩ [48]]
def r51 : RC := (.seq (.ops r51_0) (.seq (.ops r51_1) (.seq (.ops r51_2) (.seq (.block 0 (.loop r51_8)) (.seq (.ops r51_9) .ret)))))
def F51 : FnC := ⟨r51, 49, [.tmp 6, .tmp 7], [], []⟩
theorem r51_ok : ((Try.f51).body).bind (resCode Try.prog) = some r51.er := by kernel_rfl
/- 52 sealwright/leases.findHold$1 · params #[50, 3] · tmps 9 · results .tmp 4 -/
def r52_0 : List RI := [.op ⟨some 2, none, .box (.t 0)⟩ [0],
  .op ⟨some 4, none, .mov (.c (.int .i64 0))⟩ [4]]
def r52_1 : List RI := [.op ⟨some 5, none, .faddr 0 (.t 2)⟩ [2],
  .op ⟨some 6, none, .load 1 false (.t 5)⟩ [5],
  .op ⟨some 7, none, .mov (.t 1)⟩ [1],
  .op ⟨some 8, none, .call (.f 47) [(.t 6), (.t 7)]⟩ [6, 7],
  .op ⟨some 4, none, .mov (.t 8)⟩ [8]]
def r52 : RC := (.seq (.ops r52_0) (.seq (.ops r52_1) .ret))
def F52 : FnC := ⟨r52, 9, [.tmp 4], [], []⟩
theorem r52_ok : ((Try.f52).body).bind (resCode Try.prog) = some r52.er := by kernel_rfl
/- 54 slices.rotateRight[sealwright/api.Hold] · params #[25, 3] · tmps 10 · results  -/
def r54_0 : List RI := [.op ⟨some 4, none, .mov (.t 0)⟩ [],
  .op ⟨some 5, none, .mov (.t 0)⟩ [0],
  .op ⟨some 6, none, .len false (.t 5)⟩ [5],
  .op ⟨some 7, none, .mov (.t 1)⟩ [1],
  .op ⟨some 8, none, .bin .sub (.t 6) (.t 7)⟩ [6, 7],
  .op ⟨some 9, none, .call (.f 58) [(.t 4), (.t 8)]⟩ [4, 8, 9]]
def r54 : RC := (.ops r54_0)
def F54 : FnC := ⟨r54, 10, [], [], []⟩
theorem r54_ok : ((Try.f54).body).bind (resCode Try.prog) = some r54.er := by kernel_rfl
/- 55 slices.IndexFunc[[][]byte,[]byte] · params #[31, 70] · tmps 19 · results .tmp 4 -/
def r55_0 : List RI := [.op ⟨some 4, none, .mov (.c (.int .i64 0))⟩ [4]]
def r55_1 : List RI := [.op ⟨some 6, none, .mov (.t 0)⟩ [],
  .op ⟨some 7, none, .len false (.t 6)⟩ [6],
  .op ⟨some 8, none, .mov (.c (.int .i64 0))⟩ []]
def r55_2 : List RI := [.op ⟨some 9, none, .bin .lss (.t 8) (.t 7)⟩ []]
def r55_3 : List RI := [.op ⟨some 10, none, .mov (.t 8)⟩ [],
  .op ⟨some 5, none, .mov (.t 10)⟩ [10]]
def r55_4 : List RI := [.op ⟨some 11, none, .mov (.t 1)⟩ [],
  .op ⟨some 12, none, .mov (.t 0)⟩ [],
  .op ⟨some 13, none, .mov (.t 5)⟩ [],
  .op ⟨some 14, none, .iaddrL 1 (.t 12) (.t 13)⟩ [12, 13],
  .op ⟨some 15, none, .load 1 false (.t 14)⟩ [14],
  .op ⟨some 16, none, .call (.t 11) [(.t 15)]⟩ [11, 15]]
def r55_5 : List RI := [.op ⟨some 17, none, .mov (.t 5)⟩ [5],
  .op ⟨some 4, none, .mov (.t 17)⟩ [17]]
def r55_6 : List RI := [.op ⟨some 18, none, .bin .add (.t 8) (.c (.int .i64 1))⟩ [8],
  .op ⟨some 8, none, .mov (.t 18)⟩ [18]]
/- live at the loop's head: [0, 1, 7, 8]; at its end (exits): [(0, [])]; then [] -/
def r55_7 : RC := (.seq (.ops r55_2) (.seq (.cond (.t 9) (.pre [.kill [9]] .skip) (.pre [.kill [0, 1, 7, 8, 9]] (.exit 0))) (.seq (.block 1 (.seq (.ops r55_3) (.seq (.ops r55_4) (.cond (.t 16) (.pre [.kill [0, 1, 7, 8, 16]] (.seq (.ops r55_5) .ret)) (.pre [.kill [5, 16]] .skip))))) (.ops r55_6))))
def r55_8 : List RI := [.op ⟨some 4, none, .mov (.c (.int .i64 (-1)))⟩ []]
def r55 : RC := (.seq (.ops r55_0) (.seq (.seq (.ops r55_1) (.block 0 (.loop r55_7))) (.seq (.ops r55_8) .ret)))
def F55 : FnC := ⟨r55, 19, [.tmp 4], [], []⟩
theorem r55_ok : ((Try.f55).body).bind (resCode Try.prog) = some r55.er := by kernel_rfl
/- 56 cmp.isNaN[int] · params #[3] · tmps 6 · results .tmp 2 -/
def r56_0 : List RI := [.op ⟨some 2, none, .mov (.c (.bool false))⟩ [2]]
def r56_1 : List RI := [.op ⟨some 3, none, .mov (.t 0)⟩ [],
  .op ⟨some 4, none, .mov (.t 0)⟩ [0],
  .op ⟨some 5, none, .bin .neq (.t 3) (.t 4)⟩ [3, 4],
  .op ⟨some 2, none, .mov (.t 5)⟩ [5]]
def r56 : RC := (.seq (.ops r56_0) (.seq (.ops r56_1) .ret))
def F56 : FnC := ⟨r56, 6, [.tmp 2], [], []⟩
theorem r56_ok : ((Try.f56).body).bind (resCode Try.prog) = some r56.er := by kernel_rfl
/- 57 slices.rotateLeft[sealwright/api.Lease] · params #[24, 3] · tmps 14 · results  -/
def r57_0 : List RI := [.op ⟨some 4, none, .mov (.t 0)⟩ [],
  .op ⟨some 5, none, .mov (.t 1)⟩ [],
  .op ⟨some 6, none, .slcL 3 (.t 4) none (some (.t 5)) none⟩ [4, 5],
  .op ⟨some 7, none, .call (.f 59) [(.t 6)]⟩ [6, 7]]
def r57_1 : List RI := [.op ⟨some 8, none, .mov (.t 0)⟩ [],
  .op ⟨some 9, none, .mov (.t 1)⟩ [1],
  .op ⟨some 10, none, .slcL 3 (.t 8) (some (.t 9)) none none⟩ [8, 9],
  .op ⟨some 11, none, .call (.f 59) [(.t 10)]⟩ [10, 11]]
def r57_2 : List RI := [.op ⟨some 12, none, .mov (.t 0)⟩ [0],
  .op ⟨some 13, none, .call (.f 59) [(.t 12)]⟩ [12, 13]]
def r57 : RC := (.seq (.ops r57_0) (.seq (.ops r57_1) (.ops r57_2)))
def F57 : FnC := ⟨r57, 14, [], [], []⟩
theorem r57_ok : ((Try.f57).body).bind (resCode Try.prog) = some r57.er := by kernel_rfl
/- 58 slices.rotateLeft[sealwright/api.Hold] · params #[25, 3] · tmps 14 · results  -/
def r58_0 : List RI := [.op ⟨some 4, none, .mov (.t 0)⟩ [],
  .op ⟨some 5, none, .mov (.t 1)⟩ [],
  .op ⟨some 6, none, .slcL 3 (.t 4) none (some (.t 5)) none⟩ [4, 5],
  .op ⟨some 7, none, .call (.f 60) [(.t 6)]⟩ [6, 7]]
def r58_1 : List RI := [.op ⟨some 8, none, .mov (.t 0)⟩ [],
  .op ⟨some 9, none, .mov (.t 1)⟩ [1],
  .op ⟨some 10, none, .slcL 3 (.t 8) (some (.t 9)) none none⟩ [8, 9],
  .op ⟨some 11, none, .call (.f 60) [(.t 10)]⟩ [10, 11]]
def r58_2 : List RI := [.op ⟨some 12, none, .mov (.t 0)⟩ [0],
  .op ⟨some 13, none, .call (.f 60) [(.t 12)]⟩ [12, 13]]
def r58 : RC := (.seq (.ops r58_0) (.seq (.ops r58_1) (.ops r58_2)))
def F58 : FnC := ⟨r58, 14, [], [], []⟩
theorem r58_ok : ((Try.f58).body).bind (resCode Try.prog) = some r58.er := by kernel_rfl
/- 59 slices.Reverse[[]sealwright/api.Lease,sealwright/api.Lease] · params #[24] · tmps 28 · results  -/
def r59_0 : List RI := [.op ⟨some 4, none, .mov (.t 0)⟩ [],
  .op ⟨some 5, none, .len false (.t 4)⟩ [4],
  .op ⟨some 6, none, .bin .sub (.t 5) (.c (.int .i64 1))⟩ [5],
  .op ⟨some 2, none, .mov (.c (.int .i64 0))⟩ [],
  .op ⟨some 3, none, .mov (.t 6)⟩ [6]]
def r59_1 : List RI := [.op ⟨some 7, none, .mov (.t 2)⟩ [],
  .op ⟨some 8, none, .mov (.t 3)⟩ [],
  .op ⟨some 9, none, .bin .lss (.t 7) (.t 8)⟩ [7, 8]]
def r59_2 : List FI := [⟨0, true, ⟨some 14, none, .mov (.t 0)⟩⟩,
  ⟨1, true, ⟨some 15, none, .mov (.t 2)⟩⟩,
  ⟨2, true, ⟨some 16, none, .mov (.t 0)⟩⟩,
  ⟨3, true, ⟨some 17, none, .mov (.t 3)⟩⟩,
  ⟨4, true, ⟨some 18, none, .mov (.t 0)⟩⟩,
  ⟨5, true, ⟨some 19, none, .mov (.t 3)⟩⟩,
  ⟨6, true, ⟨some 20, none, .iaddrL 3 (.t 18) (.t 19)⟩⟩,
  ⟨7, true, ⟨some 21, none, .load 3 true (.t 20)⟩⟩,
  ⟨8, true, ⟨some 22, none, .mov (.t 0)⟩⟩,
  ⟨9, true, ⟨some 23, none, .mov (.t 2)⟩⟩,
  ⟨10, true, ⟨some 24, none, .iaddrL 3 (.t 22) (.t 23)⟩⟩,
  ⟨11, true, ⟨some 25, none, .load 3 true (.t 24)⟩⟩,
  ⟨12, true, ⟨some 26, none, .iaddrL 3 (.t 14) (.t 15)⟩⟩,
  ⟨13, false, ⟨none, none, .store 3 (.t 26) (.t 21)⟩⟩,
  ⟨14, true, ⟨some 27, none, .iaddrL 3 (.t 16) (.t 17)⟩⟩,
  ⟨15, false, ⟨none, none, .store 3 (.t 27) (.t 25)⟩⟩]
def r59_3 : List RI := [.op ⟨some 10, none, .mov (.t 2)⟩ [2],
  .op ⟨some 11, none, .bin .add (.t 10) (.c (.int .i64 1))⟩ [10],
  .op ⟨some 12, none, .mov (.t 3)⟩ [3],
  .op ⟨some 13, none, .bin .sub (.t 12) (.c (.int .i64 1))⟩ [12],
  .op ⟨some 2, none, .mov (.t 11)⟩ [11],
  .op ⟨some 3, none, .mov (.t 13)⟩ [13]]
/- live at the loop's head: [0, 2, 3]; at its end (exits): [(0, [])]; then [] -/
def r59_4 : RC := (.seq (.seq (.ops r59_1) (.cond (.t 9) (.pre [.kill [9]] .skip) (.pre [.kill [0, 2, 3, 9]] (.exit 0)))) (.seq (.block 1 (.flt [0, 0, 0, 0, 0, 0, 48, 112, 0, 0, 768, 1792, 4083, 8179, 16383, 32767] [] r59_2 [14, 15, 16, 17, 18, 19, 20, 21, 22, 23, 24, 25, 26, 27])) (.ops r59_3)))
def r59 : RC := (.seq (.ops r59_0) (.block 0 (.loop r59_4)))
def F59 : FnC := ⟨r59, 28, [], [], []⟩
theorem r59_ok : ((Try.f59).body).bind (resCode Try.prog) = some r59.er := by kernel_rfl
/- 60 slices.Reverse[[]sealwright/api.Hold,sealwright/api.Hold] · params #[25] · tmps 28 · results  -/
def r60_0 : List RI := [.op ⟨some 4, none, .mov (.t 0)⟩ [],
  .op ⟨some 5, none, .len false (.t 4)⟩ [4],
  .op ⟨some 6, none, .bin .sub (.t 5) (.c (.int .i64 1))⟩ [5],
  .op ⟨some 2, none, .mov (.c (.int .i64 0))⟩ [],
  .op ⟨some 3, none, .mov (.t 6)⟩ [6]]
def r60_1 : List RI := [.op ⟨some 7, none, .mov (.t 2)⟩ [],
  .op ⟨some 8, none, .mov (.t 3)⟩ [],
  .op ⟨some 9, none, .bin .lss (.t 7) (.t 8)⟩ [7, 8]]
def r60_2 : List FI := [⟨0, true, ⟨some 14, none, .mov (.t 0)⟩⟩,
  ⟨1, true, ⟨some 15, none, .mov (.t 2)⟩⟩,
  ⟨2, true, ⟨some 16, none, .mov (.t 0)⟩⟩,
  ⟨3, true, ⟨some 17, none, .mov (.t 3)⟩⟩,
  ⟨4, true, ⟨some 18, none, .mov (.t 0)⟩⟩,
  ⟨5, true, ⟨some 19, none, .mov (.t 3)⟩⟩,
  ⟨6, true, ⟨some 20, none, .iaddrL 3 (.t 18) (.t 19)⟩⟩,
  ⟨7, true, ⟨some 21, none, .load 3 true (.t 20)⟩⟩,
  ⟨8, true, ⟨some 22, none, .mov (.t 0)⟩⟩,
  ⟨9, true, ⟨some 23, none, .mov (.t 2)⟩⟩,
  ⟨10, true, ⟨some 24, none, .iaddrL 3 (.t 22) (.t 23)⟩⟩,
  ⟨11, true, ⟨some 25, none, .load 3 true (.t 24)⟩⟩,
  ⟨12, true, ⟨some 26, none, .iaddrL 3 (.t 14) (.t 15)⟩⟩,
  ⟨13, false, ⟨none, none, .store 3 (.t 26) (.t 21)⟩⟩,
  ⟨14, true, ⟨some 27, none, .iaddrL 3 (.t 16) (.t 17)⟩⟩,
  ⟨15, false, ⟨none, none, .store 3 (.t 27) (.t 25)⟩⟩]
def r60_3 : List RI := [.op ⟨some 10, none, .mov (.t 2)⟩ [2],
  .op ⟨some 11, none, .bin .add (.t 10) (.c (.int .i64 1))⟩ [10],
  .op ⟨some 12, none, .mov (.t 3)⟩ [3],
  .op ⟨some 13, none, .bin .sub (.t 12) (.c (.int .i64 1))⟩ [12],
  .op ⟨some 2, none, .mov (.t 11)⟩ [11],
  .op ⟨some 3, none, .mov (.t 13)⟩ [13]]
/- live at the loop's head: [0, 2, 3]; at its end (exits): [(0, [])]; then [] -/
def r60_4 : RC := (.seq (.seq (.ops r60_1) (.cond (.t 9) (.pre [.kill [9]] .skip) (.pre [.kill [0, 2, 3, 9]] (.exit 0)))) (.seq (.block 1 (.flt [0, 0, 0, 0, 0, 0, 48, 112, 0, 0, 768, 1792, 4083, 8179, 16383, 32767] [] r60_2 [14, 15, 16, 17, 18, 19, 20, 21, 22, 23, 24, 25, 26, 27])) (.ops r60_3)))
def r60 : RC := (.seq (.ops r60_0) (.block 0 (.loop r60_4)))
def F60 : FnC := ⟨r60, 28, [], [], []⟩
theorem r60_ok : ((Try.f60).body).bind (resCode Try.prog) = some r60.er := by kernel_rfl

noncomputable def tabF : Nat → Option FnB
  | 3 => some (.code F3)
  | 4 => some (.code F4)
  | 5 => some (.code F5)
  | 6 => some (.code F6)
  | 7 => some (.code F7)
  | 8 => some (.code F8)
  | 9 => some (.code F9)
  | 10 => some (.code F10)
  | 11 => some (.code F11)
  | 12 => some (.code F12)
  | 14 => some (.code F14)
  | 15 => some (.code F15)
  | 16 => some (.code F16)
  | 17 => some (.code F17)
  | 19 => some (.code F19)
  | 20 => some (.code F20)
  | 21 => some (.code F21)
  | 22 => some (.code F22)
  | 23 => some (.code F23)
  | 24 => some (.code F24)
  | 25 => some (.code F25)
  | 26 => some (.code F26)
  | 27 => some (.code F27)
  | 28 => some (.code F28)
  | 29 => some (.code F29)
  | 30 => some (.code F30)
  | 31 => some (.code F31)
  | 32 => some (.code F32)
  | 33 => some (.code F33)
  | 34 => some (.code F34)
  | 35 => some (.code F35)
  | 36 => some (.code F36)
  | 37 => some (.code F37)
  | 38 => some (.code F38)
  | 39 => some (.code F39)
  | 40 => some (.code F40)
  | 41 => some (.code F41)
  | 42 => some (.code F42)
  | 43 => some (.code F43)
  | 44 => some (.code F44)
  | 45 => some (.code F45)
  | 46 => some (.code F46)
  | 47 => some (.code F47)
  | 49 => some (.code F49)
  | 50 => some (.code F50)
  | 51 => some (.code F51)
  | 52 => some (.code F52)
  | 54 => some (.code F54)
  | 55 => some (.code F55)
  | 56 => some (.code F56)
  | 57 => some (.code F57)
  | 58 => some (.code F58)
  | 59 => some (.code F59)
  | 60 => some (.code F60)
  | 13 => some (.prim Vc.p13)
  | 18 => some (.prim Vc.p18)
  | _ => none
def tabS : Nat → Sig
  | _ => {}
noncomputable def T : Table := ⟨tabF, tabS⟩
theorem T_3 : T.fn 3 = some (.code F3) := rfl
theorem T_4 : T.fn 4 = some (.code F4) := rfl
theorem T_5 : T.fn 5 = some (.code F5) := rfl
theorem T_6 : T.fn 6 = some (.code F6) := rfl
theorem T_7 : T.fn 7 = some (.code F7) := rfl
theorem T_8 : T.fn 8 = some (.code F8) := rfl
theorem T_9 : T.fn 9 = some (.code F9) := rfl
theorem T_10 : T.fn 10 = some (.code F10) := rfl
theorem T_11 : T.fn 11 = some (.code F11) := rfl
theorem T_12 : T.fn 12 = some (.code F12) := rfl
theorem T_14 : T.fn 14 = some (.code F14) := rfl
theorem T_15 : T.fn 15 = some (.code F15) := rfl
theorem T_16 : T.fn 16 = some (.code F16) := rfl
theorem T_17 : T.fn 17 = some (.code F17) := rfl
theorem T_19 : T.fn 19 = some (.code F19) := rfl
theorem T_20 : T.fn 20 = some (.code F20) := rfl
theorem T_21 : T.fn 21 = some (.code F21) := rfl
theorem T_22 : T.fn 22 = some (.code F22) := rfl
theorem T_23 : T.fn 23 = some (.code F23) := rfl
theorem T_24 : T.fn 24 = some (.code F24) := rfl
theorem T_25 : T.fn 25 = some (.code F25) := rfl
theorem T_26 : T.fn 26 = some (.code F26) := rfl
theorem T_27 : T.fn 27 = some (.code F27) := rfl
theorem T_28 : T.fn 28 = some (.code F28) := rfl
theorem T_29 : T.fn 29 = some (.code F29) := rfl
theorem T_30 : T.fn 30 = some (.code F30) := rfl
theorem T_31 : T.fn 31 = some (.code F31) := rfl
theorem T_32 : T.fn 32 = some (.code F32) := rfl
theorem T_33 : T.fn 33 = some (.code F33) := rfl
theorem T_34 : T.fn 34 = some (.code F34) := rfl
theorem T_35 : T.fn 35 = some (.code F35) := rfl
theorem T_36 : T.fn 36 = some (.code F36) := rfl
theorem T_37 : T.fn 37 = some (.code F37) := rfl
theorem T_38 : T.fn 38 = some (.code F38) := rfl
theorem T_39 : T.fn 39 = some (.code F39) := rfl
theorem T_40 : T.fn 40 = some (.code F40) := rfl
theorem T_41 : T.fn 41 = some (.code F41) := rfl
theorem T_42 : T.fn 42 = some (.code F42) := rfl
theorem T_43 : T.fn 43 = some (.code F43) := rfl
theorem T_44 : T.fn 44 = some (.code F44) := rfl
theorem T_45 : T.fn 45 = some (.code F45) := rfl
theorem T_46 : T.fn 46 = some (.code F46) := rfl
theorem T_47 : T.fn 47 = some (.code F47) := rfl
theorem T_49 : T.fn 49 = some (.code F49) := rfl
theorem T_50 : T.fn 50 = some (.code F50) := rfl
theorem T_51 : T.fn 51 = some (.code F51) := rfl
theorem T_52 : T.fn 52 = some (.code F52) := rfl
theorem T_54 : T.fn 54 = some (.code F54) := rfl
theorem T_55 : T.fn 55 = some (.code F55) := rfl
theorem T_56 : T.fn 56 = some (.code F56) := rfl
theorem T_57 : T.fn 57 = some (.code F57) := rfl
theorem T_58 : T.fn 58 = some (.code F58) := rfl
theorem T_59 : T.fn 59 = some (.code F59) := rfl
theorem T_60 : T.fn 60 = some (.code F60) := rfl
theorem T_13 : T.fn 13 = some (.prim Vc.p13) := rfl
theorem T_18 : T.fn 18 = some (.prim Vc.p18) := rfl
theorem S_13 : T.sg 13 = {} := rfl
theorem S_18 : T.sg 18 = {} := rfl
theorem S_3 : T.sg 3 = {} := rfl
theorem S_4 : T.sg 4 = {} := rfl
theorem S_5 : T.sg 5 = {} := rfl
theorem S_6 : T.sg 6 = {} := rfl
theorem S_7 : T.sg 7 = {} := rfl
theorem S_8 : T.sg 8 = {} := rfl
theorem S_9 : T.sg 9 = {} := rfl
theorem S_10 : T.sg 10 = {} := rfl
theorem S_11 : T.sg 11 = {} := rfl
theorem S_12 : T.sg 12 = {} := rfl
theorem S_14 : T.sg 14 = {} := rfl
theorem S_15 : T.sg 15 = {} := rfl
theorem S_16 : T.sg 16 = {} := rfl
theorem S_17 : T.sg 17 = {} := rfl
theorem S_19 : T.sg 19 = {} := rfl
theorem S_20 : T.sg 20 = {} := rfl
theorem S_21 : T.sg 21 = {} := rfl
theorem S_22 : T.sg 22 = {} := rfl
theorem S_23 : T.sg 23 = {} := rfl
theorem S_24 : T.sg 24 = {} := rfl
theorem S_25 : T.sg 25 = {} := rfl
theorem S_26 : T.sg 26 = {} := rfl
theorem S_27 : T.sg 27 = {} := rfl
theorem S_28 : T.sg 28 = {} := rfl
theorem S_29 : T.sg 29 = {} := rfl
theorem S_30 : T.sg 30 = {} := rfl
theorem S_31 : T.sg 31 = {} := rfl
theorem S_32 : T.sg 32 = {} := rfl
theorem S_33 : T.sg 33 = {} := rfl
theorem S_34 : T.sg 34 = {} := rfl
theorem S_35 : T.sg 35 = {} := rfl
theorem S_36 : T.sg 36 = {} := rfl
theorem S_37 : T.sg 37 = {} := rfl
theorem S_38 : T.sg 38 = {} := rfl
theorem S_39 : T.sg 39 = {} := rfl
theorem S_40 : T.sg 40 = {} := rfl
theorem S_41 : T.sg 41 = {} := rfl
theorem S_42 : T.sg 42 = {} := rfl
theorem S_43 : T.sg 43 = {} := rfl
theorem S_44 : T.sg 44 = {} := rfl
theorem S_45 : T.sg 45 = {} := rfl
theorem S_46 : T.sg 46 = {} := rfl
theorem S_47 : T.sg 47 = {} := rfl
theorem S_49 : T.sg 49 = {} := rfl
theorem S_50 : T.sg 50 = {} := rfl
theorem S_51 : T.sg 51 = {} := rfl
theorem S_52 : T.sg 52 = {} := rfl
theorem S_54 : T.sg 54 = {} := rfl
theorem S_55 : T.sg 55 = {} := rfl
theorem S_56 : T.sg 56 = {} := rfl
theorem S_57 : T.sg 57 = {} := rfl
theorem S_58 : T.sg 58 = {} := rfl
theorem S_59 : T.sg 59 = {} := rfl
theorem S_60 : T.sg 60 = {} := rfl
theorem q3 (c : CSt) : run T r3 c = run T (.seq (.ops r3_0) (.seq (.seq (.ops r3_1) (.cond (.t 19) (.pre [.kill [0, 1, 2, 3, 4, 19]] (.seq (.ops r3_2) .ret)) (.pre [.kill [19]] .skip))) (.seq (.ops r3_3) (.seq (.seq (.ops r3_4) (.cond (.t 26) (.pre [.kill [26]] (.ops r3_5)) (.pre [.kill [12, 26]] .skip))) (.seq (.ops r3_6) (.seq (.ops r3_7) (.seq (.ops r3_8) (.seq (.ops r3_9) .ret)))))))) c := rfl
theorem q4 (c : CSt) : run T r4 c = run T (.seq (.ops r4_0) (.seq (.seq (.ops r4_1) (.cond (.t 18) (.pre [.kill [0, 1, 2, 3, 4, 18]] (.seq (.ops r4_2) .ret)) (.pre [.kill [18]] .skip))) (.seq (.ops r4_3) (.seq (.seq (.ops r4_4) (.cond (.t 25) (.pre [.kill [25]] (.ops r4_5)) (.pre [.kill [25]] .skip))) (.seq (.ops r4_6) (.seq (.ops r4_7) (.seq (.flt [0, 0, 0, 0, 15, 0, 0, 0, 0, 511, 1023, 2047, 4095, 4095, 16383, 32767, 65535, 131071, 131071, 524287, 1048575, 2097151, 4194303, 4194303, 16777215, 4194303, 4194303, 134217727, 268435455, 536870911, 1073741823] [] r4_8 [1, 2, 3, 11, 13, 14, 15, 16, 40, 41, 42, 43, 44, 45, 46, 47, 48, 49, 50, 51, 52, 53, 54, 55, 56, 57, 58, 59, 60, 61, 62, 63, 64, 65, 66, 67, 68, 69]) .ret))))))) c := rfl
theorem q5_29 (c : CSt) : run T r5_29 c = run T (.seq (.seq (.ops r5_25) (.cond (.t 74) (.pre [.kill [74]] .skip) (.pre [.kill [16, 74]] (.exit 3)))) (.seq (.block 4 (.seq (.ops r5_26) (.cond (.t 97) (.pre [.kill [7, 8, 9, 10, 16, 97]] (.seq (.ops r5_27) .ret)) (.pre [.kill [97]] .skip)))) (.ops r5_28))) c := rfl
theorem q5_35 (c : CSt) : run T r5_35 c = run T (.seq (.seq (.ops r5_31) (.cond (.t 102) (.pre [.kill [102]] .skip) (.pre [.kill [17, 102]] (.exit 5)))) (.seq (.block 6 (.seq (.flt [0, 1, 0, 7, 15, 31, 0, 64, 0, 256, 960, 1984, 4032, 8191] [] r5_32 [105, 106, 107, 108, 109, 110, 111, 112, 113, 114, 115, 116, 117]) (.cond (.t 118) (.pre [.kill [7, 8, 9, 10, 17, 118]] (.seq (.ops r5_33) .ret)) (.pre [.kill [118]] .skip)))) (.ops r5_34))) c := rfl
theorem q5_41 (c : CSt) : run T r5_41 c = run T (.seq (.seq (.ops r5_37) (.cond (.t 123) (.pre [.kill [123]] .skip) (.pre [.kill [18, 123]] (.exit 7)))) (.seq (.block 8 (.seq (.flt [0, 1, 0, 7, 15, 31, 0, 64, 0, 256, 960, 1984, 4032, 8191] [] r5_38 [126, 127, 128, 129, 130, 131, 132, 133, 134, 135, 136, 137, 138]) (.cond (.t 139) (.pre [.kill [7, 8, 9, 10, 18, 139]] (.seq (.ops r5_39) .ret)) (.pre [.kill [139]] .skip)))) (.ops r5_40))) c := rfl
theorem q5_42 (c : CSt) : run T r5_42 c = run T (.post (.seq (.seq (.ops r5_7) (.cond (.t 24) (.pre [.kill [24]] .skip) (.pre [.kill [7, 8, 9, 10, 24]] (.exit 0)))) (.block 1 (.seq (.ops r5_8) (.seq (.ops r5_9) (.seq (.seq (.ops r5_10) (.block 2 (.seq (.seq (.ops r5_11) (.cond (.t 43) .skip (.pre [.kill [43]] (.seq (.ops r5_12) (.cond (.t 43) .skip (.pre [.kill [43]] (.ops r5_13))))))) (.cond (.t 43) (.pre [.kill [33, 43]] (.seq (.ops r5_14) (.seq (.seq (.ops r5_15) (.cond (.t 59) (.pre [.kill [7, 8, 9, 10, 11, 12, 13, 59]] (.seq (.ops r5_16) .ret)) (.pre [.kill [59]] .skip))) (.seq (.ops r5_17) (.cond (.t 61) (.pre [.kill [61]] (.ops r5_18)) (.pre [.kill [11, 12, 61]] .skip)))))) (.pre [.kill [43]] (.seq (.ops r5_19) (.cond (.t 65) (.pre [.kill [65]] (.ops r5_20)) (.pre [.kill [65]] (.seq (.ops r5_21) (.seq (.ops r5_22) (.cond (.t 41) (.pre [.kill [41]] (.ops r5_23)) (.pre [.kill [14, 41]] .skip)))))))))))) (.seq (.seq (.ops r5_24) (.block 3 (.loop r5_29))) (.seq (.seq (.ops r5_30) (.block 5 (.loop r5_35))) (.seq (.ops r5_36) (.block 7 (.loop r5_41)))))))))) [.gc [112, 114]]) c := rfl
theorem q5 (c : CSt) : run T r5 c = run T (.pre [.kill [1, 2]] (.seq (.ops r5_0) (.seq (.seq (.ops r5_1) (.cond (.t 20) (.pre [.kill [0, 20]] (.seq (.ops r5_2) .ret)) (.pre [.kill [20]] .skip))) (.seq (.ops r5_3) (.seq (.ops r5_4) (.seq (.ops r5_5) (.seq (.ops r5_6) (.seq (.block 0 (.loop r5_42)) (.seq (.ops r5_43) .ret))))))))) c := rfl
theorem q6_12 (c : CSt) : run T r6_12 c = run T (.seq (.seq (.ops r6_8) (.cond (.t 32) (.pre [.kill [32]] .skip) (.pre [.kill [14, 32]] (.exit 0)))) (.seq (.block 1 (.seq (.flt [0, 0, 0, 7, 0, 0, 0, 127, 255] [] r6_9 [35, 36, 37, 38, 39, 40, 41, 42]) (.cond (.t 43) (.pre [.kill [2, 3, 11, 13, 14, 43]] (.seq (.ops r6_10) .ret)) (.pre [.kill [43]] .skip)))) (.ops r6_11))) c := rfl
theorem q6 (c : CSt) : run T r6 c = run T (.seq (.ops r6_0) (.seq (.seq (.ops r6_1) (.cond (.t 16) (.pre [.kill [0, 1, 2, 3, 4, 16]] (.seq (.ops r6_2) .ret)) (.pre [.kill [16]] .skip))) (.seq (.ops r6_3) (.seq (.seq (.ops r6_4) (.cond (.t 23) (.pre [.kill [23]] (.ops r6_5)) (.pre [.kill [12, 23]] .skip))) (.seq (.ops r6_6) (.seq (.seq (.ops r6_7) (.block 0 (.loop r6_12))) (.seq (.flt [0, 0, 0, 7, 0, 0, 0, 127, 255, 511, 1023, 1023, 1023, 8191, 1023, 1023, 1023, 131071, 262143, 524287, 1048575] [] r6_13 [2, 3, 11, 13, 44, 45, 46, 47, 48, 49, 50, 51, 52, 53, 54, 55, 56, 57, 58, 59, 60, 61, 62, 63]) .ret))))))) c := rfl
theorem q7_17 (c : CSt) : run T r7_17 c = run T (.post (.seq (.seq (.ops r7_12) (.cond (.t 64) (.pre [.kill [64]] .skip) (.pre [.kill [3, 16, 17, 64]] (.exit 0)))) (.seq (.block 1 (.seq (.drw [0, 0, 2, 0, 14, 30, 62, 127, 255, 511, 511, 0, 3071, 8191] [118] r7_13 [67, 68, 69, 70, 71, 72, 73, 74, 75, 76, 77]) (.seq (.flt [0, 1, 3, 7, 15, 7, 39, 7, 231, 487, 999, 2047, 4095, 8191, 16383, 16383, 49151, 16383, 262143, 524287, 1048575] [] r7_14 [18, 19, 78, 79, 80, 81, 82, 83, 84, 85, 86, 87, 88, 89, 90, 91, 92, 93, 94, 95, 96, 97]) (.cond (.t 98) (.pre [.kill [3, 11, 15, 16, 17, 98]] (.seq (.ops r7_15) .ret)) (.pre [.kill [98]] .skip))))) (.ops r7_16))) [.gc [118]]) c := rfl
theorem q7 (c : CSt) : run T r7 c = run T (.seq (.ops r7_0) (.seq (.seq (.ops r7_1) (.cond (.t 21) (.pre [.kill [0, 1, 2, 3, 4, 21]] (.seq (.ops r7_2) .ret)) (.pre [.kill [21]] .skip))) (.seq (.ops r7_3) (.seq (.ops r7_4) (.seq (.ops r7_5) (.seq (.ops r7_6) (.seq (.ops r7_7) (.seq (.drw [0, 0, 0, 7, 0, 0, 0, 127, 0, 0, 1023, 2047] [115, 116] r7_8 [14, 45, 46, 47, 48, 49, 50, 51, 52]) (.seq (.seq (.flt [0, 0, 0, 7, 0, 31, 63] [] r7_9 [2, 13, 53, 54, 55, 56, 57, 58]) (.cond (.t 59) (.pre [.kill [3, 11, 15, 16, 59]] (.seq (.ops r7_10) .ret)) (.pre [.kill [59]] .skip))) (.seq (.seq (.ops r7_11) (.block 0 (.loop r7_17))) (.seq (.ops r7_18) .ret))))))))))) c := rfl
theorem q8 (c : CSt) : run T r8 c = run T (.seq (.ops r8_0) (.seq (.ops r8_1) (.seq (.ops r8_2) (.seq (.ops r8_3) (.seq (.ops r8_4) (.seq (.ops r8_5) .ret)))))) c := rfl
theorem q9_20 (c : CSt) : run T r9_20 c = run T (.post (.seq (.seq (.ops r9_4) (.cond (.t 13) (.pre [.kill [13]] .skip) (.pre [.kill [4, 13]] (.exit 0)))) (.block 1 (.seq (.ops r9_5) (.seq (.ops r9_6) (.seq (.ops r9_7) (.seq (.seq (.ops r9_8) (.block 2 (.seq (.seq (.ops r9_9) (.cond (.t 32) .skip (.pre [.kill [32]] (.seq (.ops r9_10) (.cond (.t 32) .skip (.pre [.kill [32]] (.ops r9_11))))))) (.cond (.t 32) (.pre [.kill [9, 23, 32]] (.flt [0, 0, 0, 0, 8, 31, 63, 127, 127, 255, 1023] [] r9_12 [7, 36, 37, 38, 39, 40, 41, 42, 43, 44])) (.pre [.kill [32]] (.seq (.ops r9_13) (.cond (.t 45) (.pre [.kill [23, 45]] (.flt [0, 0, 0, 4, 12, 0, 63, 127] [] r9_14 [7, 47, 48, 49, 50, 51, 52, 53])) (.pre [.kill [45]] (.seq (.ops r9_15) (.cond (.t 54) (.pre [.kill [9, 54]] (.ops r9_16)) (.pre [.kill [7, 54]] (.flt [0, 0, 0, 4, 0, 28, 60, 127, 255] [130] r9_17 [24, 25, 26, 27, 28, 29, 30, 31])))))))))))) (.seq (.ops r9_18) (.cond (.t 63) (.pre [.kill [63]] (.ops r9_19)) (.pre [.kill [8, 63]] .skip))))))))) [.gc [108, 130], .gcr 28000 29000, .gcr 30000 31000, .gcr 42000 43000]) c := rfl
theorem q9 (c : CSt) : run T r9 c = run T (.seq (.ops r9_0) (.seq (.ops r9_1) (.seq (.ops r9_2) (.seq (.ops r9_3) (.seq (.block 0 (.loop r9_20)) (.seq (.ops r9_21) .ret)))))) c := rfl
theorem q10 (c : CSt) : run T r10 c = run T (.seq (.ops r10_0) (.seq (.seq (.ops r10_1) (.cond (.t 7) (.pre [.kill [0, 1, 7]] (.seq (.ops r10_2) .ret)) (.pre [.kill [7]] .skip))) (.seq (.ops r10_3) (.seq (.seq (.ops r10_4) (.cond (.t 12) (.pre [.kill [12]] (.ops r10_5)) (.pre [.kill [1, 12]] .skip))) (.seq (.ops r10_6) .ret))))) c := rfl
theorem q11_7 (c : CSt) : run T r11_7 c = run T (.post (.seq (.seq (.ops r11_3) (.cond (.t 6) (.pre [.kill [6]] .skip) (.pre [.kill [0, 4, 6]] (.exit 0)))) (.seq (.block 1 (.seq (.ops r11_4) (.cond (.t 11) (.pre [.kill [11]] (.ops r11_5)) (.pre [.kill [11]] .skip)))) (.ops r11_6))) [.tok 3 103]) c := rfl
theorem q11 (c : CSt) : run T r11 c = run T (.seq (.ops r11_0) (.seq (.ops r11_1) (.seq (.seq (.ops r11_2) (.block 0 (.pre [.tok 3 103] (.loop r11_7)))) (.seq (.ops r11_8) .ret)))) c := rfl
theorem q12 (c : CSt) : run T r12 c = run T (.seq (.ops r12_0) (.seq (.seq (.ops r12_1) (.cond (.t 8) (.pre [.kill [8]] (.ops r12_2)) (.pre [.kill [1, 8]] .skip))) (.seq (.ops r12_3) .ret))) c := rfl
theorem q14_16 (c : CSt) : run T r14_16 c = run T (.post (.seq (.seq (.ops r14_9) (.cond (.t 33) (.pre [.kill [33]] .skip) (.pre [.kill [1, 2, 3, 11, 33]] (.exit 0)))) (.seq (.block 1 (.seq (.seq (.ops r14_10) (.cond (.t 38) (.pre [.kill [38]] (.seq (.ops r14_11) (.exit 1))) (.pre [.kill [38]] .skip))) (.seq (.ops r14_12) (.seq (.ops r14_13) (.cond (.t 53) (.pre [.kill [53]] (.ops r14_14)) (.pre [.kill [12, 53]] .skip)))))) (.ops r14_15))) [.gc [112], .tok 10 110]) c := rfl
theorem q14 (c : CSt) : run T r14 c = run T (.seq (.ops r14_0) (.seq (.seq (.ops r14_1) (.cond (.t 19) (.pre [.kill [1, 2, 3, 4, 19]] (.seq (.ops r14_2) .ret)) (.pre [.kill [19]] .skip))) (.seq (.seq (.ops r14_3) (.cond (.t 26) (.pre [.kill [1, 2, 3, 4, 26]] (.seq (.ops r14_4) .ret)) (.pre [.kill [26]] .skip))) (.seq (.seq (.ops r14_5) (.cond (.t 30) (.pre [.kill [1, 2, 3, 4, 30]] (.seq (.ops r14_6) .ret)) (.pre [.kill [30]] .skip))) (.seq (.ops r14_7) (.seq (.seq (.ops r14_8) (.block 0 (.pre [.tok 10 110] (.loop r14_16)))) (.seq (.ops r14_17) (.seq (.ops r14_18) .ret)))))))) c := rfl
theorem q15_9 (c : CSt) : run T r15_9 c = run T (.post (.seq (.seq (.ops r15_4) (.cond (.t 29) (.pre [.kill [29]] .skip) (.pre [.kill [5, 29]] (.exit 0)))) (.seq (.block 1 (.seq (.drw [0, 1, 0, 7, 15, 0, 32, 0, 224, 480, 0, 0, 3103, 8191] [106, 107] r15_5 [32, 33, 34, 35, 36, 37, 38, 39, 40, 41]) (.seq (.ops r15_6) (.cond (.t 61) (.pre [.kill [2, 3, 5, 61]] (.seq (.ops r15_7) .ret)) (.pre [.kill [61]] .skip))))) (.ops r15_8))) [.gc [106, 107]]) c := rfl
theorem q15_15 (c : CSt) : run T r15_15 c = run T (.seq (.seq (.ops r15_11) (.cond (.t 66) (.pre [.kill [66]] .skip) (.pre [.kill [2, 3, 8, 66]] (.exit 2)))) (.seq (.block 3 (.seq (.flt [0, 1, 0, 7, 15, 0, 32, 0, 224, 480, 1023] [] r15_12 [69, 70, 71, 72, 73, 74, 75, 76, 77, 78]) (.cond (.t 79) (.pre [.kill [2, 3, 8, 79]] (.seq (.ops r15_13) .ret)) (.pre [.kill [79]] .skip)))) (.ops r15_14))) c := rfl
theorem q15 (c : CSt) : run T r15 c = run T (.seq (.ops r15_0) (.seq (.seq (.ops r15_1) (.cond (.t 24) (.pre [.kill [2, 3, 24]] (.seq (.ops r15_2) .ret)) (.pre [.kill [24]] .skip))) (.seq (.seq (.ops r15_3) (.block 0 (.loop r15_9))) (.seq (.seq (.ops r15_10) (.block 2 (.loop r15_15))) (.seq (.ops r15_16) .ret))))) c := rfl
theorem q16 (c : CSt) : run T r16 c = run T (.seq (.ops r16_0) (.seq (.seq (.ops r16_1) (.cond (.t 10) (.pre [.kill [1, 2, 10]] (.seq (.ops r16_2) .ret)) (.pre [.kill [10]] .skip))) (.seq (.ops r16_3) (.seq (.seq (.ops r16_4) (.cond (.t 19) (.pre [.kill [2, 6, 19]] (.seq (.ops r16_5) .ret)) (.pre [.kill [19]] .skip))) (.seq (.flt [0, 1, 0, 0, 15, 0, 32, 0, 128, 480, 1023, 2047, 4095] [131] r16_6 [6, 21, 22, 23, 24, 25, 26, 27, 28, 29, 30, 31, 32]) (.seq (.ops r16_7) .ret)))))) c := rfl
theorem q17_11 (c : CSt) : run T r17_11 c = run T (.post (.seq (.seq (.ops r17_7) (.cond (.t 24) (.pre [.kill [24]] .skip) (.pre [.kill [1, 7, 24]] (.exit 0)))) (.seq (.block 1 (.seq (.ops r17_8) (.cond (.t 34) (.pre [.kill [34]] (.ops r17_9)) (.pre [.kill [34]] .skip)))) (.ops r17_10))) [.tok 6 106]) c := rfl
theorem q17 (c : CSt) : run T r17 c = run T (.seq (.ops r17_0) (.seq (.seq (.ops r17_1) (.cond (.t 13) (.pre [.kill [1, 2, 13]] (.seq (.ops r17_2) .ret)) (.pre [.kill [13]] .skip))) (.seq (.seq (.ops r17_3) (.cond (.t 18) (.pre [.kill [1, 2, 18]] (.seq (.ops r17_4) .ret)) (.pre [.kill [18]] .skip))) (.seq (.ops r17_5) (.seq (.seq (.ops r17_6) (.block 0 (.pre [.tok 6 106] (.loop r17_11)))) (.seq (.ops r17_12) .ret)))))) c := rfl
theorem q19_6 (c : CSt) : run T r19_6 c = run T (.seq (.seq (.ops r19_4) (.cond (.t 37) (.pre [.kill [37]] .skip) (.pre [.kill [37]] (.exit 0)))) (.block 1 (.ops r19_5))) c := rfl
theorem q19 (c : CSt) : run T r19 c = run T (.seq (.ops r19_0) (.seq (.seq (.ops r19_1) (.cond (.t 21) (.pre [.kill [1, 2, 3, 21]] (.seq (.ops r19_2) .ret)) (.pre [.kill [21]] .skip))) (.seq (.ops r19_3) (.seq (.block 0 (.loop r19_6)) (.seq (.flt [0, 0, 2, 0, 14, 31, 0, 0, 0, 448, 960, 2047, 0, 4096, 0, 28672, 65535, 131071] [145, 151, 156] r19_7 [2, 3, 9, 40, 41, 42, 43, 44, 45, 46, 47, 48, 49, 50, 51, 52, 53, 54, 55, 56]) (.seq (.ops r19_8) .ret)))))) c := rfl
theorem q20 (c : CSt) : run T r20 c = run T (.seq (.ops r20_0) (.seq (.ops r20_1) (.seq (.ops r20_2) .ret))) c := rfl
theorem q21_6 (c : CSt) : run T r21_6 c = run T (.seq (.seq (.ops r21_2) (.cond (.t 10) (.pre [.kill [10]] .skip) (.pre [.kill [1, 2, 5, 10]] (.exit 0)))) (.seq (.block 1 (.seq (.ops r21_3) (.cond (.t 20) (.pre [.kill [1, 2, 5, 20]] (.seq (.ops r21_4) .ret)) (.pre [.kill [20]] .skip)))) (.ops r21_5))) c := rfl
theorem q21 (c : CSt) : run T r21 c = run T (.seq (.ops r21_0) (.seq (.seq (.ops r21_1) (.block 0 (.loop r21_6))) (.seq (.ops r21_7) .ret))) c := rfl
theorem q22 (c : CSt) : run T r22 c = run T (.seq (.ops r22_0) (.seq (.flt [0, 1, 3, 7, 0, 16, 48, 112, 240, 511, 1023] [] r22_1 [0, 3, 4, 5, 6, 7, 8, 9, 10, 11, 12]) .ret)) c := rfl
theorem q23 (c : CSt) : run T r23 c = run T (.seq (.ops r23_0) (.seq (.seq (.flt [0, 1, 3, 7, 0, 16, 48, 112, 240, 511] [] r23_1 [5, 6, 7, 8, 9, 10, 11, 12, 13]) (.cond (.t 14) (.pre [.kill [0, 1, 14]] (.seq (.ops r23_2) .ret)) (.pre [.kill [14]] .skip))) (.seq (.ops r23_3) (.seq (.flt [0, 1, 3, 7, 0, 16, 48, 112, 240, 511, 1023, 2047, 0, 8191, 16383] [] r23_4 [0, 1, 22, 23, 24, 25, 26, 27, 28, 29, 30, 31, 32, 33, 34, 35]) .ret)))) c := rfl
theorem q24 (c : CSt) : run T r24 c = run T (.seq (.ops r24_0) (.seq (.ops r24_1) (.seq (.ops r24_2) .ret))) c := rfl
theorem q25 (c : CSt) : run T r25 c = run T (.seq (.ops r25_0) (.seq (.ops r25_1) (.seq (.ops r25_2) .ret))) c := rfl
theorem q26_9 (c : CSt) : run T r26_9 c = run T (.post (.seq (.ops r26_3) (.seq (.cond (.t 15) (.pre [.kill [15]] .skip) (.pre [.kill [1, 5, 12, 13, 14, 15]] (.exit 0))) (.seq (.block 1 (.seq (.ops r26_4) (.seq (.ops r26_5) (.seq (.ops r26_6) (.cond (.t 29) (.pre [.kill [29]] (.ops r26_7)) (.pre [.kill [9, 29]] .skip)))))) (.ops r26_8)))) [.gc [109], .tok 7 107]) c := rfl
theorem q26 (c : CSt) : run T r26 c = run T (.seq (.ops r26_0) (.seq (.ops r26_1) (.seq (.seq (.ops r26_2) (.block 0 (.pre [.tok 7 107] (.loop r26_9)))) (.seq (.ops r26_10) (.seq (.ops r26_11) .ret))))) c := rfl
theorem q27_8 (c : CSt) : run T r27_8 c = run T (.post (.seq (.seq (.ops r27_3) (.cond (.t 14) (.pre [.kill [14]] .skip) (.pre [.kill [1, 2, 8, 14]] (.exit 0)))) (.seq (.block 1 (.seq (.ops r27_4) (.seq (.ops r27_5) (.cond (.t 31) (.pre [.kill [31]] (.ops r27_6)) (.pre [.kill [9, 31]] .skip))))) (.ops r27_7))) [.gc [109], .tok 7 107]) c := rfl
theorem q27 (c : CSt) : run T r27 c = run T (.seq (.ops r27_0) (.seq (.ops r27_1) (.seq (.seq (.ops r27_2) (.block 0 (.pre [.tok 7 107] (.loop r27_8)))) (.seq (.ops r27_9) (.seq (.ops r27_10) .ret))))) c := rfl
theorem q28_6 (c : CSt) : run T r28_6 c = run T (.seq (.seq (.ops r28_2) (.cond (.t 11) (.pre [.kill [11]] .skip) (.pre [.kill [1, 2, 6, 11]] (.exit 0)))) (.seq (.block 1 (.seq (.ops r28_3) (.cond (.t 21) (.pre [.kill [1, 21]] (.seq (.ops r28_4) .ret)) (.pre [.kill [21]] .skip)))) (.ops r28_5))) c := rfl
theorem q28 (c : CSt) : run T r28 c = run T (.seq (.ops r28_0) (.seq (.seq (.ops r28_1) (.block 0 (.loop r28_6))) (.seq (.ops r28_7) .ret))) c := rfl
theorem q29 (c : CSt) : run T r29 c = run T (.seq (.ops r29_0) (.seq (.ops r29_1) (.seq (.ops r29_2) (.seq (.ops r29_3) .ret)))) c := rfl
theorem q30 (c : CSt) : run T r30 c = run T (.seq (.ops r30_0) (.seq (.ops r30_1) .ret)) c := rfl
theorem q31 (c : CSt) : run T r31 c = run T (.seq (.ops r31_0) (.seq (.ops r31_1) .ret)) c := rfl
theorem q32 (c : CSt) : run T r32 c = run T (.seq (.ops r32_0) (.seq (.seq (.ops r32_1) (.cond (.t 4) (.pre [.kill [0, 4]] (.seq (.ops r32_2) .ret)) (.pre [.kill [4]] .skip))) (.seq (.ops r32_3) .ret))) c := rfl
theorem q33 (c : CSt) : run T r33 c = run T (.seq (.ops r33_0) (.seq (.ops r33_1) (.seq (.ops r33_2) (.seq (.seq (.ops r33_3) (.cond (.t 16) (.pre [.kill [1, 2, 7, 16]] (.seq (.ops r33_4) .ret)) (.pre [.kill [16]] .skip))) (.seq (.ops r33_5) (.seq (.seq (.ops r33_6) (.cond (.t 22) (.pre [.kill [1, 7, 8, 22]] (.seq (.ops r33_7) .ret)) (.pre [.kill [22]] .skip))) (.seq (.seq (.ops r33_8) (.cond (.t 31) (.pre [.kill [31]] (.seq (.ops r33_9) (.seq (.ops r33_10) (.seq (.flt [0, 0, 0, 6, 15, 0, 0, 96, 255] [] r33_11 [0, 1, 7, 46, 47, 48, 49, 50, 51, 52, 53, 54]) (.seq (.ops r33_12) .ret))))) (.pre [.kill [31]] .skip))) (.seq (.ops r33_13) (.seq (.seq (.ops r33_14) (.cond (.t 68) (.pre [.kill [8, 68]] (.seq (.flt [0, 0, 0, 6, 15, 0, 0, 96, 255] [] r33_15 [7, 69, 70, 71, 72, 73, 74, 75, 76, 77]) (.seq (.ops r33_16) (.seq (.ops r33_17) .ret)))) (.pre [.kill [68]] .skip))) (.seq (.ops r33_18) (.seq (.ops r33_19) (.seq (.ops r33_20) .ret)))))))))))) c := rfl
theorem q34_8 (c : CSt) : run T r34_8 c = run T (.seq (.seq (.ops r34_4) (.cond (.t 14) (.pre [.kill [14]] .skip) (.pre [.kill [0, 1, 5, 14]] (.exit 0)))) (.seq (.block 1 (.seq (.flt [0, 0, 3, 7, 0, 0, 48, 112, 255, 511] [] r34_5 [17, 18, 19, 20, 21, 22, 23, 24, 25]) (.cond (.t 26) (.pre [.kill [0, 1, 5, 26]] (.seq (.ops r34_6) .ret)) (.pre [.kill [26]] .skip)))) (.ops r34_7))) c := rfl
theorem q34 (c : CSt) : run T r34 c = run T (.seq (.ops r34_0) (.seq (.seq (.ops r34_1) (.cond (.t 10) (.pre [.kill [0, 1, 10]] (.seq (.ops r34_2) .ret)) (.pre [.kill [10]] .skip))) (.seq (.seq (.ops r34_3) (.block 0 (.loop r34_8))) (.seq (.ops r34_9) .ret)))) c := rfl
theorem q35 (c : CSt) : run T r35 c = run T (.seq (.ops r35_0) (.seq (.ops r35_1) .ret)) c := rfl
theorem q36 (c : CSt) : run T r36 c = run T (.seq (.ops r36_0) (.seq (.ops r36_1) (.seq (.ops r36_2) (.seq (.seq (.ops r36_3) (.cond (.t 16) (.pre [.kill [1, 2, 7, 16]] (.seq (.ops r36_4) .ret)) (.pre [.kill [16]] .skip))) (.seq (.ops r36_5) (.seq (.seq (.ops r36_6) (.cond (.t 22) (.pre [.kill [1, 7, 8, 22]] (.seq (.ops r36_7) .ret)) (.pre [.kill [22]] .skip))) (.seq (.seq (.ops r36_8) (.cond (.t 31) (.pre [.kill [31]] (.seq (.ops r36_9) (.seq (.ops r36_10) (.seq (.flt [0, 0, 0, 6, 15, 0, 0, 96, 255] [] r36_11 [0, 1, 7, 46, 47, 48, 49, 50, 51, 52, 53, 54]) (.seq (.ops r36_12) .ret))))) (.pre [.kill [31]] .skip))) (.seq (.ops r36_13) (.seq (.seq (.ops r36_14) (.cond (.t 68) (.pre [.kill [8, 68]] (.seq (.flt [0, 0, 0, 6, 15, 0, 0, 96, 255] [] r36_15 [7, 69, 70, 71, 72, 73, 74, 75, 76, 77]) (.seq (.ops r36_16) (.seq (.ops r36_17) .ret)))) (.pre [.kill [68]] .skip))) (.seq (.ops r36_18) (.seq (.ops r36_19) (.seq (.ops r36_20) .ret)))))))))))) c := rfl
theorem q37 (c : CSt) : run T r37 c = run T (.seq (.ops r37_0) (.seq (.seq (.ops r37_1) (.cond (.t 4) (.pre [.kill [0, 4]] (.seq (.ops r37_2) .ret)) (.pre [.kill [4]] .skip))) (.seq (.ops r37_3) .ret))) c := rfl
theorem q38 (c : CSt) : run T r38 c = run T (.seq (.ops r38_0) (.seq (.flt [0, 0, 0, 7, 0, 0, 32, 112, 255, 511] [113] r38_1 [0, 1, 5, 6, 7, 8, 9, 10, 11, 12, 13]) .ret)) c := rfl
theorem q39_7 (c : CSt) : run T r39_7 c = run T (.post (.seq (.seq (.ops r39_3) (.cond (.t 10) (.pre [.kill [10]] .skip) (.pre [.kill [0, 1, 6, 10]] (.exit 0)))) (.seq (.block 1 (.seq (.ops r39_4) (.cond (.t 19) (.pre [.kill [19]] (.ops r39_5)) (.pre [.kill [19]] .skip)))) (.ops r39_6))) [.tok 5 105]) c := rfl
theorem q39 (c : CSt) : run T r39 c = run T (.seq (.ops r39_0) (.seq (.ops r39_1) (.seq (.seq (.ops r39_2) (.block 0 (.pre [.tok 5 105] (.loop r39_7)))) (.seq (.ops r39_8) .ret)))) c := rfl
theorem q40 (c : CSt) : run T r40 c = run T (.seq (.ops r40_0) (.seq (.ops r40_1) .ret)) c := rfl
theorem q41 (c : CSt) : run T r41 c = run T (.seq (.ops r41_0) (.seq (.ops r41_1) .ret)) c := rfl
theorem q42 (c : CSt) : run T r42 c = run T (.seq (.ops r42_0) (.seq (.ops r42_1) .ret)) c := rfl
theorem q43 (c : CSt) : run T r43 c = run T (.seq (.ops r43_0) (.seq (.ops r43_1) .ret)) c := rfl
theorem q44_8 (c : CSt) : run T r44_8 c = run T (.seq (.seq (.ops r44_5) (.cond (.t 17) (.pre [.kill [17]] .skip) (.pre [.kill [7, 17]] (.exit 2)))) (.seq (.block 3 (.flt [0, 1, 3, 3, 15, 31, 3, 3, 195, 451, 1023, 2047, 4095] [] r44_6 [20, 21, 22, 23, 24, 25, 26, 27, 28, 29, 30, 31])) (.ops r44_7))) c := rfl
theorem q44_12 (c : CSt) : run T r44_12 c = run T (.seq (.seq (.ops r44_2) (.cond (.t 11) (.pre [.kill [11]] .skip) (.pre [.kill [0, 1, 5, 11]] (.exit 0)))) (.seq (.block 1 (.seq (.ops r44_3) (.seq (.seq (.ops r44_4) (.block 2 (.loop r44_8))) (.seq (.ops r44_9) (.cond (.t 33) (.pre [.kill [0, 1, 5, 33]] (.seq (.ops r44_10) .ret)) (.pre [.kill [33]] .skip)))))) (.ops r44_11))) c := rfl
theorem q44 (c : CSt) : run T r44 c = run T (.seq (.ops r44_0) (.seq (.seq (.ops r44_1) (.block 0 (.loop r44_12))) (.seq (.ops r44_13) .ret))) c := rfl
theorem q45_8 (c : CSt) : run T r45_8 c = run T (.seq (.seq (.ops r45_3) (.cond (.t 17) (.pre [.kill [17]] .skip) (.pre [.kill [10, 17]] (.exit 0)))) (.block 1 (.seq (.ops r45_4) (.seq (.ops r45_5) (.cond (.t 31) (.pre [.kill [9, 31]] (.ops r45_6)) (.pre [.kill [10, 31]] (.ops r45_7))))))) c := rfl
theorem q45 (c : CSt) : run T r45 c = run T (.seq (.ops r45_0) (.seq (.ops r45_1) (.seq (.ops r45_2) (.seq (.block 0 (.loop r45_8)) (.seq (.ops r45_9) .ret))))) c := rfl
theorem q46 (c : CSt) : run T r46 c = run T (.seq (.ops r46_0) (.seq (.ops r46_1) .ret)) c := rfl
theorem q47 (c : CSt) : run T r47 c = run T (.seq (.ops r47_0) (.seq (.ops r47_1) (.seq (.ops r47_2) (.seq (.seq (.ops r47_3) (.cond (.t 11) (.pre [.kill [0, 1, 11]] (.seq (.seq (.ops r47_4) (.cond (.t 12) (.pre [.kill [12]] (.seq (.ops r47_5) .ret)) (.pre [.kill [12]] .skip))) (.seq (.ops r47_6) .ret))) (.pre [.kill [11]] .skip))) (.seq (.seq (.ops r47_7) (.cond (.t 13) (.pre [.kill [0, 1, 13]] (.seq (.ops r47_8) .ret)) (.pre [.kill [13]] .skip))) (.seq (.seq (.ops r47_9) (.cond (.t 16) (.pre [.kill [0, 1, 16]] (.seq (.ops r47_10) .ret)) (.pre [.kill [16]] .skip))) (.seq (.seq (.ops r47_11) (.cond (.t 19) (.pre [.kill [19]] (.seq (.ops r47_12) .ret)) (.pre [.kill [19]] .skip))) (.seq (.ops r47_13) .ret)))))))) c := rfl
theorem q49 (c : CSt) : run T r49 c = run T (.ops r49_0) c := rfl
theorem q50_8 (c : CSt) : run T r50_8 c = run T (.seq (.seq (.ops r50_4) (.cond (.t 14) (.pre [.kill [14]] .skip) (.pre [.kill [0, 1, 5, 14]] (.exit 0)))) (.seq (.block 1 (.seq (.flt [0, 0, 3, 7, 0, 0, 48, 112, 255] [] r50_5 [17, 18, 19, 20, 21, 22, 23, 24]) (.cond (.t 25) (.pre [.kill [0, 1, 5, 25]] (.seq (.ops r50_6) .ret)) (.pre [.kill [25]] .skip)))) (.ops r50_7))) c := rfl
theorem q50 (c : CSt) : run T r50 c = run T (.seq (.ops r50_0) (.seq (.seq (.ops r50_1) (.cond (.t 10) (.pre [.kill [0, 1, 10]] (.seq (.ops r50_2) .ret)) (.pre [.kill [10]] .skip))) (.seq (.seq (.ops r50_3) (.block 0 (.loop r50_8))) (.seq (.ops r50_9) .ret)))) c := rfl
theorem q51_8 (c : CSt) : run T r51_8 c = run T (.seq (.seq (.ops r51_3) (.cond (.t 17) (.pre [.kill [17]] .skip) (.pre [.kill [10, 17]] (.exit 0)))) (.block 1 (.seq (.ops r51_4) (.seq (.ops r51_5) (.cond (.t 31) (.pre [.kill [9, 31]] (.ops r51_6)) (.pre [.kill [10, 31]] (.ops r51_7))))))) c := rfl
theorem q51 (c : CSt) : run T r51 c = run T (.seq (.ops r51_0) (.seq (.ops r51_1) (.seq (.ops r51_2) (.seq (.block 0 (.loop r51_8)) (.seq (.ops r51_9) .ret))))) c := rfl
theorem q52 (c : CSt) : run T r52 c = run T (.seq (.ops r52_0) (.seq (.ops r52_1) .ret)) c := rfl
theorem q54 (c : CSt) : run T r54 c = run T (.ops r54_0) c := rfl
theorem q55_7 (c : CSt) : run T r55_7 c = run T (.seq (.ops r55_2) (.seq (.cond (.t 9) (.pre [.kill [9]] .skip) (.pre [.kill [0, 1, 7, 8, 9]] (.exit 0))) (.seq (.block 1 (.seq (.ops r55_3) (.seq (.ops r55_4) (.cond (.t 16) (.pre [.kill [0, 1, 7, 8, 16]] (.seq (.ops r55_5) .ret)) (.pre [.kill [5, 16]] .skip))))) (.ops r55_6)))) c := rfl
theorem q55 (c : CSt) : run T r55 c = run T (.seq (.ops r55_0) (.seq (.seq (.ops r55_1) (.block 0 (.loop r55_7))) (.seq (.ops r55_8) .ret))) c := rfl
theorem q56 (c : CSt) : run T r56 c = run T (.seq (.ops r56_0) (.seq (.ops r56_1) .ret)) c := rfl
theorem q57 (c : CSt) : run T r57 c = run T (.seq (.ops r57_0) (.seq (.ops r57_1) (.ops r57_2))) c := rfl
theorem q58 (c : CSt) : run T r58 c = run T (.seq (.ops r58_0) (.seq (.ops r58_1) (.ops r58_2))) c := rfl
theorem q59_4 (c : CSt) : run T r59_4 c = run T (.seq (.seq (.ops r59_1) (.cond (.t 9) (.pre [.kill [9]] .skip) (.pre [.kill [0, 2, 3, 9]] (.exit 0)))) (.seq (.block 1 (.flt [0, 0, 0, 0, 0, 0, 48, 112, 0, 0, 768, 1792, 4083, 8179, 16383, 32767] [] r59_2 [14, 15, 16, 17, 18, 19, 20, 21, 22, 23, 24, 25, 26, 27])) (.ops r59_3))) c := rfl
theorem q59 (c : CSt) : run T r59 c = run T (.seq (.ops r59_0) (.block 0 (.loop r59_4))) c := rfl
theorem q60_4 (c : CSt) : run T r60_4 c = run T (.seq (.seq (.ops r60_1) (.cond (.t 9) (.pre [.kill [9]] .skip) (.pre [.kill [0, 2, 3, 9]] (.exit 0)))) (.seq (.block 1 (.flt [0, 0, 0, 0, 0, 0, 48, 112, 0, 0, 768, 1792, 4083, 8179, 16383, 32767] [] r60_2 [14, 15, 16, 17, 18, 19, 20, 21, 22, 23, 24, 25, 26, 27])) (.ops r60_3))) c := rfl
theorem q60 (c : CSt) : run T r60 c = run T (.seq (.ops r60_0) (.block 0 (.loop r60_4))) c := rfl
theorem ok_3 : FnOK Try.prog 3 F3 := fnOK_of Try.func3 r3_ok Try.ntmps3 (by kernel_rfl) (by kernel_rfl) (by kernel_rfl)
theorem ok_4 : FnOK Try.prog 4 F4 := fnOK_of Try.func4 r4_ok Try.ntmps4 (by kernel_rfl) (by kernel_rfl) (by kernel_rfl)
theorem ok_5 : FnOK Try.prog 5 F5 := fnOK_of Try.func5 r5_ok Try.ntmps5 (by kernel_rfl) (by kernel_rfl) (by kernel_rfl)
theorem ok_6 : FnOK Try.prog 6 F6 := fnOK_of Try.func6 r6_ok Try.ntmps6 (by kernel_rfl) (by kernel_rfl) (by kernel_rfl)
theorem ok_7 : FnOK Try.prog 7 F7 := fnOK_of Try.func7 r7_ok Try.ntmps7 (by kernel_rfl) (by kernel_rfl) (by kernel_rfl)
theorem ok_8 : FnOK Try.prog 8 F8 := fnOK_of Try.func8 r8_ok Try.ntmps8 (by kernel_rfl) (by kernel_rfl) (by kernel_rfl)
theorem ok_9 : FnOK Try.prog 9 F9 := fnOK_of Try.func9 r9_ok Try.ntmps9 (by kernel_rfl) (by kernel_rfl) (by kernel_rfl)
theorem ok_10 : FnOK Try.prog 10 F10 := fnOK_of Try.func10 r10_ok Try.ntmps10 (by kernel_rfl) (by kernel_rfl) (by kernel_rfl)
theorem ok_11 : FnOK Try.prog 11 F11 := fnOK_of Try.func11 r11_ok Try.ntmps11 (by kernel_rfl) (by kernel_rfl) (by kernel_rfl)
theorem ok_12 : FnOK Try.prog 12 F12 := fnOK_of Try.func12 r12_ok Try.ntmps12 (by kernel_rfl) (by kernel_rfl) (by kernel_rfl)
theorem ok_14 : FnOK Try.prog 14 F14 := fnOK_of Try.func14 r14_ok Try.ntmps14 (by kernel_rfl) (by kernel_rfl) (by kernel_rfl)
theorem ok_15 : FnOK Try.prog 15 F15 := fnOK_of Try.func15 r15_ok Try.ntmps15 (by kernel_rfl) (by kernel_rfl) (by kernel_rfl)
theorem ok_16 : FnOK Try.prog 16 F16 := fnOK_of Try.func16 r16_ok Try.ntmps16 (by kernel_rfl) (by kernel_rfl) (by kernel_rfl)
theorem ok_17 : FnOK Try.prog 17 F17 := fnOK_of Try.func17 r17_ok Try.ntmps17 (by kernel_rfl) (by kernel_rfl) (by kernel_rfl)
theorem ok_19 : FnOK Try.prog 19 F19 := fnOK_of Try.func19 r19_ok Try.ntmps19 (by kernel_rfl) (by kernel_rfl) (by kernel_rfl)
theorem ok_20 : FnOK Try.prog 20 F20 := fnOK_of Try.func20 r20_ok Try.ntmps20 (by kernel_rfl) (by kernel_rfl) (by kernel_rfl)
theorem ok_21 : FnOK Try.prog 21 F21 := fnOK_of Try.func21 r21_ok Try.ntmps21 (by kernel_rfl) (by kernel_rfl) (by kernel_rfl)
theorem ok_22 : FnOK Try.prog 22 F22 := fnOK_of Try.func22 r22_ok Try.ntmps22 (by kernel_rfl) (by kernel_rfl) (by kernel_rfl)
theorem ok_23 : FnOK Try.prog 23 F23 := fnOK_of Try.func23 r23_ok Try.ntmps23 (by kernel_rfl) (by kernel_rfl) (by kernel_rfl)
theorem ok_24 : FnOK Try.prog 24 F24 := fnOK_of Try.func24 r24_ok Try.ntmps24 (by kernel_rfl) (by kernel_rfl) (by kernel_rfl)
theorem ok_25 : FnOK Try.prog 25 F25 := fnOK_of Try.func25 r25_ok Try.ntmps25 (by kernel_rfl) (by kernel_rfl) (by kernel_rfl)
theorem ok_26 : FnOK Try.prog 26 F26 := fnOK_of Try.func26 r26_ok Try.ntmps26 (by kernel_rfl) (by kernel_rfl) (by kernel_rfl)
theorem ok_27 : FnOK Try.prog 27 F27 := fnOK_of Try.func27 r27_ok Try.ntmps27 (by kernel_rfl) (by kernel_rfl) (by kernel_rfl)
theorem ok_28 : FnOK Try.prog 28 F28 := fnOK_of Try.func28 r28_ok Try.ntmps28 (by kernel_rfl) (by kernel_rfl) (by kernel_rfl)
theorem ok_29 : FnOK Try.prog 29 F29 := fnOK_of Try.func29 r29_ok Try.ntmps29 (by kernel_rfl) (by kernel_rfl) (by kernel_rfl)
theorem ok_30 : FnOK Try.prog 30 F30 := fnOK_of Try.func30 r30_ok Try.ntmps30 (by kernel_rfl) (by kernel_rfl) (by kernel_rfl)
theorem ok_31 : FnOK Try.prog 31 F31 := fnOK_of Try.func31 r31_ok Try.ntmps31 (by kernel_rfl) (by kernel_rfl) (by kernel_rfl)
theorem ok_32 : FnOK Try.prog 32 F32 := fnOK_of Try.func32 r32_ok Try.ntmps32 (by kernel_rfl) (by kernel_rfl) (by kernel_rfl)
theorem ok_33 : FnOK Try.prog 33 F33 := fnOK_of Try.func33 r33_ok Try.ntmps33 (by kernel_rfl) (by kernel_rfl) (by kernel_rfl)
theorem ok_34 : FnOK Try.prog 34 F34 := fnOK_of Try.func34 r34_ok Try.ntmps34 (by kernel_rfl) (by kernel_rfl) (by kernel_rfl)
theorem ok_35 : FnOK Try.prog 35 F35 := fnOK_of Try.func35 r35_ok Try.ntmps35 (by kernel_rfl) (by kernel_rfl) (by kernel_rfl)
theorem ok_36 : FnOK Try.prog 36 F36 := fnOK_of Try.func36 r36_ok Try.ntmps36 (by kernel_rfl) (by kernel_rfl) (by kernel_rfl)
theorem ok_37 : FnOK Try.prog 37 F37 := fnOK_of Try.func37 r37_ok Try.ntmps37 (by kernel_rfl) (by kernel_rfl) (by kernel_rfl)
theorem ok_38 : FnOK Try.prog 38 F38 := fnOK_of Try.func38 r38_ok Try.ntmps38 (by kernel_rfl) (by kernel_rfl) (by kernel_rfl)
theorem ok_39 : FnOK Try.prog 39 F39 := fnOK_of Try.func39 r39_ok Try.ntmps39 (by kernel_rfl) (by kernel_rfl) (by kernel_rfl)
theorem ok_40 : FnOK Try.prog 40 F40 := fnOK_of Try.func40 r40_ok Try.ntmps40 (by kernel_rfl) (by kernel_rfl) (by kernel_rfl)
theorem ok_41 : FnOK Try.prog 41 F41 := fnOK_of Try.func41 r41_ok Try.ntmps41 (by kernel_rfl) (by kernel_rfl) (by kernel_rfl)
theorem ok_42 : FnOK Try.prog 42 F42 := fnOK_of Try.func42 r42_ok Try.ntmps42 (by kernel_rfl) (by kernel_rfl) (by kernel_rfl)
theorem ok_43 : FnOK Try.prog 43 F43 := fnOK_of Try.func43 r43_ok Try.ntmps43 (by kernel_rfl) (by kernel_rfl) (by kernel_rfl)
theorem ok_44 : FnOK Try.prog 44 F44 := fnOK_of Try.func44 r44_ok Try.ntmps44 (by kernel_rfl) (by kernel_rfl) (by kernel_rfl)
theorem ok_45 : FnOK Try.prog 45 F45 := fnOK_of Try.func45 r45_ok Try.ntmps45 (by kernel_rfl) (by kernel_rfl) (by kernel_rfl)
theorem ok_46 : FnOK Try.prog 46 F46 := fnOK_of Try.func46 r46_ok Try.ntmps46 (by kernel_rfl) (by kernel_rfl) (by kernel_rfl)
theorem ok_47 : FnOK Try.prog 47 F47 := fnOK_of Try.func47 r47_ok Try.ntmps47 (by kernel_rfl) (by kernel_rfl) (by kernel_rfl)
theorem ok_49 : FnOK Try.prog 49 F49 := fnOK_of Try.func49 r49_ok Try.ntmps49 (by kernel_rfl) (by kernel_rfl) (by kernel_rfl)
theorem ok_50 : FnOK Try.prog 50 F50 := fnOK_of Try.func50 r50_ok Try.ntmps50 (by kernel_rfl) (by kernel_rfl) (by kernel_rfl)
theorem ok_51 : FnOK Try.prog 51 F51 := fnOK_of Try.func51 r51_ok Try.ntmps51 (by kernel_rfl) (by kernel_rfl) (by kernel_rfl)
theorem ok_52 : FnOK Try.prog 52 F52 := fnOK_of Try.func52 r52_ok Try.ntmps52 (by kernel_rfl) (by kernel_rfl) (by kernel_rfl)
theorem ok_54 : FnOK Try.prog 54 F54 := fnOK_of Try.func54 r54_ok Try.ntmps54 (by kernel_rfl) (by kernel_rfl) (by kernel_rfl)
theorem ok_55 : FnOK Try.prog 55 F55 := fnOK_of Try.func55 r55_ok Try.ntmps55 (by kernel_rfl) (by kernel_rfl) (by kernel_rfl)
theorem ok_56 : FnOK Try.prog 56 F56 := fnOK_of Try.func56 r56_ok Try.ntmps56 (by kernel_rfl) (by kernel_rfl) (by kernel_rfl)
theorem ok_57 : FnOK Try.prog 57 F57 := fnOK_of Try.func57 r57_ok Try.ntmps57 (by kernel_rfl) (by kernel_rfl) (by kernel_rfl)
theorem ok_58 : FnOK Try.prog 58 F58 := fnOK_of Try.func58 r58_ok Try.ntmps58 (by kernel_rfl) (by kernel_rfl) (by kernel_rfl)
theorem ok_59 : FnOK Try.prog 59 F59 := fnOK_of Try.func59 r59_ok Try.ntmps59 (by kernel_rfl) (by kernel_rfl) (by kernel_rfl)
theorem ok_60 : FnOK Try.prog 60 F60 := fnOK_of Try.func60 r60_ok Try.ntmps60 (by kernel_rfl) (by kernel_rfl) (by kernel_rfl)
theorem tab_ok : TabOK Try.prog T := by
  intro g b h
  simp only [T] at h
  unfold tabF at h
  split at h
  · cases h; exact ok_3
  · cases h; exact ok_4
  · cases h; exact ok_5
  · cases h; exact ok_6
  · cases h; exact ok_7
  · cases h; exact ok_8
  · cases h; exact ok_9
  · cases h; exact ok_10
  · cases h; exact ok_11
  · cases h; exact ok_12
  · cases h; exact ok_14
  · cases h; exact ok_15
  · cases h; exact ok_16
  · cases h; exact ok_17
  · cases h; exact ok_19
  · cases h; exact ok_20
  · cases h; exact ok_21
  · cases h; exact ok_22
  · cases h; exact ok_23
  · cases h; exact ok_24
  · cases h; exact ok_25
  · cases h; exact ok_26
  · cases h; exact ok_27
  · cases h; exact ok_28
  · cases h; exact ok_29
  · cases h; exact ok_30
  · cases h; exact ok_31
  · cases h; exact ok_32
  · cases h; exact ok_33
  · cases h; exact ok_34
  · cases h; exact ok_35
  · cases h; exact ok_36
  · cases h; exact ok_37
  · cases h; exact ok_38
  · cases h; exact ok_39
  · cases h; exact ok_40
  · cases h; exact ok_41
  · cases h; exact ok_42
  · cases h; exact ok_43
  · cases h; exact ok_44
  · cases h; exact ok_45
  · cases h; exact ok_46
  · cases h; exact ok_47
  · cases h; exact ok_49
  · cases h; exact ok_50
  · cases h; exact ok_51
  · cases h; exact ok_52
  · cases h; exact ok_54
  · cases h; exact ok_55
  · cases h; exact ok_56
  · cases h; exact ok_57
  · cases h; exact ok_58
  · cases h; exact ok_59
  · cases h; exact ok_60
  · cases h; exact Vc.p13_ok
  · cases h; exact Vc.p18_ok
  · cases h
attribute [go_sem] List.mem_cons List.not_mem_nil List.map_append List.append_assoc d_mov d_build d_lit d_litB d_load d_nchk d_bin d_beq d_eqS d_un d_toInt d_toStr d_s2b d_b2s d_mkfn d_slcS d_slcL d_slcA d_faddr d_fld d_iaddrL d_iaddrA d_idxA d_idxS d_ext d_len d_lenC d_cap d_mini d_maxi d_pick d_new d_box d_store apE d_app d_mk d_mkB d_call rd_nil rd_none rd_some gdD_b nd_some nd_none app_val app_new app_wr foot_val foot_new foot_tok foot_wr cpS_some mkS_some mkBS_some valE_some valE_none Foot.quiet noFoot SV.names SObj.names namesO Tok.ids SOp.args storeC List.length_map List.length_append List.length_replicate Int.natCast_nonneg Int.ofNat_lt Int.ofNat_le Int.ofNat_inj run_skip run_ret run_exit run_ops run_drw run_flt w_mov w_build w_lit w_litB w_load w_nchk w_bin w_beq w_eqS w_un w_toInt w_toStr w_s2b w_b2s w_mkfn w_slcS w_slcL w_slcA w_faddr w_fld w_iaddrL w_iaddrA w_idxA w_idxS w_ext w_len w_lenC w_cap w_mini w_maxi w_pick qv_n qv_s qg_b s_some stG_b fl_nil fl_q fl_n fq_s fn_s fg_s gdP_pos fk_nil fk_cons run_seq run_cond run_block run_pre run_post gd_pos putS_some putS_none put_some put_none get_mk look_mk ev_t ev_c ev_f kill_nil kill_cons o_mov o_build o_lit o_litB o_load o_nchk o_bin o_beq o_eqS o_un o_toInt o_toStr o_s2b o_b2s o_mkfn o_slcS o_slcL o_slcA o_faddr o_fld o_iaddrL o_iaddrA o_idxA o_idxS o_ext o_len o_lenC o_cap o_mini o_maxi o_pick o_isnil o_new o_box o_mk o_mkB o_store o_app o_cpy o_call addN_eq addS_some mkE mkBE stC stS_some apS apB apL appT_eq cpC cp2 cpB cpL s_none p_cons ops_nil ops_op ops_grp ops_dir nx_some nx_none pl_nil np_some np_none un_nil un_cons grp_b nx_ite ite_mk ite_tm ite_nil ite_same ite_sint ite_sbool ite_su8 iteV_bool iteV_int iteV_u8 iteV_true iteV_false nrm_some nrm_none nrm_ite sq_n sq_x sq_r sq_none sq_ite cnd_b blk_n blk_r blk_x blk_none blk_ite lp_n lp_x lp_r lp_none lp_ite prD_some psD_n psD_x psD_r psD_none psD_ite dirs_nil dirs_cons dirN_some fin_n fin_r fin_ite nchkC beqC eqsC toStrC s2bC b2sC slcSC2 slcSC slcAC faddrC fldC iaddrLC iaddrAC2 iaddrAC idxAC idxSC extC lenC capC miniC maxiC buildC litC litBC pickC isnilC getT putT delT getO putO delO putK purgeT evL CSt.purge ibinC u8binC sbinC isShift binC loadC optC slcC bytesC rowsC psC Tok.readyC SObj.wf SV.bare SV.bareL tokV tokL tokC tokOb tokObs somes reach looks ixOf obsIds nodupB subB renObL putsO putsK dropK renKs afterC slIds slId_int slId_bool slId_u8 slId_str slId_byt slId_lst slId_nilp slId_undef slId_pp slId_ptr slId_ap slId_agg slId_tup slId_fn slId_psl callV callC_eq callK_t callK_f fastC_s fast2_t fast2_f fast3_t bare_mk small_mk slowC_p slow0_p slow1_s slow2_p slow3_t slow4_s slow5_t fin0_s finP_p fin1_t fin1_f fin2_p fin3_s fin4_p fin5_t oneSV_0 oneSV_1 oneSV_2 callE_s callE2_t callEK_t callEK_f callOW_t callO_c callO1_s callO2_t callO3_s callO4_t callEV_f iteV_dl iteV_dr iteV_tl iteV_tr iteV_nl iteV_nr bif_and bif_or pubAll CSt.publish pubO pubT obPub SV.pub SV.pubL pubSl gcC dirC tokD resC upto zipIx newIx tks initT iniC initC mkLoad cmpSV unSV toIntSV lenSV SV.num slcTok fillSV toB rows eqCell eqCells setRow setCells Tok.eat SV.one SV.data SV.isData SV.cells SV.isDef SV.purge SV.purgeL SObj.purge purgeO dropT Tok.purge SV.ren SV.renL SObj.ren Tok.ren SV.ids SV.idsL SV.toks SV.toksL SObj.ids SObj.toks renO renT inR renOs dropOs id_eq List.length_cons List.length_nil List.cons_append List.nil_append List.append_nil Nat.zero_add Nat.add_zero beq_self_eq_true List.getD_cons_zero List.getD_cons_succ List.getD_nil List.take_succ_cons List.take_zero List.take_nil List.drop_zero List.drop_succ_cons List.drop_nil List.map_cons List.map_nil List.flatten_cons List.flatten_nil List.contains_nil List.contains_cons List.isEmpty_nil List.isEmpty_cons List.all_cons List.all_nil List.set_cons_zero List.set_cons_succ Option.getD_some Option.getD_none Option.map_some Option.map_none Option.toList_some Option.toList_none Option.bind_some Option.isNone_none Option.isNone_some Option.isSome_none Option.isSome_some Bool.or_false Bool.true_or Bool.or_true Bool.false_or Bool.and_self Bool.and_true Bool.true_and Bool.and_false Bool.false_and Bool.not_true Bool.not_false Bool.false_eq_true Bool.true_eq_false Bool.not_eq_true Bool.not_eq_false decide_eq_true_eq decide_eq_false_iff_not and_true true_and and_self or_false false_or or_true true_or not_true_eq_false not_false_eq_true ne_eq Int.toNat_natCast true_implies false_implies implies_true decide_true decide_false Nat.lt_irrefl Nat.not_lt_zero Nat.le_refl Nat.zero_le eq_self and_false false_and
end Go.Proofs.Ytghggnfomlibjaa

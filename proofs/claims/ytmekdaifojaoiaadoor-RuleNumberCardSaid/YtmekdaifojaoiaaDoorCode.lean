/- The resolved code of the functions of this seat, with directions: written by a program out of the translation, checked by the kernel. -/
import Derived.Test.YtmekdaifojaoiaaDoorProg
import Derived.Test.YtmekdaifojaoiaaDoorEd
import Derived.KernelRfl
set_option maxRecDepth 100000
set_option linter.unusedVariables false
namespace Go.Proofs.YtmekdaifojaoiaaDoor
open Go.Sy
/- 3 sealwright/sealwrightlaw31.RuleCheck · params #[23, 24, 3, 3] · tmps 62 · results .tmp 8 -/
def r3_0 : List RI := [.op ⟨some 4, none, .box (.t 0)⟩ [0],
  .op ⟨some 8, none, .mov (.c (.bool false))⟩ [8]]
def r3_1 : List RI := [.op ⟨some 10, none, .call (.f 10) []⟩ [],
  .op ⟨some 11, none, .un .not (.t 10)⟩ [10]]
def r3_2 : List RI := [.op ⟨some 8, none, .mov (.c (.bool false))⟩ []]
def r3_3 : List RI := [.op ⟨some 12, none, .faddr 1 (.t 4)⟩ [],
  .op ⟨some 13, none, .load 1 false (.t 12)⟩ [12],
  .op ⟨some 14, none, .call (.f 11) [(.t 13), (.c (.int .i64 60))]⟩ [13],
  .op ⟨some 15, none, .faddr 1 (.t 4)⟩ [],
  .op ⟨none, none, .store 1 (.t 15) (.t 14)⟩ [14, 15]]
def r3_4 : List RI := [.op ⟨some 16, none, .mov (.t 1)⟩ [1],
  .op ⟨some 17, none, .call (.f 12) [(.t 16), (.c (.int .i64 10))]⟩ [16],
  .op ⟨some 18, none, .call (.f 13) [(.t 17)]⟩ [17],
  .op ⟨some 9, none, .new (.rc [(.int .i64 0), (.str []), (.int .i64 0), (.int .i64 0)])⟩ [],
  .op ⟨none, none, .store 4 (.t 9) (.t 18)⟩ [18]]
def r3_5 : List FI := [⟨0, true, ⟨some 19, none, .load 4 true (.t 4)⟩⟩,
  ⟨2, true, ⟨some 21, none, .load 4 true (.t 4)⟩⟩,
  ⟨1, false, ⟨some 20, none, .call (.f 14) [(.t 19)]⟩⟩,
  ⟨3, false, ⟨some 22, none, .call (.f 15) [(.t 21)]⟩⟩,
  ⟨4, true, ⟨some 23, none, .bin .neq (.t 20) (.t 22)⟩⟩,
  ⟨5, true, ⟨some 24, none, .mov (.t 23)⟩⟩,
  ⟨6, true, ⟨some 25, some (24, false), .load 4 true (.t 9)⟩⟩,
  ⟨7, false, ⟨some 26, some (24, false), .call (.f 14) [(.t 25)]⟩⟩,
  ⟨8, true, ⟨some 27, some (24, false), .bin .neq (.t 26) (.c (.int .i64 0))⟩⟩,
  ⟨9, true, ⟨some 28, none, .pick (.t 24) (.c (.bool true)) (.t 27)⟩⟩]
def r3_6 : List RI := [.op ⟨some 8, none, .mov (.c (.bool false))⟩ []]
def r3_7 : List RI := [.op ⟨some 29, none, .mov (.t 2)⟩ [2],
  .op ⟨some 30, none, .call (.f 16) [(.t 29), (.c (.int .i64 5))]⟩ [29]]
def r3_8 : List RI := [.op ⟨some 38, none, .bin .eql (.t 30) (.c (.int .i64 0))⟩ [],
  .op ⟨some 37, none, .mov (.t 38)⟩ [38]]
def r3_9 : List RI := [.op ⟨some 39, none, .mov (.t 3)⟩ [3],
  .op ⟨some 40, none, .call (.f 16) [(.t 39), (.c (.int .i64 6))]⟩ [39],
  .op ⟨some 41, none, .faddr 0 (.t 9)⟩ [],
  .op ⟨none, none, .store 1 (.t 41) (.t 40)⟩ [40, 41]]
def r3_10 : List RI := [.op ⟨some 43, none, .bin .eql (.t 30) (.c (.int .i64 1))⟩ [],
  .op ⟨some 42, none, .mov (.t 43)⟩ [43]]
def r3_11 : List RI := [.op ⟨some 44, none, .faddr 1 (.t 4)⟩ [4],
  .op ⟨some 45, none, .load 1 false (.t 44)⟩ [44],
  .op ⟨some 46, none, .faddr 1 (.t 9)⟩ [],
  .op ⟨none, none, .store 1 (.t 46) (.t 45)⟩ [45, 46]]
def r3_12 : List RI := [.op ⟨some 48, none, .bin .eql (.t 30) (.c (.int .i64 2))⟩ [],
  .op ⟨some 47, none, .mov (.t 48)⟩ [48]]
def r3_13 : List RI := [.op ⟨some 49, none, .faddr 2 (.t 4)⟩ [4],
  .op ⟨some 50, none, .load 1 false (.t 49)⟩ [49],
  .op ⟨some 51, none, .faddr 2 (.t 9)⟩ [],
  .op ⟨none, none, .store 1 (.t 51) (.t 50)⟩ [50, 51]]
def r3_14 : List RI := [.op ⟨some 53, none, .bin .eql (.t 30) (.c (.int .i64 3))⟩ [30],
  .op ⟨some 52, none, .mov (.t 53)⟩ [53]]
def r3_15 : List RI := [.op ⟨some 54, none, .faddr 3 (.t 4)⟩ [4],
  .op ⟨some 55, none, .load 1 false (.t 54)⟩ [54],
  .op ⟨some 56, none, .faddr 3 (.t 9)⟩ [],
  .op ⟨none, none, .store 1 (.t 56) (.t 55)⟩ [55, 56]]
def r3_16 : List RI := [.op ⟨some 31, none, .faddr 3 (.t 9)⟩ [],
  .op ⟨some 32, none, .load 1 false (.t 31)⟩ [31],
  .op ⟨some 33, none, .faddr 2 (.t 9)⟩ [],
  .op ⟨some 34, none, .load 1 false (.t 33)⟩ [33],
  .op ⟨some 35, none, .faddr 2 (.t 9)⟩ [],
  .op ⟨none, none, .store 1 (.t 35) (.t 32)⟩ [32, 35],
  .op ⟨some 36, none, .faddr 3 (.t 9)⟩ [],
  .op ⟨none, none, .store 1 (.t 36) (.t 34)⟩ [34, 36]]
def r3_17 : List FI := [⟨0, true, ⟨some 57, none, .load 4 true (.t 9)⟩⟩,
  ⟨2, true, ⟨some 59, none, .load 4 true (.t 9)⟩⟩,
  ⟨1, false, ⟨some 58, none, .call (.f 14) [(.t 57)]⟩⟩,
  ⟨3, false, ⟨some 60, none, .call (.f 15) [(.t 59)]⟩⟩,
  ⟨4, true, ⟨some 61, none, .bin .eql (.t 58) (.t 60)⟩⟩,
  ⟨5, true, ⟨some 8, none, .mov (.t 61)⟩⟩]
def r3 : RC := (.seq (.ops r3_0) (.seq (.seq (.ops r3_1) (.cond (.t 11) (.pre [.kill [1, 2, 3, 4, 11]] (.seq (.ops r3_2) .ret)) (.pre [.kill [11]] .skip))) (.seq (.ops r3_3) (.seq (.ops r3_4) (.seq (.seq (.flt [0, 1, 0, 7, 15, 31, 63, 127, 255, 511] [] r3_5 [19, 20, 21, 22, 23, 24, 25, 26, 27]) (.cond (.t 28) (.pre [.kill [2, 3, 4, 9, 28]] (.seq (.ops r3_6) .ret)) (.pre [.kill [28]] .skip))) (.seq (.seq (.ops r3_7) (.block 0 (.seq (.ops r3_8) (.cond (.t 37) (.pre [.kill [4, 30, 37]] (.ops r3_9)) (.pre [.kill [3, 37]] (.seq (.ops r3_10) (.cond (.t 42) (.pre [.kill [30, 42]] (.ops r3_11)) (.pre [.kill [42]] (.seq (.ops r3_12) (.cond (.t 47) (.pre [.kill [30, 47]] (.ops r3_13)) (.pre [.kill [47]] (.seq (.ops r3_14) (.cond (.t 52) (.pre [.kill [52]] (.ops r3_15)) (.pre [.kill [4, 52]] (.ops r3_16))))))))))))))) (.seq (.flt [0, 1, 0, 7, 15, 31] [] r3_17 [9, 57, 58, 59, 60, 61]) .ret)))))))
def F3 : FnC := ⟨r3, 62, [.tmp 8], [], []⟩
theorem r3_ok : ((Tryd.f3).body).map (resB Tryd.prog) = some r3.er := by kernel_rfl
/- 4 sealwright/sealwrightlaw31.GlobMatch · params #[9, 24, 24, 24] · tmps 57 · results .tmp 8 -/
def r4_0 : List RI := [.op ⟨some 8, none, .mov (.c (.bool false))⟩ [8]]
def r4_1 : List RI := [.op ⟨some 11, none, .call (.f 10) []⟩ [],
  .op ⟨some 12, none, .un .not (.t 11)⟩ [11]]
def r4_2 : List RI := [.op ⟨some 8, none, .mov (.c (.bool false))⟩ []]
def r4_3 : List RI := [.op ⟨some 13, none, .mov (.t 0)⟩ [0],
  .op ⟨some 14, none, .call (.f 11) [(.t 13), (.c (.int .i64 60))]⟩ [13],
  .op ⟨some 15, none, .mov (.t 1)⟩ [1],
  .op ⟨some 16, none, .call (.f 17) [(.t 15), (.c (.int .i64 60))]⟩ [15],
  .op ⟨some 0, none, .mov (.t 14)⟩ [14],
  .op ⟨some 1, none, .mov (.t 16)⟩ [16]]
def r4_4 : List RI := [.op ⟨some 17, none, .mov (.t 2)⟩ [2],
  .op ⟨some 18, none, .call (.f 18) [(.t 17), (.c (.int .i64 10))]⟩ [17],
  .op ⟨some 19, none, .mov (.t 3)⟩ [3],
  .op ⟨some 20, none, .call (.f 19) [(.t 19), (.c (.int .i64 12))]⟩ [19],
  .op ⟨some 9, none, .mov (.t 18)⟩ [18],
  .op ⟨some 10, none, .mov (.t 20)⟩ [20]]
def r4_5 : List RI := [.op ⟨some 21, none, .mov (.t 0)⟩ [],
  .op ⟨some 22, none, .mov (.t 1)⟩ [],
  .op ⟨some 23, none, .call (.f 20) [(.t 21), (.t 22)]⟩ [21, 22],
  .op ⟨some 24, none, .mov (.t 0)⟩ [],
  .op ⟨some 25, none, .mov (.t 1)⟩ [],
  .op ⟨some 26, none, .call (.f 21) [(.t 24), (.t 25)]⟩ [24, 25],
  .op ⟨some 27, none, .beq false (.t 23) (.t 26)⟩ [23, 26],
  .op ⟨some 28, none, .mov (.t 27)⟩ [27],
  .grp 28 true [⟨some 29, some (28, true), .mov (.t 9)⟩,
    ⟨some 30, some (28, true), .mov (.t 10)⟩,
    ⟨some 31, some (28, true), .call (.f 20) [(.t 29), (.t 30)]⟩,
    ⟨some 32, some (28, true), .mov (.t 9)⟩,
    ⟨some 33, some (28, true), .mov (.t 10)⟩,
    ⟨some 34, some (28, true), .call (.f 21) [(.t 32), (.t 33)]⟩,
    ⟨some 35, some (28, true), .beq false (.t 31) (.t 34)⟩] [10, 29, 30, 31, 32, 33, 34],
  .op ⟨some 36, none, .pick (.t 28) (.t 35) (.c (.bool false))⟩ [28, 35],
  .op ⟨some 37, none, .mov (.t 36)⟩ [36],
  .grp 37 true [⟨some 38, some (37, true), .mov (.t 0)⟩,
    ⟨some 39, some (37, true), .mov (.t 0)⟩,
    ⟨some 40, some (37, true), .s2b (.t 39)⟩,
    ⟨some 41, some (37, true), .call (.f 20) [(.t 38), (.t 40)]⟩,
    ⟨some 42, some (37, true), .mov (.t 0)⟩,
    ⟨some 43, some (37, true), .mov (.t 0)⟩,
    ⟨some 44, some (37, true), .s2b (.t 43)⟩,
    ⟨some 45, some (37, true), .call (.f 21) [(.t 42), (.t 44)]⟩,
    ⟨some 46, some (37, true), .beq false (.t 41) (.t 45)⟩] [0, 38, 39, 40, 41, 42, 43, 44, 45],
  .op ⟨some 47, none, .pick (.t 37) (.t 46) (.c (.bool false))⟩ [37, 46],
  .op ⟨some 48, none, .mov (.t 47)⟩ [47],
  .grp 48 true [⟨some 49, some (48, true), .mov (.t 9)⟩,
    ⟨some 50, some (48, true), .mov (.t 1)⟩,
    ⟨some 51, some (48, true), .call (.f 20) [(.t 49), (.t 50)]⟩,
    ⟨some 52, some (48, true), .mov (.t 9)⟩,
    ⟨some 53, some (48, true), .mov (.t 1)⟩,
    ⟨some 54, some (48, true), .call (.f 21) [(.t 52), (.t 53)]⟩,
    ⟨some 55, some (48, true), .beq false (.t 51) (.t 54)⟩] [1, 9, 49, 50, 51, 52, 53, 54],
  .op ⟨some 56, none, .pick (.t 48) (.t 55) (.c (.bool false))⟩ [48, 55],
  .op ⟨some 8, none, .mov (.t 56)⟩ [56]]
def r4 : RC := (.seq (.ops r4_0) (.seq (.seq (.ops r4_1) (.cond (.t 12) (.pre [.kill [0, 1, 2, 3, 12]] (.seq (.ops r4_2) .ret)) (.pre [.kill [12]] .skip))) (.seq (.ops r4_3) (.seq (.ops r4_4) (.seq (.ops r4_5) .ret)))))
def F4 : FnC := ⟨r4, 57, [.tmp 8], [], []⟩
theorem r4_ok : ((Tryd.f4).body).map (resB Tryd.prog) = some r4.er := by kernel_rfl
/- 5 sealwright/sealwrightlaw31.GlobReplace · params #[24, 24, 24] · tmps 62 · results .tmp 6 -/
def r5_0 : List RI := [.op ⟨some 6, none, .mov (.c (.bool false))⟩ [6]]
def r5_1 : List RI := [.op ⟨some 14, none, .call (.f 10) []⟩ [],
  .op ⟨some 15, none, .un .not (.t 14)⟩ [14]]
def r5_2 : List RI := [.op ⟨some 6, none, .mov (.c (.bool false))⟩ []]
def r5_3 : List RI := [.op ⟨some 16, none, .mov (.t 0)⟩ [0],
  .op ⟨some 17, none, .call (.f 18) [(.t 16), (.c (.int .i64 12))]⟩ [16],
  .op ⟨some 7, none, .mov (.t 17)⟩ [17]]
def r5_4 : List RI := [.op ⟨some 18, none, .mov (.t 2)⟩ [2],
  .op ⟨some 19, none, .call (.f 12) [(.t 18), (.c (.int .i64 20))]⟩ [18],
  .op ⟨some 8, none, .mov (.t 19)⟩ [19]]
def r5_5 : List RI := [.op ⟨some 9, none, .mov (.c (.byt [] .clip))⟩ []]
def r5_6 : List RI := [.op ⟨some 10, none, .mov (.c (.int .i64 0))⟩ []]
def r5_7 : List RI := [.op ⟨some 11, none, .mov (.c (.int .i64 0))⟩ []]
def r5_8 : List RI := [.op ⟨some 20, none, .mov (.t 11)⟩ [],
  .op ⟨some 21, none, .mov (.t 7)⟩ [],
  .op ⟨some 22, none, .len true (.t 21)⟩ [21],
  .op ⟨some 23, none, .bin .lss (.t 20) (.t 22)⟩ [20, 22]]
def r5_9 : List RI := [.op ⟨some 12, none, .mov (.c (.int .i64 1))⟩ []]
def r5_10 : List RI := [.op ⟨some 26, none, .mov (.t 7)⟩ [],
  .op ⟨some 27, none, .mov (.t 11)⟩ [],
  .op ⟨some 28, none, .idxS (.t 26) (.t 27)⟩ [26, 27]]
def r5_11 : List RI := [.op ⟨some 36, none, .bin .eql (.t 28) (.c (.u8 42))⟩ [],
  .op ⟨some 35, none, .mov (.t 36)⟩ [36]]
def r5_12 : List RI := [.op ⟨some 37, none, .mov (.t 8)⟩ [],
  .op ⟨some 38, none, .call (.f 22) [(.t 37), (.c (.int .i64 4))]⟩ [37],
  .op ⟨some 12, none, .mov (.t 38)⟩ [38]]
def r5_13 : List RI := [.op ⟨some 40, none, .bin .eql (.t 28) (.c (.u8 63))⟩ [28],
  .op ⟨some 39, none, .mov (.t 40)⟩ [40]]
def r5_14 : List RI := [.op ⟨some 29, none, .mov (.t 9)⟩ [9],
  .op ⟨some 30, none, .mov (.t 7)⟩ [],
  .op ⟨some 31, none, .mov (.t 11)⟩ [],
  .op ⟨some 32, none, .idxS (.t 30) (.t 31)⟩ [30, 31],
  .op ⟨some 33, none, .litB [(.t 32)]⟩ [32],
  .op ⟨some 34, none, .app [(.u8 0)] 1 (.t 29) (.t 33)⟩ [29, 33],
  .op ⟨some 9, none, .mov (.t 34)⟩ [34]]
def r5_15 : List RI := [.op ⟨some 41, none, .mov (.t 12)⟩ [],
  .op ⟨some 42, none, .bin .gtr (.t 41) (.c (.int .i64 0))⟩ [41]]
def r5_16 : List RI := [.op ⟨some 13, none, .mov (.c (.u8 98))⟩ []]
def r5_17 : List RI := [.op ⟨some 45, none, .mov (.t 10)⟩ [],
  .op ⟨some 46, none, .mov (.t 1)⟩ [],
  .op ⟨some 47, none, .len false (.t 46)⟩ [46],
  .op ⟨some 48, none, .bin .lss (.t 45) (.t 47)⟩ [45, 47]]
def r5_18 : List RI := [.op ⟨some 49, none, .mov (.t 1)⟩ [],
  .op ⟨some 50, none, .mov (.t 10)⟩ [],
  .op ⟨some 51, none, .iaddrL 1 (.t 49) (.t 50)⟩ [49, 50],
  .op ⟨some 52, none, .load 1 false (.t 51)⟩ [51],
  .op ⟨some 13, none, .mov (.t 52)⟩ [52]]
def r5_19 : List RI := [.op ⟨some 53, none, .mov (.t 10)⟩ [10],
  .op ⟨some 54, none, .bin .add (.t 53) (.c (.int .i64 1))⟩ [53],
  .op ⟨some 10, none, .mov (.t 54)⟩ [54]]
def r5_20 : List RI := [.op ⟨some 55, none, .mov (.t 9)⟩ [9],
  .op ⟨some 56, none, .mov (.t 13)⟩ [13],
  .op ⟨some 57, none, .litB [(.t 56)]⟩ [56],
  .op ⟨some 58, none, .app [(.u8 0)] 1 (.t 55) (.t 57)⟩ [55, 57],
  .op ⟨some 9, none, .mov (.t 58)⟩ [58]]
def r5_21 : List RI := [.op ⟨some 43, none, .mov (.t 12)⟩ [12],
  .op ⟨some 44, none, .bin .sub (.t 43) (.c (.int .i64 1))⟩ [43],
  .op ⟨some 12, none, .mov (.t 44)⟩ [44]]
/- live at the loop's head: [1, 7, 8, 9, 10, 11, 12]; at its end (exits): [(3, [1, 7, 8, 9, 10, 11]), (1, [1, 7, 8, 9, 10, 11]), (0, [7, 9])]; then [1, 7, 8, 9, 10, 11] -/
def r5_22 : RC := (.post (.seq (.seq (.ops r5_15) (.cond (.t 42) (.pre [.kill [42]] .skip) (.pre [.kill [12, 42]] (.exit 3)))) (.seq (.block 4 (.seq (.ops r5_16) (.seq (.seq (.ops r5_17) (.cond (.t 48) (.pre [.kill [13, 48]] (.seq (.ops r5_18) (.ops r5_19))) (.pre [.kill [48]] .skip))) (.ops r5_20)))) (.ops r5_21))) [.tok 9 109])
def r5_23 : List RI := [.op ⟨some 24, none, .mov (.t 11)⟩ [11],
  .op ⟨some 25, none, .bin .add (.t 24) (.c (.int .i64 1))⟩ [24],
  .op ⟨some 11, none, .mov (.t 25)⟩ [25]]
/- live at the loop's head: [1, 7, 8, 9, 10, 11]; at its end (exits): [(0, [7, 9])]; then [7, 9] -/
def r5_24 : RC := (.post (.seq (.seq (.ops r5_8) (.cond (.t 23) (.pre [.kill [23]] .skip) (.pre [.kill [1, 8, 10, 11, 23]] (.exit 0)))) (.seq (.block 1 (.seq (.ops r5_9) (.seq (.seq (.ops r5_10) (.block 2 (.seq (.ops r5_11) (.cond (.t 35) (.pre [.kill [12, 28, 35]] (.ops r5_12)) (.pre [.kill [35]] (.seq (.ops r5_13) (.cond (.t 39) (.pre [.kill [39]] .skip) (.pre [.kill [12, 39]] (.seq (.ops r5_14) (.exit 1)))))))))) (.block 3 (.pre [.tok 9 109] (.loop r5_22)))))) (.ops r5_23))) [.tok 9 109])
def r5_25 : List RI := [.op ⟨some 59, none, .mov (.t 7)⟩ [7],
  .op ⟨some 60, none, .mov (.t 9)⟩ [9],
  .op ⟨some 61, none, .call (.f 20) [(.t 59), (.t 60)]⟩ [59, 60],
  .op ⟨some 6, none, .mov (.t 61)⟩ [61]]
def r5 : RC := (.seq (.ops r5_0) (.seq (.seq (.ops r5_1) (.cond (.t 15) (.pre [.kill [0, 1, 2, 15]] (.seq (.ops r5_2) .ret)) (.pre [.kill [15]] .skip))) (.seq (.ops r5_3) (.seq (.ops r5_4) (.seq (.ops r5_5) (.seq (.ops r5_6) (.seq (.seq (.ops r5_7) (.block 0 (.pre [.tok 9 109] (.loop r5_24)))) (.seq (.ops r5_25) .ret))))))))
def F5 : FnC := ⟨r5, 62, [.tmp 6], [], []⟩
theorem r5_ok : ((Tryd.f5).body).map (resB Tryd.prog) = some r5.er := by kernel_rfl
/- 6 sealwright/sealwrightlaw31.GlobJoin · params #[24, 24, 24, 24, 3] · tmps 112 · results .tmp 10 -/
def r6_0 : List RI := [.op ⟨some 10, none, .mov (.c (.bool false))⟩ [10]]
def r6_1 : List RI := [.op ⟨some 19, none, .call (.f 10) []⟩ [],
  .op ⟨some 20, none, .un .not (.t 19)⟩ [19]]
def r6_2 : List RI := [.op ⟨some 10, none, .mov (.c (.bool false))⟩ []]
def r6_3 : List RI := [.op ⟨some 21, none, .mov (.t 0)⟩ [0],
  .op ⟨some 22, none, .call (.f 18) [(.t 21), (.c (.int .i64 8))]⟩ [21],
  .op ⟨some 23, none, .mov (.t 1)⟩ [1],
  .op ⟨some 24, none, .call (.f 18) [(.t 23), (.c (.int .i64 8))]⟩ [23],
  .op ⟨some 25, none, .mov (.t 2)⟩ [2],
  .op ⟨some 26, none, .call (.f 19) [(.t 25), (.c (.int .i64 8))]⟩ [25],
  .op ⟨some 27, none, .mov (.t 3)⟩ [3],
  .op ⟨some 28, none, .call (.f 19) [(.t 27), (.c (.int .i64 8))]⟩ [27],
  .op ⟨some 11, none, .mov (.t 22)⟩ [22],
  .op ⟨some 12, none, .mov (.t 24)⟩ [24],
  .op ⟨some 13, none, .mov (.t 26)⟩ [26],
  .op ⟨some 14, none, .mov (.t 28)⟩ [28]]
def r6_4 : List RI := [.op ⟨some 29, none, .litB []⟩ [],
  .op ⟨some 30, none, .mov (.t 13)⟩ [],
  .op ⟨some 31, none, .app [(.u8 0)] 1 (.t 29) (.t 30)⟩ [29, 30],
  .op ⟨some 32, none, .mov (.t 14)⟩ [],
  .op ⟨some 33, none, .app [(.u8 0)] 1 (.t 31) (.t 32)⟩ [31, 32],
  .op ⟨some 15, none, .mov (.t 33)⟩ [33]]
def r6_5 : List RI := [.op ⟨some 34, none, .mov (.t 11)⟩ [],
  .op ⟨some 35, none, .mov (.t 13)⟩ [],
  .op ⟨some 36, none, .call (.f 20) [(.t 34), (.t 35)]⟩ [34, 35],
  .op ⟨some 37, none, .mov (.t 36)⟩ [36],
  .grp 37 true [⟨some 38, some (37, true), .mov (.t 12)⟩,
    ⟨some 39, some (37, true), .mov (.t 14)⟩,
    ⟨some 40, some (37, true), .call (.f 20) [(.t 38), (.t 39)]⟩] [14, 38, 39],
  .op ⟨some 41, none, .pick (.t 37) (.t 40) (.c (.bool false))⟩ [37, 40],
  .op ⟨some 42, none, .mov (.t 41)⟩ [41],
  .grp 42 true [⟨some 43, some (42, true), .mov (.t 11)⟩,
    ⟨some 44, some (42, true), .mov (.t 12)⟩,
    ⟨some 45, some (42, true), .bin .add (.t 43) (.t 44)⟩,
    ⟨some 46, some (42, true), .mov (.t 15)⟩,
    ⟨some 47, some (42, true), .call (.f 20) [(.t 45), (.t 46)]⟩,
    ⟨some 48, some (42, true), .un .not (.t 47)⟩] [12, 43, 44, 45, 46, 47],
  .op ⟨some 49, none, .pick (.t 42) (.t 48) (.c (.bool false))⟩ [42, 48],
  .op ⟨some 50, none, .mov (.t 49)⟩ [49],
  .grp 50 false [⟨some 51, some (50, false), .mov (.t 15)⟩,
    ⟨some 52, some (50, false), .call (.f 20) [(.c (.str [42])), (.t 51)]⟩,
    ⟨some 53, some (50, false), .un .not (.t 52)⟩] [15, 51, 52],
  .op ⟨some 54, none, .pick (.t 50) (.c (.bool true)) (.t 53)⟩ [50, 53]]
def r6_6 : List RI := [.op ⟨some 10, none, .mov (.c (.bool false))⟩ []]
def r6_7 : List RI := [.op ⟨some 55, none, .mov (.t 4)⟩ [4],
  .op ⟨some 56, none, .mov (.t 11)⟩ [],
  .op ⟨some 57, none, .len true (.t 56)⟩ [56],
  .op ⟨some 58, none, .bin .add (.t 57) (.c (.int .i64 1))⟩ [57],
  .op ⟨some 59, none, .call (.f 16) [(.t 55), (.t 58)]⟩ [55, 58],
  .op ⟨some 16, none, .mov (.t 59)⟩ [59]]
def r6_8 : List FI := [⟨0, true, ⟨some 60, none, .mov (.t 11)⟩⟩,
  ⟨1, true, ⟨some 61, none, .mov (.t 16)⟩⟩,
  ⟨2, true, ⟨some 62, none, .slcS (.t 60) none (some (.t 61))⟩⟩,
  ⟨3, true, ⟨some 63, none, .bin .add (.t 62) (.c (.str [42]))⟩⟩,
  ⟨4, true, ⟨some 64, none, .mov (.t 11)⟩⟩,
  ⟨5, true, ⟨some 65, none, .mov (.t 16)⟩⟩,
  ⟨6, true, ⟨some 66, none, .slcS (.t 64) (some (.t 65)) none⟩⟩,
  ⟨7, true, ⟨some 67, none, .bin .add (.t 63) (.t 66)⟩⟩,
  ⟨8, true, ⟨some 68, none, .mov (.t 13)⟩⟩,
  ⟨10, true, ⟨some 70, none, .mov (.t 11)⟩⟩,
  ⟨11, true, ⟨some 71, none, .mov (.t 16)⟩⟩,
  ⟨12, true, ⟨some 72, none, .slcS (.t 70) none (some (.t 71))⟩⟩,
  ⟨13, true, ⟨some 73, none, .bin .add (.t 72) (.c (.str [42, 42]))⟩⟩,
  ⟨14, true, ⟨some 74, none, .mov (.t 11)⟩⟩,
  ⟨15, true, ⟨some 75, none, .mov (.t 16)⟩⟩,
  ⟨16, true, ⟨some 76, none, .slcS (.t 74) (some (.t 75)) none⟩⟩,
  ⟨17, true, ⟨some 77, none, .bin .add (.t 73) (.t 76)⟩⟩,
  ⟨18, true, ⟨some 78, none, .mov (.t 13)⟩⟩,
  ⟨9, false, ⟨some 69, none, .call (.f 20) [(.t 67), (.t 68)]⟩⟩,
  ⟨19, false, ⟨some 79, none, .call (.f 20) [(.t 77), (.t 78)]⟩⟩,
  ⟨20, true, ⟨some 80, none, .beq true (.t 69) (.t 79)⟩⟩]
def r6_9 : List RI := [.op ⟨some 10, none, .mov (.c (.bool false))⟩ []]
def r6_10 : List RI := [.op ⟨some 17, none, .mov (.c (.bool true))⟩ []]
def r6_11 : List RI := [.op ⟨some 18, none, .mov (.c (.int .i64 0))⟩ []]
def r6_12 : List RI := [.op ⟨some 81, none, .mov (.t 18)⟩ [],
  .op ⟨some 82, none, .mov (.t 11)⟩ [],
  .op ⟨some 83, none, .len true (.t 82)⟩ [82],
  .op ⟨some 84, none, .bin .lss (.t 81) (.t 83)⟩ [81, 83]]
def r6_13 : List RI := [.op ⟨some 87, none, .mov (.t 17)⟩ [17],
  .op ⟨some 88, none, .mov (.t 87)⟩ [87],
  .grp 88 true [⟨some 89, some (88, true), .mov (.t 11)⟩,
    ⟨some 90, some (88, true), .mov (.t 18)⟩,
    ⟨some 91, some (88, true), .idxS (.t 89) (.t 90)⟩,
    ⟨some 92, some (88, true), .bin .neq (.t 91) (.c (.u8 42))⟩] [89, 90, 91],
  .op ⟨some 93, none, .pick (.t 88) (.t 92) (.c (.bool false))⟩ [88, 92],
  .op ⟨some 94, none, .mov (.t 93)⟩ [93],
  .grp 94 true [⟨some 95, some (94, true), .mov (.t 11)⟩,
    ⟨some 96, some (94, true), .mov (.t 18)⟩,
    ⟨some 97, some (94, true), .idxS (.t 95) (.t 96)⟩,
    ⟨some 98, some (94, true), .bin .neq (.t 97) (.c (.u8 63))⟩] [95, 96, 97],
  .op ⟨some 99, none, .pick (.t 94) (.t 98) (.c (.bool false))⟩ [94, 98],
  .op ⟨some 17, none, .mov (.t 99)⟩ [99]]
def r6_14 : List RI := [.op ⟨some 85, none, .mov (.t 18)⟩ [18],
  .op ⟨some 86, none, .bin .add (.t 85) (.c (.int .i64 1))⟩ [85],
  .op ⟨some 18, none, .mov (.t 86)⟩ [86]]
/- live at the loop's head: [11, 13, 17, 18]; at its end (exits): [(0, [11, 13, 17])]; then [11, 13, 17] -/
def r6_15 : RC := (.seq (.seq (.ops r6_12) (.cond (.t 84) (.pre [.kill [84]] .skip) (.pre [.kill [18, 84]] (.exit 0)))) (.seq (.block 1 (.ops r6_13)) (.ops r6_14)))
def r6_16 : List FI := [⟨0, true, ⟨some 100, none, .mov (.t 17)⟩⟩,
  ⟨1, true, ⟨some 101, none, .un .not (.t 100)⟩⟩,
  ⟨2, true, ⟨some 102, none, .mov (.t 101)⟩⟩,
  ⟨3, true, ⟨some 103, some (102, false), .mov (.t 11)⟩⟩,
  ⟨4, true, ⟨some 104, some (102, false), .mov (.t 13)⟩⟩,
  ⟨6, true, ⟨some 106, some (102, false), .mov (.t 11)⟩⟩,
  ⟨7, true, ⟨some 107, some (102, false), .mov (.t 13)⟩⟩,
  ⟨8, true, ⟨some 108, some (102, false), .b2s (.t 107)⟩⟩,
  ⟨9, true, ⟨some 109, some (102, false), .bin .eql (.t 106) (.t 108)⟩⟩,
  ⟨5, false, ⟨some 105, some (102, false), .call (.f 20) [(.t 103), (.t 104)]⟩⟩,
  ⟨10, true, ⟨some 110, some (102, false), .beq false (.t 105) (.t 109)⟩⟩,
  ⟨11, true, ⟨some 111, none, .pick (.t 102) (.c (.bool true)) (.t 110)⟩⟩,
  ⟨12, true, ⟨some 10, none, .mov (.t 111)⟩⟩]
def r6 : RC := (.seq (.ops r6_0) (.seq (.seq (.ops r6_1) (.cond (.t 20) (.pre [.kill [0, 1, 2, 3, 4, 20]] (.seq (.ops r6_2) .ret)) (.pre [.kill [20]] .skip))) (.seq (.ops r6_3) (.seq (.ops r6_4) (.seq (.seq (.ops r6_5) (.cond (.t 54) (.pre [.kill [4, 11, 13, 54]] (.seq (.ops r6_6) .ret)) (.pre [.kill [54]] .skip))) (.seq (.ops r6_7) (.seq (.seq (.flt [0, 0, 3, 7, 0, 0, 48, 127, 0, 511, 0, 0, 3072, 7168, 0, 0, 49152, 130048, 0, 524287, 1048575] [] r6_8 [16, 60, 61, 62, 63, 64, 65, 66, 67, 68, 69, 70, 71, 72, 73, 74, 75, 76, 77, 78, 79]) (.cond (.t 80) (.pre [.kill [11, 13, 80]] (.seq (.ops r6_9) .ret)) (.pre [.kill [80]] .skip))) (.seq (.ops r6_10) (.seq (.seq (.ops r6_11) (.block 0 (.loop r6_15))) (.seq (.flt [0, 1, 3, 7, 7, 31, 7, 7, 135, 455, 1023, 2047, 4095] [] r6_16 [11, 13, 17, 100, 101, 102, 103, 104, 105, 106, 107, 108, 109, 110, 111]) .ret))))))))))
def F6 : FnC := ⟨r6, 112, [.tmp 10], [], []⟩
theorem r6_ok : ((Tryd.f6).body).map (resB Tryd.prog) = some r6.er := by kernel_rfl
/- 7 sealwright/sealwrightlaw31.GlobWider · params #[24, 24, 3] · tmps 74 · results .tmp 6 -/
def r7_0 : List RI := [.op ⟨some 6, none, .mov (.c (.bool false))⟩ [6]]
def r7_1 : List RI := [.op ⟨some 10, none, .call (.f 10) []⟩ [],
  .op ⟨some 11, none, .un .not (.t 10)⟩ [10]]
def r7_2 : List RI := [.op ⟨some 6, none, .mov (.c (.bool false))⟩ []]
def r7_3 : List RI := [.op ⟨some 12, none, .mov (.t 0)⟩ [0],
  .op ⟨some 13, none, .call (.f 18) [(.t 12), (.c (.int .i64 10))]⟩ [12],
  .op ⟨some 14, none, .mov (.t 1)⟩ [1],
  .op ⟨some 15, none, .call (.f 19) [(.t 14), (.c (.int .i64 10))]⟩ [14],
  .op ⟨some 7, none, .mov (.t 13)⟩ [13],
  .op ⟨some 8, none, .mov (.t 15)⟩ [15]]
def r7_4 : List RI := [.op ⟨some 16, none, .mov (.t 2)⟩ [2],
  .op ⟨some 17, none, .mov (.t 7)⟩ [],
  .op ⟨some 18, none, .len true (.t 17)⟩ [17],
  .op ⟨some 19, none, .bin .add (.t 18) (.c (.int .i64 1))⟩ [18],
  .op ⟨some 20, none, .call (.f 16) [(.t 16), (.t 19)]⟩ [16, 19],
  .op ⟨some 9, none, .mov (.t 20)⟩ [20]]
def r7_5 : List RI := [.op ⟨some 21, none, .mov (.t 7)⟩ [],
  .op ⟨some 22, none, .mov (.t 8)⟩ [],
  .op ⟨some 23, none, .call (.f 20) [(.t 21), (.t 22)]⟩ [21, 22],
  .op ⟨some 24, none, .un .not (.t 23)⟩ [23]]
def r7_6 : List RI := [.op ⟨some 25, none, .mov (.t 7)⟩ [7],
  .op ⟨some 26, none, .mov (.t 8)⟩ [8],
  .op ⟨some 27, none, .call (.f 21) [(.t 25), (.t 26)]⟩ [25, 26],
  .op ⟨some 28, none, .un .not (.t 27)⟩ [27],
  .op ⟨some 6, none, .mov (.t 28)⟩ [28]]
def r7_7 : List FI := [⟨0, true, ⟨some 29, none, .mov (.t 7)⟩⟩,
  ⟨1, true, ⟨some 30, none, .mov (.t 9)⟩⟩,
  ⟨2, true, ⟨some 31, none, .slcS (.t 29) none (some (.t 30))⟩⟩,
  ⟨3, true, ⟨some 32, none, .bin .add (.t 31) (.c (.str [42]))⟩⟩,
  ⟨4, true, ⟨some 33, none, .mov (.t 7)⟩⟩,
  ⟨5, true, ⟨some 34, none, .mov (.t 9)⟩⟩,
  ⟨6, true, ⟨some 35, none, .slcS (.t 33) (some (.t 34)) none⟩⟩,
  ⟨7, true, ⟨some 36, none, .bin .add (.t 32) (.t 35)⟩⟩,
  ⟨8, true, ⟨some 37, none, .mov (.t 8)⟩⟩,
  ⟨9, false, ⟨some 38, none, .call (.f 20) [(.t 36), (.t 37)]⟩⟩,
  ⟨10, true, ⟨some 39, none, .un .not (.t 38)⟩⟩]
def r7_8 : List RI := [.op ⟨some 6, none, .mov (.c (.bool false))⟩ []]
def r7_9 : List RI := [.op ⟨some 40, none, .mov (.t 9)⟩ [],
  .op ⟨some 41, none, .mov (.t 7)⟩ [],
  .op ⟨some 42, none, .len true (.t 41)⟩ [41],
  .op ⟨some 43, none, .bin .eql (.t 40) (.t 42)⟩ [40, 42]]
def r7_10 : List RI := [.op ⟨some 6, none, .mov (.c (.bool true))⟩ []]
def r7_11 : List FI := [⟨0, true, ⟨some 44, none, .mov (.t 7)⟩⟩,
  ⟨1, true, ⟨some 45, none, .mov (.t 9)⟩⟩,
  ⟨2, true, ⟨some 46, none, .slcS (.t 44) none (some (.t 45))⟩⟩,
  ⟨3, true, ⟨some 47, none, .bin .add (.t 46) (.c (.str [42]))⟩⟩,
  ⟨4, true, ⟨some 48, none, .mov (.t 7)⟩⟩,
  ⟨5, true, ⟨some 49, none, .mov (.t 9)⟩⟩,
  ⟨6, true, ⟨some 50, none, .bin .add (.t 49) (.c (.int .i64 1))⟩⟩,
  ⟨7, true, ⟨some 51, none, .slcS (.t 48) (some (.t 50)) none⟩⟩,
  ⟨8, true, ⟨some 52, none, .bin .add (.t 47) (.t 51)⟩⟩,
  ⟨9, true, ⟨some 53, none, .mov (.t 8)⟩⟩,
  ⟨10, false, ⟨some 54, none, .call (.f 20) [(.t 52), (.t 53)]⟩⟩,
  ⟨11, true, ⟨some 55, none, .mov (.t 54)⟩⟩,
  ⟨12, true, ⟨some 56, some (55, true), .mov (.t 7)⟩⟩,
  ⟨13, true, ⟨some 57, some (55, true), .mov (.t 9)⟩⟩,
  ⟨14, true, ⟨some 58, some (55, true), .idxS (.t 56) (.t 57)⟩⟩,
  ⟨15, true, ⟨some 59, some (55, true), .bin .eql (.t 58) (.c (.u8 42))⟩⟩,
  ⟨16, true, ⟨some 60, some (55, true), .mov (.t 59)⟩⟩,
  ⟨17, true, ⟨some 61, some (60, false), .mov (.t 7)⟩⟩,
  ⟨18, true, ⟨some 62, some (60, false), .mov (.t 9)⟩⟩,
  ⟨19, true, ⟨some 63, some (60, false), .slcS (.t 61) none (some (.t 62))⟩⟩,
  ⟨20, true, ⟨some 64, some (60, false), .bin .add (.t 63) (.c (.str [63]))⟩⟩,
  ⟨21, true, ⟨some 65, some (60, false), .mov (.t 7)⟩⟩,
  ⟨22, true, ⟨some 66, some (60, false), .mov (.t 9)⟩⟩,
  ⟨23, true, ⟨some 67, some (60, false), .bin .add (.t 66) (.c (.int .i64 1))⟩⟩,
  ⟨24, true, ⟨some 68, some (60, false), .slcS (.t 65) (some (.t 67)) none⟩⟩,
  ⟨25, true, ⟨some 69, some (60, false), .bin .add (.t 64) (.t 68)⟩⟩,
  ⟨26, true, ⟨some 70, some (60, false), .mov (.t 8)⟩⟩,
  ⟨27, false, ⟨some 71, some (60, false), .call (.f 20) [(.t 69), (.t 70)]⟩⟩,
  ⟨28, true, ⟨some 72, some (55, true), .pick (.t 60) (.c (.bool true)) (.t 71)⟩⟩,
  ⟨29, true, ⟨some 73, none, .pick (.t 55) (.t 72) (.c (.bool false))⟩⟩,
  ⟨30, true, ⟨some 6, none, .mov (.t 73)⟩⟩]
def r7 : RC := (.seq (.ops r7_0) (.seq (.seq (.ops r7_1) (.cond (.t 11) (.pre [.kill [0, 1, 2, 11]] (.seq (.ops r7_2) .ret)) (.pre [.kill [11]] .skip))) (.seq (.ops r7_3) (.seq (.ops r7_4) (.seq (.seq (.ops r7_5) (.cond (.t 24) (.pre [.kill [9, 24]] (.seq (.ops r7_6) .ret)) (.pre [.kill [24]] .skip))) (.seq (.seq (.flt [0, 0, 3, 7, 0, 0, 48, 127, 0, 511, 1023] [] r7_7 [29, 30, 31, 32, 33, 34, 35, 36, 37, 38]) (.cond (.t 39) (.pre [.kill [7, 8, 9, 39]] (.seq (.ops r7_8) .ret)) (.pre [.kill [39]] .skip))) (.seq (.seq (.ops r7_9) (.cond (.t 43) (.pre [.kill [7, 8, 9, 43]] (.seq (.ops r7_10) .ret)) (.pre [.kill [43]] .skip))) (.seq (.flt [0, 0, 3, 7, 0, 0, 32, 112, 255, 0, 1023, 2047, 4095, 4095, 16383, 32767, 65535, 131071, 131071, 524287, 1048575, 131071, 131071, 4325375, 14811135, 33554431, 131071, 134217727, 268435455, 536870911, 1073741823] [] r7_11 [7, 8, 9, 44, 45, 46, 47, 48, 49, 50, 51, 52, 53, 54, 55, 56, 57, 58, 59, 60, 61, 62, 63, 64, 65, 66, 67, 68, 69, 70, 71, 72, 73]) .ret))))))))
def F7 : FnC := ⟨r7, 74, [.tmp 6], [], []⟩
theorem r7_ok : ((Tryd.f7).body).map (resB Tryd.prog) = some r7.er := by kernel_rfl
/- 8 sealwright/sealwrightlaw31.RuleAllows · params #[23, 24, 24, 24] · tmps 52 · results .tmp 8 -/
def r8_0 : List RI := [.op ⟨some 4, none, .box (.t 0)⟩ [0],
  .op ⟨some 8, none, .mov (.c (.bool false))⟩ [8]]
def r8_1 : List RI := [.op ⟨some 12, none, .call (.f 10) []⟩ [],
  .op ⟨some 13, none, .un .not (.t 12)⟩ [12]]
def r8_2 : List RI := [.op ⟨some 8, none, .mov (.c (.bool false))⟩ []]
def r8_3 : List RI := [.op ⟨some 14, none, .faddr 1 (.t 4)⟩ [],
  .op ⟨some 15, none, .load 1 false (.t 14)⟩ [14],
  .op ⟨some 16, none, .call (.f 11) [(.t 15), (.c (.int .i64 60))]⟩ [15],
  .op ⟨some 17, none, .mov (.t 1)⟩ [1],
  .op ⟨some 18, none, .call (.f 17) [(.t 17), (.c (.int .i64 60))]⟩ [17],
  .op ⟨some 19, none, .faddr 1 (.t 4)⟩ [],
  .op ⟨none, none, .store 1 (.t 19) (.t 16)⟩ [16, 19],
  .op ⟨some 1, none, .mov (.t 18)⟩ [18]]
def r8_4 : List RI := [.op ⟨some 20, none, .mov (.t 2)⟩ [2],
  .op ⟨some 21, none, .call (.f 12) [(.t 20), (.c (.int .i64 10))]⟩ [20],
  .op ⟨some 9, none, .mov (.t 21)⟩ [21]]
def r8_5 : List RI := [.op ⟨some 22, none, .mov (.t 9)⟩ [9],
  .op ⟨some 23, none, .call (.f 13) [(.t 22)]⟩ [22],
  .op ⟨some 10, none, .new (.rc [(.int .i64 0), (.str []), (.int .i64 0), (.int .i64 0)])⟩ [],
  .op ⟨none, none, .store 4 (.t 10) (.t 23)⟩ [23]]
def r8_6 : List RI := [.op ⟨some 24, none, .mov (.t 3)⟩ [3],
  .op ⟨some 25, none, .call (.f 12) [(.t 24), (.c (.int .i64 4))]⟩ [24],
  .op ⟨some 26, none, .call (.f 23) [(.t 25)]⟩ [25],
  .op ⟨some 11, none, .mov (.t 26)⟩ [26]]
def r8_7 : List FI := [⟨0, true, ⟨some 27, none, .load 4 true (.t 4)⟩⟩,
  ⟨1, true, ⟨some 28, none, .mov (.t 1)⟩⟩,
  ⟨3, true, ⟨some 30, none, .load 4 true (.t 4)⟩⟩,
  ⟨4, true, ⟨some 31, none, .mov (.t 1)⟩⟩,
  ⟨2, false, ⟨some 29, none, .call (.f 24) [(.t 27), (.t 28)]⟩⟩,
  ⟨5, false, ⟨some 32, none, .call (.f 25) [(.t 30), (.t 31)]⟩⟩,
  ⟨6, true, ⟨some 33, none, .beq false (.t 29) (.t 32)⟩⟩,
  ⟨7, true, ⟨some 34, none, .mov (.t 33)⟩⟩,
  ⟨8, true, ⟨some 35, some (34, true), .load 4 true (.t 10)⟩⟩,
  ⟨9, true, ⟨some 36, some (34, true), .mov (.t 1)⟩⟩,
  ⟨11, true, ⟨some 38, some (34, true), .load 4 true (.t 10)⟩⟩,
  ⟨12, true, ⟨some 39, some (34, true), .mov (.t 1)⟩⟩,
  ⟨10, false, ⟨some 37, some (34, true), .call (.f 24) [(.t 35), (.t 36)]⟩⟩,
  ⟨13, false, ⟨some 40, some (34, true), .call (.f 25) [(.t 38), (.t 39)]⟩⟩,
  ⟨14, true, ⟨some 41, some (34, true), .beq false (.t 37) (.t 40)⟩⟩,
  ⟨15, true, ⟨some 42, none, .pick (.t 34) (.t 41) (.c (.bool false))⟩⟩,
  ⟨16, true, ⟨some 43, none, .mov (.t 42)⟩⟩,
  ⟨17, true, ⟨some 44, some (43, true), .load 4 true (.t 10)⟩⟩,
  ⟨18, true, ⟨some 45, some (43, true), .mov (.t 11)⟩⟩,
  ⟨20, true, ⟨some 47, some (43, true), .load 4 true (.t 10)⟩⟩,
  ⟨21, true, ⟨some 48, some (43, true), .mov (.t 11)⟩⟩,
  ⟨19, false, ⟨some 46, some (43, true), .call (.f 24) [(.t 44), (.t 45)]⟩⟩,
  ⟨22, false, ⟨some 49, some (43, true), .call (.f 25) [(.t 47), (.t 48)]⟩⟩,
  ⟨23, true, ⟨some 50, some (43, true), .beq false (.t 46) (.t 49)⟩⟩,
  ⟨24, true, ⟨some 51, none, .pick (.t 43) (.t 50) (.c (.bool false))⟩⟩,
  ⟨25, true, ⟨some 8, none, .mov (.t 51)⟩⟩]
def r8 : RC := (.seq (.ops r8_0) (.seq (.seq (.ops r8_1) (.cond (.t 13) (.pre [.kill [1, 2, 3, 4, 13]] (.seq (.ops r8_2) .ret)) (.pre [.kill [13]] .skip))) (.seq (.ops r8_3) (.seq (.ops r8_4) (.seq (.ops r8_5) (.seq (.ops r8_6) (.seq (.flt [0, 0, 3, 0, 0, 31, 63, 127, 255, 255, 1023, 255, 255, 8191, 16383, 32767, 65535, 131071, 131071, 524287, 131071, 131071, 4194303, 8388607, 16777215, 33554431] [] r8_7 [1, 4, 10, 11, 27, 28, 29, 30, 31, 32, 33, 34, 35, 36, 37, 38, 39, 40, 41, 42, 43, 44, 45, 46, 47, 48, 49, 50, 51]) .ret)))))))
def F8 : FnC := ⟨r8, 52, [.tmp 8], [], []⟩
theorem r8_ok : ((Tryd.f8).body).map (resB Tryd.prog) = some r8.er := by kernel_rfl
/- 9 sealwright/sealwrightlaw31.RuleNumber · params #[9, 3, 3, 3, 3] · tmps 108 · results .tmp 10 -/
def r9_0 : List RI := [.op ⟨some 10, none, .mov (.c (.bool false))⟩ [10]]
def r9_1 : List RI := [.op ⟨some 18, none, .call (.f 10) []⟩ [],
  .op ⟨some 19, none, .un .not (.t 18)⟩ [18]]
def r9_2 : List RI := [.op ⟨some 10, none, .mov (.c (.bool false))⟩ []]
def r9_3 : List RI := [.op ⟨some 20, none, .mov (.t 0)⟩ [0],
  .op ⟨some 21, none, .call (.f 11) [(.t 20), (.c (.int .i64 20))]⟩ [20],
  .own ⟨some 22, none, .s2b (.t 21)⟩ [21],
  .op ⟨some 11, none, .mov (.t 22)⟩ [22]]
def r9_4 : List RI := [.op ⟨some 12, none, .mov (.c (.int .i64 0))⟩ []]
def r9_5 : List RI := [.op ⟨some 23, none, .mov (.t 12)⟩ [],
  .op ⟨some 24, none, .mov (.t 11)⟩ [],
  .op ⟨some 25, none, .len false (.t 24)⟩ [24],
  .op ⟨some 26, none, .bin .lss (.t 23) (.t 25)⟩ [23, 25]]
def r9_6 : List RI := [.op ⟨some 29, none, .mov (.t 11)⟩ [],
  .op ⟨some 30, none, .mov (.t 12)⟩ [],
  .op ⟨some 31, none, .mov (.t 11)⟩ [],
  .op ⟨some 32, none, .mov (.t 12)⟩ [],
  .op ⟨some 33, none, .iaddrL 1 (.t 31) (.t 32)⟩ [31, 32],
  .op ⟨some 34, none, .load 1 false (.t 33)⟩ [33],
  .op ⟨some 35, none, .bin .rem (.t 34) (.c (.u8 95))⟩ [34],
  .op ⟨some 36, none, .bin .add (.c (.u8 32)) (.t 35)⟩ [35],
  .op ⟨some 37, none, .iaddrL 1 (.t 29) (.t 30)⟩ [29, 30],
  .op ⟨none, none, .store 1 (.t 37) (.t 36)⟩ [36, 37]]
def r9_7 : List RI := [.op ⟨some 27, none, .mov (.t 12)⟩ [12],
  .op ⟨some 28, none, .bin .add (.t 27) (.c (.int .i64 1))⟩ [27],
  .op ⟨some 12, none, .mov (.t 28)⟩ [28]]
/- live at the loop's head: [1, 2, 3, 4, 11, 12]; at its end (exits): [(0, [1, 2, 3, 4, 11])]; then [1, 2, 3, 4, 11] -/
def r9_8 : RC := (.seq (.seq (.ops r9_5) (.cond (.t 26) (.pre [.kill [26]] .skip) (.pre [.kill [12, 26]] (.exit 0)))) (.seq (.block 1 (.ops r9_6)) (.ops r9_7)))
def r9_9 : List RI := [.op ⟨some 38, none, .mov (.t 1)⟩ [1],
  .op ⟨some 39, none, .call (.f 16) [(.t 38), (.c (.int .i64 2000))]⟩ [38],
  .op ⟨some 40, none, .mov (.t 2)⟩ [2],
  .op ⟨some 41, none, .call (.f 16) [(.t 40), (.c (.int .i64 1000000001))]⟩ [40],
  .op ⟨some 42, none, .mov (.t 3)⟩ [3],
  .op ⟨some 43, none, .call (.f 16) [(.t 42), (.c (.int .i64 3000))]⟩ [42],
  .op ⟨some 1, none, .mov (.t 39)⟩ [39],
  .op ⟨some 2, none, .mov (.t 41)⟩ [41],
  .op ⟨some 3, none, .mov (.t 43)⟩ [43]]
def r9_10 : List RI := [.op ⟨some 44, none, .mov (.t 4)⟩ [],
  .op ⟨some 45, none, .bin .and (.t 44) (.c (.int .i64 4))⟩ [44],
  .op ⟨some 46, none, .bin .eql (.t 45) (.c (.int .i64 4))⟩ [45]]
def r9_11 : List RI := [.op ⟨some 47, none, .mov (.t 2)⟩ [],
  .op ⟨some 3, none, .mov (.t 47)⟩ [47]]
def r9_12 : List RI := [.op ⟨some 48, none, .mov (.t 11)⟩ [],
  .op ⟨some 49, none, .b2s (.t 48)⟩ [48],
  .op ⟨some 50, none, .mov (.t 1)⟩ [1],
  .op ⟨some 51, none, .mov (.t 2)⟩ [],
  .op ⟨some 52, none, .mini (.t 50) (.t 51)⟩ [50, 51],
  .op ⟨some 53, none, .mov (.t 2)⟩ [2],
  .op ⟨some 54, none, .build [(.int .i64 0), (.str []), (.int .i64 0), (.int .i64 0)] [(0, 1, (.c (.int .i64 4))), (1, 1, (.t 49)), (2, 1, (.t 52)), (3, 1, (.t 53))]⟩ [49, 52, 53],
  .op ⟨some 13, none, .new (.rc [(.int .i64 0), (.str []), (.int .i64 0), (.int .i64 0)])⟩ [],
  .op ⟨none, none, .store 4 (.t 13) (.t 54)⟩ [54]]
def r9_13 : List RI := [.op ⟨some 14, none, .mov (.c (.byt [] .clip))⟩ []]
def r9_14 : List RI := [.op ⟨some 55, none, .mov (.t 4)⟩ [4],
  .op ⟨some 56, none, .call (.f 16) [(.t 55), (.c (.int .i64 3))]⟩ [55],
  .op ⟨some 15, none, .mov (.t 56)⟩ [56]]
def r9_15 : List RI := [.op ⟨some 57, none, .mov (.t 15)⟩ [],
  .op ⟨some 58, none, .bin .gtr (.t 57) (.c (.int .i64 0))⟩ [57]]
def r9_16 : List RI := [.op ⟨some 61, none, .mov (.t 14)⟩ [14],
  .op ⟨some 62, none, .litB [(.c (.u8 48))]⟩ [],
  .op ⟨some 63, none, .app [(.u8 0)] 1 (.t 61) (.t 62)⟩ [61, 62],
  .op ⟨some 14, none, .mov (.t 63)⟩ [63]]
def r9_17 : List RI := [.op ⟨some 59, none, .mov (.t 15)⟩ [15],
  .op ⟨some 60, none, .bin .sub (.t 59) (.c (.int .i64 1))⟩ [59],
  .op ⟨some 15, none, .mov (.t 60)⟩ [60]]
/- live at the loop's head: [3, 11, 13, 14, 15]; at its end (exits): [(2, [3, 11, 13, 14])]; then [3, 11, 13, 14] -/
def r9_18 : RC := (.post (.seq (.seq (.ops r9_15) (.cond (.t 58) (.pre [.kill [58]] .skip) (.pre [.kill [15, 58]] (.exit 2)))) (.seq (.block 3 (.ops r9_16)) (.ops r9_17))) [.tok 14 114])
def r9_19 : List RI := [.op ⟨some 64, none, .mov (.t 14)⟩ [],
  .op ⟨some 65, none, .len false (.t 64)⟩ [64],
  .op ⟨some 66, none, .bin .gtr (.t 65) (.c (.int .i64 0))⟩ [65],
  .op ⟨some 16, none, .mov (.t 66)⟩ [66]]
def r9_20 : List RI := [.op ⟨some 67, none, .mov (.t 14)⟩ [14],
  .op ⟨some 68, none, .mov (.t 3)⟩ [],
  .op ⟨some 69, none, .call (.f 26) [(.t 68)]⟩ [68],
  .op ⟨some 70, none, .app [(.u8 0)] 1 (.t 67) (.t 69)⟩ [67, 69],
  .op ⟨some 14, none, .mov (.t 70)⟩ [70]]
def r9_21 : List RI := [.op ⟨some 71, none, .litB []⟩ [],
  .op ⟨some 72, none, .mov (.t 11)⟩ [],
  .op ⟨some 73, none, .app [(.u8 0)] 1 (.t 71) (.t 72)⟩ [71, 72],
  .op ⟨some 74, none, .mov (.t 14)⟩ [14],
  .op ⟨some 75, none, .app [(.u8 0)] 1 (.t 73) (.t 74)⟩ [73, 74],
  .op ⟨some 17, none, .mov (.t 75)⟩ [75]]
def r9_22 : List FI := [⟨0, true, ⟨some 76, none, .load 4 true (.t 13)⟩⟩,
  ⟨1, true, ⟨some 77, none, .mov (.t 17)⟩⟩,
  ⟨3, true, ⟨some 79, none, .mov (.t 16)⟩⟩,
  ⟨4, true, ⟨some 80, none, .un .not (.t 79)⟩⟩,
  ⟨2, false, ⟨some 78, none, .call (.f 24) [(.t 76), (.t 77)]⟩⟩,
  ⟨5, true, ⟨some 81, none, .mov (.t 80)⟩⟩,
  ⟨6, true, ⟨some 82, some (81, true), .mov (.t 3)⟩⟩,
  ⟨7, true, ⟨some 83, some (81, true), .faddr 2 (.t 13)⟩⟩,
  ⟨8, true, ⟨some 84, some (81, true), .load 1 false (.t 83)⟩⟩,
  ⟨9, true, ⟨some 85, some (81, true), .bin .geq (.t 82) (.t 84)⟩⟩,
  ⟨10, true, ⟨some 86, none, .pick (.t 81) (.t 85) (.c (.bool false))⟩⟩,
  ⟨11, true, ⟨some 87, none, .mov (.t 86)⟩⟩,
  ⟨12, true, ⟨some 88, some (87, true), .mov (.t 3)⟩⟩,
  ⟨13, true, ⟨some 89, some (87, true), .faddr 3 (.t 13)⟩⟩,
  ⟨14, true, ⟨some 90, some (87, true), .load 1 false (.t 89)⟩⟩,
  ⟨15, true, ⟨some 91, some (87, true), .bin .leq (.t 88) (.t 90)⟩⟩,
  ⟨16, true, ⟨some 92, none, .pick (.t 87) (.t 91) (.c (.bool false))⟩⟩,
  ⟨17, true, ⟨some 93, none, .beq false (.t 78) (.t 92)⟩⟩,
  ⟨18, true, ⟨some 94, none, .mov (.t 93)⟩⟩,
  ⟨19, true, ⟨some 95, some (94, true), .load 4 true (.t 13)⟩⟩,
  ⟨20, true, ⟨some 96, some (94, true), .mov (.t 17)⟩⟩,
  ⟨21, true, ⟨some 97, some (94, true), .litB [(.c (.u8 32))]⟩⟩,
  ⟨22, false, ⟨some 98, some (94, true), .app [(.u8 0)] 1 (.t 96) (.t 97)⟩⟩,
  ⟨23, false, ⟨some 99, some (94, true), .call (.f 24) [(.t 95), (.t 98)]⟩⟩,
  ⟨24, true, ⟨some 100, some (94, true), .un .not (.t 99)⟩⟩,
  ⟨25, true, ⟨some 101, none, .pick (.t 94) (.t 100) (.c (.bool false))⟩⟩,
  ⟨26, true, ⟨some 102, none, .mov (.t 101)⟩⟩,
  ⟨27, true, ⟨some 103, some (102, true), .load 4 true (.t 13)⟩⟩,
  ⟨28, true, ⟨some 104, some (102, true), .mov (.t 11)⟩⟩,
  ⟨29, false, ⟨some 105, some (102, true), .call (.f 24) [(.t 103), (.t 104)]⟩⟩,
  ⟨30, true, ⟨some 106, some (102, true), .un .not (.t 105)⟩⟩,
  ⟨31, true, ⟨some 107, none, .pick (.t 102) (.t 106) (.c (.bool false))⟩⟩,
  ⟨32, true, ⟨some 10, none, .mov (.t 107)⟩⟩]
def r9 : RC := (.seq (.ops r9_0) (.seq (.seq (.ops r9_1) (.cond (.t 19) (.pre [.kill [0, 1, 2, 3, 4, 19]] (.seq (.ops r9_2) .ret)) (.pre [.kill [19]] .skip))) (.seq (.ops r9_3) (.seq (.seq (.ops r9_4) (.block 0 (.loop r9_8))) (.seq (.ops r9_9) (.seq (.seq (.ops r9_10) (.cond (.t 46) (.pre [.kill [3, 46]] (.ops r9_11)) (.pre [.kill [46]] .skip))) (.seq (.ops r9_12) (.seq (.ops r9_13) (.seq (.seq (.ops r9_14) (.block 2 (.pre [.tok 14 114] (.loop r9_18)))) (.seq (.ops r9_19) (.seq (.ops r9_20) (.seq (.ops r9_21) (.seq (.flt [0, 0, 3, 0, 8, 31, 63, 63, 191, 511, 1023, 2047, 4095, 4095, 12287, 32767, 65535, 131071, 262143, 524287, 524287, 524287, 3670015, 8388607, 16777215, 33554431, 67108863, 134217727, 134217727, 536870911, 1073741823, 2147483647, 4294967295] [198] r9_22 [3, 11, 13, 16, 17, 76, 77, 78, 79, 80, 81, 82, 83, 84, 85, 86, 87, 88, 89, 90, 91, 92, 93, 94, 95, 96, 97, 98, 99, 100, 101, 102, 103, 104, 105, 106, 107]) .ret)))))))))))))
def F9 : FnC := ⟨r9, 108, [.tmp 10], [], []⟩
theorem r9_ok : ((Tryd.f9).body).map (resB Tryd.prog) = some r9.er := by kernel_rfl
/- 10 sealwright/sealwrightlaw31.awake · params #[] · tmps 49 · results .tmp 0 -/
def r10_0 : List RI := [.op ⟨some 0, none, .mov (.c (.bool false))⟩ [0]]
def r10_1 : List RI := [.op ⟨some 2, none, .build [(.int .i64 0), (.str []), (.int .i64 0), (.int .i64 0)] [(0, 1, (.c (.int .i64 4))), (1, 1, (.c (.str [99, 111, 117, 110, 116, 61]))), (2, 1, (.c (.int .i64 3))), (3, 1, (.c (.int .i64 10)))]⟩ [],
  .op ⟨some 1, none, .new (.rc [(.int .i64 0), (.str []), (.int .i64 0), (.int .i64 0)])⟩ [],
  .op ⟨none, none, .store 4 (.t 1) (.t 2)⟩ [2]]
def r10_2 : List RI := [.op ⟨some 3, none, .newB [(.c (.u8 97)), (.c (.u8 98)), (.c (.u8 99)), (.c (.u8 100))]⟩ [],
  .op ⟨some 4, none, .slid (.t 3)⟩ [3],
  .op ⟨some 5, none, .call (.f 20) [(.c (.str [97, 42, 99, 63])), (.t 4)]⟩ [4],
  .op ⟨some 6, none, .mov (.t 5)⟩ [5],
  .grp 6 true [⟨some 7, some (6, true), .newB [(.c (.u8 97)), (.c (.u8 99)), (.c (.u8 100))]⟩,
    ⟨some 8, some (6, true), .slid (.t 7)⟩,
    ⟨some 9, some (6, true), .call (.f 20) [(.c (.str [97, 42, 99, 63])), (.t 8)]⟩] [7, 8],
  .op ⟨some 10, none, .pick (.t 6) (.t 9) (.c (.bool false))⟩ [6, 9],
  .op ⟨some 11, none, .mov (.t 10)⟩ [10],
  .grp 11 true [⟨some 12, some (11, true), .newB [(.c (.u8 97)), (.c (.u8 99))]⟩,
    ⟨some 13, some (11, true), .slid (.t 12)⟩,
    ⟨some 14, some (11, true), .call (.f 20) [(.c (.str [97, 42, 99, 63])), (.t 13)]⟩,
    ⟨some 15, some (11, true), .un .not (.t 14)⟩] [12, 13, 14],
  .op ⟨some 16, none, .pick (.t 11) (.t 15) (.c (.bool false))⟩ [11, 15],
  .op ⟨some 17, none, .mov (.t 16)⟩ [16],
  .grp 17 true [⟨some 18, some (17, true), .load 4 true (.t 1)⟩,
    ⟨some 19, some (17, true), .call (.f 14) [(.t 18)]⟩,
    ⟨some 20, some (17, true), .bin .eql (.t 19) (.c (.int .i64 0))⟩] [18, 19],
  .op ⟨some 21, none, .pick (.t 17) (.t 20) (.c (.bool false))⟩ [17, 20],
  .op ⟨some 22, none, .mov (.t 21)⟩ [21],
  .grp 22 true [⟨some 23, some (22, true), .load 4 true (.t 1)⟩,
    ⟨some 24, some (22, true), .newB [(.c (.u8 99)), (.c (.u8 111)), (.c (.u8 117)), (.c (.u8 110)), (.c (.u8 116)), (.c (.u8 61)), (.c (.u8 49)), (.c (.u8 48))]⟩,
    ⟨some 25, some (22, true), .slid (.t 24)⟩,
    ⟨some 26, some (22, true), .call (.f 24) [(.t 23), (.t 25)]⟩] [23, 24, 25],
  .op ⟨some 27, none, .pick (.t 22) (.t 26) (.c (.bool false))⟩ [22, 26],
  .op ⟨some 28, none, .mov (.t 27)⟩ [27],
  .grp 28 true [⟨some 29, some (28, true), .load 4 true (.t 1)⟩,
    ⟨some 30, some (28, true), .newB [(.c (.u8 99)), (.c (.u8 111)), (.c (.u8 117)), (.c (.u8 110)), (.c (.u8 116)), (.c (.u8 61)), (.c (.u8 48)), (.c (.u8 51))]⟩,
    ⟨some 31, some (28, true), .slid (.t 30)⟩,
    ⟨some 32, some (28, true), .call (.f 24) [(.t 29), (.t 31)]⟩,
    ⟨some 33, some (28, true), .un .not (.t 32)⟩] [29, 30, 31, 32],
  .op ⟨some 34, none, .pick (.t 28) (.t 33) (.c (.bool false))⟩ [28, 33],
  .op ⟨some 35, none, .mov (.t 34)⟩ [34],
  .grp 35 true [⟨some 36, some (35, true), .load 4 true (.t 1)⟩,
    ⟨some 37, some (35, true), .newB [(.c (.u8 99)), (.c (.u8 111)), (.c (.u8 117)), (.c (.u8 110)), (.c (.u8 116)), (.c (.u8 61)), (.c (.u8 49)), (.c (.u8 49))]⟩,
    ⟨some 38, some (35, true), .slid (.t 37)⟩,
    ⟨some 39, some (35, true), .call (.f 24) [(.t 36), (.t 38)]⟩,
    ⟨some 40, some (35, true), .un .not (.t 39)⟩] [36, 37, 38, 39],
  .op ⟨some 41, none, .pick (.t 35) (.t 40) (.c (.bool false))⟩ [35, 40],
  .op ⟨some 42, none, .mov (.t 41)⟩ [41],
  .grp 42 true [⟨some 43, some (42, true), .load 4 true (.t 1)⟩,
    ⟨some 44, some (42, true), .newB [(.c (.u8 99)), (.c (.u8 111)), (.c (.u8 117)), (.c (.u8 110)), (.c (.u8 116)), (.c (.u8 61))]⟩,
    ⟨some 45, some (42, true), .slid (.t 44)⟩,
    ⟨some 46, some (42, true), .call (.f 24) [(.t 43), (.t 45)]⟩,
    ⟨some 47, some (42, true), .un .not (.t 46)⟩] [1, 43, 44, 45, 46],
  .op ⟨some 48, none, .pick (.t 42) (.t 47) (.c (.bool false))⟩ [42, 47],
  .op ⟨some 0, none, .mov (.t 48)⟩ [48]]
def r10 : RC := (.seq (.ops r10_0) (.seq (.ops r10_1) (.seq (.ops r10_2) .ret)))
def F10 : FnC := ⟨r10, 49, [.tmp 0], [], []⟩
theorem r10_ok : ((Tryd.f10).body).map (resB Tryd.prog) = some r10.er := by kernel_rfl
/- 11 sealwright/sealwrightlaw31.short · params #[9, 3] · tmps 13 · results .tmp 4 -/
def r11_0 : List RI := [.op ⟨some 4, none, .mov (.c (.str []))⟩ [4]]
def r11_1 : List RI := [.op ⟨some 5, none, .mov (.t 0)⟩ [],
  .op ⟨some 6, none, .len true (.t 5)⟩ [5],
  .op ⟨some 7, none, .mov (.t 1)⟩ [],
  .op ⟨some 8, none, .bin .gtr (.t 6) (.t 7)⟩ [6, 7]]
def r11_2 : List RI := [.op ⟨some 9, none, .mov (.t 0)⟩ [0],
  .op ⟨some 10, none, .mov (.t 1)⟩ [1],
  .op ⟨some 11, none, .slcS (.t 9) none (some (.t 10))⟩ [9, 10],
  .op ⟨some 4, none, .mov (.t 11)⟩ [11]]
def r11_3 : List RI := [.op ⟨some 12, none, .mov (.t 0)⟩ [0],
  .op ⟨some 4, none, .mov (.t 12)⟩ [12]]
def r11 : RC := (.seq (.ops r11_0) (.seq (.seq (.ops r11_1) (.cond (.t 8) (.pre [.kill [8]] (.seq (.ops r11_2) .ret)) (.pre [.kill [1, 8]] .skip))) (.seq (.ops r11_3) .ret)))
def F11 : FnC := ⟨r11, 13, [.tmp 4], [], []⟩
theorem r11_ok : ((Tryd.f11).body).map (resB Tryd.prog) = some r11.er := by kernel_rfl
/- 12 sealwright/sealwrightdraw.New · params #[24, 3] · tmps 15 · results .tmp 4 -/
def r12_0 : List RI := [.op ⟨some 4, none, .mov (.c .nilp)⟩ [4]]
def r12_1 : List RI := [.op ⟨some 5, none, .mov (.t 0)⟩ [],
  .op ⟨some 6, none, .len false (.t 5)⟩ [5],
  .op ⟨some 7, none, .mov (.t 1)⟩ [],
  .op ⟨some 8, none, .bin .gtr (.t 6) (.t 7)⟩ [6, 7]]
def r12_2 : List RI := [.op ⟨some 9, none, .mov (.t 0)⟩ [0],
  .op ⟨some 10, none, .mov (.t 1)⟩ [1],
  .op ⟨some 11, none, .slcL 1 (.t 9) none (some (.t 10)) none⟩ [9, 10],
  .op ⟨some 0, none, .mov (.t 11)⟩ [11]]
def r12_3 : List RI := [.op ⟨some 12, none, .mov (.t 0)⟩ [0],
  .op ⟨some 13, none, .build [(.byt [] .clip), (.int .i64 0)] [(0, 1, (.t 12))]⟩ [12],
  .op ⟨some 14, none, .box (.t 13)⟩ [13],
  .op ⟨some 4, none, .mov (.t 14)⟩ [14]]
def r12 : RC := (.seq (.ops r12_0) (.seq (.seq (.ops r12_1) (.cond (.t 8) (.pre [.kill [8]] (.ops r12_2)) (.pre [.kill [1, 8]] .skip))) (.seq (.ops r12_3) .ret)))
def F12 : FnC := ⟨r12, 15, [.tmp 4], [], []⟩
theorem r12_ok : ((Tryd.f12).body).map (resB Tryd.prog) = some r12.er := by kernel_rfl
/- 13 (*sealwright/sealwrightdraw.Codes).Rule · params #[27] · tmps 36 · results .cell 2 23 -/
def r13_0 : List RI := [.op ⟨some 2, none, .new (.rc [(.int .i64 0), (.str []), (.int .i64 0), (.int .i64 0)])⟩ []]
def r13_1 : List RI := [.op ⟨some 5, none, .mov (.t 0)⟩ [],
  .op ⟨some 6, none, .call (.f 22) [(.t 5), (.c (.int .i64 5))]⟩ [5]]
def r13_2 : List RI := [.op ⟨some 8, none, .bin .eql (.t 6) (.c (.int .i64 0))⟩ [],
  .op ⟨some 7, none, .mov (.t 8)⟩ [8]]
def r13_3 : List RI := [.op ⟨some 9, none, .build [(.int .i64 0), (.str []), (.int .i64 0), (.int .i64 0)] [(0, 1, (.c (.int .i64 1)))]⟩ [],
  .op ⟨none, none, .store 4 (.t 2) (.t 9)⟩ [9]]
def r13_4 : List RI := [.op ⟨some 11, none, .bin .eql (.t 6) (.c (.int .i64 1))⟩ [],
  .op ⟨some 10, none, .mov (.t 11)⟩ [11]]
def r13_5 : List RI := [.op ⟨some 12, none, .mov (.t 0)⟩ [0],
  .op ⟨some 13, none, .call (.f 23) [(.t 12)]⟩ [12],
  .op ⟨some 14, none, .b2s (.t 13)⟩ [13],
  .op ⟨some 15, none, .build [(.int .i64 0), (.str []), (.int .i64 0), (.int .i64 0)] [(0, 1, (.c (.int .i64 2))), (1, 1, (.t 14))]⟩ [14],
  .op ⟨none, none, .store 4 (.t 2) (.t 15)⟩ [15]]
def r13_6 : List RI := [.op ⟨some 17, none, .bin .eql (.t 6) (.c (.int .i64 2))⟩ [6],
  .op ⟨some 16, none, .mov (.t 17)⟩ [17]]
def r13_7 : List RI := [.op ⟨some 18, none, .build [(.str []), (.str []), (.str []), (.str []), (.str []), (.str []), (.str [])] [(0, 1, (.c (.str []))), (1, 1, (.c (.str [42]))), (2, 1, (.c (.str [97, 61, 63]))), (3, 1, (.c (.str [42, 61, 42]))), (4, 1, (.c (.str [63, 111, 42, 53]))), (5, 1, (.c (.str [99, 111, 117, 110, 116, 61, 63, 63]))), (6, 1, (.c (.str [42, 97, 42, 42, 49, 42])))]⟩ [],
  .op ⟨some 3, none, .new (.arr 1 (List.replicate 7 [(.str [])]))⟩ [],
  .op ⟨none, none, .store 7 (.t 3) (.t 18)⟩ [18]]
def r13_8 : List RI := [.op ⟨some 19, none, .mov (.t 0)⟩ [0],
  .op ⟨some 20, none, .call (.f 22) [(.t 19), (.c (.int .i64 7))]⟩ [19],
  .op ⟨some 21, none, .iaddrA 7 1 (.t 3) (.t 20)⟩ [3, 20],
  .op ⟨some 22, none, .load 1 false (.t 21)⟩ [21],
  .op ⟨some 23, none, .build [(.int .i64 0), (.str []), (.int .i64 0), (.int .i64 0)] [(0, 1, (.c (.int .i64 3))), (1, 1, (.t 22))]⟩ [22],
  .op ⟨none, none, .store 4 (.t 2) (.t 23)⟩ [23]]
def r13_9 : List RI := [.op ⟨some 24, none, .mov (.t 0)⟩ [],
  .op ⟨some 25, none, .call (.f 22) [(.t 24), (.c (.int .i64 20))]⟩ [24],
  .op ⟨some 4, none, .mov (.t 25)⟩ [25]]
def r13_10 : List FI := [⟨0, true, ⟨some 26, none, .build [(.str []), (.str []), (.str [])] [(0, 1, (.c (.str [99, 111, 117, 110, 116, 61]))), (1, 1, (.c (.str [97, 61]))), (2, 1, (.c (.str [])))]⟩⟩,
  ⟨1, true, ⟨some 27, none, .mov (.t 0)⟩⟩,
  ⟨4, true, ⟨some 30, none, .mov (.t 4)⟩⟩,
  ⟨5, true, ⟨some 31, none, .mov (.t 4)⟩⟩,
  ⟨6, true, ⟨some 32, none, .mov (.t 0)⟩⟩,
  ⟨2, false, ⟨some 28, none, .call (.f 22) [(.t 27), (.c (.int .i64 3))]⟩⟩,
  ⟨3, true, ⟨some 29, none, .idxA 3 1 false (.t 26) (.t 28)⟩⟩,
  ⟨7, false, ⟨some 33, none, .call (.f 22) [(.t 32), (.c (.int .i64 30))]⟩⟩,
  ⟨8, true, ⟨some 34, none, .bin .add (.t 31) (.t 33)⟩⟩,
  ⟨9, true, ⟨some 35, none, .build [(.int .i64 0), (.str []), (.int .i64 0), (.int .i64 0)] [(0, 1, (.c (.int .i64 4))), (1, 1, (.t 29)), (2, 1, (.t 30)), (3, 1, (.t 34))]⟩⟩,
  ⟨10, false, ⟨none, none, .store 4 (.t 2) (.t 35)⟩⟩]
def r13 : RC := (.seq (.ops r13_0) (.seq (.seq (.ops r13_1) (.block 0 (.seq (.ops r13_2) (.cond (.t 7) (.pre [.kill [0, 6, 7]] (.seq (.ops r13_3) .ret)) (.pre [.kill [7]] (.seq (.ops r13_4) (.cond (.t 10) (.pre [.kill [6, 10]] (.seq (.ops r13_5) .ret)) (.pre [.kill [10]] (.seq (.ops r13_6) (.cond (.t 16) (.pre [.kill [16]] (.seq (.ops r13_7) (.seq (.ops r13_8) .ret))) (.pre [.kill [16]] .skip))))))))))) (.seq (.ops r13_9) (.seq (.flt [0, 0, 2, 7, 0, 0, 0, 70, 230, 511, 1023] [] r13_10 [0, 4, 26, 27, 28, 29, 30, 31, 32, 33, 34, 35]) .ret))))
def F13 : FnC := ⟨r13, 36, [.cell 2 4 true], [], []⟩
theorem r13_ok : ((Tryd.f13).body).map (resB Tryd.prog) = some r13.er := by kernel_rfl
/- 14 sealwright/rules.Check · params #[23] · tmps 79 · results .tmp 2 -/
def r14_0 : List RI := [.op ⟨some 1, none, .box (.t 0)⟩ [0],
  .op ⟨some 2, none, .mov (.c (.int .i64 0))⟩ [2]]
def r14_1 : List RI := [.op ⟨some 5, none, .faddr 0 (.t 1)⟩ [],
  .op ⟨some 6, none, .load 1 false (.t 5)⟩ [5],
  .op ⟨some 7, none, .bin .lss (.t 6) (.c (.int .i64 1))⟩ [6],
  .op ⟨some 8, none, .mov (.t 7)⟩ [7],
  .grp 8 false [⟨some 9, some (8, false), .faddr 0 (.t 1)⟩,
    ⟨some 10, some (8, false), .load 1 false (.t 9)⟩,
    ⟨some 11, some (8, false), .bin .gtr (.t 10) (.c (.int .i64 4))⟩] [9, 10],
  .op ⟨some 12, none, .pick (.t 8) (.c (.bool true)) (.t 11)⟩ [8, 11]]
def r14_2 : List RI := [.op ⟨some 2, none, .mov (.c (.int .i64 1))⟩ []]
def r14_3 : List RI := [.op ⟨some 13, none, .faddr 1 (.t 1)⟩ [],
  .op ⟨some 14, none, .load 1 false (.t 13)⟩ [13],
  .op ⟨some 15, none, .len true (.t 14)⟩ [14],
  .op ⟨some 16, none, .mov (.c (.int .i64 0))⟩ []]
def r14_4 : List RI := [.op ⟨some 17, none, .bin .lss (.t 16) (.t 15)⟩ []]
def r14_5 : List RI := [.op ⟨some 18, none, .mov (.t 16)⟩ [],
  .op ⟨some 3, none, .mov (.t 18)⟩ [18]]
def r14_6 : List RI := [.op ⟨some 19, none, .faddr 1 (.t 1)⟩ [],
  .op ⟨some 20, none, .load 1 false (.t 19)⟩ [19],
  .op ⟨some 21, none, .mov (.t 3)⟩ [3],
  .op ⟨some 22, none, .idxS (.t 20) (.t 21)⟩ [20, 21],
  .op ⟨some 4, none, .mov (.t 22)⟩ [22]]
def r14_7 : List RI := [.op ⟨some 23, none, .mov (.t 4)⟩ [],
  .op ⟨some 24, none, .bin .lss (.t 23) (.c (.u8 32))⟩ [23],
  .op ⟨some 25, none, .mov (.t 24)⟩ [24],
  .grp 25 false [⟨some 26, some (25, false), .mov (.t 4)⟩,
    ⟨some 27, some (25, false), .bin .gtr (.t 26) (.c (.u8 126))⟩] [4, 26],
  .op ⟨some 28, none, .pick (.t 25) (.c (.bool true)) (.t 27)⟩ [25, 27]]
def r14_8 : List RI := [.op ⟨some 2, none, .mov (.c (.int .i64 1))⟩ []]
def r14_9 : List RI := [.op ⟨some 29, none, .bin .add (.t 16) (.c (.int .i64 1))⟩ [16],
  .op ⟨some 16, none, .mov (.t 29)⟩ [29]]
/- live at the loop's head: [1, 15, 16]; at its end (exits): [(0, [1])]; then [1] -/
def r14_10 : RC := (.seq (.ops r14_4) (.seq (.cond (.t 17) (.pre [.kill [17]] .skip) (.pre [.kill [15, 16, 17]] (.exit 0))) (.seq (.block 1 (.seq (.ops r14_5) (.seq (.ops r14_6) (.seq (.ops r14_7) (.cond (.t 28) (.pre [.kill [1, 15, 16, 28]] (.seq (.ops r14_8) .ret)) (.pre [.kill [28]] .skip)))))) (.ops r14_9))))
def r14_11 : List RI := [.op ⟨some 31, none, .faddr 0 (.t 1)⟩ [],
  .op ⟨some 32, none, .load 1 false (.t 31)⟩ [31],
  .op ⟨some 33, none, .bin .eql (.t 32) (.c (.int .i64 4))⟩ [32],
  .op ⟨some 34, none, .mov (.t 33)⟩ [33],
  .grp 34 true [⟨some 35, some (34, true), .faddr 2 (.t 1)⟩,
    ⟨some 36, some (34, true), .load 1 false (.t 35)⟩,
    ⟨some 37, some (34, true), .bin .lss (.t 36) (.c (.int .i64 0))⟩,
    ⟨some 38, some (34, true), .mov (.t 37)⟩] [35, 36, 37],
  .grp 38 false [⟨some 39, some (38, false), .faddr 2 (.t 1)⟩,
    ⟨some 40, some (38, false), .load 1 false (.t 39)⟩,
    ⟨some 41, some (38, false), .faddr 3 (.t 1)⟩,
    ⟨some 42, some (38, false), .load 1 false (.t 41)⟩,
    ⟨some 43, some (38, false), .bin .gtr (.t 40) (.t 42)⟩] [39, 40, 41, 42],
  .grp 34 true [⟨some 44, some (34, true), .pick (.t 38) (.c (.bool true)) (.t 43)⟩,
    ⟨some 45, some (34, true), .mov (.t 44)⟩] [38, 43, 44],
  .grp 45 false [⟨some 46, some (45, false), .faddr 3 (.t 1)⟩,
    ⟨some 47, some (45, false), .load 1 false (.t 46)⟩,
    ⟨some 48, some (45, false), .bin .gtr (.t 47) (.c (.int .i64 1000000000))⟩] [46, 47],
  .grp 34 true [⟨some 49, some (34, true), .pick (.t 45) (.c (.bool true)) (.t 48)⟩] [45, 48],
  .op ⟨some 50, none, .pick (.t 34) (.t 49) (.c (.bool false))⟩ [34, 49],
  .op ⟨some 30, none, .mov (.t 50)⟩ [50]]
def r14_12 : List RI := [.op ⟨some 2, none, .mov (.c (.int .i64 1))⟩ []]
def r14_13 : List RI := [.op ⟨some 52, none, .faddr 0 (.t 1)⟩ [],
  .op ⟨some 53, none, .load 1 false (.t 52)⟩ [52],
  .op ⟨some 54, none, .bin .neq (.t 53) (.c (.int .i64 4))⟩ [53],
  .op ⟨some 55, none, .mov (.t 54)⟩ [54],
  .grp 55 true [⟨some 56, some (55, true), .faddr 2 (.t 1)⟩,
    ⟨some 57, some (55, true), .load 1 false (.t 56)⟩,
    ⟨some 58, some (55, true), .bin .neq (.t 57) (.c (.int .i64 0))⟩,
    ⟨some 59, some (55, true), .mov (.t 58)⟩] [56, 57, 58],
  .grp 59 false [⟨some 60, some (59, false), .faddr 3 (.t 1)⟩,
    ⟨some 61, some (59, false), .load 1 false (.t 60)⟩,
    ⟨some 62, some (59, false), .bin .neq (.t 61) (.c (.int .i64 0))⟩] [60, 61],
  .grp 55 true [⟨some 63, some (55, true), .pick (.t 59) (.c (.bool true)) (.t 62)⟩] [59, 62],
  .op ⟨some 64, none, .pick (.t 55) (.t 63) (.c (.bool false))⟩ [55, 63],
  .op ⟨some 51, none, .mov (.t 64)⟩ [64]]
def r14_14 : List RI := [.op ⟨some 2, none, .mov (.c (.int .i64 1))⟩ []]
def r14_15 : List RI := [.op ⟨some 66, none, .faddr 0 (.t 1)⟩ [],
  .op ⟨some 67, none, .load 1 false (.t 66)⟩ [66],
  .op ⟨some 68, none, .bin .eql (.t 67) (.c (.int .i64 1))⟩ [67],
  .op ⟨some 69, none, .mov (.t 68)⟩ [68],
  .grp 69 true [⟨some 70, some (69, true), .faddr 1 (.t 1)⟩,
    ⟨some 71, some (69, true), .load 1 false (.t 70)⟩,
    ⟨some 72, some (69, true), .bin .neq (.t 71) (.c (.str []))⟩] [70, 71],
  .op ⟨some 73, none, .pick (.t 69) (.t 72) (.c (.bool false))⟩ [69, 72],
  .op ⟨some 65, none, .mov (.t 73)⟩ [73]]
def r14_16 : List RI := [.op ⟨some 2, none, .mov (.c (.int .i64 1))⟩ []]
def r14_17 : List RI := [.op ⟨some 75, none, .faddr 1 (.t 1)⟩ [1],
  .op ⟨some 76, none, .load 1 false (.t 75)⟩ [75],
  .op ⟨some 77, none, .len true (.t 76)⟩ [76],
  .op ⟨some 78, none, .bin .gtr (.t 77) (.c (.int .i64 32))⟩ [77],
  .op ⟨some 74, none, .mov (.t 78)⟩ [78]]
def r14_18 : List RI := [.op ⟨some 2, none, .mov (.c (.int .i64 4))⟩ []]
def r14_19 : List RI := [.op ⟨some 2, none, .mov (.c (.int .i64 0))⟩ []]
def r14 : RC := (.seq (.ops r14_0) (.seq (.seq (.ops r14_1) (.cond (.t 12) (.pre [.kill [1, 12]] (.seq (.ops r14_2) .ret)) (.pre [.kill [12]] .skip))) (.seq (.seq (.ops r14_3) (.block 0 (.loop r14_10))) (.seq (.block 2 (.seq (.ops r14_11) (.cond (.t 30) (.pre [.kill [1, 30]] (.seq (.ops r14_12) .ret)) (.pre [.kill [30]] (.seq (.ops r14_13) (.cond (.t 51) (.pre [.kill [1, 51]] (.seq (.ops r14_14) .ret)) (.pre [.kill [51]] (.seq (.ops r14_15) (.cond (.t 65) (.pre [.kill [1, 65]] (.seq (.ops r14_16) .ret)) (.pre [.kill [65]] (.seq (.ops r14_17) (.cond (.t 74) (.pre [.kill [74]] (.seq (.ops r14_18) .ret)) (.pre [.kill [74]] .skip))))))))))))) (.seq (.ops r14_19) .ret)))))
def F14 : FnC := ⟨r14, 79, [.tmp 2], [], []⟩
theorem r14_ok : ((Tryd.f14).body).map (resB Tryd.prog) = some r14.er := by kernel_rfl
/- 15 sealwright/sealwrightref31.Rule · params #[23] · tmps 69 · results .tmp 2 -/
def r15_0 : List RI := [.op ⟨some 1, none, .box (.t 0)⟩ [0],
  .op ⟨some 2, none, .mov (.c (.int .i64 0))⟩ [2]]
def r15_1 : List RI := [.op ⟨some 4, none, .faddr 0 (.t 1)⟩ [],
  .op ⟨some 5, none, .load 1 false (.t 4)⟩ [4],
  .op ⟨some 6, none, .bin .lss (.t 5) (.c (.int .i64 1))⟩ [5],
  .op ⟨some 7, none, .mov (.t 6)⟩ [6],
  .grp 7 false [⟨some 8, some (7, false), .faddr 0 (.t 1)⟩,
    ⟨some 9, some (7, false), .load 1 false (.t 8)⟩,
    ⟨some 10, some (7, false), .bin .gtr (.t 9) (.c (.int .i64 4))⟩] [8, 9],
  .op ⟨some 11, none, .pick (.t 7) (.c (.bool true)) (.t 10)⟩ [7, 10]]
def r15_2 : List RI := [.op ⟨some 2, none, .mov (.c (.int .i64 1))⟩ []]
def r15_3 : List RI := [.op ⟨some 3, none, .mov (.c (.int .i64 0))⟩ []]
def r15_4 : List RI := [.op ⟨some 12, none, .mov (.t 3)⟩ [],
  .op ⟨some 13, none, .faddr 1 (.t 1)⟩ [],
  .op ⟨some 14, none, .load 1 false (.t 13)⟩ [13],
  .op ⟨some 15, none, .len true (.t 14)⟩ [14],
  .op ⟨some 16, none, .bin .lss (.t 12) (.t 15)⟩ [12, 15]]
def r15_5 : List RI := [.op ⟨some 19, none, .faddr 1 (.t 1)⟩ [],
  .op ⟨some 20, none, .load 1 false (.t 19)⟩ [19],
  .op ⟨some 21, none, .mov (.t 3)⟩ [],
  .op ⟨some 22, none, .idxS (.t 20) (.t 21)⟩ [20, 21],
  .op ⟨some 23, none, .bin .lss (.t 22) (.c (.u8 32))⟩ [22],
  .op ⟨some 24, none, .mov (.t 23)⟩ [23],
  .grp 24 false [⟨some 25, some (24, false), .faddr 1 (.t 1)⟩,
    ⟨some 26, some (24, false), .load 1 false (.t 25)⟩,
    ⟨some 27, some (24, false), .mov (.t 3)⟩,
    ⟨some 28, some (24, false), .idxS (.t 26) (.t 27)⟩,
    ⟨some 29, some (24, false), .bin .gtr (.t 28) (.c (.u8 126))⟩] [25, 26, 27, 28],
  .op ⟨some 30, none, .pick (.t 24) (.c (.bool true)) (.t 29)⟩ [24, 29]]
def r15_6 : List RI := [.op ⟨some 2, none, .mov (.c (.int .i64 1))⟩ []]
def r15_7 : List RI := [.op ⟨some 17, none, .mov (.t 3)⟩ [3],
  .op ⟨some 18, none, .bin .add (.t 17) (.c (.int .i64 1))⟩ [17],
  .op ⟨some 3, none, .mov (.t 18)⟩ [18]]
/- live at the loop's head: [1, 3]; at its end (exits): [(0, [1])]; then [1] -/
def r15_8 : RC := (.seq (.seq (.ops r15_4) (.cond (.t 16) (.pre [.kill [16]] .skip) (.pre [.kill [3, 16]] (.exit 0)))) (.seq (.block 1 (.seq (.ops r15_5) (.cond (.t 30) (.pre [.kill [1, 3, 30]] (.seq (.ops r15_6) .ret)) (.pre [.kill [30]] .skip)))) (.ops r15_7)))
def r15_9 : List RI := [.op ⟨some 31, none, .faddr 0 (.t 1)⟩ [],
  .op ⟨some 32, none, .load 1 false (.t 31)⟩ [31],
  .op ⟨some 33, none, .bin .eql (.t 32) (.c (.int .i64 4))⟩ [32]]
def r15_10 : List RI := [.op ⟨some 34, none, .faddr 2 (.t 1)⟩ [],
  .op ⟨some 35, none, .load 1 false (.t 34)⟩ [34],
  .op ⟨some 36, none, .bin .lss (.t 35) (.c (.int .i64 0))⟩ [35],
  .op ⟨some 37, none, .mov (.t 36)⟩ [36],
  .grp 37 false [⟨some 38, some (37, false), .faddr 2 (.t 1)⟩,
    ⟨some 39, some (37, false), .load 1 false (.t 38)⟩,
    ⟨some 40, some (37, false), .faddr 3 (.t 1)⟩,
    ⟨some 41, some (37, false), .load 1 false (.t 40)⟩,
    ⟨some 42, some (37, false), .bin .gtr (.t 39) (.t 41)⟩] [38, 39, 40, 41],
  .op ⟨some 43, none, .pick (.t 37) (.c (.bool true)) (.t 42)⟩ [37, 42],
  .op ⟨some 44, none, .mov (.t 43)⟩ [43],
  .grp 44 false [⟨some 45, some (44, false), .faddr 3 (.t 1)⟩,
    ⟨some 46, some (44, false), .load 1 false (.t 45)⟩,
    ⟨some 47, some (44, false), .bin .gtr (.t 46) (.c (.int .i64 1000000000))⟩] [45, 46],
  .op ⟨some 48, none, .pick (.t 44) (.c (.bool true)) (.t 47)⟩ [44, 47]]
def r15_11 : List RI := [.op ⟨some 2, none, .mov (.c (.int .i64 1))⟩ []]
def r15_12 : List RI := [.op ⟨some 49, none, .faddr 2 (.t 1)⟩ [],
  .op ⟨some 50, none, .load 1 false (.t 49)⟩ [49],
  .op ⟨some 51, none, .bin .neq (.t 50) (.c (.int .i64 0))⟩ [50],
  .op ⟨some 52, none, .mov (.t 51)⟩ [51],
  .grp 52 false [⟨some 53, some (52, false), .faddr 3 (.t 1)⟩,
    ⟨some 54, some (52, false), .load 1 false (.t 53)⟩,
    ⟨some 55, some (52, false), .bin .neq (.t 54) (.c (.int .i64 0))⟩] [53, 54],
  .op ⟨some 56, none, .pick (.t 52) (.c (.bool true)) (.t 55)⟩ [52, 55]]
def r15_13 : List RI := [.op ⟨some 2, none, .mov (.c (.int .i64 1))⟩ []]
def r15_14 : List RI := [.op ⟨some 57, none, .faddr 0 (.t 1)⟩ [],
  .op ⟨some 58, none, .load 1 false (.t 57)⟩ [57],
  .op ⟨some 59, none, .bin .eql (.t 58) (.c (.int .i64 1))⟩ [58],
  .op ⟨some 60, none, .mov (.t 59)⟩ [59],
  .grp 60 true [⟨some 61, some (60, true), .faddr 1 (.t 1)⟩,
    ⟨some 62, some (60, true), .load 1 false (.t 61)⟩,
    ⟨some 63, some (60, true), .bin .neq (.t 62) (.c (.str []))⟩] [61, 62],
  .op ⟨some 64, none, .pick (.t 60) (.t 63) (.c (.bool false))⟩ [60, 63]]
def r15_15 : List RI := [.op ⟨some 2, none, .mov (.c (.int .i64 1))⟩ []]
def r15_16 : List RI := [.op ⟨some 65, none, .faddr 1 (.t 1)⟩ [1],
  .op ⟨some 66, none, .load 1 false (.t 65)⟩ [65],
  .op ⟨some 67, none, .len true (.t 66)⟩ [66],
  .op ⟨some 68, none, .bin .gtr (.t 67) (.c (.int .i64 32))⟩ [67]]
def r15_17 : List RI := [.op ⟨some 2, none, .mov (.c (.int .i64 4))⟩ []]
def r15_18 : List RI := [.op ⟨some 2, none, .mov (.c (.int .i64 0))⟩ []]
def r15 : RC := (.seq (.ops r15_0) (.seq (.seq (.ops r15_1) (.cond (.t 11) (.pre [.kill [1, 11]] (.seq (.ops r15_2) .ret)) (.pre [.kill [11]] .skip))) (.seq (.seq (.ops r15_3) (.block 0 (.loop r15_8))) (.seq (.seq (.ops r15_9) (.cond (.t 33) (.pre [.kill [33]] (.seq (.ops r15_10) (.cond (.t 48) (.pre [.kill [1, 48]] (.seq (.ops r15_11) .ret)) (.pre [.kill [48]] .skip)))) (.pre [.kill [33]] (.seq (.ops r15_12) (.cond (.t 56) (.pre [.kill [1, 56]] (.seq (.ops r15_13) .ret)) (.pre [.kill [56]] .skip)))))) (.seq (.seq (.ops r15_14) (.cond (.t 64) (.pre [.kill [1, 64]] (.seq (.ops r15_15) .ret)) (.pre [.kill [64]] .skip))) (.seq (.seq (.ops r15_16) (.cond (.t 68) (.pre [.kill [68]] (.seq (.ops r15_17) .ret)) (.pre [.kill [68]] .skip))) (.seq (.ops r15_18) .ret)))))))
def F15 : FnC := ⟨r15, 69, [.tmp 2], [], []⟩
theorem r15_ok : ((Tryd.f15).body).map (resB Tryd.prog) = some r15.er := by kernel_rfl
/- 16 sealwright/sealwrightdraw.Mod · params #[3, 3] · tmps 17 · results .tmp 4 -/
def r16_0 : List RI := [.op ⟨some 4, none, .mov (.c (.int .i64 0))⟩ [4]]
def r16_1 : List RI := [.op ⟨some 6, none, .mov (.t 1)⟩ [],
  .op ⟨some 7, none, .bin .lss (.t 6) (.c (.int .i64 1))⟩ [6]]
def r16_2 : List RI := [.op ⟨some 4, none, .mov (.c (.int .i64 0))⟩ []]
def r16_3 : List RI := [.op ⟨some 8, none, .mov (.t 0)⟩ [0],
  .op ⟨some 9, none, .mov (.t 1)⟩ [],
  .op ⟨some 10, none, .bin .rem (.t 8) (.t 9)⟩ [8, 9],
  .op ⟨some 5, none, .mov (.t 10)⟩ [10]]
def r16_4 : List RI := [.op ⟨some 11, none, .mov (.t 5)⟩ [],
  .op ⟨some 12, none, .bin .lss (.t 11) (.c (.int .i64 0))⟩ [11]]
def r16_5 : List RI := [.op ⟨some 13, none, .mov (.t 5)⟩ [5],
  .op ⟨some 14, none, .mov (.t 1)⟩ [1],
  .op ⟨some 15, none, .bin .add (.t 13) (.t 14)⟩ [13, 14],
  .op ⟨some 5, none, .mov (.t 15)⟩ [15]]
def r16_6 : List RI := [.op ⟨some 16, none, .mov (.t 5)⟩ [5],
  .op ⟨some 4, none, .mov (.t 16)⟩ [16]]
def r16 : RC := (.seq (.ops r16_0) (.seq (.seq (.ops r16_1) (.cond (.t 7) (.pre [.kill [0, 1, 7]] (.seq (.ops r16_2) .ret)) (.pre [.kill [7]] .skip))) (.seq (.ops r16_3) (.seq (.seq (.ops r16_4) (.cond (.t 12) (.pre [.kill [12]] (.ops r16_5)) (.pre [.kill [1, 12]] .skip))) (.seq (.ops r16_6) .ret)))))
def F16 : FnC := ⟨r16, 17, [.tmp 4], [], []⟩
theorem r16_ok : ((Tryd.f16).body).map (resB Tryd.prog) = some r16.er := by kernel_rfl
/- 17 sealwright/sealwrightdraw.Cut · params #[24, 3] · tmps 13 · results .tmp 4 -/
def r17_0 : List RI := [.op ⟨some 4, none, .mov (.c (.byt [] .clip))⟩ [4]]
def r17_1 : List RI := [.op ⟨some 5, none, .mov (.t 0)⟩ [],
  .op ⟨some 6, none, .len false (.t 5)⟩ [5],
  .op ⟨some 7, none, .mov (.t 1)⟩ [],
  .op ⟨some 8, none, .bin .gtr (.t 6) (.t 7)⟩ [6, 7]]
def r17_2 : List RI := [.op ⟨some 9, none, .mov (.t 0)⟩ [0],
  .op ⟨some 10, none, .mov (.t 1)⟩ [1],
  .op ⟨some 11, none, .slcL 1 (.t 9) none (some (.t 10)) none⟩ [9, 10],
  .op ⟨some 4, none, .mov (.t 11)⟩ [11]]
def r17_3 : List RI := [.op ⟨some 12, none, .mov (.t 0)⟩ [0],
  .op ⟨some 4, none, .mov (.t 12)⟩ [12]]
def r17 : RC := (.seq (.ops r17_0) (.seq (.seq (.ops r17_1) (.cond (.t 8) (.pre [.kill [8]] (.seq (.ops r17_2) .ret)) (.pre [.kill [1, 8]] .skip))) (.seq (.ops r17_3) .ret)))
def F17 : FnC := ⟨r17, 13, [.tmp 4], [], []⟩
theorem r17_ok : ((Tryd.f17).body).map (resB Tryd.prog) = some r17.er := by kernel_rfl
/- 18 sealwright/sealwrightlaw31.pattern · params #[24, 3] · tmps 20 · results .tmp 4 -/
def r18_0 : List RI := [.op ⟨some 4, none, .mov (.c (.str []))⟩ [4]]
def r18_1 : List RI := [.op ⟨some 7, none, .mov (.t 0)⟩ [0],
  .op ⟨some 8, none, .mov (.t 1)⟩ [1],
  .op ⟨some 9, none, .call (.f 12) [(.t 7), (.t 8)]⟩ [7, 8],
  .op ⟨some 5, none, .mov (.t 9)⟩ [9]]
def r18_2 : List RI := [.op ⟨some 6, none, .mov (.c (.byt [] .clip))⟩ []]
def r18_3 : List RI := [.op ⟨some 10, none, .mov (.t 5)⟩ [],
  .op ⟨some 11, none, .call (.f 27) [(.t 10)]⟩ [10]]
def r18_4 : List RI := [.op ⟨some 12, none, .mov (.t 6)⟩ [6],
  .op ⟨some 13, none, .mov (.t 5)⟩ [],
  .op ⟨some 14, none, .call (.f 22) [(.t 13), (.c (.int .i64 4))]⟩ [13],
  .op ⟨some 15, none, .idxS (.c (.str [97, 98, 42, 63])) (.t 14)⟩ [14],
  .op ⟨some 16, none, .litB [(.t 15)]⟩ [15],
  .op ⟨some 17, none, .app [(.u8 0)] 1 (.t 12) (.t 16)⟩ [12, 16],
  .op ⟨some 6, none, .mov (.t 17)⟩ [17]]
/- live at the loop's head: [5, 6]; at its end (exits): [(0, [6])]; then [6] -/
def r18_5 : RC := (.post (.seq (.seq (.ops r18_3) (.cond (.t 11) (.pre [.kill [11]] .skip) (.pre [.kill [5, 11]] (.exit 0)))) (.block 1 (.ops r18_4))) [.tok 6 106])
def r18_6 : List RI := [.op ⟨some 18, none, .mov (.t 6)⟩ [6],
  .op ⟨some 19, none, .b2s (.t 18)⟩ [18],
  .op ⟨some 4, none, .mov (.t 19)⟩ [19]]
def r18 : RC := (.seq (.ops r18_0) (.seq (.ops r18_1) (.seq (.ops r18_2) (.seq (.block 0 (.pre [.tok 6 106] (.loop r18_5))) (.seq (.ops r18_6) .ret)))))
def F18 : FnC := ⟨r18, 20, [.tmp 4], [], []⟩
theorem r18_ok : ((Tryd.f18).body).map (resB Tryd.prog) = some r18.er := by kernel_rfl
/- 19 sealwright/sealwrightlaw31.line · params #[24, 3] · tmps 24 · results .tmp 4 -/
def r19_0 : List RI := [.op ⟨some 4, none, .mov (.c (.byt [] .clip))⟩ [4]]
def r19_1 : List RI := [.op ⟨some 7, none, .mov (.t 0)⟩ [0],
  .op ⟨some 8, none, .mov (.t 1)⟩ [1],
  .op ⟨some 9, none, .call (.f 12) [(.t 7), (.t 8)]⟩ [7, 8],
  .op ⟨some 5, none, .mov (.t 9)⟩ [9]]
def r19_2 : List RI := [.op ⟨some 6, none, .mov (.c (.byt [] .clip))⟩ []]
def r19_3 : List RI := [.op ⟨some 10, none, .mov (.t 5)⟩ [],
  .op ⟨some 11, none, .call (.f 27) [(.t 10)]⟩ [10]]
def r19_4 : List RI := [.op ⟨some 12, none, .mov (.t 6)⟩ [6],
  .op ⟨some 13, none, .mov (.t 5)⟩ [],
  .op ⟨some 14, none, .call (.f 22) [(.t 13), (.c (.int .i64 4))]⟩ [13],
  .op ⟨some 15, none, .bin .and (.t 14) (.c (.int .i64 3))⟩ [14],
  .op ⟨some 16, none, .mov (.t 5)⟩ [],
  .op ⟨some 17, none, .call (.f 22) [(.t 16), (.c (.int .i64 2))]⟩ [16],
  .op ⟨some 18, none, .bin .mul (.c (.int .i64 2)) (.t 17)⟩ [17],
  .op ⟨some 19, none, .bin .andNot (.t 15) (.t 18)⟩ [15, 18],
  .op ⟨some 20, none, .idxS (.c (.str [97, 98, 42, 63])) (.t 19)⟩ [19],
  .op ⟨some 21, none, .litB [(.t 20)]⟩ [20],
  .op ⟨some 22, none, .app [(.u8 0)] 1 (.t 12) (.t 21)⟩ [12, 21],
  .op ⟨some 6, none, .mov (.t 22)⟩ [22]]
/- live at the loop's head: [5, 6]; at its end (exits): [(0, [6])]; then [6] -/
def r19_5 : RC := (.post (.seq (.seq (.ops r19_3) (.cond (.t 11) (.pre [.kill [11]] .skip) (.pre [.kill [5, 11]] (.exit 0)))) (.block 1 (.ops r19_4))) [.tok 6 106])
def r19_6 : List RI := [.op ⟨some 23, none, .mov (.t 6)⟩ [6],
  .op ⟨some 4, none, .mov (.t 23)⟩ [23]]
def r19 : RC := (.seq (.ops r19_0) (.seq (.ops r19_1) (.seq (.ops r19_2) (.seq (.block 0 (.pre [.tok 6 106] (.loop r19_5))) (.seq (.ops r19_6) .ret)))))
def F19 : FnC := ⟨r19, 24, [.tmp 4], [], []⟩
theorem r19_ok : ((Tryd.f19).body).map (resB Tryd.prog) = some r19.er := by kernel_rfl
/- 20 sealwright/rules.Glob · params #[9, 24] · tmps 67 · results .tmp 4 -/
def r20_0 : List RI := [.op ⟨some 4, none, .mov (.c (.bool false))⟩ [4]]
def r20_1 : List RI := [.op ⟨some 5, none, .mov (.c (.int .i64 0))⟩ [],
  .op ⟨some 6, none, .mov (.c (.int .i64 0))⟩ [],
  .op ⟨some 7, none, .mov (.c (.int .i64 (-1)))⟩ [],
  .op ⟨some 8, none, .mov (.c (.int .i64 0))⟩ []]
def r20_2 : List RI := [.op ⟨some 9, none, .mov (.t 6)⟩ [],
  .op ⟨some 10, none, .mov (.t 1)⟩ [],
  .op ⟨some 11, none, .len false (.t 10)⟩ [10],
  .op ⟨some 12, none, .bin .lss (.t 9) (.t 11)⟩ [9, 11]]
def r20_3 : List RI := [.op ⟨some 14, none, .mov (.t 5)⟩ [],
  .op ⟨some 15, none, .mov (.t 0)⟩ [],
  .op ⟨some 16, none, .len true (.t 15)⟩ [15],
  .op ⟨some 17, none, .bin .lss (.t 14) (.t 16)⟩ [14, 16],
  .op ⟨some 18, none, .mov (.t 17)⟩ [17],
  .grp 18 true [⟨some 19, some (18, true), .mov (.t 0)⟩,
    ⟨some 20, some (18, true), .mov (.t 5)⟩,
    ⟨some 21, some (18, true), .idxS (.t 19) (.t 20)⟩,
    ⟨some 22, some (18, true), .bin .eql (.t 21) (.c (.u8 42))⟩] [19, 20, 21],
  .op ⟨some 23, none, .pick (.t 18) (.t 22) (.c (.bool false))⟩ [18, 22],
  .op ⟨some 13, none, .mov (.t 23)⟩ [23]]
def r20_4 : List RI := [.op ⟨some 24, none, .mov (.t 5)⟩ [],
  .op ⟨some 25, none, .mov (.t 6)⟩ [],
  .op ⟨some 26, none, .mov (.t 5)⟩ [5],
  .op ⟨some 27, none, .bin .add (.t 26) (.c (.int .i64 1))⟩ [26],
  .op ⟨some 7, none, .mov (.t 24)⟩ [24],
  .op ⟨some 8, none, .mov (.t 25)⟩ [25],
  .op ⟨some 5, none, .mov (.t 27)⟩ [27]]
def r20_5 : List FI := [⟨0, true, ⟨some 29, none, .mov (.t 5)⟩⟩,
  ⟨1, true, ⟨some 30, none, .mov (.t 0)⟩⟩,
  ⟨2, true, ⟨some 31, none, .len true (.t 30)⟩⟩,
  ⟨3, true, ⟨some 32, none, .bin .lss (.t 29) (.t 31)⟩⟩,
  ⟨4, true, ⟨some 33, none, .mov (.t 32)⟩⟩,
  ⟨5, true, ⟨some 34, some (33, true), .mov (.t 0)⟩⟩,
  ⟨6, true, ⟨some 35, some (33, true), .mov (.t 5)⟩⟩,
  ⟨7, true, ⟨some 36, some (33, true), .idxS (.t 34) (.t 35)⟩⟩,
  ⟨8, true, ⟨some 37, some (33, true), .bin .eql (.t 36) (.c (.u8 63))⟩⟩,
  ⟨9, true, ⟨some 38, some (33, true), .mov (.t 37)⟩⟩,
  ⟨10, true, ⟨some 39, some (38, false), .mov (.t 0)⟩⟩,
  ⟨11, true, ⟨some 40, some (38, false), .mov (.t 5)⟩⟩,
  ⟨12, true, ⟨some 41, some (38, false), .idxS (.t 39) (.t 40)⟩⟩,
  ⟨13, true, ⟨some 42, some (38, false), .mov (.t 1)⟩⟩,
  ⟨14, true, ⟨some 43, some (38, false), .mov (.t 6)⟩⟩,
  ⟨15, true, ⟨some 44, some (38, false), .iaddrL 1 (.t 42) (.t 43)⟩⟩,
  ⟨16, true, ⟨some 45, some (38, false), .load 1 false (.t 44)⟩⟩,
  ⟨17, true, ⟨some 46, some (38, false), .bin .eql (.t 41) (.t 45)⟩⟩,
  ⟨18, true, ⟨some 47, some (33, true), .pick (.t 38) (.c (.bool true)) (.t 46)⟩⟩,
  ⟨19, true, ⟨some 48, none, .pick (.t 33) (.t 47) (.c (.bool false))⟩⟩,
  ⟨20, true, ⟨some 28, none, .mov (.t 48)⟩⟩]
def r20_6 : List RI := [.op ⟨some 49, none, .mov (.t 5)⟩ [5],
  .op ⟨some 50, none, .bin .add (.t 49) (.c (.int .i64 1))⟩ [49],
  .op ⟨some 51, none, .mov (.t 6)⟩ [6],
  .op ⟨some 52, none, .bin .add (.t 51) (.c (.int .i64 1))⟩ [51],
  .op ⟨some 5, none, .mov (.t 50)⟩ [50],
  .op ⟨some 6, none, .mov (.t 52)⟩ [52]]
def r20_7 : List RI := [.op ⟨some 54, none, .mov (.t 7)⟩ [],
  .op ⟨some 55, none, .bin .geq (.t 54) (.c (.int .i64 0))⟩ [54],
  .op ⟨some 53, none, .mov (.t 55)⟩ [55]]
def r20_8 : List RI := [.op ⟨some 56, none, .mov (.t 7)⟩ [],
  .op ⟨some 57, none, .bin .add (.t 56) (.c (.int .i64 1))⟩ [56],
  .op ⟨some 58, none, .mov (.t 8)⟩ [],
  .op ⟨some 59, none, .bin .add (.t 58) (.c (.int .i64 1))⟩ [58],
  .op ⟨some 60, none, .mov (.t 8)⟩ [8],
  .op ⟨some 61, none, .bin .add (.t 60) (.c (.int .i64 1))⟩ [60],
  .op ⟨some 5, none, .mov (.t 57)⟩ [57],
  .op ⟨some 6, none, .mov (.t 59)⟩ [59],
  .op ⟨some 8, none, .mov (.t 61)⟩ [61]]
def r20_9 : List RI := [.op ⟨some 4, none, .mov (.c (.bool false))⟩ []]
/- live at the loop's head: [0, 1, 5, 6, 7, 8]; at its end (exits): [(0, [0, 5])]; then [0, 5] -/
def r20_10 : RC := (.seq (.seq (.ops r20_2) (.cond (.t 12) (.pre [.kill [12]] .skip) (.pre [.kill [1, 6, 7, 8, 12]] (.exit 0)))) (.block 1 (.block 2 (.seq (.ops r20_3) (.cond (.t 13) (.pre [.kill [7, 8, 13]] (.ops r20_4)) (.pre [.kill [13]] (.seq (.flt [0, 0, 2, 7, 15, 31, 31, 127, 255, 511, 1023, 1023, 4095, 1023, 1023, 25599, 58367, 131071, 262143, 524287, 1048575] [] r20_5 [29, 30, 31, 32, 33, 34, 35, 36, 37, 38, 39, 40, 41, 42, 43, 44, 45, 46, 47, 48]) (.cond (.t 28) (.pre [.kill [28]] (.ops r20_6)) (.pre [.kill [5, 6, 28]] (.seq (.ops r20_7) (.cond (.t 53) (.pre [.kill [53]] (.ops r20_8)) (.pre [.kill [0, 1, 7, 8, 53]] (.seq (.ops r20_9) .ret)))))))))))))
def r20_11 : List RI := [.op ⟨some 62, none, .mov (.t 0)⟩ [0],
  .op ⟨some 63, none, .mov (.t 5)⟩ [5],
  .op ⟨some 64, none, .slcS (.t 62) (some (.t 63)) none⟩ [62, 63],
  .op ⟨some 65, none, .call (.f 28) [(.t 64), (.c (.str [42]))]⟩ [64],
  .op ⟨some 66, none, .bin .eql (.t 65) (.c (.str []))⟩ [65],
  .op ⟨some 4, none, .mov (.t 66)⟩ [66]]
def r20 : RC := (.seq (.ops r20_0) (.seq (.ops r20_1) (.seq (.block 0 (.loop r20_10)) (.seq (.ops r20_11) .ret))))
def F20 : FnC := ⟨r20, 67, [.tmp 4], [], []⟩
theorem r20_ok : ((Tryd.f20).body).map (resB Tryd.prog) = some r20.er := by kernel_rfl
/- 21 sealwright/sealwrightref31.Glob · params #[9, 24] · tmps 88 · results .tmp 4 -/
def r21_0 : List RI := [.op ⟨some 4, none, .mov (.c (.bool false))⟩ [4]]
def r21_1 : List RI := [.op ⟨some 9, none, .mov (.t 1)⟩ [],
  .op ⟨some 10, none, .len false (.t 9)⟩ [9],
  .op ⟨some 11, none, .bin .add (.t 10) (.c (.int .i64 1))⟩ [10],
  .op ⟨some 12, none, .mk [(.bool false)] 1 (.t 11) (.t 11)⟩ [11],
  .op ⟨some 5, none, .mov (.t 12)⟩ [12]]
def r21_2 : List RI := [.op ⟨some 13, none, .mov (.t 5)⟩ [],
  .op ⟨some 14, none, .iaddrL 1 (.t 13) (.c (.int .i64 0))⟩ [13],
  .op ⟨none, none, .store 1 (.t 14) (.c (.bool true))⟩ [14]]
def r21_3 : List RI := [.op ⟨some 6, none, .mov (.c (.int .i64 0))⟩ []]
def r21_4 : List RI := [.op ⟨some 15, none, .mov (.t 6)⟩ [],
  .op ⟨some 16, none, .mov (.t 0)⟩ [],
  .op ⟨some 17, none, .len true (.t 16)⟩ [16],
  .op ⟨some 18, none, .bin .lss (.t 15) (.t 17)⟩ [15, 17]]
def r21_5 : List RI := [.op ⟨some 21, none, .mov (.t 1)⟩ [],
  .op ⟨some 22, none, .len false (.t 21)⟩ [21],
  .op ⟨some 23, none, .bin .add (.t 22) (.c (.int .i64 1))⟩ [22],
  .op ⟨some 24, none, .mk [(.bool false)] 1 (.t 23) (.t 23)⟩ [23],
  .op ⟨some 7, none, .mov (.t 24)⟩ [24]]
def r21_6 : List RI := [.op ⟨some 8, none, .mov (.c (.int .i64 0))⟩ []]
def r21_7 : List RI := [.op ⟨some 25, none, .mov (.t 8)⟩ [],
  .op ⟨some 26, none, .mov (.t 1)⟩ [],
  .op ⟨some 27, none, .len false (.t 26)⟩ [26],
  .op ⟨some 28, none, .bin .leq (.t 25) (.t 27)⟩ [25, 27]]
def r21_8 : List RI := [.op ⟨some 32, none, .mov (.t 0)⟩ [],
  .op ⟨some 33, none, .mov (.t 6)⟩ [],
  .op ⟨some 34, none, .idxS (.t 32) (.t 33)⟩ [32, 33],
  .op ⟨some 35, none, .bin .eql (.t 34) (.c (.u8 42))⟩ [34],
  .op ⟨some 31, none, .mov (.t 35)⟩ [35]]
def r21_9 : List RI := [.op ⟨some 36, none, .mov (.t 7)⟩ [],
  .op ⟨some 37, none, .mov (.t 8)⟩ [],
  .op ⟨some 38, none, .mov (.t 5)⟩ [],
  .op ⟨some 39, none, .mov (.t 8)⟩ [],
  .op ⟨some 40, none, .iaddrL 1 (.t 38) (.t 39)⟩ [38, 39],
  .op ⟨some 41, none, .load 1 false (.t 40)⟩ [40],
  .op ⟨some 42, none, .mov (.t 41)⟩ [41],
  .grp 42 false [⟨some 43, some (42, false), .mov (.t 8)⟩,
    ⟨some 44, some (42, false), .bin .gtr (.t 43) (.c (.int .i64 0))⟩,
    ⟨some 45, some (42, false), .mov (.t 44)⟩] [43, 44],
  .grp 45 true [⟨some 46, some (45, true), .mov (.t 7)⟩,
    ⟨some 47, some (45, true), .mov (.t 8)⟩,
    ⟨some 48, some (45, true), .bin .sub (.t 47) (.c (.int .i64 1))⟩,
    ⟨some 49, some (45, true), .iaddrL 1 (.t 46) (.t 48)⟩,
    ⟨some 50, some (45, true), .load 1 false (.t 49)⟩] [46, 47, 48, 49],
  .grp 42 false [⟨some 51, some (42, false), .pick (.t 45) (.t 50) (.c (.bool false))⟩] [45, 50],
  .op ⟨some 52, none, .pick (.t 42) (.c (.bool true)) (.t 51)⟩ [42, 51],
  .op ⟨some 53, none, .iaddrL 1 (.t 36) (.t 37)⟩ [36, 37],
  .op ⟨none, none, .store 1 (.t 53) (.t 52)⟩ [52, 53]]
def r21_10 : List RI := [.op ⟨some 55, none, .mov (.t 8)⟩ [],
  .op ⟨some 56, none, .bin .gtr (.t 55) (.c (.int .i64 0))⟩ [55],
  .op ⟨some 54, none, .mov (.t 56)⟩ [56]]
def r21_11 : List FI := [⟨0, true, ⟨some 57, none, .mov (.t 7)⟩⟩,
  ⟨1, true, ⟨some 58, none, .mov (.t 8)⟩⟩,
  ⟨2, true, ⟨some 59, none, .mov (.t 5)⟩⟩,
  ⟨3, true, ⟨some 60, none, .mov (.t 8)⟩⟩,
  ⟨4, true, ⟨some 61, none, .bin .sub (.t 60) (.c (.int .i64 1))⟩⟩,
  ⟨5, true, ⟨some 62, none, .iaddrL 1 (.t 59) (.t 61)⟩⟩,
  ⟨6, true, ⟨some 63, none, .load 1 false (.t 62)⟩⟩,
  ⟨7, true, ⟨some 64, none, .mov (.t 63)⟩⟩,
  ⟨8, true, ⟨some 65, some (64, true), .mov (.t 0)⟩⟩,
  ⟨9, true, ⟨some 66, some (64, true), .mov (.t 6)⟩⟩,
  ⟨10, true, ⟨some 67, some (64, true), .idxS (.t 65) (.t 66)⟩⟩,
  ⟨11, true, ⟨some 68, some (64, true), .bin .eql (.t 67) (.c (.u8 63))⟩⟩,
  ⟨12, true, ⟨some 69, some (64, true), .mov (.t 68)⟩⟩,
  ⟨13, true, ⟨some 70, some (69, false), .mov (.t 0)⟩⟩,
  ⟨14, true, ⟨some 71, some (69, false), .mov (.t 6)⟩⟩,
  ⟨15, true, ⟨some 72, some (69, false), .idxS (.t 70) (.t 71)⟩⟩,
  ⟨16, true, ⟨some 73, some (69, false), .mov (.t 1)⟩⟩,
  ⟨17, true, ⟨some 74, some (69, false), .mov (.t 8)⟩⟩,
  ⟨18, true, ⟨some 75, some (69, false), .bin .sub (.t 74) (.c (.int .i64 1))⟩⟩,
  ⟨19, true, ⟨some 76, some (69, false), .iaddrL 1 (.t 73) (.t 75)⟩⟩,
  ⟨20, true, ⟨some 77, some (69, false), .load 1 false (.t 76)⟩⟩,
  ⟨21, true, ⟨some 78, some (69, false), .bin .eql (.t 72) (.t 77)⟩⟩,
  ⟨22, true, ⟨some 79, some (64, true), .pick (.t 69) (.c (.bool true)) (.t 78)⟩⟩,
  ⟨23, true, ⟨some 80, none, .pick (.t 64) (.t 79) (.c (.bool false))⟩⟩,
  ⟨24, true, ⟨some 81, none, .iaddrL 1 (.t 57) (.t 58)⟩⟩,
  ⟨25, false, ⟨none, none, .store 1 (.t 81) (.t 80)⟩⟩]
def r21_12 : List RI := [.op ⟨some 29, none, .mov (.t 8)⟩ [8],
  .op ⟨some 30, none, .bin .add (.t 29) (.c (.int .i64 1))⟩ [29],
  .op ⟨some 8, none, .mov (.t 30)⟩ [30]]
/- live at the loop's head: [0, 1, 5, 6, 7, 8]; at its end (exits): [(2, [0, 1, 6, 7]), (1, [0, 1, 5, 6]), (0, [1, 5])]; then [0, 1, 6, 7] -/
def r21_13 : RC := (.seq (.seq (.ops r21_7) (.cond (.t 28) (.pre [.kill [28]] .skip) (.pre [.kill [5, 8, 28]] (.exit 2)))) (.seq (.block 3 (.block 4 (.seq (.ops r21_8) (.cond (.t 31) (.pre [.kill [31]] (.ops r21_9)) (.pre [.kill [31]] (.seq (.ops r21_10) (.cond (.t 54) (.pre [.kill [54]] (.flt [0, 0, 0, 0, 8, 28, 60, 124, 252, 252, 1020, 2044, 4092, 8188, 8188, 32764, 8188, 8188, 139260, 466940, 991228, 2097148, 4194300, 8388604, 16777215, 33554431] [] r21_11 [57, 58, 59, 60, 61, 62, 63, 64, 65, 66, 67, 68, 69, 70, 71, 72, 73, 74, 75, 76, 77, 78, 79, 80, 81])) (.pre [.kill [54]] .skip)))))))) (.ops r21_12)))
def r21_14 : List RI := [.op ⟨some 82, none, .mov (.t 7)⟩ [7],
  .op ⟨some 5, none, .mov (.t 82)⟩ [82]]
def r21_15 : List RI := [.op ⟨some 19, none, .mov (.t 6)⟩ [6],
  .op ⟨some 20, none, .bin .add (.t 19) (.c (.int .i64 1))⟩ [19],
  .op ⟨some 6, none, .mov (.t 20)⟩ [20]]
/- live at the loop's head: [0, 1, 5, 6]; at its end (exits): [(0, [1, 5])]; then [1, 5] -/
def r21_16 : RC := (.post (.seq (.seq (.ops r21_4) (.cond (.t 18) (.pre [.kill [18]] .skip) (.pre [.kill [0, 6, 18]] (.exit 0)))) (.seq (.block 1 (.seq (.ops r21_5) (.seq (.seq (.ops r21_6) (.block 2 (.loop r21_13))) (.ops r21_14)))) (.ops r21_15))) [.pub 5])
def r21_17 : List RI := [.op ⟨some 83, none, .mov (.t 5)⟩ [5],
  .op ⟨some 84, none, .mov (.t 1)⟩ [1],
  .op ⟨some 85, none, .len false (.t 84)⟩ [84],
  .op ⟨some 86, none, .iaddrL 1 (.t 83) (.t 85)⟩ [83, 85],
  .op ⟨some 87, none, .load 1 false (.t 86)⟩ [86],
  .op ⟨some 4, none, .mov (.t 87)⟩ [87]]
def r21 : RC := (.seq (.ops r21_0) (.seq (.ops r21_1) (.seq (.ops r21_2) (.seq (.seq (.ops r21_3) (.block 0 (.pre [.pub 5] (.loop r21_16)))) (.seq (.ops r21_17) .ret)))))
def F21 : FnC := ⟨r21, 88, [.tmp 4], [], []⟩
theorem r21_ok : ((Tryd.f21).body).map (resB Tryd.prog) = some r21.er := by kernel_rfl
/- 22 (*sealwright/sealwrightdraw.Codes).Next · params #[27, 3] · tmps 36 · results .tmp 4 -/
def r22_0 : List RI := [.op ⟨some 4, none, .mov (.c (.int .i64 0))⟩ [4]]
def r22_1 : List FI := [⟨0, true, ⟨some 5, none, .mov (.t 0)⟩⟩,
  ⟨1, true, ⟨some 6, none, .nchk (.t 5)⟩⟩,
  ⟨2, true, ⟨some 7, none, .faddr 1 (.t 6)⟩⟩,
  ⟨3, true, ⟨some 8, none, .load 1 false (.t 7)⟩⟩,
  ⟨4, true, ⟨some 9, none, .mov (.t 0)⟩⟩,
  ⟨5, true, ⟨some 10, none, .nchk (.t 9)⟩⟩,
  ⟨6, true, ⟨some 11, none, .faddr 0 (.t 10)⟩⟩,
  ⟨7, true, ⟨some 12, none, .load 1 false (.t 11)⟩⟩,
  ⟨8, true, ⟨some 13, none, .len false (.t 12)⟩⟩,
  ⟨9, true, ⟨some 14, none, .bin .geq (.t 8) (.t 13)⟩⟩]
def r22_2 : List RI := [.op ⟨some 4, none, .mov (.c (.int .i64 0))⟩ []]
def r22_3 : List RI := [.op ⟨some 15, none, .mov (.t 0)⟩ [],
  .op ⟨some 16, none, .nchk (.t 15)⟩ [],
  .op ⟨some 17, none, .faddr 1 (.t 16)⟩ [16],
  .op ⟨some 18, none, .load 1 false (.t 17)⟩ [17],
  .op ⟨some 19, none, .bin .add (.t 18) (.c (.int .i64 1))⟩ [18],
  .op ⟨some 20, none, .nchk (.t 15)⟩ [15],
  .op ⟨some 21, none, .faddr 1 (.t 20)⟩ [20],
  .op ⟨none, none, .store 1 (.t 21) (.t 19)⟩ [19, 21]]
def r22_4 : List FI := [⟨0, true, ⟨some 22, none, .mov (.t 0)⟩⟩,
  ⟨1, true, ⟨some 23, none, .nchk (.t 22)⟩⟩,
  ⟨2, true, ⟨some 24, none, .faddr 0 (.t 23)⟩⟩,
  ⟨3, true, ⟨some 25, none, .load 1 false (.t 24)⟩⟩,
  ⟨4, true, ⟨some 26, none, .mov (.t 0)⟩⟩,
  ⟨5, true, ⟨some 27, none, .nchk (.t 26)⟩⟩,
  ⟨6, true, ⟨some 28, none, .faddr 1 (.t 27)⟩⟩,
  ⟨7, true, ⟨some 29, none, .load 1 false (.t 28)⟩⟩,
  ⟨8, true, ⟨some 30, none, .bin .sub (.t 29) (.c (.int .i64 1))⟩⟩,
  ⟨9, true, ⟨some 31, none, .iaddrL 1 (.t 25) (.t 30)⟩⟩,
  ⟨10, true, ⟨some 32, none, .load 1 false (.t 31)⟩⟩,
  ⟨11, true, ⟨some 33, none, .toInt .i64 (.t 32)⟩⟩,
  ⟨12, true, ⟨some 34, none, .mov (.t 1)⟩⟩,
  ⟨13, true, ⟨some 35, none, .bin .rem (.t 33) (.t 34)⟩⟩,
  ⟨14, true, ⟨some 4, none, .mov (.t 35)⟩⟩]
def r22 : RC := (.seq (.ops r22_0) (.seq (.seq (.flt [0, 1, 3, 7, 0, 16, 48, 112, 240, 511] [] r22_1 [5, 6, 7, 8, 9, 10, 11, 12, 13]) (.cond (.t 14) (.pre [.kill [0, 1, 14]] (.seq (.ops r22_2) .ret)) (.pre [.kill [14]] .skip))) (.seq (.ops r22_3) (.seq (.flt [0, 1, 3, 7, 0, 16, 48, 112, 240, 511, 1023, 2047, 0, 8191, 16383] [] r22_4 [0, 1, 22, 23, 24, 25, 26, 27, 28, 29, 30, 31, 32, 33, 34, 35]) .ret))))
def F22 : FnC := ⟨r22, 36, [.tmp 4], [], []⟩
theorem r22_ok : ((Tryd.f22).body).map (resB Tryd.prog) = some r22.er := by kernel_rfl
/- 23 (*sealwright/sealwrightdraw.Codes).Line · params #[27] · tmps 10 · results .tmp 2 -/
def r23_0 : List RI := [.op ⟨some 2, none, .mov (.c (.byt [] .clip))⟩ [2]]
def r23_1 : List RI := [.op ⟨some 4, none, .build [(.str []), (.str []), (.str []), (.str []), (.str []), (.str [])] [(0, 1, (.c (.str [97, 61, 49]))), (1, 1, (.c (.str [99, 111, 117, 110, 116, 61, 53]))), (2, 1, (.c (.str [99, 111, 117, 110, 116, 61, 49, 55]))), (3, 1, (.c (.str [104, 111, 115, 116, 61, 120]))), (4, 1, (.c (.str [109, 111, 100, 101, 32, 98]))), (5, 1, (.c (.str [126])))]⟩ [],
  .op ⟨some 3, none, .new (.arr 1 (List.replicate 6 [(.str [])]))⟩ [],
  .op ⟨none, none, .store 6 (.t 3) (.t 4)⟩ [4]]
def r23_2 : List RI := [.op ⟨some 5, none, .mov (.t 0)⟩ [0],
  .op ⟨some 6, none, .call (.f 22) [(.t 5), (.c (.int .i64 6))]⟩ [5],
  .op ⟨some 7, none, .iaddrA 6 1 (.t 3) (.t 6)⟩ [3, 6],
  .op ⟨some 8, none, .load 1 false (.t 7)⟩ [7],
  .op ⟨some 9, none, .s2b (.t 8)⟩ [8],
  .op ⟨some 2, none, .mov (.t 9)⟩ [9]]
def r23 : RC := (.seq (.ops r23_0) (.seq (.ops r23_1) (.seq (.ops r23_2) .ret)))
def F23 : FnC := ⟨r23, 10, [.tmp 2], [], []⟩
theorem r23_ok : ((Tryd.f23).body).map (resB Tryd.prog) = some r23.er := by kernel_rfl
/- 24 sealwright/rules.Allows · params #[23, 24] · tmps 51 · results .tmp 4 -/
def r24_0 : List RI := [.op ⟨some 2, none, .box (.t 0)⟩ [0],
  .op ⟨some 4, none, .mov (.c (.bool false))⟩ [4]]
def r24_1 : List RI := [.op ⟨some 8, none, .load 4 true (.t 2)⟩ [],
  .op ⟨some 9, none, .call (.f 14) [(.t 8)]⟩ [8],
  .op ⟨some 10, none, .bin .neq (.t 9) (.c (.int .i64 0))⟩ [9]]
def r24_2 : List RI := [.op ⟨some 4, none, .mov (.c (.bool false))⟩ []]
def r24_3 : List RI := [.op ⟨some 11, none, .faddr 0 (.t 2)⟩ [],
  .op ⟨some 12, none, .load 1 false (.t 11)⟩ [11]]
def r24_4 : List RI := [.op ⟨some 14, none, .bin .eql (.t 12) (.c (.int .i64 2))⟩ [],
  .op ⟨some 13, none, .mov (.t 14)⟩ [14]]
def r24_5 : List RI := [.op ⟨some 15, none, .mov (.t 1)⟩ [1],
  .op ⟨some 16, none, .b2s (.t 15)⟩ [15],
  .op ⟨some 17, none, .faddr 1 (.t 2)⟩ [2],
  .op ⟨some 18, none, .load 1 false (.t 17)⟩ [17],
  .op ⟨some 19, none, .bin .eql (.t 16) (.t 18)⟩ [16, 18],
  .op ⟨some 4, none, .mov (.t 19)⟩ [19]]
def r24_6 : List RI := [.op ⟨some 21, none, .bin .eql (.t 12) (.c (.int .i64 3))⟩ [],
  .op ⟨some 20, none, .mov (.t 21)⟩ [21]]
def r24_7 : List RI := [.op ⟨some 22, none, .faddr 1 (.t 2)⟩ [2],
  .op ⟨some 23, none, .load 1 false (.t 22)⟩ [22],
  .op ⟨some 24, none, .mov (.t 1)⟩ [1],
  .op ⟨some 25, none, .call (.f 20) [(.t 23), (.t 24)]⟩ [23, 24],
  .op ⟨some 4, none, .mov (.t 25)⟩ [25]]
def r24_8 : List RI := [.op ⟨some 27, none, .bin .eql (.t 12) (.c (.int .i64 4))⟩ [12],
  .op ⟨some 26, none, .mov (.t 27)⟩ [27]]
def r24_9 : List RI := [.op ⟨some 29, none, .mov (.t 1)⟩ [1],
  .op ⟨some 30, none, .b2s (.t 29)⟩ [29],
  .op ⟨some 31, none, .faddr 1 (.t 2)⟩ [],
  .op ⟨some 32, none, .load 1 false (.t 31)⟩ [31],
  .op ⟨some 33, none, .call (.f 29) [(.t 30), (.t 32)]⟩ [30, 32],
  .op ⟨some 28, none, .mov (.t 33)⟩ [33],
  .op ⟨some 34, none, .ext (.t 28) 0⟩ [],
  .op ⟨some 35, none, .ext (.t 28) 1⟩ [28],
  .op ⟨some 5, none, .mov (.t 34)⟩ [34],
  .op ⟨some 6, none, .mov (.t 35)⟩ [35]]
def r24_10 : List RI := [.op ⟨some 36, none, .mov (.t 5)⟩ [5],
  .op ⟨some 37, none, .call (.f 30) [(.t 36)]⟩ [36],
  .op ⟨some 7, none, .mov (.t 37)⟩ [37]]
def r24_11 : List RI := [.op ⟨some 38, none, .mov (.t 6)⟩ [6],
  .op ⟨some 39, none, .mov (.t 38)⟩ [38],
  .grp 39 true [⟨some 40, some (39, true), .mov (.t 7)⟩,
    ⟨some 41, some (39, true), .faddr 2 (.t 2)⟩,
    ⟨some 42, some (39, true), .load 1 false (.t 41)⟩,
    ⟨some 43, some (39, true), .bin .geq (.t 40) (.t 42)⟩] [40, 41, 42],
  .op ⟨some 44, none, .pick (.t 39) (.t 43) (.c (.bool false))⟩ [39, 43],
  .op ⟨some 45, none, .mov (.t 44)⟩ [44],
  .grp 45 true [⟨some 46, some (45, true), .mov (.t 7)⟩,
    ⟨some 47, some (45, true), .faddr 3 (.t 2)⟩,
    ⟨some 48, some (45, true), .load 1 false (.t 47)⟩,
    ⟨some 49, some (45, true), .bin .leq (.t 46) (.t 48)⟩] [2, 7, 46, 47, 48],
  .op ⟨some 50, none, .pick (.t 45) (.t 49) (.c (.bool false))⟩ [45, 49],
  .op ⟨some 4, none, .mov (.t 50)⟩ [50]]
def r24_12 : List RI := [.op ⟨some 4, none, .mov (.c (.bool true))⟩ []]
def r24 : RC := (.seq (.ops r24_0) (.seq (.seq (.ops r24_1) (.cond (.t 10) (.pre [.kill [1, 2, 10]] (.seq (.ops r24_2) .ret)) (.pre [.kill [10]] .skip))) (.seq (.seq (.ops r24_3) (.block 0 (.seq (.ops r24_4) (.cond (.t 13) (.pre [.kill [12, 13]] (.seq (.ops r24_5) .ret)) (.pre [.kill [13]] (.seq (.ops r24_6) (.cond (.t 20) (.pre [.kill [12, 20]] (.seq (.ops r24_7) .ret)) (.pre [.kill [20]] (.seq (.ops r24_8) (.cond (.t 26) (.pre [.kill [26]] (.seq (.ops r24_9) (.seq (.ops r24_10) (.seq (.ops r24_11) .ret)))) (.pre [.kill [1, 2, 26]] .skip))))))))))) (.seq (.ops r24_12) .ret))))
def F24 : FnC := ⟨r24, 51, [.tmp 4], [], []⟩
theorem r24_ok : ((Tryd.f24).body).map (resB Tryd.prog) = some r24.er := by kernel_rfl
/- 25 sealwright/sealwrightref31.Allows · params #[23, 24] · tmps 98 · results .tmp 4 -/
def r25_0 : List RI := [.op ⟨some 2, none, .box (.t 0)⟩ [0],
  .op ⟨some 4, none, .mov (.c (.bool false))⟩ [4]]
def r25_1 : List RI := [.op ⟨some 8, none, .load 4 true (.t 2)⟩ [],
  .op ⟨some 9, none, .call (.f 15) [(.t 8)]⟩ [8],
  .op ⟨some 10, none, .bin .neq (.t 9) (.c (.int .i64 0))⟩ [9]]
def r25_2 : List RI := [.op ⟨some 4, none, .mov (.c (.bool false))⟩ []]
def r25_3 : List RI := [.op ⟨some 11, none, .faddr 0 (.t 2)⟩ [],
  .op ⟨some 12, none, .load 1 false (.t 11)⟩ [11]]
def r25_4 : List RI := [.op ⟨some 14, none, .bin .eql (.t 12) (.c (.int .i64 1))⟩ [],
  .op ⟨some 13, none, .mov (.t 14)⟩ [14]]
def r25_5 : List RI := [.op ⟨some 4, none, .mov (.c (.bool true))⟩ []]
def r25_6 : List RI := [.op ⟨some 16, none, .bin .eql (.t 12) (.c (.int .i64 2))⟩ [],
  .op ⟨some 15, none, .mov (.t 16)⟩ [16]]
def r25_7 : List RI := [.op ⟨some 17, none, .faddr 1 (.t 2)⟩ [2],
  .op ⟨some 18, none, .load 1 false (.t 17)⟩ [17],
  .op ⟨some 19, none, .s2b (.t 18)⟩ [18],
  .op ⟨some 20, none, .mov (.t 1)⟩ [1],
  .op ⟨some 21, none, .call (.f 31) [(.t 19), (.t 20)]⟩ [19, 20],
  .op ⟨some 4, none, .mov (.t 21)⟩ [21]]
def r25_8 : List RI := [.op ⟨some 23, none, .bin .eql (.t 12) (.c (.int .i64 3))⟩ [12],
  .op ⟨some 22, none, .mov (.t 23)⟩ [23]]
def r25_9 : List RI := [.op ⟨some 24, none, .faddr 1 (.t 2)⟩ [2],
  .op ⟨some 25, none, .load 1 false (.t 24)⟩ [24],
  .op ⟨some 26, none, .mov (.t 1)⟩ [1],
  .op ⟨some 27, none, .call (.f 21) [(.t 25), (.t 26)]⟩ [25, 26],
  .op ⟨some 4, none, .mov (.t 27)⟩ [27]]
def r25_10 : List RI := [.op ⟨some 28, none, .faddr 1 (.t 2)⟩ [],
  .op ⟨some 29, none, .load 1 false (.t 28)⟩ [28],
  .op ⟨some 30, none, .len true (.t 29)⟩ [29],
  .op ⟨some 5, none, .mov (.t 30)⟩ [30]]
def r25_11 : List FI := [⟨0, true, ⟨some 31, none, .mov (.t 1)⟩⟩,
  ⟨1, true, ⟨some 32, none, .len false (.t 31)⟩⟩,
  ⟨2, true, ⟨some 33, none, .mov (.t 5)⟩⟩,
  ⟨3, true, ⟨some 34, none, .bin .leq (.t 32) (.t 33)⟩⟩,
  ⟨4, true, ⟨some 35, none, .mov (.t 34)⟩⟩,
  ⟨5, true, ⟨some 36, some (35, false), .mov (.t 1)⟩⟩,
  ⟨6, true, ⟨some 37, some (35, false), .len false (.t 36)⟩⟩,
  ⟨7, true, ⟨some 38, some (35, false), .mov (.t 5)⟩⟩,
  ⟨8, true, ⟨some 39, some (35, false), .bin .add (.t 38) (.c (.int .i64 10))⟩⟩,
  ⟨9, true, ⟨some 40, some (35, false), .bin .gtr (.t 37) (.t 39)⟩⟩,
  ⟨10, true, ⟨some 41, none, .pick (.t 35) (.c (.bool true)) (.t 40)⟩⟩,
  ⟨11, true, ⟨some 42, none, .mov (.t 41)⟩⟩,
  ⟨12, true, ⟨some 43, some (42, false), .faddr 1 (.t 2)⟩⟩,
  ⟨13, true, ⟨some 44, some (42, false), .load 1 false (.t 43)⟩⟩,
  ⟨14, true, ⟨some 45, some (42, false), .s2b (.t 44)⟩⟩,
  ⟨15, true, ⟨some 46, some (42, false), .mov (.t 1)⟩⟩,
  ⟨16, true, ⟨some 47, some (42, false), .mov (.t 5)⟩⟩,
  ⟨17, true, ⟨some 48, some (42, false), .slcL 1 (.t 46) none (some (.t 47)) none⟩⟩,
  ⟨18, false, ⟨some 49, some (42, false), .call (.f 31) [(.t 45), (.t 48)]⟩⟩,
  ⟨19, true, ⟨some 50, some (42, false), .un .not (.t 49)⟩⟩,
  ⟨20, true, ⟨some 51, none, .pick (.t 42) (.c (.bool true)) (.t 50)⟩⟩]
def r25_12 : List RI := [.op ⟨some 4, none, .mov (.c (.bool false))⟩ []]
def r25_13 : List RI := [.op ⟨some 6, none, .mov (.c (.int .i64 0))⟩ []]
def r25_14 : List RI := [.op ⟨some 52, none, .mov (.t 5)⟩ [],
  .op ⟨some 7, none, .mov (.t 52)⟩ [52]]
def r25_15 : List RI := [.op ⟨some 53, none, .mov (.t 7)⟩ [],
  .op ⟨some 54, none, .mov (.t 1)⟩ [],
  .op ⟨some 55, none, .len false (.t 54)⟩ [54],
  .op ⟨some 56, none, .bin .lss (.t 53) (.t 55)⟩ [53, 55]]
def r25_16 : List RI := [.op ⟨some 59, none, .mov (.t 1)⟩ [],
  .op ⟨some 60, none, .mov (.t 7)⟩ [],
  .op ⟨some 61, none, .iaddrL 1 (.t 59) (.t 60)⟩ [59, 60],
  .op ⟨some 62, none, .load 1 false (.t 61)⟩ [61],
  .op ⟨some 63, none, .bin .lss (.t 62) (.c (.u8 48))⟩ [62],
  .op ⟨some 64, none, .mov (.t 63)⟩ [63],
  .grp 64 false [⟨some 65, some (64, false), .mov (.t 1)⟩,
    ⟨some 66, some (64, false), .mov (.t 7)⟩,
    ⟨some 67, some (64, false), .iaddrL 1 (.t 65) (.t 66)⟩,
    ⟨some 68, some (64, false), .load 1 false (.t 67)⟩,
    ⟨some 69, some (64, false), .bin .gtr (.t 68) (.c (.u8 57))⟩] [65, 66, 67, 68],
  .op ⟨some 70, none, .pick (.t 64) (.c (.bool true)) (.t 69)⟩ [64, 69]]
def r25_17 : List RI := [.op ⟨some 4, none, .mov (.c (.bool false))⟩ []]
def r25_18 : List RI := [.op ⟨some 71, none, .mov (.t 6)⟩ [6],
  .op ⟨some 72, none, .bin .mul (.c (.int .i64 10)) (.t 71)⟩ [71],
  .op ⟨some 73, none, .mov (.t 1)⟩ [],
  .op ⟨some 74, none, .mov (.t 7)⟩ [],
  .op ⟨some 75, none, .iaddrL 1 (.t 73) (.t 74)⟩ [73, 74],
  .op ⟨some 76, none, .load 1 false (.t 75)⟩ [75],
  .op ⟨some 77, none, .bin .sub (.t 76) (.c (.u8 48))⟩ [76],
  .op ⟨some 78, none, .toInt .i64 (.t 77)⟩ [77],
  .op ⟨some 79, none, .bin .add (.t 72) (.t 78)⟩ [72, 78],
  .op ⟨some 6, none, .mov (.t 79)⟩ [79]]
def r25_19 : List RI := [.op ⟨some 57, none, .mov (.t 7)⟩ [7],
  .op ⟨some 58, none, .bin .add (.t 57) (.c (.int .i64 1))⟩ [57],
  .op ⟨some 7, none, .mov (.t 58)⟩ [58]]
/- live at the loop's head: [1, 2, 5, 6, 7]; at its end (exits): [(1, [1, 2, 5, 6])]; then [1, 2, 5, 6] -/
def r25_20 : RC := (.seq (.seq (.ops r25_15) (.cond (.t 56) (.pre [.kill [56]] .skip) (.pre [.kill [7, 56]] (.exit 1)))) (.seq (.block 2 (.seq (.seq (.ops r25_16) (.cond (.t 70) (.pre [.kill [1, 2, 5, 6, 7, 70]] (.seq (.ops r25_17) .ret)) (.pre [.kill [70]] .skip))) (.ops r25_18))) (.ops r25_19)))
def r25_21 : List FI := [⟨0, true, ⟨some 80, none, .mov (.t 6)⟩⟩,
  ⟨2, true, ⟨some 82, none, .mov (.t 1)⟩⟩,
  ⟨3, true, ⟨some 83, none, .mov (.t 5)⟩⟩,
  ⟨4, true, ⟨some 84, none, .slcL 1 (.t 82) (some (.t 83)) none none⟩⟩,
  ⟨1, false, ⟨some 81, none, .call (.f 32) [(.t 80)]⟩⟩,
  ⟨5, false, ⟨some 85, none, .call (.f 31) [(.t 81), (.t 84)]⟩⟩,
  ⟨6, true, ⟨some 86, none, .mov (.t 85)⟩⟩,
  ⟨7, true, ⟨some 87, some (86, true), .mov (.t 6)⟩⟩,
  ⟨8, true, ⟨some 88, some (86, true), .faddr 2 (.t 2)⟩⟩,
  ⟨9, true, ⟨some 89, some (86, true), .load 1 false (.t 88)⟩⟩,
  ⟨10, true, ⟨some 90, some (86, true), .bin .geq (.t 87) (.t 89)⟩⟩,
  ⟨11, true, ⟨some 91, none, .pick (.t 86) (.t 90) (.c (.bool false))⟩⟩,
  ⟨12, true, ⟨some 92, none, .mov (.t 91)⟩⟩,
  ⟨13, true, ⟨some 93, some (92, true), .mov (.t 6)⟩⟩,
  ⟨14, true, ⟨some 94, some (92, true), .faddr 3 (.t 2)⟩⟩,
  ⟨15, true, ⟨some 95, some (92, true), .load 1 false (.t 94)⟩⟩,
  ⟨16, true, ⟨some 96, some (92, true), .bin .leq (.t 93) (.t 95)⟩⟩,
  ⟨17, true, ⟨some 97, none, .pick (.t 92) (.t 96) (.c (.bool false))⟩⟩,
  ⟨18, true, ⟨some 4, none, .mov (.t 97)⟩⟩]
def r25 : RC := (.seq (.ops r25_0) (.seq (.seq (.ops r25_1) (.cond (.t 10) (.pre [.kill [1, 2, 10]] (.seq (.ops r25_2) .ret)) (.pre [.kill [10]] .skip))) (.seq (.seq (.ops r25_3) (.block 0 (.seq (.ops r25_4) (.cond (.t 13) (.pre [.kill [1, 2, 12, 13]] (.seq (.ops r25_5) .ret)) (.pre [.kill [13]] (.seq (.ops r25_6) (.cond (.t 15) (.pre [.kill [12, 15]] (.seq (.ops r25_7) .ret)) (.pre [.kill [15]] (.seq (.ops r25_8) (.cond (.t 22) (.pre [.kill [22]] (.seq (.ops r25_9) .ret)) (.pre [.kill [22]] .skip))))))))))) (.seq (.ops r25_10) (.seq (.seq (.flt [0, 1, 0, 7, 15, 31, 63, 31, 159, 511, 1023, 2047, 4095, 8191, 16383, 4095, 4095, 102399, 262143, 524287, 1048575] [] r25_11 [31, 32, 33, 34, 35, 36, 37, 38, 39, 40, 41, 42, 43, 44, 45, 46, 47, 48, 49, 50]) (.cond (.t 51) (.pre [.kill [1, 2, 5, 51]] (.seq (.ops r25_12) .ret)) (.pre [.kill [51]] .skip))) (.seq (.ops r25_13) (.seq (.seq (.ops r25_14) (.block 1 (.loop r25_20))) (.seq (.flt [0, 1, 0, 0, 12, 31, 63, 127, 127, 383, 1023, 2047, 4095, 8191, 8191, 24575, 65535, 131071, 262143] [] r25_21 [1, 2, 5, 6, 80, 81, 82, 83, 84, 85, 86, 87, 88, 89, 90, 91, 92, 93, 94, 95, 96, 97]) .ret))))))))
def F25 : FnC := ⟨r25, 98, [.tmp 4], [], []⟩
theorem r25_ok : ((Tryd.f25).body).map (resB Tryd.prog) = some r25.er := by kernel_rfl
/- 26 sealwright/sealwrightlaw31.decimal · params #[3] · tmps 18 · results .tmp 2 -/
def r26_0 : List RI := [.op ⟨some 2, none, .mov (.c (.byt [] .clip))⟩ [2]]
def r26_1 : List RI := [.op ⟨some 3, none, .mov (.t 0)⟩ [],
  .op ⟨some 4, none, .bin .lss (.t 3) (.c (.int .i64 10))⟩ [3]]
def r26_2 : List RI := [.op ⟨some 5, none, .mov (.t 0)⟩ [0],
  .op ⟨some 6, none, .bin .add (.c (.int .i64 48)) (.t 5)⟩ [5],
  .op ⟨some 7, none, .toInt .u8 (.t 6)⟩ [6],
  .op ⟨some 8, none, .litB [(.t 7)]⟩ [7],
  .op ⟨some 2, none, .mov (.t 8)⟩ [8]]
def r26_3 : List RI := [.op ⟨some 9, none, .mov (.t 0)⟩ [],
  .op ⟨some 10, none, .bin .quo (.t 9) (.c (.int .i64 10))⟩ [9],
  .op ⟨some 11, none, .call (.f 26) [(.t 10)]⟩ [10],
  .op ⟨some 12, none, .mov (.t 0)⟩ [0],
  .op ⟨some 13, none, .bin .rem (.t 12) (.c (.int .i64 10))⟩ [12],
  .op ⟨some 14, none, .bin .add (.c (.int .i64 48)) (.t 13)⟩ [13],
  .op ⟨some 15, none, .toInt .u8 (.t 14)⟩ [14],
  .op ⟨some 16, none, .litB [(.t 15)]⟩ [15],
  .op ⟨some 17, none, .app [(.u8 0)] 1 (.t 11) (.t 16)⟩ [11, 16],
  .op ⟨some 2, none, .mov (.t 17)⟩ [17]]
def r26 : RC := (.seq (.ops r26_0) (.seq (.seq (.ops r26_1) (.cond (.t 4) (.pre [.kill [4]] (.seq (.ops r26_2) .ret)) (.pre [.kill [4]] .skip))) (.seq (.ops r26_3) .ret)))
def F26 : FnC := ⟨r26, 18, [.tmp 2], [0], []⟩
theorem r26_ok : ((Tryd.f26).body).map (resB Tryd.prog) = some r26.er := by kernel_rfl
/- 27 (*sealwright/sealwrightdraw.Codes).Left · params #[27] · tmps 13 · results .tmp 2 -/
def r27_0 : List RI := [.op ⟨some 2, none, .mov (.c (.bool false))⟩ [2]]
def r27_1 : List FI := [⟨0, true, ⟨some 3, none, .mov (.t 0)⟩⟩,
  ⟨1, true, ⟨some 4, none, .nchk (.t 3)⟩⟩,
  ⟨2, true, ⟨some 5, none, .faddr 1 (.t 4)⟩⟩,
  ⟨3, true, ⟨some 6, none, .load 1 false (.t 5)⟩⟩,
  ⟨4, true, ⟨some 7, none, .mov (.t 0)⟩⟩,
  ⟨5, true, ⟨some 8, none, .nchk (.t 7)⟩⟩,
  ⟨6, true, ⟨some 9, none, .faddr 0 (.t 8)⟩⟩,
  ⟨7, true, ⟨some 10, none, .load 1 false (.t 9)⟩⟩,
  ⟨8, true, ⟨some 11, none, .len false (.t 10)⟩⟩,
  ⟨9, true, ⟨some 12, none, .bin .lss (.t 6) (.t 11)⟩⟩,
  ⟨10, true, ⟨some 2, none, .mov (.t 12)⟩⟩]
def r27 : RC := (.seq (.ops r27_0) (.seq (.flt [0, 1, 3, 7, 0, 16, 48, 112, 240, 511, 1023] [] r27_1 [0, 3, 4, 5, 6, 7, 8, 9, 10, 11, 12]) .ret))
def F27 : FnC := ⟨r27, 13, [.tmp 2], [], []⟩
theorem r27_ok : ((Tryd.f27).body).map (resB Tryd.prog) = some r27.er := by kernel_rfl
/- 28 strings.Trim · params #[9, 9] · tmps 43 · results .tmp 4 -/
def r28_0 : List RI := [.op ⟨some 4, none, .mov (.c (.str []))⟩ [4]]
def r28_1 : List RI := [.op ⟨some 7, none, .mov (.t 0)⟩ [],
  .op ⟨some 8, none, .bin .eql (.t 7) (.c (.str []))⟩ [7],
  .op ⟨some 9, none, .mov (.t 8)⟩ [8],
  .grp 9 false [⟨some 10, some (9, false), .mov (.t 1)⟩,
    ⟨some 11, some (9, false), .bin .eql (.t 10) (.c (.str []))⟩] [10],
  .op ⟨some 12, none, .pick (.t 9) (.c (.bool true)) (.t 11)⟩ [9, 11]]
def r28_2 : List RI := [.op ⟨some 13, none, .mov (.t 0)⟩ [0],
  .op ⟨some 4, none, .mov (.t 13)⟩ [13]]
def r28_3 : List RI := [.op ⟨some 14, none, .mov (.t 1)⟩ [],
  .op ⟨some 15, none, .len true (.t 14)⟩ [14],
  .op ⟨some 16, none, .bin .eql (.t 15) (.c (.int .i64 1))⟩ [15],
  .op ⟨some 17, none, .mov (.t 16)⟩ [16],
  .grp 17 true [⟨some 18, some (17, true), .mov (.t 1)⟩,
    ⟨some 19, some (17, true), .idxS (.t 18) (.c (.int .i64 0))⟩,
    ⟨some 20, some (17, true), .bin .lss (.t 19) (.c (.u8 128))⟩] [18, 19],
  .op ⟨some 21, none, .pick (.t 17) (.t 20) (.c (.bool false))⟩ [17, 20]]
def r28_4 : List FI := [⟨0, true, ⟨some 22, none, .mov (.t 0)⟩⟩,
  ⟨1, true, ⟨some 23, none, .mov (.t 1)⟩⟩,
  ⟨2, true, ⟨some 24, none, .idxS (.t 23) (.c (.int .i64 0))⟩⟩,
  ⟨4, true, ⟨some 26, none, .mov (.t 1)⟩⟩,
  ⟨5, true, ⟨some 27, none, .idxS (.t 26) (.c (.int .i64 0))⟩⟩,
  ⟨3, false, ⟨some 25, none, .call (.f 34) [(.t 22), (.t 24)]⟩⟩,
  ⟨6, false, ⟨some 28, none, .call (.f 33) [(.t 25), (.t 27)]⟩⟩,
  ⟨7, true, ⟨some 4, none, .mov (.t 28)⟩⟩]
def r28_5 : List RI := [.op ⟨some 30, none, .mov (.t 1)⟩ [],
  .op ⟨some 31, none, .call (.f 35) [(.t 30)]⟩ [30],
  .op ⟨some 29, none, .mov (.t 31)⟩ [31],
  .op ⟨some 32, none, .ext (.t 29) 0⟩ [],
  .op ⟨some 33, none, .ext (.t 29) 1⟩ [29],
  .op ⟨some 5, none, .new (.arr 1 (List.replicate 256 [(.bool false)]))⟩ [],
  .op ⟨none, none, .store 256 (.t 5) (.t 32)⟩ [32],
  .op ⟨some 6, none, .mov (.t 33)⟩ [33]]
def r28_6 : List RI := [.op ⟨some 34, none, .mov (.t 6)⟩ [6]]
def r28_7 : List RI := [.op ⟨some 35, none, .mov (.t 0)⟩ [0],
  .op ⟨some 36, none, .call (.f 37) [(.t 35), (.t 5)]⟩ [35],
  .op ⟨some 37, none, .call (.f 36) [(.t 36), (.t 5)]⟩ [5, 36],
  .op ⟨some 4, none, .mov (.t 37)⟩ [37]]
def r28_8 : List RI := [.op ⟨some 38, none, .mov (.t 0)⟩ [0],
  .op ⟨some 39, none, .mov (.t 1)⟩ [],
  .op ⟨some 40, none, .call (.f 39) [(.t 38), (.t 39)]⟩ [38, 39],
  .op ⟨some 41, none, .mov (.t 1)⟩ [1],
  .op ⟨some 42, none, .call (.f 38) [(.t 40), (.t 41)]⟩ [40, 41],
  .op ⟨some 4, none, .mov (.t 42)⟩ [42]]
def r28 : RC := (.seq (.ops r28_0) (.seq (.seq (.ops r28_1) (.cond (.t 12) (.pre [.kill [1, 12]] (.seq (.ops r28_2) .ret)) (.pre [.kill [12]] .skip))) (.seq (.seq (.ops r28_3) (.cond (.t 21) (.pre [.kill [21]] (.seq (.flt [0, 0, 2, 7, 0, 16, 63, 127] [] r28_4 [0, 1, 22, 23, 24, 25, 26, 27, 28]) .ret)) (.pre [.kill [21]] .skip))) (.seq (.seq (.ops r28_5) (.seq (.ops r28_6) (.cond (.t 34) (.pre [.kill [1, 34]] (.seq (.ops r28_7) .ret)) (.pre [.kill [5, 34]] .skip)))) (.seq (.ops r28_8) .ret)))))
def F28 : FnC := ⟨r28, 43, [.tmp 4], [], []⟩
theorem r28_ok : ((Tryd.f28).body).map (resB Tryd.prog) = some r28.er := by kernel_rfl
/- 29 strings.CutPrefix · params #[9, 9] · tmps 11 · results .tmp 4, .tmp 5 -/
def r29_0 : List RI := [.op ⟨some 4, none, .mov (.c (.str []))⟩ [4],
  .op ⟨some 5, none, .mov (.c (.bool false))⟩ [5]]
def r29_1 : List RI := [.op ⟨some 6, none, .mov (.t 0)⟩ [0],
  .op ⟨some 7, none, .mov (.t 1)⟩ [1],
  .op ⟨some 8, none, .call (.f 40) [(.t 6), (.t 7)]⟩ [6, 7],
  .op ⟨some 9, none, .ext (.t 8) 0⟩ [],
  .op ⟨some 10, none, .ext (.t 8) 1⟩ [8],
  .op ⟨some 4, none, .mov (.t 9)⟩ [9],
  .op ⟨some 5, none, .mov (.t 10)⟩ [10]]
def r29 : RC := (.seq (.ops r29_0) (.seq (.ops r29_1) .ret))
def F29 : FnC := ⟨r29, 11, [.tmp 4, .tmp 5], [], []⟩
theorem r29_ok : ((Tryd.f29).body).map (resB Tryd.prog) = some r29.er := by kernel_rfl
/- 30 sealwright/rules.number · params #[9] · tmps 45 · results .tmp 2 -/
def r30_0 : List RI := [.op ⟨some 2, none, .mov (.c (.int .i64 0))⟩ [2]]
def r30_1 : List RI := [.op ⟨some 6, none, .mov (.t 0)⟩ [],
  .op ⟨some 7, none, .bin .eql (.t 6) (.c (.str []))⟩ [6],
  .op ⟨some 8, none, .mov (.t 7)⟩ [7],
  .grp 8 false [⟨some 9, some (8, false), .mov (.t 0)⟩,
    ⟨some 10, some (8, false), .len true (.t 9)⟩,
    ⟨some 11, some (8, false), .bin .gtr (.t 10) (.c (.int .i64 10))⟩] [9, 10],
  .op ⟨some 12, none, .pick (.t 8) (.c (.bool true)) (.t 11)⟩ [8, 11],
  .op ⟨some 13, none, .mov (.t 12)⟩ [12],
  .grp 13 false [⟨some 14, some (13, false), .mov (.t 0)⟩,
    ⟨some 15, some (13, false), .len true (.t 14)⟩,
    ⟨some 16, some (13, false), .bin .gtr (.t 15) (.c (.int .i64 1))⟩,
    ⟨some 17, some (13, false), .mov (.t 16)⟩] [14, 15, 16],
  .grp 17 true [⟨some 18, some (17, true), .mov (.t 0)⟩,
    ⟨some 19, some (17, true), .idxS (.t 18) (.c (.int .i64 0))⟩,
    ⟨some 20, some (17, true), .bin .eql (.t 19) (.c (.u8 48))⟩] [18, 19],
  .grp 13 false [⟨some 21, some (13, false), .pick (.t 17) (.t 20) (.c (.bool false))⟩] [17, 20],
  .op ⟨some 22, none, .pick (.t 13) (.c (.bool true)) (.t 21)⟩ [13, 21]]
def r30_2 : List RI := [.op ⟨some 2, none, .mov (.c (.int .i64 (-1)))⟩ []]
def r30_3 : List RI := [.op ⟨some 23, none, .mov (.t 0)⟩ [],
  .op ⟨some 24, none, .len true (.t 23)⟩ [23],
  .op ⟨some 25, none, .mov (.c (.int .i64 0))⟩ []]
def r30_4 : List RI := [.op ⟨some 26, none, .bin .lss (.t 25) (.t 24)⟩ []]
def r30_5 : List RI := [.op ⟨some 27, none, .mov (.t 25)⟩ [],
  .op ⟨some 3, none, .mov (.t 27)⟩ [27]]
def r30_6 : List RI := [.op ⟨some 28, none, .mov (.t 0)⟩ [],
  .op ⟨some 29, none, .mov (.t 3)⟩ [],
  .op ⟨some 30, none, .idxS (.t 28) (.t 29)⟩ [28, 29],
  .op ⟨some 31, none, .bin .lss (.t 30) (.c (.u8 48))⟩ [30],
  .op ⟨some 32, none, .mov (.t 31)⟩ [31],
  .grp 32 false [⟨some 33, some (32, false), .mov (.t 0)⟩,
    ⟨some 34, some (32, false), .mov (.t 3)⟩,
    ⟨some 35, some (32, false), .idxS (.t 33) (.t 34)⟩,
    ⟨some 36, some (32, false), .bin .gtr (.t 35) (.c (.u8 57))⟩] [3, 33, 34, 35],
  .op ⟨some 37, none, .pick (.t 32) (.c (.bool true)) (.t 36)⟩ [32, 36]]
def r30_7 : List RI := [.op ⟨some 2, none, .mov (.c (.int .i64 (-1)))⟩ []]
def r30_8 : List RI := [.op ⟨some 38, none, .bin .add (.t 25) (.c (.int .i64 1))⟩ [25],
  .op ⟨some 25, none, .mov (.t 38)⟩ [38]]
/- live at the loop's head: [0, 24, 25]; at its end (exits): [(0, [0])]; then [0] -/
def r30_9 : RC := (.seq (.ops r30_4) (.seq (.cond (.t 26) (.pre [.kill [26]] .skip) (.pre [.kill [24, 25, 26]] (.exit 0))) (.seq (.block 1 (.seq (.ops r30_5) (.seq (.ops r30_6) (.cond (.t 37) (.pre [.kill [0, 24, 25, 37]] (.seq (.ops r30_7) .ret)) (.pre [.kill [37]] .skip))))) (.ops r30_8))))
def r30_10 : List RI := [.op ⟨some 40, none, .mov (.t 0)⟩ [0],
  .op ⟨some 41, none, .call (.f 41) [(.t 40)]⟩ [40],
  .op ⟨some 39, none, .mov (.t 41)⟩ [41],
  .op ⟨some 42, none, .ext (.t 39) 0⟩ [],
  .op ⟨some 43, none, .ext (.t 39) 1⟩ [39],
  .op ⟨some 4, none, .mov (.t 42)⟩ [42],
  .op ⟨some 5, none, .mov (.t 43)⟩ [5, 43]]
def r30_11 : List RI := [.op ⟨some 44, none, .mov (.t 4)⟩ [4],
  .op ⟨some 2, none, .mov (.t 44)⟩ [44]]
def r30 : RC := (.seq (.ops r30_0) (.seq (.seq (.ops r30_1) (.cond (.t 22) (.pre [.kill [0, 22]] (.seq (.ops r30_2) .ret)) (.pre [.kill [22]] .skip))) (.seq (.seq (.ops r30_3) (.block 0 (.loop r30_9))) (.seq (.ops r30_10) (.seq (.ops r30_11) .ret)))))
def F30 : FnC := ⟨r30, 45, [.tmp 2], [], []⟩
theorem r30_ok : ((Tryd.f30).body).map (resB Tryd.prog) = some r30.er := by kernel_rfl
/- 31 sealwright/sealwrightref1.Same · params #[24, 24] · tmps 26 · results .tmp 4 -/
def r31_0 : List RI := [.op ⟨some 4, none, .mov (.c (.bool false))⟩ [4]]
def r31_1 : List RI := [.op ⟨some 6, none, .mov (.t 0)⟩ [],
  .op ⟨some 7, none, .len false (.t 6)⟩ [6],
  .op ⟨some 8, none, .mov (.t 1)⟩ [],
  .op ⟨some 9, none, .len false (.t 8)⟩ [8],
  .op ⟨some 10, none, .bin .neq (.t 7) (.t 9)⟩ [7, 9]]
def r31_2 : List RI := [.op ⟨some 4, none, .mov (.c (.bool false))⟩ []]
def r31_3 : List RI := [.op ⟨some 5, none, .mov (.c (.int .i64 0))⟩ []]
def r31_4 : List RI := [.op ⟨some 11, none, .mov (.t 5)⟩ [],
  .op ⟨some 12, none, .mov (.t 0)⟩ [],
  .op ⟨some 13, none, .len false (.t 12)⟩ [12],
  .op ⟨some 14, none, .bin .lss (.t 11) (.t 13)⟩ [11, 13]]
def r31_5 : List FI := [⟨0, true, ⟨some 17, none, .mov (.t 0)⟩⟩,
  ⟨1, true, ⟨some 18, none, .mov (.t 5)⟩⟩,
  ⟨2, true, ⟨some 19, none, .iaddrL 1 (.t 17) (.t 18)⟩⟩,
  ⟨3, true, ⟨some 20, none, .load 1 false (.t 19)⟩⟩,
  ⟨4, true, ⟨some 21, none, .mov (.t 1)⟩⟩,
  ⟨5, true, ⟨some 22, none, .mov (.t 5)⟩⟩,
  ⟨6, true, ⟨some 23, none, .iaddrL 1 (.t 21) (.t 22)⟩⟩,
  ⟨7, true, ⟨some 24, none, .load 1 false (.t 23)⟩⟩,
  ⟨8, true, ⟨some 25, none, .bin .neq (.t 20) (.t 24)⟩⟩]
def r31_6 : List RI := [.op ⟨some 4, none, .mov (.c (.bool false))⟩ []]
def r31_7 : List RI := [.op ⟨some 15, none, .mov (.t 5)⟩ [5],
  .op ⟨some 16, none, .bin .add (.t 15) (.c (.int .i64 1))⟩ [15],
  .op ⟨some 5, none, .mov (.t 16)⟩ [16]]
/- live at the loop's head: [0, 1, 5]; at its end (exits): [(0, [])]; then [] -/
def r31_8 : RC := (.seq (.seq (.ops r31_4) (.cond (.t 14) (.pre [.kill [14]] .skip) (.pre [.kill [0, 1, 5, 14]] (.exit 0)))) (.seq (.block 1 (.seq (.flt [0, 0, 3, 7, 0, 0, 48, 112, 255] [] r31_5 [17, 18, 19, 20, 21, 22, 23, 24]) (.cond (.t 25) (.pre [.kill [0, 1, 5, 25]] (.seq (.ops r31_6) .ret)) (.pre [.kill [25]] .skip)))) (.ops r31_7)))
def r31_9 : List RI := [.op ⟨some 4, none, .mov (.c (.bool true))⟩ []]
def r31 : RC := (.seq (.ops r31_0) (.seq (.seq (.ops r31_1) (.cond (.t 10) (.pre [.kill [0, 1, 10]] (.seq (.ops r31_2) .ret)) (.pre [.kill [10]] .skip))) (.seq (.seq (.ops r31_3) (.block 0 (.loop r31_8))) (.seq (.ops r31_9) .ret))))
def F31 : FnC := ⟨r31, 26, [.tmp 4], [], []⟩
theorem r31_ok : ((Tryd.f31).body).map (resB Tryd.prog) = some r31.er := by kernel_rfl
/- 32 sealwright/sealwrightref25.Number · params #[3] · tmps 18 · results .tmp 2 -/
def r32_0 : List RI := [.op ⟨some 2, none, .mov (.c (.byt [] .clip))⟩ [2]]
def r32_1 : List RI := [.op ⟨some 3, none, .mov (.t 0)⟩ [],
  .op ⟨some 4, none, .bin .lss (.t 3) (.c (.int .i64 10))⟩ [3]]
def r32_2 : List RI := [.op ⟨some 5, none, .mov (.t 0)⟩ [0],
  .op ⟨some 6, none, .bin .add (.c (.int .i64 48)) (.t 5)⟩ [5],
  .op ⟨some 7, none, .toInt .u8 (.t 6)⟩ [6],
  .op ⟨some 8, none, .litB [(.t 7)]⟩ [7],
  .op ⟨some 2, none, .mov (.t 8)⟩ [8]]
def r32_3 : List RI := [.op ⟨some 9, none, .mov (.t 0)⟩ [],
  .op ⟨some 10, none, .bin .quo (.t 9) (.c (.int .i64 10))⟩ [9],
  .op ⟨some 11, none, .call (.f 32) [(.t 10)]⟩ [10],
  .op ⟨some 12, none, .mov (.t 0)⟩ [0],
  .op ⟨some 13, none, .bin .rem (.t 12) (.c (.int .i64 10))⟩ [12],
  .op ⟨some 14, none, .bin .add (.c (.int .i64 48)) (.t 13)⟩ [13],
  .op ⟨some 15, none, .toInt .u8 (.t 14)⟩ [14],
  .op ⟨some 16, none, .litB [(.t 15)]⟩ [15],
  .op ⟨some 17, none, .app [(.u8 0)] 1 (.t 11) (.t 16)⟩ [11, 16],
  .op ⟨some 2, none, .mov (.t 17)⟩ [17]]
def r32 : RC := (.seq (.ops r32_0) (.seq (.seq (.ops r32_1) (.cond (.t 4) (.pre [.kill [4]] (.seq (.ops r32_2) .ret)) (.pre [.kill [4]] .skip))) (.seq (.ops r32_3) .ret)))
def F32 : FnC := ⟨r32, 18, [.tmp 2], [0], []⟩
theorem r32_ok : ((Tryd.f32).body).map (resB Tryd.prog) = some r32.er := by kernel_rfl
/- 33 strings.trimLeftByte · params #[9, 5] · tmps 17 · results .tmp 4 -/
def r33_0 : List RI := [.op ⟨some 4, none, .mov (.c (.str []))⟩ [4]]
def r33_1 : List RI := [.op ⟨some 5, none, .mov (.t 0)⟩ [],
  .op ⟨some 6, none, .len true (.t 5)⟩ [5],
  .op ⟨some 7, none, .bin .gtr (.t 6) (.c (.int .i64 0))⟩ [6],
  .op ⟨some 8, none, .mov (.t 7)⟩ [7],
  .grp 8 true [⟨some 9, some (8, true), .mov (.t 0)⟩,
    ⟨some 10, some (8, true), .idxS (.t 9) (.c (.int .i64 0))⟩,
    ⟨some 11, some (8, true), .mov (.t 1)⟩,
    ⟨some 12, some (8, true), .bin .eql (.t 10) (.t 11)⟩] [9, 10, 11],
  .op ⟨some 13, none, .pick (.t 8) (.t 12) (.c (.bool false))⟩ [8, 12]]
def r33_2 : List RI := [.op ⟨some 14, none, .mov (.t 0)⟩ [0],
  .op ⟨some 15, none, .slcS (.t 14) (some (.c (.int .i64 1))) none⟩ [14],
  .op ⟨some 0, none, .mov (.t 15)⟩ [15]]
/- live at the loop's head: [0, 1]; at its end (exits): [(0, [0])]; then [0] -/
def r33_3 : RC := (.seq (.seq (.ops r33_1) (.cond (.t 13) (.pre [.kill [13]] .skip) (.pre [.kill [1, 13]] (.exit 0)))) (.block 1 (.ops r33_2)))
def r33_4 : List RI := [.op ⟨some 16, none, .mov (.t 0)⟩ [0],
  .op ⟨some 4, none, .mov (.t 16)⟩ [16]]
def r33 : RC := (.seq (.ops r33_0) (.seq (.block 0 (.loop r33_3)) (.seq (.ops r33_4) .ret)))
def F33 : FnC := ⟨r33, 17, [.tmp 4], [], []⟩
theorem r33_ok : ((Tryd.f33).body).map (resB Tryd.prog) = some r33.er := by kernel_rfl
/- 34 strings.trimRightByte · params #[9, 5] · tmps 23 · results .tmp 4 -/
def r34_0 : List RI := [.op ⟨some 4, none, .mov (.c (.str []))⟩ [4]]
def r34_1 : List RI := [.op ⟨some 5, none, .mov (.t 0)⟩ [],
  .op ⟨some 6, none, .len true (.t 5)⟩ [5],
  .op ⟨some 7, none, .bin .gtr (.t 6) (.c (.int .i64 0))⟩ [6],
  .op ⟨some 8, none, .mov (.t 7)⟩ [7],
  .grp 8 true [⟨some 9, some (8, true), .mov (.t 0)⟩,
    ⟨some 10, some (8, true), .mov (.t 0)⟩,
    ⟨some 11, some (8, true), .len true (.t 10)⟩,
    ⟨some 12, some (8, true), .bin .sub (.t 11) (.c (.int .i64 1))⟩,
    ⟨some 13, some (8, true), .idxS (.t 9) (.t 12)⟩,
    ⟨some 14, some (8, true), .mov (.t 1)⟩,
    ⟨some 15, some (8, true), .bin .eql (.t 13) (.t 14)⟩] [9, 10, 11, 12, 13, 14],
  .op ⟨some 16, none, .pick (.t 8) (.t 15) (.c (.bool false))⟩ [8, 15]]
def r34_2 : List RI := [.op ⟨some 17, none, .mov (.t 0)⟩ [],
  .op ⟨some 18, none, .mov (.t 0)⟩ [0],
  .op ⟨some 19, none, .len true (.t 18)⟩ [18],
  .op ⟨some 20, none, .bin .sub (.t 19) (.c (.int .i64 1))⟩ [19],
  .op ⟨some 21, none, .slcS (.t 17) none (some (.t 20))⟩ [17, 20],
  .op ⟨some 0, none, .mov (.t 21)⟩ [21]]
/- live at the loop's head: [0, 1]; at its end (exits): [(0, [0])]; then [0] -/
def r34_3 : RC := (.seq (.seq (.ops r34_1) (.cond (.t 16) (.pre [.kill [16]] .skip) (.pre [.kill [1, 16]] (.exit 0)))) (.block 1 (.ops r34_2)))
def r34_4 : List RI := [.op ⟨some 22, none, .mov (.t 0)⟩ [0],
  .op ⟨some 4, none, .mov (.t 22)⟩ [22]]
def r34 : RC := (.seq (.ops r34_0) (.seq (.block 0 (.loop r34_3)) (.seq (.ops r34_4) .ret)))
def F34 : FnC := ⟨r34, 23, [.tmp 4], [], []⟩
theorem r34_ok : ((Tryd.f34).body).map (resB Tryd.prog) = some r34.er := by kernel_rfl
/- 40 internal/stringslite.CutPrefix · params #[9, 9] · tmps 15 · results .tmp 4, .tmp 5 -/
def r40_0 : List RI := [.op ⟨some 4, none, .mov (.c (.str []))⟩ [4],
  .op ⟨some 5, none, .mov (.c (.bool false))⟩ [5]]
def r40_1 : List RI := [.op ⟨some 6, none, .mov (.t 0)⟩ [],
  .op ⟨some 7, none, .mov (.t 1)⟩ [],
  .op ⟨some 8, none, .call (.f 46) [(.t 6), (.t 7)]⟩ [6, 7],
  .op ⟨some 9, none, .un .not (.t 8)⟩ [8]]
def r40_2 : List RI := [.op ⟨some 10, none, .mov (.t 0)⟩ [0],
  .op ⟨some 4, none, .mov (.t 10)⟩ [10],
  .op ⟨some 5, none, .mov (.c (.bool false))⟩ []]
def r40_3 : List RI := [.op ⟨some 11, none, .mov (.t 0)⟩ [0],
  .op ⟨some 12, none, .mov (.t 1)⟩ [1],
  .op ⟨some 13, none, .len true (.t 12)⟩ [12],
  .op ⟨some 14, none, .slcS (.t 11) (some (.t 13)) none⟩ [11, 13],
  .op ⟨some 4, none, .mov (.t 14)⟩ [14],
  .op ⟨some 5, none, .mov (.c (.bool true))⟩ []]
def r40 : RC := (.seq (.ops r40_0) (.seq (.seq (.ops r40_1) (.cond (.t 9) (.pre [.kill [1, 9]] (.seq (.ops r40_2) .ret)) (.pre [.kill [9]] .skip))) (.seq (.ops r40_3) .ret)))
def F40 : FnC := ⟨r40, 15, [.tmp 4, .tmp 5], [], []⟩
theorem r40_ok : ((Tryd.f40).body).map (resB Tryd.prog) = some r40.er := by kernel_rfl
/- 41 strconv.Atoi · params #[9] · tmps 18 · results .tmp 2, .tmp 3 -/
def r41_0 : List RI := [.op ⟨some 2, none, .mov (.c (.int .i64 0))⟩ [2],
  .op ⟨some 3, none, .mov (.c .nili)⟩ [3]]
def r41_1 : List RI := [.op ⟨some 7, none, .mov (.t 0)⟩ [],
  .op ⟨some 8, none, .call (.f 47) [(.t 7)]⟩ [7],
  .op ⟨some 6, none, .mov (.t 8)⟩ [8],
  .op ⟨some 9, none, .ext (.t 6) 0⟩ [],
  .op ⟨some 10, none, .ext (.t 6) 1⟩ [6],
  .op ⟨some 4, none, .mov (.t 9)⟩ [9],
  .op ⟨some 5, none, .mov (.t 10)⟩ [10]]
def r41_2 : List RI := [.op ⟨some 11, none, .mov (.t 5)⟩ [],
  .op ⟨some 12, none, .isni true (.t 11)⟩ [11]]
def r41_3 : List RI := [.op ⟨some 13, none, .mov (.t 4)⟩ [4],
  .op ⟨some 14, none, .mov (.t 0)⟩ [0],
  .op ⟨some 15, none, .mov (.t 5)⟩ [5],
  .op ⟨some 16, none, .call (.f 48) [(.c (.str [65, 116, 111, 105])), (.t 14), (.c (.int .i64 0)), (.c (.int .i64 0)), (.t 15)]⟩ [14, 15],
  .op ⟨some 2, none, .mov (.t 13)⟩ [13],
  .op ⟨some 3, none, .mov (.t 16)⟩ [16]]
def r41_4 : List RI := [.op ⟨some 17, none, .mov (.t 4)⟩ [4],
  .op ⟨some 2, none, .mov (.t 17)⟩ [17],
  .op ⟨some 3, none, .mov (.c .nili)⟩ []]
def r41 : RC := (.seq (.ops r41_0) (.seq (.ops r41_1) (.seq (.seq (.ops r41_2) (.cond (.t 12) (.pre [.kill [12]] (.seq (.ops r41_3) .ret)) (.pre [.kill [0, 5, 12]] .skip))) (.seq (.ops r41_4) .ret))))
def F41 : FnC := ⟨r41, 18, [.tmp 2, .tmp 3], [], []⟩
theorem r41_ok : ((Tryd.f41).body).map (resB Tryd.prog) = some r41.er := by kernel_rfl
/- 46 internal/stringslite.HasPrefix · params #[9, 9] · tmps 18 · results .tmp 4 -/
def r46_0 : List RI := [.op ⟨some 4, none, .mov (.c (.bool false))⟩ [4]]
def r46_1 : List RI := [.op ⟨some 5, none, .mov (.t 0)⟩ [],
  .op ⟨some 6, none, .len true (.t 5)⟩ [5],
  .op ⟨some 7, none, .mov (.t 1)⟩ [],
  .op ⟨some 8, none, .len true (.t 7)⟩ [7],
  .op ⟨some 9, none, .bin .geq (.t 6) (.t 8)⟩ [6, 8],
  .op ⟨some 10, none, .mov (.t 9)⟩ [9],
  .grp 10 true [⟨some 11, some (10, true), .mov (.t 0)⟩,
    ⟨some 12, some (10, true), .mov (.t 1)⟩,
    ⟨some 13, some (10, true), .len true (.t 12)⟩,
    ⟨some 14, some (10, true), .slcS (.t 11) none (some (.t 13))⟩,
    ⟨some 15, some (10, true), .mov (.t 1)⟩,
    ⟨some 16, some (10, true), .bin .eql (.t 14) (.t 15)⟩] [0, 1, 11, 12, 13, 14, 15],
  .op ⟨some 17, none, .pick (.t 10) (.t 16) (.c (.bool false))⟩ [10, 16],
  .op ⟨some 4, none, .mov (.t 17)⟩ [17]]
def r46 : RC := (.seq (.ops r46_0) (.seq (.ops r46_1) .ret))
def F46 : FnC := ⟨r46, 18, [.tmp 4], [], []⟩
theorem r46_ok : ((Tryd.f46).body).map (resB Tryd.prog) = some r46.er := by kernel_rfl
/- in part: atoi.go:226 makeInterface ¦ atoi.go:234 makeInterface -/
/- 47 internal/strconv.Atoi · params #[9] · tmps 77 · results .tmp 2, .tmp 3 -/
def r47_0 : List RI := [.op ⟨some 2, none, .mov (.c (.int .i64 0))⟩ [2],
  .op ⟨some 3, none, .mov (.c .nili)⟩ [3]]
def r47_1 : List RI := [.op ⟨some 11, none, .mov (.t 0)⟩ [],
  .op ⟨some 12, none, .len true (.t 11)⟩ [11],
  .op ⟨some 4, none, .mov (.t 12)⟩ [12]]
def r47_2 : List RI := [.op ⟨some 13, none, .mov (.c (.bool false))⟩ [],
  .grp 13 true [⟨some 14, some (13, true), .mov (.t 4)⟩,
    ⟨some 15, some (13, true), .bin .lss (.c (.int .i64 0)) (.t 14)⟩,
    ⟨some 16, some (13, true), .mov (.t 15)⟩] [14, 15],
  .grp 16 true [⟨some 17, some (16, true), .mov (.t 4)⟩,
    ⟨some 18, some (16, true), .bin .lss (.t 17) (.c (.int .i64 10))⟩] [17],
  .grp 13 true [⟨some 19, some (13, true), .pick (.t 16) (.t 18) (.c (.bool false))⟩] [16, 18],
  .op ⟨some 20, none, .pick (.t 13) (.t 19) (.c (.bool false))⟩ [13, 19],
  .op ⟨some 21, none, .mov (.t 20)⟩ [20],
  .grp 21 false [⟨some 22, some (21, false), .mov (.c (.bool true))⟩] [],
  .grp 22 true [⟨some 23, some (22, true), .mov (.t 4)⟩,
    ⟨some 24, some (22, true), .bin .lss (.c (.int .i64 0)) (.t 23)⟩,
    ⟨some 25, some (22, true), .mov (.t 24)⟩] [23, 24],
  .grp 25 true [⟨some 26, some (25, true), .mov (.t 4)⟩,
    ⟨some 27, some (25, true), .bin .lss (.t 26) (.c (.int .i64 19))⟩] [4, 26],
  .grp 22 true [⟨some 28, some (22, true), .pick (.t 25) (.t 27) (.c (.bool false))⟩] [25, 27],
  .grp 21 false [⟨some 29, some (21, false), .pick (.t 22) (.t 28) (.c (.bool false))⟩] [22, 28],
  .op ⟨some 30, none, .pick (.t 21) (.c (.bool true)) (.t 29)⟩ [21, 29]]
def r47_3 : List RI := [.op ⟨some 31, none, .mov (.t 0)⟩ [],
  .op ⟨some 5, none, .mov (.t 31)⟩ [31]]
def r47_4 : List RI := [.op ⟨some 32, none, .mov (.t 0)⟩ [],
  .op ⟨some 33, none, .idxS (.t 32) (.c (.int .i64 0))⟩ [32],
  .op ⟨some 34, none, .bin .eql (.t 33) (.c (.u8 45))⟩ [33],
  .op ⟨some 35, none, .mov (.t 34)⟩ [34],
  .grp 35 false [⟨some 36, some (35, false), .mov (.t 0)⟩,
    ⟨some 37, some (35, false), .idxS (.t 36) (.c (.int .i64 0))⟩,
    ⟨some 38, some (35, false), .bin .eql (.t 37) (.c (.u8 43))⟩] [36, 37],
  .op ⟨some 39, none, .pick (.t 35) (.c (.bool true)) (.t 38)⟩ [35, 38]]
def r47_5 : List RI := [.op ⟨some 40, none, .mov (.t 0)⟩ [0],
  .op ⟨some 41, none, .slcS (.t 40) (some (.c (.int .i64 1))) none⟩ [40],
  .op ⟨some 0, none, .mov (.t 41)⟩ [41]]
def r47_6 : List RI := [.op ⟨some 42, none, .mov (.t 0)⟩ [],
  .op ⟨some 43, none, .len true (.t 42)⟩ [42],
  .op ⟨some 44, none, .bin .lss (.t 43) (.c (.int .i64 1))⟩ [43]]
def r47_7 : List RI := [.op ⟨some 6, none, .mov (.c (.int .i64 0))⟩ []]
def r47_8 : List RI := [.op ⟨some 46, none, .mov (.t 0)⟩ [0],
  .op ⟨some 47, none, .s2b (.t 46)⟩ [46],
  .op ⟨some 48, none, .len false (.t 47)⟩ [],
  .op ⟨some 49, none, .mov (.c (.int .i64 0))⟩ []]
def r47_9 : List RI := [.op ⟨some 50, none, .bin .lss (.t 49) (.t 48)⟩ []]
def r47_10 : List RI := [.op ⟨some 51, none, .iaddrL 1 (.t 47) (.t 49)⟩ [],
  .op ⟨some 52, none, .load 1 false (.t 51)⟩ [51],
  .op ⟨some 8, none, .mov (.t 52)⟩ [52]]
def r47_11 : List RI := [.op ⟨some 53, none, .mov (.t 8)⟩ [8],
  .op ⟨some 54, none, .bin .sub (.t 53) (.c (.u8 48))⟩ [53],
  .op ⟨some 8, none, .mov (.t 54)⟩ [54]]
def r47_12 : List RI := [.op ⟨some 55, none, .mov (.t 8)⟩ [],
  .op ⟨some 56, none, .bin .gtr (.t 55) (.c (.u8 9))⟩ [55]]
def r47_13 : List RI := [.op ⟨some 58, none, .mov (.t 6)⟩ [6],
  .op ⟨some 59, none, .bin .mul (.t 58) (.c (.int .i64 10))⟩ [58],
  .op ⟨some 60, none, .mov (.t 8)⟩ [8],
  .op ⟨some 61, none, .toInt .i64 (.t 60)⟩ [60],
  .op ⟨some 62, none, .bin .add (.t 59) (.t 61)⟩ [59, 61],
  .op ⟨some 6, none, .mov (.t 62)⟩ [62]]
def r47_14 : List RI := [.op ⟨some 63, none, .bin .add (.t 49) (.c (.int .i64 1))⟩ [49],
  .op ⟨some 49, none, .mov (.t 63)⟩ [63]]
/- live at the loop's head: [5, 6, 47, 48, 49]; at its end (exits): [(0, [5, 6])]; then [5, 6] -/
def r47_15 : RC := (.seq (.ops r47_9) (.seq (.cond (.t 50) (.pre [.kill [50]] .skip) (.pre [.kill [47, 48, 49, 50]] (.exit 0))) (.seq (.block 1 (.seq (.ops r47_10) (.seq (.ops r47_11) (.seq (.seq (.ops r47_12) (.cond (.t 56) (.pre [.kill [5, 6, 8, 47, 48, 49, 56]] (.seq .bad .ret)) (.pre [.kill [56]] .skip))) (.ops r47_13))))) (.ops r47_14))))
def r47_16 : List RI := [.op ⟨some 64, none, .mov (.t 5)⟩ [5],
  .op ⟨some 65, none, .idxS (.t 64) (.c (.int .i64 0))⟩ [64],
  .op ⟨some 66, none, .bin .eql (.t 65) (.c (.u8 45))⟩ [65]]
def r47_17 : List RI := [.op ⟨some 67, none, .mov (.t 6)⟩ [6],
  .op ⟨some 68, none, .un .neg (.t 67)⟩ [67],
  .op ⟨some 6, none, .mov (.t 68)⟩ [68]]
def r47_18 : List RI := [.op ⟨some 69, none, .mov (.t 6)⟩ [6],
  .op ⟨some 2, none, .mov (.t 69)⟩ [69],
  .op ⟨some 3, none, .mov (.c .nili)⟩ []]
def r47_19 : List RI := [.op ⟨some 71, none, .mov (.t 0)⟩ [0],
  .op ⟨some 72, none, .call (.f 52) [(.t 71), (.c (.int .i64 10)), (.c (.int .i64 0))]⟩ [71],
  .op ⟨some 70, none, .mov (.t 72)⟩ [72],
  .op ⟨some 73, none, .ext (.t 70) 0⟩ [],
  .op ⟨some 74, none, .ext (.t 70) 1⟩ [70],
  .op ⟨some 9, none, .mov (.t 73)⟩ [73],
  .op ⟨some 10, none, .mov (.t 74)⟩ [74]]
def r47_20 : List RI := [.op ⟨some 75, none, .mov (.t 9)⟩ [9],
  .op ⟨some 76, none, .mov (.t 10)⟩ [10],
  .op ⟨some 2, none, .mov (.t 75)⟩ [75],
  .op ⟨some 3, none, .mov (.t 76)⟩ [76]]
def r47 : RC := (.seq (.ops r47_0) (.seq (.ops r47_1) (.seq (.seq (.ops r47_2) (.cond (.t 30) (.pre [.kill [30]] (.seq (.ops r47_3) (.seq (.seq (.ops r47_4) (.cond (.t 39) (.pre [.kill [39]] (.seq (.ops r47_5) (.seq (.ops r47_6) (.cond (.t 44) (.pre [.kill [0, 5, 44]] (.seq .bad .ret)) (.pre [.kill [44]] .skip))))) (.pre [.kill [39]] .skip))) (.seq (.ops r47_7) (.seq (.seq (.ops r47_8) (.block 0 (.loop r47_15))) (.seq (.seq (.ops r47_16) (.cond (.t 66) (.pre [.kill [66]] (.ops r47_17)) (.pre [.kill [66]] .skip))) (.seq (.ops r47_18) .ret))))))) (.pre [.kill [30]] .skip))) (.seq (.ops r47_19) (.seq (.ops r47_20) .ret)))))
def F47 : FnC := ⟨r47, 77, [.tmp 2, .tmp 3], [], []⟩
theorem r47_ok : ((Tryd.f47).body).map (resB Tryd.prog) = some r47.er := by kernel_rfl
/- in part: number.go:233 makeInterface ¦ number.go:233 binOp 66 ¦ number.go:234 makeInterface ¦ number.go:235 makeInterface ¦ number.go:235 binOp 66 ¦ number.go:236 makeInterface ¦ number.go:237 makeInterface ¦ number.go:237 binOp 66 ¦ number.go:238 makeInterface ¦ number.go:239 makeInterface ¦ number.go:239 binOp 66 ¦ number.go:240 makeInterface -/

def tabF : Nat → Option FnB
  | 3 => some (.code F3)
  | 4 => some (.code F4)
  | 5 => some (.code F5)
  | 6 => some (.code F6)
  | 7 => some (.code F7)
  | 8 => some (.code F8)
  | 9 => some (.code F9)
  | 10 => some (.code F10)
  | 11 => some (.code F11)
  | 12 => some (.code F12)
  | 13 => some (.code F13)
  | 14 => some (.code F14)
  | 15 => some (.code F15)
  | 16 => some (.code F16)
  | 17 => some (.code F17)
  | 18 => some (.code F18)
  | 19 => some (.code F19)
  | 20 => some (.code F20)
  | 21 => some (.code F21)
  | 22 => some (.code F22)
  | 23 => some (.code F23)
  | 24 => some (.code F24)
  | 25 => some (.code F25)
  | 26 => some (.code F26)
  | 27 => some (.code F27)
  | 28 => some (.code F28)
  | 29 => some (.code F29)
  | 30 => some (.code F30)
  | 31 => some (.code F31)
  | 32 => some (.code F32)
  | 33 => some (.code F33)
  | 34 => some (.code F34)
  | 40 => some (.code F40)
  | 41 => some (.code F41)
  | 46 => some (.code F46)
  | 47 => some (.code F47)
  | _ => none
def tabS : Nat → Sig
  | _ => {}
def T : Table := ⟨tabF, tabS⟩
theorem T_3 : T.fn 3 = some (.code F3) := rfl
theorem T_4 : T.fn 4 = some (.code F4) := rfl
theorem T_5 : T.fn 5 = some (.code F5) := rfl
theorem T_6 : T.fn 6 = some (.code F6) := rfl
theorem T_7 : T.fn 7 = some (.code F7) := rfl
theorem T_8 : T.fn 8 = some (.code F8) := rfl
theorem T_9 : T.fn 9 = some (.code F9) := rfl
theorem T_10 : T.fn 10 = some (.code F10) := rfl
theorem T_11 : T.fn 11 = some (.code F11) := rfl
theorem T_12 : T.fn 12 = some (.code F12) := rfl
theorem T_13 : T.fn 13 = some (.code F13) := rfl
theorem T_14 : T.fn 14 = some (.code F14) := rfl
theorem T_15 : T.fn 15 = some (.code F15) := rfl
theorem T_16 : T.fn 16 = some (.code F16) := rfl
theorem T_17 : T.fn 17 = some (.code F17) := rfl
theorem T_18 : T.fn 18 = some (.code F18) := rfl
theorem T_19 : T.fn 19 = some (.code F19) := rfl
theorem T_20 : T.fn 20 = some (.code F20) := rfl
theorem T_21 : T.fn 21 = some (.code F21) := rfl
theorem T_22 : T.fn 22 = some (.code F22) := rfl
theorem T_23 : T.fn 23 = some (.code F23) := rfl
theorem T_24 : T.fn 24 = some (.code F24) := rfl
theorem T_25 : T.fn 25 = some (.code F25) := rfl
theorem T_26 : T.fn 26 = some (.code F26) := rfl
theorem T_27 : T.fn 27 = some (.code F27) := rfl
theorem T_28 : T.fn 28 = some (.code F28) := rfl
theorem T_29 : T.fn 29 = some (.code F29) := rfl
theorem T_30 : T.fn 30 = some (.code F30) := rfl
theorem T_31 : T.fn 31 = some (.code F31) := rfl
theorem T_32 : T.fn 32 = some (.code F32) := rfl
theorem T_33 : T.fn 33 = some (.code F33) := rfl
theorem T_34 : T.fn 34 = some (.code F34) := rfl
theorem T_40 : T.fn 40 = some (.code F40) := rfl
theorem T_41 : T.fn 41 = some (.code F41) := rfl
theorem T_46 : T.fn 46 = some (.code F46) := rfl
theorem T_47 : T.fn 47 = some (.code F47) := rfl
theorem S_3 : T.sg 3 = {} := rfl
theorem S_4 : T.sg 4 = {} := rfl
theorem S_5 : T.sg 5 = {} := rfl
theorem S_6 : T.sg 6 = {} := rfl
theorem S_7 : T.sg 7 = {} := rfl
theorem S_8 : T.sg 8 = {} := rfl
theorem S_9 : T.sg 9 = {} := rfl
theorem S_10 : T.sg 10 = {} := rfl
theorem S_11 : T.sg 11 = {} := rfl
theorem S_12 : T.sg 12 = {} := rfl
theorem S_13 : T.sg 13 = {} := rfl
theorem S_14 : T.sg 14 = {} := rfl
theorem S_15 : T.sg 15 = {} := rfl
theorem S_16 : T.sg 16 = {} := rfl
theorem S_17 : T.sg 17 = {} := rfl
theorem S_18 : T.sg 18 = {} := rfl
theorem S_19 : T.sg 19 = {} := rfl
theorem S_20 : T.sg 20 = {} := rfl
theorem S_21 : T.sg 21 = {} := rfl
theorem S_22 : T.sg 22 = {} := rfl
theorem S_23 : T.sg 23 = {} := rfl
theorem S_24 : T.sg 24 = {} := rfl
theorem S_25 : T.sg 25 = {} := rfl
theorem S_26 : T.sg 26 = {} := rfl
theorem S_27 : T.sg 27 = {} := rfl
theorem S_28 : T.sg 28 = {} := rfl
theorem S_29 : T.sg 29 = {} := rfl
theorem S_30 : T.sg 30 = {} := rfl
theorem S_31 : T.sg 31 = {} := rfl
theorem S_32 : T.sg 32 = {} := rfl
theorem S_33 : T.sg 33 = {} := rfl
theorem S_34 : T.sg 34 = {} := rfl
theorem S_40 : T.sg 40 = {} := rfl
theorem S_41 : T.sg 41 = {} := rfl
theorem S_46 : T.sg 46 = {} := rfl
theorem S_47 : T.sg 47 = {} := rfl
theorem q3 (c : CSt) : run T r3 c = run T (.seq (.ops r3_0) (.seq (.seq (.ops r3_1) (.cond (.t 11) (.pre [.kill [1, 2, 3, 4, 11]] (.seq (.ops r3_2) .ret)) (.pre [.kill [11]] .skip))) (.seq (.ops r3_3) (.seq (.ops r3_4) (.seq (.seq (.flt [0, 1, 0, 7, 15, 31, 63, 127, 255, 511] [] r3_5 [19, 20, 21, 22, 23, 24, 25, 26, 27]) (.cond (.t 28) (.pre [.kill [2, 3, 4, 9, 28]] (.seq (.ops r3_6) .ret)) (.pre [.kill [28]] .skip))) (.seq (.seq (.ops r3_7) (.block 0 (.seq (.ops r3_8) (.cond (.t 37) (.pre [.kill [4, 30, 37]] (.ops r3_9)) (.pre [.kill [3, 37]] (.seq (.ops r3_10) (.cond (.t 42) (.pre [.kill [30, 42]] (.ops r3_11)) (.pre [.kill [42]] (.seq (.ops r3_12) (.cond (.t 47) (.pre [.kill [30, 47]] (.ops r3_13)) (.pre [.kill [47]] (.seq (.ops r3_14) (.cond (.t 52) (.pre [.kill [52]] (.ops r3_15)) (.pre [.kill [4, 52]] (.ops r3_16))))))))))))))) (.seq (.flt [0, 1, 0, 7, 15, 31] [] r3_17 [9, 57, 58, 59, 60, 61]) .ret))))))) c := rfl
theorem q4 (c : CSt) : run T r4 c = run T (.seq (.ops r4_0) (.seq (.seq (.ops r4_1) (.cond (.t 12) (.pre [.kill [0, 1, 2, 3, 12]] (.seq (.ops r4_2) .ret)) (.pre [.kill [12]] .skip))) (.seq (.ops r4_3) (.seq (.ops r4_4) (.seq (.ops r4_5) .ret))))) c := rfl
theorem q5_22 (c : CSt) : run T r5_22 c = run T (.post (.seq (.seq (.ops r5_15) (.cond (.t 42) (.pre [.kill [42]] .skip) (.pre [.kill [12, 42]] (.exit 3)))) (.seq (.block 4 (.seq (.ops r5_16) (.seq (.seq (.ops r5_17) (.cond (.t 48) (.pre [.kill [13, 48]] (.seq (.ops r5_18) (.ops r5_19))) (.pre [.kill [48]] .skip))) (.ops r5_20)))) (.ops r5_21))) [.tok 9 109]) c := rfl
theorem q5_24 (c : CSt) : run T r5_24 c = run T (.post (.seq (.seq (.ops r5_8) (.cond (.t 23) (.pre [.kill [23]] .skip) (.pre [.kill [1, 8, 10, 11, 23]] (.exit 0)))) (.seq (.block 1 (.seq (.ops r5_9) (.seq (.seq (.ops r5_10) (.block 2 (.seq (.ops r5_11) (.cond (.t 35) (.pre [.kill [12, 28, 35]] (.ops r5_12)) (.pre [.kill [35]] (.seq (.ops r5_13) (.cond (.t 39) (.pre [.kill [39]] .skip) (.pre [.kill [12, 39]] (.seq (.ops r5_14) (.exit 1)))))))))) (.block 3 (.pre [.tok 9 109] (.loop r5_22)))))) (.ops r5_23))) [.tok 9 109]) c := rfl
theorem q5 (c : CSt) : run T r5 c = run T (.seq (.ops r5_0) (.seq (.seq (.ops r5_1) (.cond (.t 15) (.pre [.kill [0, 1, 2, 15]] (.seq (.ops r5_2) .ret)) (.pre [.kill [15]] .skip))) (.seq (.ops r5_3) (.seq (.ops r5_4) (.seq (.ops r5_5) (.seq (.ops r5_6) (.seq (.seq (.ops r5_7) (.block 0 (.pre [.tok 9 109] (.loop r5_24)))) (.seq (.ops r5_25) .ret)))))))) c := rfl
theorem q6_15 (c : CSt) : run T r6_15 c = run T (.seq (.seq (.ops r6_12) (.cond (.t 84) (.pre [.kill [84]] .skip) (.pre [.kill [18, 84]] (.exit 0)))) (.seq (.block 1 (.ops r6_13)) (.ops r6_14))) c := rfl
theorem q6 (c : CSt) : run T r6 c = run T (.seq (.ops r6_0) (.seq (.seq (.ops r6_1) (.cond (.t 20) (.pre [.kill [0, 1, 2, 3, 4, 20]] (.seq (.ops r6_2) .ret)) (.pre [.kill [20]] .skip))) (.seq (.ops r6_3) (.seq (.ops r6_4) (.seq (.seq (.ops r6_5) (.cond (.t 54) (.pre [.kill [4, 11, 13, 54]] (.seq (.ops r6_6) .ret)) (.pre [.kill [54]] .skip))) (.seq (.ops r6_7) (.seq (.seq (.flt [0, 0, 3, 7, 0, 0, 48, 127, 0, 511, 0, 0, 3072, 7168, 0, 0, 49152, 130048, 0, 524287, 1048575] [] r6_8 [16, 60, 61, 62, 63, 64, 65, 66, 67, 68, 69, 70, 71, 72, 73, 74, 75, 76, 77, 78, 79]) (.cond (.t 80) (.pre [.kill [11, 13, 80]] (.seq (.ops r6_9) .ret)) (.pre [.kill [80]] .skip))) (.seq (.ops r6_10) (.seq (.seq (.ops r6_11) (.block 0 (.loop r6_15))) (.seq (.flt [0, 1, 3, 7, 7, 31, 7, 7, 135, 455, 1023, 2047, 4095] [] r6_16 [11, 13, 17, 100, 101, 102, 103, 104, 105, 106, 107, 108, 109, 110, 111]) .ret)))))))))) c := rfl
theorem q7 (c : CSt) : run T r7 c = run T (.seq (.ops r7_0) (.seq (.seq (.ops r7_1) (.cond (.t 11) (.pre [.kill [0, 1, 2, 11]] (.seq (.ops r7_2) .ret)) (.pre [.kill [11]] .skip))) (.seq (.ops r7_3) (.seq (.ops r7_4) (.seq (.seq (.ops r7_5) (.cond (.t 24) (.pre [.kill [9, 24]] (.seq (.ops r7_6) .ret)) (.pre [.kill [24]] .skip))) (.seq (.seq (.flt [0, 0, 3, 7, 0, 0, 48, 127, 0, 511, 1023] [] r7_7 [29, 30, 31, 32, 33, 34, 35, 36, 37, 38]) (.cond (.t 39) (.pre [.kill [7, 8, 9, 39]] (.seq (.ops r7_8) .ret)) (.pre [.kill [39]] .skip))) (.seq (.seq (.ops r7_9) (.cond (.t 43) (.pre [.kill [7, 8, 9, 43]] (.seq (.ops r7_10) .ret)) (.pre [.kill [43]] .skip))) (.seq (.flt [0, 0, 3, 7, 0, 0, 32, 112, 255, 0, 1023, 2047, 4095, 4095, 16383, 32767, 65535, 131071, 131071, 524287, 1048575, 131071, 131071, 4325375, 14811135, 33554431, 131071, 134217727, 268435455, 536870911, 1073741823] [] r7_11 [7, 8, 9, 44, 45, 46, 47, 48, 49, 50, 51, 52, 53, 54, 55, 56, 57, 58, 59, 60, 61, 62, 63, 64, 65, 66, 67, 68, 69, 70, 71, 72, 73]) .ret)))))))) c := rfl
theorem q8 (c : CSt) : run T r8 c = run T (.seq (.ops r8_0) (.seq (.seq (.ops r8_1) (.cond (.t 13) (.pre [.kill [1, 2, 3, 4, 13]] (.seq (.ops r8_2) .ret)) (.pre [.kill [13]] .skip))) (.seq (.ops r8_3) (.seq (.ops r8_4) (.seq (.ops r8_5) (.seq (.ops r8_6) (.seq (.flt [0, 0, 3, 0, 0, 31, 63, 127, 255, 255, 1023, 255, 255, 8191, 16383, 32767, 65535, 131071, 131071, 524287, 131071, 131071, 4194303, 8388607, 16777215, 33554431] [] r8_7 [1, 4, 10, 11, 27, 28, 29, 30, 31, 32, 33, 34, 35, 36, 37, 38, 39, 40, 41, 42, 43, 44, 45, 46, 47, 48, 49, 50, 51]) .ret))))))) c := rfl
theorem q9_8 (c : CSt) : run T r9_8 c = run T (.seq (.seq (.ops r9_5) (.cond (.t 26) (.pre [.kill [26]] .skip) (.pre [.kill [12, 26]] (.exit 0)))) (.seq (.block 1 (.ops r9_6)) (.ops r9_7))) c := rfl
theorem q9_18 (c : CSt) : run T r9_18 c = run T (.post (.seq (.seq (.ops r9_15) (.cond (.t 58) (.pre [.kill [58]] .skip) (.pre [.kill [15, 58]] (.exit 2)))) (.seq (.block 3 (.ops r9_16)) (.ops r9_17))) [.tok 14 114]) c := rfl
theorem q9 (c : CSt) : run T r9 c = run T (.seq (.ops r9_0) (.seq (.seq (.ops r9_1) (.cond (.t 19) (.pre [.kill [0, 1, 2, 3, 4, 19]] (.seq (.ops r9_2) .ret)) (.pre [.kill [19]] .skip))) (.seq (.ops r9_3) (.seq (.seq (.ops r9_4) (.block 0 (.loop r9_8))) (.seq (.ops r9_9) (.seq (.seq (.ops r9_10) (.cond (.t 46) (.pre [.kill [3, 46]] (.ops r9_11)) (.pre [.kill [46]] .skip))) (.seq (.ops r9_12) (.seq (.ops r9_13) (.seq (.seq (.ops r9_14) (.block 2 (.pre [.tok 14 114] (.loop r9_18)))) (.seq (.ops r9_19) (.seq (.ops r9_20) (.seq (.ops r9_21) (.seq (.flt [0, 0, 3, 0, 8, 31, 63, 63, 191, 511, 1023, 2047, 4095, 4095, 12287, 32767, 65535, 131071, 262143, 524287, 524287, 524287, 3670015, 8388607, 16777215, 33554431, 67108863, 134217727, 134217727, 536870911, 1073741823, 2147483647, 4294967295] [198] r9_22 [3, 11, 13, 16, 17, 76, 77, 78, 79, 80, 81, 82, 83, 84, 85, 86, 87, 88, 89, 90, 91, 92, 93, 94, 95, 96, 97, 98, 99, 100, 101, 102, 103, 104, 105, 106, 107]) .ret))))))))))))) c := rfl
theorem q10 (c : CSt) : run T r10 c = run T (.seq (.ops r10_0) (.seq (.ops r10_1) (.seq (.ops r10_2) .ret))) c := rfl
theorem q11 (c : CSt) : run T r11 c = run T (.seq (.ops r11_0) (.seq (.seq (.ops r11_1) (.cond (.t 8) (.pre [.kill [8]] (.seq (.ops r11_2) .ret)) (.pre [.kill [1, 8]] .skip))) (.seq (.ops r11_3) .ret))) c := rfl
theorem q12 (c : CSt) : run T r12 c = run T (.seq (.ops r12_0) (.seq (.seq (.ops r12_1) (.cond (.t 8) (.pre [.kill [8]] (.ops r12_2)) (.pre [.kill [1, 8]] .skip))) (.seq (.ops r12_3) .ret))) c := rfl
theorem q13 (c : CSt) : run T r13 c = run T (.seq (.ops r13_0) (.seq (.seq (.ops r13_1) (.block 0 (.seq (.ops r13_2) (.cond (.t 7) (.pre [.kill [0, 6, 7]] (.seq (.ops r13_3) .ret)) (.pre [.kill [7]] (.seq (.ops r13_4) (.cond (.t 10) (.pre [.kill [6, 10]] (.seq (.ops r13_5) .ret)) (.pre [.kill [10]] (.seq (.ops r13_6) (.cond (.t 16) (.pre [.kill [16]] (.seq (.ops r13_7) (.seq (.ops r13_8) .ret))) (.pre [.kill [16]] .skip))))))))))) (.seq (.ops r13_9) (.seq (.flt [0, 0, 2, 7, 0, 0, 0, 70, 230, 511, 1023] [] r13_10 [0, 4, 26, 27, 28, 29, 30, 31, 32, 33, 34, 35]) .ret)))) c := rfl
theorem q14_10 (c : CSt) : run T r14_10 c = run T (.seq (.ops r14_4) (.seq (.cond (.t 17) (.pre [.kill [17]] .skip) (.pre [.kill [15, 16, 17]] (.exit 0))) (.seq (.block 1 (.seq (.ops r14_5) (.seq (.ops r14_6) (.seq (.ops r14_7) (.cond (.t 28) (.pre [.kill [1, 15, 16, 28]] (.seq (.ops r14_8) .ret)) (.pre [.kill [28]] .skip)))))) (.ops r14_9)))) c := rfl
theorem q14 (c : CSt) : run T r14 c = run T (.seq (.ops r14_0) (.seq (.seq (.ops r14_1) (.cond (.t 12) (.pre [.kill [1, 12]] (.seq (.ops r14_2) .ret)) (.pre [.kill [12]] .skip))) (.seq (.seq (.ops r14_3) (.block 0 (.loop r14_10))) (.seq (.block 2 (.seq (.ops r14_11) (.cond (.t 30) (.pre [.kill [1, 30]] (.seq (.ops r14_12) .ret)) (.pre [.kill [30]] (.seq (.ops r14_13) (.cond (.t 51) (.pre [.kill [1, 51]] (.seq (.ops r14_14) .ret)) (.pre [.kill [51]] (.seq (.ops r14_15) (.cond (.t 65) (.pre [.kill [1, 65]] (.seq (.ops r14_16) .ret)) (.pre [.kill [65]] (.seq (.ops r14_17) (.cond (.t 74) (.pre [.kill [74]] (.seq (.ops r14_18) .ret)) (.pre [.kill [74]] .skip))))))))))))) (.seq (.ops r14_19) .ret))))) c := rfl
theorem q15_8 (c : CSt) : run T r15_8 c = run T (.seq (.seq (.ops r15_4) (.cond (.t 16) (.pre [.kill [16]] .skip) (.pre [.kill [3, 16]] (.exit 0)))) (.seq (.block 1 (.seq (.ops r15_5) (.cond (.t 30) (.pre [.kill [1, 3, 30]] (.seq (.ops r15_6) .ret)) (.pre [.kill [30]] .skip)))) (.ops r15_7))) c := rfl
theorem q15 (c : CSt) : run T r15 c = run T (.seq (.ops r15_0) (.seq (.seq (.ops r15_1) (.cond (.t 11) (.pre [.kill [1, 11]] (.seq (.ops r15_2) .ret)) (.pre [.kill [11]] .skip))) (.seq (.seq (.ops r15_3) (.block 0 (.loop r15_8))) (.seq (.seq (.ops r15_9) (.cond (.t 33) (.pre [.kill [33]] (.seq (.ops r15_10) (.cond (.t 48) (.pre [.kill [1, 48]] (.seq (.ops r15_11) .ret)) (.pre [.kill [48]] .skip)))) (.pre [.kill [33]] (.seq (.ops r15_12) (.cond (.t 56) (.pre [.kill [1, 56]] (.seq (.ops r15_13) .ret)) (.pre [.kill [56]] .skip)))))) (.seq (.seq (.ops r15_14) (.cond (.t 64) (.pre [.kill [1, 64]] (.seq (.ops r15_15) .ret)) (.pre [.kill [64]] .skip))) (.seq (.seq (.ops r15_16) (.cond (.t 68) (.pre [.kill [68]] (.seq (.ops r15_17) .ret)) (.pre [.kill [68]] .skip))) (.seq (.ops r15_18) .ret))))))) c := rfl
theorem q16 (c : CSt) : run T r16 c = run T (.seq (.ops r16_0) (.seq (.seq (.ops r16_1) (.cond (.t 7) (.pre [.kill [0, 1, 7]] (.seq (.ops r16_2) .ret)) (.pre [.kill [7]] .skip))) (.seq (.ops r16_3) (.seq (.seq (.ops r16_4) (.cond (.t 12) (.pre [.kill [12]] (.ops r16_5)) (.pre [.kill [1, 12]] .skip))) (.seq (.ops r16_6) .ret))))) c := rfl
theorem q17 (c : CSt) : run T r17 c = run T (.seq (.ops r17_0) (.seq (.seq (.ops r17_1) (.cond (.t 8) (.pre [.kill [8]] (.seq (.ops r17_2) .ret)) (.pre [.kill [1, 8]] .skip))) (.seq (.ops r17_3) .ret))) c := rfl
theorem q18_5 (c : CSt) : run T r18_5 c = run T (.post (.seq (.seq (.ops r18_3) (.cond (.t 11) (.pre [.kill [11]] .skip) (.pre [.kill [5, 11]] (.exit 0)))) (.block 1 (.ops r18_4))) [.tok 6 106]) c := rfl
theorem q18 (c : CSt) : run T r18 c = run T (.seq (.ops r18_0) (.seq (.ops r18_1) (.seq (.ops r18_2) (.seq (.block 0 (.pre [.tok 6 106] (.loop r18_5))) (.seq (.ops r18_6) .ret))))) c := rfl
theorem q19_5 (c : CSt) : run T r19_5 c = run T (.post (.seq (.seq (.ops r19_3) (.cond (.t 11) (.pre [.kill [11]] .skip) (.pre [.kill [5, 11]] (.exit 0)))) (.block 1 (.ops r19_4))) [.tok 6 106]) c := rfl
theorem q19 (c : CSt) : run T r19 c = run T (.seq (.ops r19_0) (.seq (.ops r19_1) (.seq (.ops r19_2) (.seq (.block 0 (.pre [.tok 6 106] (.loop r19_5))) (.seq (.ops r19_6) .ret))))) c := rfl
theorem q20_10 (c : CSt) : run T r20_10 c = run T (.seq (.seq (.ops r20_2) (.cond (.t 12) (.pre [.kill [12]] .skip) (.pre [.kill [1, 6, 7, 8, 12]] (.exit 0)))) (.block 1 (.block 2 (.seq (.ops r20_3) (.cond (.t 13) (.pre [.kill [7, 8, 13]] (.ops r20_4)) (.pre [.kill [13]] (.seq (.flt [0, 0, 2, 7, 15, 31, 31, 127, 255, 511, 1023, 1023, 4095, 1023, 1023, 25599, 58367, 131071, 262143, 524287, 1048575] [] r20_5 [29, 30, 31, 32, 33, 34, 35, 36, 37, 38, 39, 40, 41, 42, 43, 44, 45, 46, 47, 48]) (.cond (.t 28) (.pre [.kill [28]] (.ops r20_6)) (.pre [.kill [5, 6, 28]] (.seq (.ops r20_7) (.cond (.t 53) (.pre [.kill [53]] (.ops r20_8)) (.pre [.kill [0, 1, 7, 8, 53]] (.seq (.ops r20_9) .ret))))))))))))) c := rfl
theorem q20 (c : CSt) : run T r20 c = run T (.seq (.ops r20_0) (.seq (.ops r20_1) (.seq (.block 0 (.loop r20_10)) (.seq (.ops r20_11) .ret)))) c := rfl
theorem q21_13 (c : CSt) : run T r21_13 c = run T (.seq (.seq (.ops r21_7) (.cond (.t 28) (.pre [.kill [28]] .skip) (.pre [.kill [5, 8, 28]] (.exit 2)))) (.seq (.block 3 (.block 4 (.seq (.ops r21_8) (.cond (.t 31) (.pre [.kill [31]] (.ops r21_9)) (.pre [.kill [31]] (.seq (.ops r21_10) (.cond (.t 54) (.pre [.kill [54]] (.flt [0, 0, 0, 0, 8, 28, 60, 124, 252, 252, 1020, 2044, 4092, 8188, 8188, 32764, 8188, 8188, 139260, 466940, 991228, 2097148, 4194300, 8388604, 16777215, 33554431] [] r21_11 [57, 58, 59, 60, 61, 62, 63, 64, 65, 66, 67, 68, 69, 70, 71, 72, 73, 74, 75, 76, 77, 78, 79, 80, 81])) (.pre [.kill [54]] .skip)))))))) (.ops r21_12))) c := rfl
theorem q21_16 (c : CSt) : run T r21_16 c = run T (.post (.seq (.seq (.ops r21_4) (.cond (.t 18) (.pre [.kill [18]] .skip) (.pre [.kill [0, 6, 18]] (.exit 0)))) (.seq (.block 1 (.seq (.ops r21_5) (.seq (.seq (.ops r21_6) (.block 2 (.loop r21_13))) (.ops r21_14)))) (.ops r21_15))) [.pub 5]) c := rfl
theorem q21 (c : CSt) : run T r21 c = run T (.seq (.ops r21_0) (.seq (.ops r21_1) (.seq (.ops r21_2) (.seq (.seq (.ops r21_3) (.block 0 (.pre [.pub 5] (.loop r21_16)))) (.seq (.ops r21_17) .ret))))) c := rfl
theorem q22 (c : CSt) : run T r22 c = run T (.seq (.ops r22_0) (.seq (.seq (.flt [0, 1, 3, 7, 0, 16, 48, 112, 240, 511] [] r22_1 [5, 6, 7, 8, 9, 10, 11, 12, 13]) (.cond (.t 14) (.pre [.kill [0, 1, 14]] (.seq (.ops r22_2) .ret)) (.pre [.kill [14]] .skip))) (.seq (.ops r22_3) (.seq (.flt [0, 1, 3, 7, 0, 16, 48, 112, 240, 511, 1023, 2047, 0, 8191, 16383] [] r22_4 [0, 1, 22, 23, 24, 25, 26, 27, 28, 29, 30, 31, 32, 33, 34, 35]) .ret)))) c := rfl
theorem q23 (c : CSt) : run T r23 c = run T (.seq (.ops r23_0) (.seq (.ops r23_1) (.seq (.ops r23_2) .ret))) c := rfl
theorem q24 (c : CSt) : run T r24 c = run T (.seq (.ops r24_0) (.seq (.seq (.ops r24_1) (.cond (.t 10) (.pre [.kill [1, 2, 10]] (.seq (.ops r24_2) .ret)) (.pre [.kill [10]] .skip))) (.seq (.seq (.ops r24_3) (.block 0 (.seq (.ops r24_4) (.cond (.t 13) (.pre [.kill [12, 13]] (.seq (.ops r24_5) .ret)) (.pre [.kill [13]] (.seq (.ops r24_6) (.cond (.t 20) (.pre [.kill [12, 20]] (.seq (.ops r24_7) .ret)) (.pre [.kill [20]] (.seq (.ops r24_8) (.cond (.t 26) (.pre [.kill [26]] (.seq (.ops r24_9) (.seq (.ops r24_10) (.seq (.ops r24_11) .ret)))) (.pre [.kill [1, 2, 26]] .skip))))))))))) (.seq (.ops r24_12) .ret)))) c := rfl
theorem q25_20 (c : CSt) : run T r25_20 c = run T (.seq (.seq (.ops r25_15) (.cond (.t 56) (.pre [.kill [56]] .skip) (.pre [.kill [7, 56]] (.exit 1)))) (.seq (.block 2 (.seq (.seq (.ops r25_16) (.cond (.t 70) (.pre [.kill [1, 2, 5, 6, 7, 70]] (.seq (.ops r25_17) .ret)) (.pre [.kill [70]] .skip))) (.ops r25_18))) (.ops r25_19))) c := rfl
theorem q25 (c : CSt) : run T r25 c = run T (.seq (.ops r25_0) (.seq (.seq (.ops r25_1) (.cond (.t 10) (.pre [.kill [1, 2, 10]] (.seq (.ops r25_2) .ret)) (.pre [.kill [10]] .skip))) (.seq (.seq (.ops r25_3) (.block 0 (.seq (.ops r25_4) (.cond (.t 13) (.pre [.kill [1, 2, 12, 13]] (.seq (.ops r25_5) .ret)) (.pre [.kill [13]] (.seq (.ops r25_6) (.cond (.t 15) (.pre [.kill [12, 15]] (.seq (.ops r25_7) .ret)) (.pre [.kill [15]] (.seq (.ops r25_8) (.cond (.t 22) (.pre [.kill [22]] (.seq (.ops r25_9) .ret)) (.pre [.kill [22]] .skip))))))))))) (.seq (.ops r25_10) (.seq (.seq (.flt [0, 1, 0, 7, 15, 31, 63, 31, 159, 511, 1023, 2047, 4095, 8191, 16383, 4095, 4095, 102399, 262143, 524287, 1048575] [] r25_11 [31, 32, 33, 34, 35, 36, 37, 38, 39, 40, 41, 42, 43, 44, 45, 46, 47, 48, 49, 50]) (.cond (.t 51) (.pre [.kill [1, 2, 5, 51]] (.seq (.ops r25_12) .ret)) (.pre [.kill [51]] .skip))) (.seq (.ops r25_13) (.seq (.seq (.ops r25_14) (.block 1 (.loop r25_20))) (.seq (.flt [0, 1, 0, 0, 12, 31, 63, 127, 127, 383, 1023, 2047, 4095, 8191, 8191, 24575, 65535, 131071, 262143] [] r25_21 [1, 2, 5, 6, 80, 81, 82, 83, 84, 85, 86, 87, 88, 89, 90, 91, 92, 93, 94, 95, 96, 97]) .ret)))))))) c := rfl
theorem q26 (c : CSt) : run T r26 c = run T (.seq (.ops r26_0) (.seq (.seq (.ops r26_1) (.cond (.t 4) (.pre [.kill [4]] (.seq (.ops r26_2) .ret)) (.pre [.kill [4]] .skip))) (.seq (.ops r26_3) .ret))) c := rfl
theorem q27 (c : CSt) : run T r27 c = run T (.seq (.ops r27_0) (.seq (.flt [0, 1, 3, 7, 0, 16, 48, 112, 240, 511, 1023] [] r27_1 [0, 3, 4, 5, 6, 7, 8, 9, 10, 11, 12]) .ret)) c := rfl
theorem q28 (c : CSt) : run T r28 c = run T (.seq (.ops r28_0) (.seq (.seq (.ops r28_1) (.cond (.t 12) (.pre [.kill [1, 12]] (.seq (.ops r28_2) .ret)) (.pre [.kill [12]] .skip))) (.seq (.seq (.ops r28_3) (.cond (.t 21) (.pre [.kill [21]] (.seq (.flt [0, 0, 2, 7, 0, 16, 63, 127] [] r28_4 [0, 1, 22, 23, 24, 25, 26, 27, 28]) .ret)) (.pre [.kill [21]] .skip))) (.seq (.seq (.ops r28_5) (.seq (.ops r28_6) (.cond (.t 34) (.pre [.kill [1, 34]] (.seq (.ops r28_7) .ret)) (.pre [.kill [5, 34]] .skip)))) (.seq (.ops r28_8) .ret))))) c := rfl
theorem q29 (c : CSt) : run T r29 c = run T (.seq (.ops r29_0) (.seq (.ops r29_1) .ret)) c := rfl
theorem q30_9 (c : CSt) : run T r30_9 c = run T (.seq (.ops r30_4) (.seq (.cond (.t 26) (.pre [.kill [26]] .skip) (.pre [.kill [24, 25, 26]] (.exit 0))) (.seq (.block 1 (.seq (.ops r30_5) (.seq (.ops r30_6) (.cond (.t 37) (.pre [.kill [0, 24, 25, 37]] (.seq (.ops r30_7) .ret)) (.pre [.kill [37]] .skip))))) (.ops r30_8)))) c := rfl
theorem q30 (c : CSt) : run T r30 c = run T (.seq (.ops r30_0) (.seq (.seq (.ops r30_1) (.cond (.t 22) (.pre [.kill [0, 22]] (.seq (.ops r30_2) .ret)) (.pre [.kill [22]] .skip))) (.seq (.seq (.ops r30_3) (.block 0 (.loop r30_9))) (.seq (.ops r30_10) (.seq (.ops r30_11) .ret))))) c := rfl
theorem q31_8 (c : CSt) : run T r31_8 c = run T (.seq (.seq (.ops r31_4) (.cond (.t 14) (.pre [.kill [14]] .skip) (.pre [.kill [0, 1, 5, 14]] (.exit 0)))) (.seq (.block 1 (.seq (.flt [0, 0, 3, 7, 0, 0, 48, 112, 255] [] r31_5 [17, 18, 19, 20, 21, 22, 23, 24]) (.cond (.t 25) (.pre [.kill [0, 1, 5, 25]] (.seq (.ops r31_6) .ret)) (.pre [.kill [25]] .skip)))) (.ops r31_7))) c := rfl
theorem q31 (c : CSt) : run T r31 c = run T (.seq (.ops r31_0) (.seq (.seq (.ops r31_1) (.cond (.t 10) (.pre [.kill [0, 1, 10]] (.seq (.ops r31_2) .ret)) (.pre [.kill [10]] .skip))) (.seq (.seq (.ops r31_3) (.block 0 (.loop r31_8))) (.seq (.ops r31_9) .ret)))) c := rfl
theorem q32 (c : CSt) : run T r32 c = run T (.seq (.ops r32_0) (.seq (.seq (.ops r32_1) (.cond (.t 4) (.pre [.kill [4]] (.seq (.ops r32_2) .ret)) (.pre [.kill [4]] .skip))) (.seq (.ops r32_3) .ret))) c := rfl
theorem q33_3 (c : CSt) : run T r33_3 c = run T (.seq (.seq (.ops r33_1) (.cond (.t 13) (.pre [.kill [13]] .skip) (.pre [.kill [1, 13]] (.exit 0)))) (.block 1 (.ops r33_2))) c := rfl
theorem q33 (c : CSt) : run T r33 c = run T (.seq (.ops r33_0) (.seq (.block 0 (.loop r33_3)) (.seq (.ops r33_4) .ret))) c := rfl
theorem q34_3 (c : CSt) : run T r34_3 c = run T (.seq (.seq (.ops r34_1) (.cond (.t 16) (.pre [.kill [16]] .skip) (.pre [.kill [1, 16]] (.exit 0)))) (.block 1 (.ops r34_2))) c := rfl
theorem q34 (c : CSt) : run T r34 c = run T (.seq (.ops r34_0) (.seq (.block 0 (.loop r34_3)) (.seq (.ops r34_4) .ret))) c := rfl
theorem q40 (c : CSt) : run T r40 c = run T (.seq (.ops r40_0) (.seq (.seq (.ops r40_1) (.cond (.t 9) (.pre [.kill [1, 9]] (.seq (.ops r40_2) .ret)) (.pre [.kill [9]] .skip))) (.seq (.ops r40_3) .ret))) c := rfl
theorem q41 (c : CSt) : run T r41 c = run T (.seq (.ops r41_0) (.seq (.ops r41_1) (.seq (.seq (.ops r41_2) (.cond (.t 12) (.pre [.kill [12]] (.seq (.ops r41_3) .ret)) (.pre [.kill [0, 5, 12]] .skip))) (.seq (.ops r41_4) .ret)))) c := rfl
theorem q46 (c : CSt) : run T r46 c = run T (.seq (.ops r46_0) (.seq (.ops r46_1) .ret)) c := rfl
theorem q47_15 (c : CSt) : run T r47_15 c = run T (.seq (.ops r47_9) (.seq (.cond (.t 50) (.pre [.kill [50]] .skip) (.pre [.kill [47, 48, 49, 50]] (.exit 0))) (.seq (.block 1 (.seq (.ops r47_10) (.seq (.ops r47_11) (.seq (.seq (.ops r47_12) (.cond (.t 56) (.pre [.kill [5, 6, 8, 47, 48, 49, 56]] (.seq .bad .ret)) (.pre [.kill [56]] .skip))) (.ops r47_13))))) (.ops r47_14)))) c := rfl
theorem q47 (c : CSt) : run T r47 c = run T (.seq (.ops r47_0) (.seq (.ops r47_1) (.seq (.seq (.ops r47_2) (.cond (.t 30) (.pre [.kill [30]] (.seq (.ops r47_3) (.seq (.seq (.ops r47_4) (.cond (.t 39) (.pre [.kill [39]] (.seq (.ops r47_5) (.seq (.ops r47_6) (.cond (.t 44) (.pre [.kill [0, 5, 44]] (.seq .bad .ret)) (.pre [.kill [44]] .skip))))) (.pre [.kill [39]] .skip))) (.seq (.ops r47_7) (.seq (.seq (.ops r47_8) (.block 0 (.loop r47_15))) (.seq (.seq (.ops r47_16) (.cond (.t 66) (.pre [.kill [66]] (.ops r47_17)) (.pre [.kill [66]] .skip))) (.seq (.ops r47_18) .ret))))))) (.pre [.kill [30]] .skip))) (.seq (.ops r47_19) (.seq (.ops r47_20) .ret))))) c := rfl
theorem ok_3 : FnOK Tryd.prog 3 F3 := fnOK_of Tryd.func3 r3_ok Tryd.ntmps3 (by kernel_rfl) (by kernel_rfl) (by kernel_rfl)
theorem ok_4 : FnOK Tryd.prog 4 F4 := fnOK_of Tryd.func4 r4_ok Tryd.ntmps4 (by kernel_rfl) (by kernel_rfl) (by kernel_rfl)
theorem ok_5 : FnOK Tryd.prog 5 F5 := fnOK_of Tryd.func5 r5_ok Tryd.ntmps5 (by kernel_rfl) (by kernel_rfl) (by kernel_rfl)
theorem ok_6 : FnOK Tryd.prog 6 F6 := fnOK_of Tryd.func6 r6_ok Tryd.ntmps6 (by kernel_rfl) (by kernel_rfl) (by kernel_rfl)
theorem ok_7 : FnOK Tryd.prog 7 F7 := fnOK_of Tryd.func7 r7_ok Tryd.ntmps7 (by kernel_rfl) (by kernel_rfl) (by kernel_rfl)
theorem ok_8 : FnOK Tryd.prog 8 F8 := fnOK_of Tryd.func8 r8_ok Tryd.ntmps8 (by kernel_rfl) (by kernel_rfl) (by kernel_rfl)
theorem ok_9 : FnOK Tryd.prog 9 F9 := fnOK_of Tryd.func9 r9_ok Tryd.ntmps9 (by kernel_rfl) (by kernel_rfl) (by kernel_rfl)
theorem ok_10 : FnOK Tryd.prog 10 F10 := fnOK_of Tryd.func10 r10_ok Tryd.ntmps10 (by kernel_rfl) (by kernel_rfl) (by kernel_rfl)
theorem ok_11 : FnOK Tryd.prog 11 F11 := fnOK_of Tryd.func11 r11_ok Tryd.ntmps11 (by kernel_rfl) (by kernel_rfl) (by kernel_rfl)
theorem ok_12 : FnOK Tryd.prog 12 F12 := fnOK_of Tryd.func12 r12_ok Tryd.ntmps12 (by kernel_rfl) (by kernel_rfl) (by kernel_rfl)
theorem ok_13 : FnOK Tryd.prog 13 F13 := fnOK_of Tryd.func13 r13_ok Tryd.ntmps13 (by kernel_rfl) (by kernel_rfl) (by kernel_rfl)
theorem ok_14 : FnOK Tryd.prog 14 F14 := fnOK_of Tryd.func14 r14_ok Tryd.ntmps14 (by kernel_rfl) (by kernel_rfl) (by kernel_rfl)
theorem ok_15 : FnOK Tryd.prog 15 F15 := fnOK_of Tryd.func15 r15_ok Tryd.ntmps15 (by kernel_rfl) (by kernel_rfl) (by kernel_rfl)
theorem ok_16 : FnOK Tryd.prog 16 F16 := fnOK_of Tryd.func16 r16_ok Tryd.ntmps16 (by kernel_rfl) (by kernel_rfl) (by kernel_rfl)
theorem ok_17 : FnOK Tryd.prog 17 F17 := fnOK_of Tryd.func17 r17_ok Tryd.ntmps17 (by kernel_rfl) (by kernel_rfl) (by kernel_rfl)
theorem ok_18 : FnOK Tryd.prog 18 F18 := fnOK_of Tryd.func18 r18_ok Tryd.ntmps18 (by kernel_rfl) (by kernel_rfl) (by kernel_rfl)
theorem ok_19 : FnOK Tryd.prog 19 F19 := fnOK_of Tryd.func19 r19_ok Tryd.ntmps19 (by kernel_rfl) (by kernel_rfl) (by kernel_rfl)
theorem ok_20 : FnOK Tryd.prog 20 F20 := fnOK_of Tryd.func20 r20_ok Tryd.ntmps20 (by kernel_rfl) (by kernel_rfl) (by kernel_rfl)
theorem ok_21 : FnOK Tryd.prog 21 F21 := fnOK_of Tryd.func21 r21_ok Tryd.ntmps21 (by kernel_rfl) (by kernel_rfl) (by kernel_rfl)
theorem ok_22 : FnOK Tryd.prog 22 F22 := fnOK_of Tryd.func22 r22_ok Tryd.ntmps22 (by kernel_rfl) (by kernel_rfl) (by kernel_rfl)
theorem ok_23 : FnOK Tryd.prog 23 F23 := fnOK_of Tryd.func23 r23_ok Tryd.ntmps23 (by kernel_rfl) (by kernel_rfl) (by kernel_rfl)
theorem ok_24 : FnOK Tryd.prog 24 F24 := fnOK_of Tryd.func24 r24_ok Tryd.ntmps24 (by kernel_rfl) (by kernel_rfl) (by kernel_rfl)
theorem ok_25 : FnOK Tryd.prog 25 F25 := fnOK_of Tryd.func25 r25_ok Tryd.ntmps25 (by kernel_rfl) (by kernel_rfl) (by kernel_rfl)
theorem ok_26 : FnOK Tryd.prog 26 F26 := fnOK_of Tryd.func26 r26_ok Tryd.ntmps26 (by kernel_rfl) (by kernel_rfl) (by kernel_rfl)
theorem ok_27 : FnOK Tryd.prog 27 F27 := fnOK_of Tryd.func27 r27_ok Tryd.ntmps27 (by kernel_rfl) (by kernel_rfl) (by kernel_rfl)
theorem ok_28 : FnOK Tryd.prog 28 F28 := fnOK_of Tryd.func28 r28_ok Tryd.ntmps28 (by kernel_rfl) (by kernel_rfl) (by kernel_rfl)
theorem ok_29 : FnOK Tryd.prog 29 F29 := fnOK_of Tryd.func29 r29_ok Tryd.ntmps29 (by kernel_rfl) (by kernel_rfl) (by kernel_rfl)
theorem ok_30 : FnOK Tryd.prog 30 F30 := fnOK_of Tryd.func30 r30_ok Tryd.ntmps30 (by kernel_rfl) (by kernel_rfl) (by kernel_rfl)
theorem ok_31 : FnOK Tryd.prog 31 F31 := fnOK_of Tryd.func31 r31_ok Tryd.ntmps31 (by kernel_rfl) (by kernel_rfl) (by kernel_rfl)
theorem ok_32 : FnOK Tryd.prog 32 F32 := fnOK_of Tryd.func32 r32_ok Tryd.ntmps32 (by kernel_rfl) (by kernel_rfl) (by kernel_rfl)
theorem ok_33 : FnOK Tryd.prog 33 F33 := fnOK_of Tryd.func33 r33_ok Tryd.ntmps33 (by kernel_rfl) (by kernel_rfl) (by kernel_rfl)
theorem ok_34 : FnOK Tryd.prog 34 F34 := fnOK_of Tryd.func34 r34_ok Tryd.ntmps34 (by kernel_rfl) (by kernel_rfl) (by kernel_rfl)
theorem ok_40 : FnOK Tryd.prog 40 F40 := fnOK_of Tryd.func40 r40_ok Tryd.ntmps40 (by kernel_rfl) (by kernel_rfl) (by kernel_rfl)
theorem ok_41 : FnOK Tryd.prog 41 F41 := fnOK_of Tryd.func41 r41_ok Tryd.ntmps41 (by kernel_rfl) (by kernel_rfl) (by kernel_rfl)
theorem ok_46 : FnOK Tryd.prog 46 F46 := fnOK_of Tryd.func46 r46_ok Tryd.ntmps46 (by kernel_rfl) (by kernel_rfl) (by kernel_rfl)
theorem ok_47 : FnOK Tryd.prog 47 F47 := fnOK_of Tryd.func47 r47_ok Tryd.ntmps47 (by kernel_rfl) (by kernel_rfl) (by kernel_rfl)
theorem tab_ok : TabOK Tryd.prog T := by
  intro g b h
  simp only [T] at h
  unfold tabF at h
  split at h
  · cases h; exact ok_3
  · cases h; exact ok_4
  · cases h; exact ok_5
  · cases h; exact ok_6
  · cases h; exact ok_7
  · cases h; exact ok_8
  · cases h; exact ok_9
  · cases h; exact ok_10
  · cases h; exact ok_11
  · cases h; exact ok_12
  · cases h; exact ok_13
  · cases h; exact ok_14
  · cases h; exact ok_15
  · cases h; exact ok_16
  · cases h; exact ok_17
  · cases h; exact ok_18
  · cases h; exact ok_19
  · cases h; exact ok_20
  · cases h; exact ok_21
  · cases h; exact ok_22
  · cases h; exact ok_23
  · cases h; exact ok_24
  · cases h; exact ok_25
  · cases h; exact ok_26
  · cases h; exact ok_27
  · cases h; exact ok_28
  · cases h; exact ok_29
  · cases h; exact ok_30
  · cases h; exact ok_31
  · cases h; exact ok_32
  · cases h; exact ok_33
  · cases h; exact ok_34
  · cases h; exact ok_40
  · cases h; exact ok_41
  · cases h; exact ok_46
  · cases h; exact ok_47
  · cases h
attribute [go_sem] chunk List.all_replicate ops_own own_s2b own_app own1 own2 own3 own4 Option.some.injEq qg_n stG_n grp_n o_newB o_slid newBC_some slidC_psl slid2_bar o_isni d_isni w_isni isniC slId_nili List.mem_cons List.not_mem_nil List.map_append List.append_assoc d_mov d_build d_lit d_litB d_load d_nchk d_bin d_beq d_eqS d_un d_toInt d_toStr d_s2b d_b2s d_mkfn d_slcS d_slcL d_slcA d_faddr d_fld d_iaddrL d_iaddrA d_idxA d_idxS d_ext d_len d_lenC d_cap d_mini d_maxi d_pick d_new d_box d_store apE d_app d_mk d_mkB d_call rd_nil rd_none rd_some gdD_b nd_some nd_none app_val app_new app_wr foot_val foot_new foot_tok foot_wr cpS_some mkS_some mkBS_some valE_some valE_none Foot.quiet noFoot SV.names SObj.names namesO Tok.ids SOp.args storeC List.length_map List.length_append List.length_replicate Int.natCast_nonneg Int.ofNat_lt Int.ofNat_le Int.ofNat_inj run_skip run_ret run_exit run_ops run_drw run_flt w_mov w_build w_lit w_litB w_load w_nchk w_bin w_beq w_eqS w_un w_toInt w_toStr w_s2b w_b2s w_mkfn w_slcS w_slcL w_slcA w_faddr w_fld w_iaddrL w_iaddrA w_idxA w_idxS w_ext w_len w_lenC w_cap w_mini w_maxi w_pick qv_n qv_s qg_b s_some stG_b fl_nil fl_q fl_n fq_s fn_s fg_s gdP_pos fk_nil fk_cons run_seq run_cond run_block run_pre run_post gd_pos putS_some putS_none put_some put_none get_mk look_mk ev_t ev_c ev_f kill_nil kill_cons o_mov o_build o_lit o_litB o_load o_nchk o_bin o_beq o_eqS o_un o_toInt o_toStr o_s2b o_b2s o_mkfn o_slcS o_slcL o_slcA o_faddr o_fld o_iaddrL o_iaddrA o_idxA o_idxS o_ext o_len o_lenC o_cap o_mini o_maxi o_pick o_isnil o_new o_box o_mk o_mkB o_store o_app o_cpy o_call addN_eq addS_some mkE mkBE stC stS_some apS apB apL appT_eq cpC cp2 cpB cpL s_none p_cons ops_nil ops_op ops_grp ops_dir nx_some nx_none pl_nil np_some np_none un_nil un_cons grp_b nx_ite ite_mk ite_tm ite_nil ite_same ite_sint ite_sbool ite_su8 iteV_bool iteV_int iteV_u8 iteV_true iteV_false nrm_some nrm_none nrm_ite sq_n sq_x sq_r sq_none sq_ite cnd_b blk_n blk_r blk_x blk_none blk_ite lp_n lp_x lp_r lp_none lp_ite prD_some psD_n psD_x psD_r psD_none psD_ite dirs_nil dirs_cons dirN_some fin_n fin_r fin_ite nchkC beqC eqsC toStrC s2bC b2sC slcSC2 slcSC slcAC faddrC fldC iaddrLC iaddrAC2 iaddrAC idxAC idxSC extC lenC capC miniC maxiC buildC litC litBC pickC isnilC getT putT delT getO putO delO putK purgeT evL CSt.purge ibinC u8binC sbinC isShift binC loadC optC slcC bytesC rowsC psC Tok.readyC SObj.wf SV.bare SV.bareL tokV tokL tokC tokOb tokObs somes reach looks ixOf obsIds nodupB subB renObL putsO putsK dropK renKs afterC slIds slId_int slId_bool slId_u8 slId_str slId_byt slId_lst slId_nilp slId_undef slId_pp slId_ptr slId_ap slId_agg slId_tup slId_fn slId_psl callV callC_eq callK_t callK_f fastC_s fast2_t fast2_f fast3_t bare_mk small_mk slowC_p slow0_p slow1_s slow2_p slow3_t slow4_s slow5_t fin0_s finP_p fin1_t fin1_f fin2_p fin3_s fin4_p fin5_t oneSV_0 oneSV_1 oneSV_2 callE_s callE2_t callEK_t callEK_f callOW_t callO_c callO1_s callO2_t callO3_s callO4_t callEV_f iteV_dl iteV_dr iteV_tl iteV_tr iteV_nl iteV_nr bif_and bif_or pubAll CSt.publish pubO pubT obPub SV.pub SV.pubL pubSl gcC dirC tokD resC upto zipIx newIx tks initT iniC initC mkLoad cmpSV unSV toIntSV lenSV SV.num slcTok fillSV toB rows eqCell eqCells setRow setCells Tok.eat SV.one SV.data SV.isData SV.cells SV.isDef SV.purge SV.purgeL SObj.purge purgeO dropT Tok.purge SV.ren SV.renL SObj.ren Tok.ren SV.ids SV.idsL SV.toks SV.toksL SObj.ids SObj.toks renO renT inR renOs dropOs id_eq List.length_cons List.length_nil List.cons_append List.nil_append List.append_nil Nat.zero_add Nat.add_zero beq_self_eq_true List.getD_cons_zero List.getD_cons_succ List.getD_nil List.take_succ_cons List.take_zero List.take_nil List.drop_zero List.drop_succ_cons List.drop_nil List.map_cons List.map_nil List.flatten_cons List.flatten_nil List.contains_nil List.contains_cons List.isEmpty_nil List.isEmpty_cons List.all_cons List.all_nil List.set_cons_zero List.set_cons_succ Option.getD_some Option.getD_none Option.map_some Option.map_none Option.toList_some Option.toList_none Option.bind_some Option.isNone_none Option.isNone_some Option.isSome_none Option.isSome_some Bool.or_false Bool.true_or Bool.or_true Bool.false_or Bool.and_self Bool.and_true Bool.true_and Bool.and_false Bool.false_and Bool.not_true Bool.not_false Bool.false_eq_true Bool.true_eq_false Bool.not_eq_true Bool.not_eq_false decide_eq_true_eq decide_eq_false_iff_not and_true true_and and_self or_false false_or or_true true_or not_true_eq_false not_false_eq_true ne_eq Int.toNat_natCast true_implies false_implies implies_true decide_true decide_false Nat.lt_irrefl Nat.not_lt_zero Nat.le_refl Nat.zero_le eq_self and_false false_and
end Go.Proofs.YtmekdaifojaoiaaDoor

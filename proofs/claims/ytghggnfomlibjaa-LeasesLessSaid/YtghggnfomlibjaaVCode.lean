/- The resolved code of some functions of this seat: written by a program out of the translation, checked by the kernel. -/
import Derived.Test.YtghggnfomlibjaaProg
import Derived.Test.YtghggnfomlibjaaEd
import Derived.KernelRfl
set_option maxRecDepth 100000
namespace Go.Proofs.Ytghggnfomlibjaa.Vc
open Go.Sy
/- 13 sealwright/leases.Grant · params #[27, 3, 3, 31] · tmps 60 · results .cell 8 27, .tmp 9 -/
def c13_0 : List SI := [⟨some 4, none, .box (.t 0)⟩,
  ⟨some 8, none, .new (.rc [(.lst 3 [] .clip), (.lst 3 [] .clip)])⟩,
  ⟨some 9, none, .mov (.c (.int .i64 0))⟩]
def c13_1 : List SI := [⟨some 14, none, .mov (.t 1)⟩,
  ⟨some 15, none, .call (.f 30) [(.t 14)]⟩,
  ⟨some 16, none, .un .not (.t 15)⟩,
  ⟨some 13, none, .mov (.t 16)⟩]
def c13_2 : List SI := [⟨some 17, none, .build [(.lst 3 [] .clip), (.lst 3 [] .clip)] []⟩,
  ⟨none, none, .store 2 (.t 8) (.t 17)⟩,
  ⟨some 9, none, .mov (.c (.int .i64 49))⟩]
def c13_3 : List SI := [⟨some 19, none, .mov (.t 2)⟩,
  ⟨some 20, none, .bin .lss (.t 19) (.c (.int .i64 0))⟩,
  ⟨some 21, none, .mov (.t 20)⟩,
  ⟨some 22, some (21, false), .mov (.t 2)⟩,
  ⟨some 23, some (21, false), .bin .gtr (.t 22) (.c (.int .i64 1099511627776))⟩,
  ⟨some 24, none, .pick (.t 21) (.c (.bool true)) (.t 23)⟩,
  ⟨some 18, none, .mov (.t 24)⟩]
def c13_4 : List SI := [⟨some 25, none, .build [(.lst 3 [] .clip), (.lst 3 [] .clip)] []⟩,
  ⟨none, none, .store 2 (.t 8) (.t 25)⟩,
  ⟨some 9, none, .mov (.c (.int .i64 1))⟩]
def c13_5 : List SI := [⟨some 27, none, .load 2 true (.t 4)⟩,
  ⟨some 28, none, .mov (.t 1)⟩,
  ⟨some 29, none, .call (.f 20) [(.t 27), (.t 28)]⟩,
  ⟨some 26, none, .mov (.t 29)⟩]
def c13_6 : List SI := [⟨some 30, none, .build [(.lst 3 [] .clip), (.lst 3 [] .clip)] []⟩,
  ⟨none, none, .store 2 (.t 8) (.t 30)⟩,
  ⟨some 9, none, .mov (.c (.int .i64 48))⟩]
def c13_7 : List SI := [⟨some 31, none, .mov (.t 1)⟩,
  ⟨some 32, none, .mov (.t 2)⟩,
  ⟨some 33, none, .bin .add (.t 32) (.c (.int .i64 64))⟩,
  ⟨some 34, none, .mov (.t 3)⟩,
  ⟨some 35, none, .build [(.int .i64 0), (.int .i64 0), (.lst 1 [] .clip)] [(0, 1, (.t 31)), (1, 1, (.t 33)), (2, 1, (.t 34))]⟩,
  ⟨some 10, none, .new (.rc [(.int .i64 0), (.int .i64 0), (.lst 1 [] .clip)])⟩,
  ⟨none, none, .store 3 (.t 10) (.t 35)⟩]
def c13_8 : List SI := [⟨some 37, none, .load 2 true (.t 4)⟩,
  ⟨some 38, none, .mov (.t 1)⟩,
  ⟨some 39, none, .call (.f 31) [(.t 37), (.t 38)]⟩,
  ⟨some 36, none, .mov (.t 39)⟩,
  ⟨some 40, none, .ext (.t 36) 0⟩,
  ⟨some 41, none, .ext (.t 36) 1⟩,
  ⟨some 11, none, .mov (.t 40)⟩,
  ⟨some 12, none, .mov (.t 41)⟩]
def c13_9 : List SI := [⟨some 42, none, .faddr 0 (.t 4)⟩,
  ⟨some 43, none, .load 1 false (.t 42)⟩,
  ⟨some 44, none, .call (.f 32) [(.t 43)]⟩,
  ⟨some 45, none, .faddr 0 (.t 4)⟩,
  ⟨none, none, .store 1 (.t 45) (.t 44)⟩]
def c13_10 : List SI := [⟨some 46, none, .mov (.t 12)⟩]
def c13_11 : List SI := [⟨some 47, none, .faddr 0 (.t 4)⟩,
  ⟨some 48, none, .load 1 false (.t 47)⟩,
  ⟨some 49, none, .mov (.t 11)⟩,
  ⟨some 50, none, .load 3 true (.t 10)⟩,
  ⟨some 51, none, .iaddrL 3 (.t 48) (.t 49)⟩,
  ⟨none, none, .store 3 (.t 51) (.t 50)⟩]
def c13_12 : List SI := [⟨some 52, none, .faddr 0 (.t 4)⟩,
  ⟨some 53, none, .load 1 false (.t 52)⟩,
  ⟨some 54, none, .mov (.t 11)⟩,
  ⟨some 55, none, .load 3 true (.t 10)⟩,
  ⟨some 56, none, .lit 3 [(.t 55)]⟩,
  ⟨some 57, none, .call (.f 33) [(.t 53), (.t 54), (.t 56)]⟩,
  ⟨some 58, none, .faddr 0 (.t 4)⟩,
  ⟨none, none, .store 1 (.t 58) (.t 57)⟩]
def c13_13 : List SI := [⟨some 59, none, .load 2 true (.t 4)⟩,
  ⟨none, none, .store 2 (.t 8) (.t 59)⟩,
  ⟨some 9, none, .mov (.c (.int .i64 0))⟩]
def c13 : SCode := (.seq (.ops c13_0) (.seq (.block 0 (.seq (.ops c13_1) (.cond (.t 13) (.seq (.ops c13_2) .ret) (.seq (.ops c13_3) (.cond (.t 18) (.seq (.ops c13_4) .ret) (.seq (.ops c13_5) (.cond (.t 26) (.seq (.ops c13_6) .ret) .skip))))))) (.seq (.ops c13_7) (.seq (.ops c13_8) (.seq (.ops c13_9) (.seq (.seq (.ops c13_10) (.cond (.t 46) (.ops c13_11) (.ops c13_12))) (.seq (.ops c13_13) .ret)))))))
theorem c13_ok : ((Try.f13).body).bind (resCode Try.prog) = some c13 := by kernel_rfl
/- 18 sealwright/leases.Hold · params #[27, 3, 35, 3] · tmps 50 · results .cell 8 27 -/
def c18_0 : List SI := [⟨some 4, none, .box (.t 0)⟩,
  ⟨some 8, none, .new (.rc [(.lst 3 [] .clip), (.lst 3 [] .clip)])⟩]
def c18_1 : List SI := [⟨some 14, none, .load 2 true (.t 4)⟩,
  ⟨some 15, none, .mov (.t 1)⟩,
  ⟨some 16, none, .call (.f 35) [(.t 14), (.t 15)]⟩,
  ⟨some 13, none, .mov (.t 16)⟩,
  ⟨some 17, none, .ext (.t 13) 0⟩,
  ⟨some 18, none, .ext (.t 13) 1⟩,
  ⟨some 9, none, .mov (.t 17)⟩,
  ⟨some 10, none, .mov (.t 18)⟩]
def c18_2 : List SI := [⟨some 19, none, .mov (.t 10)⟩,
  ⟨some 20, none, .mov (.t 19)⟩,
  ⟨some 21, some (20, false), .mov (.t 1)⟩,
  ⟨some 22, some (20, false), .call (.f 30) [(.t 21)]⟩,
  ⟨some 23, some (20, false), .un .not (.t 22)⟩,
  ⟨some 24, none, .pick (.t 20) (.c (.bool true)) (.t 23)⟩]
def c18_3 : List SI := [⟨some 25, none, .load 2 true (.t 4)⟩,
  ⟨none, none, .store 2 (.t 8) (.t 25)⟩]
def c18_4 : List SI := [⟨some 26, none, .faddr 1 (.t 4)⟩,
  ⟨some 27, none, .load 1 false (.t 26)⟩,
  ⟨some 28, none, .call (.f 37) [(.t 27)]⟩,
  ⟨some 29, none, .mov (.t 9)⟩,
  ⟨some 30, none, .mov (.t 1)⟩,
  ⟨some 31, none, .mov (.t 2)⟩,
  ⟨some 32, none, .mov (.t 3)⟩,
  ⟨some 33, none, .build [(.int .i64 0), (.int .i64 0), (.int .i64 0)] [(0, 1, (.t 30)), (1, 1, (.t 31)), (2, 1, (.t 32))]⟩,
  ⟨some 34, none, .lit 3 [(.t 33)]⟩,
  ⟨some 35, none, .call (.f 36) [(.t 28), (.t 29), (.t 34)]⟩,
  ⟨some 36, none, .faddr 1 (.t 4)⟩,
  ⟨none, none, .store 1 (.t 36) (.t 35)⟩]
def c18_5 : List SI := [⟨some 38, none, .load 2 true (.t 4)⟩,
  ⟨some 39, none, .mov (.t 1)⟩,
  ⟨some 40, none, .call (.f 31) [(.t 38), (.t 39)]⟩,
  ⟨some 37, none, .mov (.t 40)⟩,
  ⟨some 41, none, .ext (.t 37) 0⟩,
  ⟨some 42, none, .ext (.t 37) 1⟩,
  ⟨some 11, none, .mov (.t 41)⟩,
  ⟨some 12, none, .mov (.t 42)⟩]
def c18_6 : List SI := [⟨some 43, none, .mov (.t 12)⟩]
def c18_7 : List SI := [⟨some 44, none, .faddr 0 (.t 4)⟩,
  ⟨some 45, none, .load 1 false (.t 44)⟩,
  ⟨some 46, none, .mov (.t 11)⟩,
  ⟨some 47, none, .call (.f 38) [(.t 45), (.t 46)]⟩,
  ⟨some 48, none, .faddr 0 (.t 4)⟩,
  ⟨none, none, .store 1 (.t 48) (.t 47)⟩]
def c18_8 : List SI := [⟨some 49, none, .load 2 true (.t 4)⟩,
  ⟨none, none, .store 2 (.t 8) (.t 49)⟩]
def c18 : SCode := (.seq (.ops c18_0) (.seq (.ops c18_1) (.seq (.seq (.ops c18_2) (.cond (.t 24) (.seq (.ops c18_3) .ret) .skip)) (.seq (.ops c18_4) (.seq (.seq (.ops c18_5) (.seq (.ops c18_6) (.cond (.t 43) (.ops c18_7) .skip))) (.seq (.ops c18_8) .ret))))))
theorem c18_ok : ((Try.f18).body).bind (resCode Try.prog) = some c18 := by kernel_rfl
/- 20 sealwright/leases.Held · params #[27, 3] · tmps 14 · results .tmp 4 -/
def c20_0 : List SI := [⟨some 2, none, .box (.t 0)⟩,
  ⟨some 4, none, .mov (.c (.bool false))⟩]
def c20_1 : List SI := [⟨some 8, none, .load 2 true (.t 2)⟩,
  ⟨some 9, none, .mov (.t 1)⟩,
  ⟨some 10, none, .call (.f 35) [(.t 8), (.t 9)]⟩,
  ⟨some 7, none, .mov (.t 10)⟩,
  ⟨some 11, none, .ext (.t 7) 0⟩,
  ⟨some 12, none, .ext (.t 7) 1⟩,
  ⟨some 5, none, .mov (.t 11)⟩,
  ⟨some 6, none, .mov (.t 12)⟩]
def c20_2 : List SI := [⟨some 13, none, .mov (.t 6)⟩,
  ⟨some 4, none, .mov (.t 13)⟩]
def c20 : SCode := (.seq (.ops c20_0) (.seq (.ops c20_1) (.seq (.ops c20_2) .ret)))
theorem c20_ok : ((Try.f20).body).bind (resCode Try.prog) = some c20 := by kernel_rfl
/- 30 sealwright/leases.known · params #[3] · tmps 9 · results .tmp 2 -/
def c30_0 : List SI := [⟨some 2, none, .mov (.c (.bool false))⟩]
def c30_1 : List SI := [⟨some 3, none, .mov (.t 0)⟩,
  ⟨some 4, none, .bin .geq (.t 3) (.c (.int .i64 1))⟩,
  ⟨some 5, none, .mov (.t 4)⟩,
  ⟨some 6, some (5, true), .mov (.t 0)⟩,
  ⟨some 7, some (5, true), .bin .leq (.t 6) (.c (.int .i64 4))⟩,
  ⟨some 8, none, .pick (.t 5) (.t 7) (.c (.bool false))⟩,
  ⟨some 2, none, .mov (.t 8)⟩]
def c30 : SCode := (.seq (.ops c30_0) (.seq (.ops c30_1) .ret))
theorem c30_ok : ((Try.f30).body).bind (resCode Try.prog) = some c30 := by kernel_rfl
/- 31 sealwright/leases.findLease · params #[27, 3] · tmps 12 · results .tmp 4, .tmp 5 -/
def c31_0 : List SI := [⟨some 2, none, .box (.t 0)⟩,
  ⟨some 4, none, .mov (.c (.int .i64 0))⟩,
  ⟨some 5, none, .mov (.c (.bool false))⟩]
def c31_1 : List SI := [⟨some 6, none, .faddr 0 (.t 2)⟩,
  ⟨some 7, none, .load 1 false (.t 6)⟩,
  ⟨some 8, none, .mov (.t 1)⟩,
  ⟨some 9, none, .call (.f 45) [(.t 7), (.t 8), (.f 46)]⟩,
  ⟨some 10, none, .ext (.t 9) 0⟩,
  ⟨some 11, none, .ext (.t 9) 1⟩,
  ⟨some 4, none, .mov (.t 10)⟩,
  ⟨some 5, none, .mov (.t 11)⟩]
def c31 : SCode := (.seq (.ops c31_0) (.seq (.ops c31_1) .ret))
theorem c31_ok : ((Try.f31).body).bind (resCode Try.prog) = some c31 := by kernel_rfl
/- 32 slices.Clone[[]sealwright/api.Lease,sealwright/api.Lease] · params #[24] · tmps 8 · results .tmp 2 -/
def c32_0 : List SI := [⟨some 2, none, .mov (.c (.lst 3 [] .clip))⟩]
def c32_1 : List SI := [⟨some 3, none, .mov (.t 0)⟩,
  ⟨some 4, none, .isnil false (.t 3)⟩]
def c32_2 : List SI := [⟨some 2, none, .mov (.c (.lst 3 [] .clip))⟩]
def c32_3 : List SI := [⟨some 5, none, .lit 3 []⟩,
  ⟨some 6, none, .mov (.t 0)⟩,
  ⟨some 7, none, .app [(.int .i64 0), (.int .i64 0), (.lst 1 [] .clip)] 40 (.t 5) (.t 6)⟩,
  ⟨some 2, none, .mov (.t 7)⟩]
def c32 : SCode := (.seq (.ops c32_0) (.seq (.seq (.ops c32_1) (.cond (.t 4) (.seq (.ops c32_2) .ret) .skip)) (.seq (.ops c32_3) .ret)))
theorem c32_ok : ((Try.f32).body).bind (resCode Try.prog) = some c32 := by kernel_rfl
/- 33 slices.Insert[[]sealwright/api.Lease,sealwright/api.Lease] · params #[24, 3, 24] · tmps 95 · results .tmp 6 -/
def c33_0 : List SI := [⟨some 6, none, .mov (.c (.lst 3 [] .clip))⟩]
def c33_1 : List SI := [⟨some 10, none, .mov (.t 0)⟩,
  ⟨some 11, none, .mov (.t 1)⟩,
  ⟨some 12, none, .slcL 3 (.t 10) (some (.t 11)) none none⟩]
def c33_2 : List SI := [⟨some 13, none, .mov (.t 2)⟩,
  ⟨some 14, none, .len false (.t 13)⟩,
  ⟨some 7, none, .mov (.t 14)⟩]
def c33_3 : List SI := [⟨some 15, none, .mov (.t 7)⟩,
  ⟨some 16, none, .bin .eql (.t 15) (.c (.int .i64 0))⟩]
def c33_4 : List SI := [⟨some 17, none, .mov (.t 0)⟩,
  ⟨some 6, none, .mov (.t 17)⟩]
def c33_5 : List SI := [⟨some 18, none, .mov (.t 0)⟩,
  ⟨some 19, none, .len false (.t 18)⟩,
  ⟨some 8, none, .mov (.t 19)⟩]
def c33_6 : List SI := [⟨some 20, none, .mov (.t 1)⟩,
  ⟨some 21, none, .mov (.t 8)⟩,
  ⟨some 22, none, .bin .eql (.t 20) (.t 21)⟩]
def c33_7 : List SI := [⟨some 23, none, .mov (.t 0)⟩,
  ⟨some 24, none, .mov (.t 2)⟩,
  ⟨some 25, none, .app [(.int .i64 0), (.int .i64 0), (.lst 1 [] .clip)] 40 (.t 23) (.t 24)⟩,
  ⟨some 6, none, .mov (.t 25)⟩]
def c33_8 : List SI := [⟨some 26, none, .mov (.t 8)⟩,
  ⟨some 27, none, .mov (.t 7)⟩,
  ⟨some 28, none, .bin .add (.t 26) (.t 27)⟩,
  ⟨some 29, none, .mov (.t 0)⟩,
  ⟨some 30, none, .cap (.t 29)⟩,
  ⟨some 31, none, .bin .gtr (.t 28) (.t 30)⟩]
def c33_9 : List SI := [⟨some 32, none, .mov (.t 0)⟩,
  ⟨some 33, none, .mov (.t 1)⟩,
  ⟨some 34, none, .slcL 3 (.t 32) none (some (.t 33)) none⟩,
  ⟨some 35, none, .mov (.t 8)⟩,
  ⟨some 36, none, .mov (.t 7)⟩,
  ⟨some 37, none, .bin .add (.t 35) (.t 36)⟩,
  ⟨some 38, none, .mov (.t 1)⟩,
  ⟨some 39, none, .bin .sub (.t 37) (.t 38)⟩,
  ⟨some 40, none, .appM [(.int .i64 0), (.int .i64 0), (.lst 1 [] .clip)] 40 (.t 34) (.t 39)⟩,
  ⟨some 9, none, .mov (.t 40)⟩]
def c33_10 : List SI := [⟨some 41, none, .mov (.t 9)⟩,
  ⟨some 42, none, .mov (.t 1)⟩,
  ⟨some 43, none, .slcL 3 (.t 41) (some (.t 42)) none none⟩,
  ⟨some 44, none, .mov (.t 2)⟩,
  ⟨some 45, none, .cpy 3 (.t 43) (.t 44)⟩]
def c33_11 : List SI := [⟨some 46, none, .mov (.t 9)⟩,
  ⟨some 47, none, .mov (.t 1)⟩,
  ⟨some 48, none, .mov (.t 7)⟩,
  ⟨some 49, none, .bin .add (.t 47) (.t 48)⟩,
  ⟨some 50, none, .slcL 3 (.t 46) (some (.t 49)) none none⟩,
  ⟨some 51, none, .mov (.t 0)⟩,
  ⟨some 52, none, .mov (.t 1)⟩,
  ⟨some 53, none, .slcL 3 (.t 51) (some (.t 52)) none none⟩,
  ⟨some 54, none, .cpy 3 (.t 50) (.t 53)⟩]
def c33_12 : List SI := [⟨some 55, none, .mov (.t 9)⟩,
  ⟨some 6, none, .mov (.t 55)⟩]
def c33_13 : List SI := [⟨some 56, none, .mov (.t 0)⟩,
  ⟨some 57, none, .mov (.t 8)⟩,
  ⟨some 58, none, .mov (.t 7)⟩,
  ⟨some 59, none, .bin .add (.t 57) (.t 58)⟩,
  ⟨some 60, none, .slcL 3 (.t 56) none (some (.t 59)) none⟩,
  ⟨some 0, none, .mov (.t 60)⟩]
def c33_14 : List SI := [⟨some 61, none, .mov (.t 2)⟩,
  ⟨some 62, none, .mov (.t 0)⟩,
  ⟨some 63, none, .mov (.t 1)⟩,
  ⟨some 64, none, .mov (.t 7)⟩,
  ⟨some 65, none, .bin .add (.t 63) (.t 64)⟩,
  ⟨some 66, none, .slcL 3 (.t 62) (some (.t 65)) none none⟩,
  ⟨some 67, none, .ovl (.t 61) (.t 66)⟩,
  ⟨some 68, none, .un .not (.t 67)⟩]
def c33_15 : List SI := [⟨some 69, none, .mov (.t 0)⟩,
  ⟨some 70, none, .mov (.t 1)⟩,
  ⟨some 71, none, .mov (.t 7)⟩,
  ⟨some 72, none, .bin .add (.t 70) (.t 71)⟩,
  ⟨some 73, none, .slcL 3 (.t 69) (some (.t 72)) none none⟩,
  ⟨some 74, none, .mov (.t 0)⟩,
  ⟨some 75, none, .mov (.t 1)⟩,
  ⟨some 76, none, .slcL 3 (.t 74) (some (.t 75)) none none⟩,
  ⟨some 77, none, .cpy 3 (.t 73) (.t 76)⟩]
def c33_16 : List SI := [⟨some 78, none, .mov (.t 0)⟩,
  ⟨some 79, none, .mov (.t 1)⟩,
  ⟨some 80, none, .slcL 3 (.t 78) (some (.t 79)) none none⟩,
  ⟨some 81, none, .mov (.t 2)⟩,
  ⟨some 82, none, .cpy 3 (.t 80) (.t 81)⟩]
def c33_17 : List SI := [⟨some 83, none, .mov (.t 0)⟩,
  ⟨some 6, none, .mov (.t 83)⟩]
def c33_18 : List SI := [⟨some 84, none, .mov (.t 0)⟩,
  ⟨some 85, none, .mov (.t 8)⟩,
  ⟨some 86, none, .slcL 3 (.t 84) (some (.t 85)) none none⟩,
  ⟨some 87, none, .mov (.t 2)⟩,
  ⟨some 88, none, .cpy 3 (.t 86) (.t 87)⟩]
def c33_19 : List SI := [⟨some 89, none, .mov (.t 0)⟩,
  ⟨some 90, none, .mov (.t 1)⟩,
  ⟨some 91, none, .slcL 3 (.t 89) (some (.t 90)) none none⟩,
  ⟨some 92, none, .mov (.t 7)⟩,
  ⟨some 93, none, .call (.f 49) [(.t 91), (.t 92)]⟩]
def c33_20 : List SI := [⟨some 94, none, .mov (.t 0)⟩,
  ⟨some 6, none, .mov (.t 94)⟩]
def c33 : SCode := (.seq (.ops c33_0) (.seq (.ops c33_1) (.seq (.ops c33_2) (.seq (.seq (.ops c33_3) (.cond (.t 16) (.seq (.ops c33_4) .ret) .skip)) (.seq (.ops c33_5) (.seq (.seq (.ops c33_6) (.cond (.t 22) (.seq (.ops c33_7) .ret) .skip)) (.seq (.seq (.ops c33_8) (.cond (.t 31) (.seq (.ops c33_9) (.seq (.ops c33_10) (.seq (.drw [0, 0, 0, 6, 15, 0, 0, 96, 255] [] c33_11) (.seq (.ops c33_12) .ret)))) .skip)) (.seq (.ops c33_13) (.seq (.seq (.ops c33_14) (.cond (.t 68) (.seq (.drw [0, 0, 0, 6, 15, 0, 0, 96, 255] [] c33_15) (.seq (.ops c33_16) (.seq (.ops c33_17) .ret))) .skip)) (.seq (.ops c33_18) (.seq (.ops c33_19) (.seq (.ops c33_20) .ret))))))))))))
theorem c33_ok : ((Try.f33).body).bind (resCode Try.prog) = some c33 := by kernel_rfl
/- 35 sealwright/leases.findHold · params #[27, 3] · tmps 12 · results .tmp 4, .tmp 5 -/
def c35_0 : List SI := [⟨some 2, none, .box (.t 0)⟩,
  ⟨some 4, none, .mov (.c (.int .i64 0))⟩,
  ⟨some 5, none, .mov (.c (.bool false))⟩]
def c35_1 : List SI := [⟨some 6, none, .faddr 1 (.t 2)⟩,
  ⟨some 7, none, .load 1 false (.t 6)⟩,
  ⟨some 8, none, .mov (.t 1)⟩,
  ⟨some 9, none, .call (.f 51) [(.t 7), (.t 8), (.f 52)]⟩,
  ⟨some 10, none, .ext (.t 9) 0⟩,
  ⟨some 11, none, .ext (.t 9) 1⟩,
  ⟨some 4, none, .mov (.t 10)⟩,
  ⟨some 5, none, .mov (.t 11)⟩]
def c35 : SCode := (.seq (.ops c35_0) (.seq (.ops c35_1) .ret))
theorem c35_ok : ((Try.f35).body).bind (resCode Try.prog) = some c35 := by kernel_rfl
/- 36 slices.Insert[[]sealwright/api.Hold,sealwright/api.Hold] · params #[25, 3, 25] · tmps 95 · results .tmp 6 -/
def c36_0 : List SI := [⟨some 6, none, .mov (.c (.lst 3 [] .clip))⟩]
def c36_1 : List SI := [⟨some 10, none, .mov (.t 0)⟩,
  ⟨some 11, none, .mov (.t 1)⟩,
  ⟨some 12, none, .slcL 3 (.t 10) (some (.t 11)) none none⟩]
def c36_2 : List SI := [⟨some 13, none, .mov (.t 2)⟩,
  ⟨some 14, none, .len false (.t 13)⟩,
  ⟨some 7, none, .mov (.t 14)⟩]
def c36_3 : List SI := [⟨some 15, none, .mov (.t 7)⟩,
  ⟨some 16, none, .bin .eql (.t 15) (.c (.int .i64 0))⟩]
def c36_4 : List SI := [⟨some 17, none, .mov (.t 0)⟩,
  ⟨some 6, none, .mov (.t 17)⟩]
def c36_5 : List SI := [⟨some 18, none, .mov (.t 0)⟩,
  ⟨some 19, none, .len false (.t 18)⟩,
  ⟨some 8, none, .mov (.t 19)⟩]
def c36_6 : List SI := [⟨some 20, none, .mov (.t 1)⟩,
  ⟨some 21, none, .mov (.t 8)⟩,
  ⟨some 22, none, .bin .eql (.t 20) (.t 21)⟩]
def c36_7 : List SI := [⟨some 23, none, .mov (.t 0)⟩,
  ⟨some 24, none, .mov (.t 2)⟩,
  ⟨some 25, none, .app [(.int .i64 0), (.int .i64 0), (.int .i64 0)] 24 (.t 23) (.t 24)⟩,
  ⟨some 6, none, .mov (.t 25)⟩]
def c36_8 : List SI := [⟨some 26, none, .mov (.t 8)⟩,
  ⟨some 27, none, .mov (.t 7)⟩,
  ⟨some 28, none, .bin .add (.t 26) (.t 27)⟩,
  ⟨some 29, none, .mov (.t 0)⟩,
  ⟨some 30, none, .cap (.t 29)⟩,
  ⟨some 31, none, .bin .gtr (.t 28) (.t 30)⟩]
def c36_9 : List SI := [⟨some 32, none, .mov (.t 0)⟩,
  ⟨some 33, none, .mov (.t 1)⟩,
  ⟨some 34, none, .slcL 3 (.t 32) none (some (.t 33)) none⟩,
  ⟨some 35, none, .mov (.t 8)⟩,
  ⟨some 36, none, .mov (.t 7)⟩,
  ⟨some 37, none, .bin .add (.t 35) (.t 36)⟩,
  ⟨some 38, none, .mov (.t 1)⟩,
  ⟨some 39, none, .bin .sub (.t 37) (.t 38)⟩,
  ⟨some 40, none, .appM [(.int .i64 0), (.int .i64 0), (.int .i64 0)] 24 (.t 34) (.t 39)⟩,
  ⟨some 9, none, .mov (.t 40)⟩]
def c36_10 : List SI := [⟨some 41, none, .mov (.t 9)⟩,
  ⟨some 42, none, .mov (.t 1)⟩,
  ⟨some 43, none, .slcL 3 (.t 41) (some (.t 42)) none none⟩,
  ⟨some 44, none, .mov (.t 2)⟩,
  ⟨some 45, none, .cpy 3 (.t 43) (.t 44)⟩]
def c36_11 : List SI := [⟨some 46, none, .mov (.t 9)⟩,
  ⟨some 47, none, .mov (.t 1)⟩,
  ⟨some 48, none, .mov (.t 7)⟩,
  ⟨some 49, none, .bin .add (.t 47) (.t 48)⟩,
  ⟨some 50, none, .slcL 3 (.t 46) (some (.t 49)) none none⟩,
  ⟨some 51, none, .mov (.t 0)⟩,
  ⟨some 52, none, .mov (.t 1)⟩,
  ⟨some 53, none, .slcL 3 (.t 51) (some (.t 52)) none none⟩,
  ⟨some 54, none, .cpy 3 (.t 50) (.t 53)⟩]
def c36_12 : List SI := [⟨some 55, none, .mov (.t 9)⟩,
  ⟨some 6, none, .mov (.t 55)⟩]
def c36_13 : List SI := [⟨some 56, none, .mov (.t 0)⟩,
  ⟨some 57, none, .mov (.t 8)⟩,
  ⟨some 58, none, .mov (.t 7)⟩,
  ⟨some 59, none, .bin .add (.t 57) (.t 58)⟩,
  ⟨some 60, none, .slcL 3 (.t 56) none (some (.t 59)) none⟩,
  ⟨some 0, none, .mov (.t 60)⟩]
def c36_14 : List SI := [⟨some 61, none, .mov (.t 2)⟩,
  ⟨some 62, none, .mov (.t 0)⟩,
  ⟨some 63, none, .mov (.t 1)⟩,
  ⟨some 64, none, .mov (.t 7)⟩,
  ⟨some 65, none, .bin .add (.t 63) (.t 64)⟩,
  ⟨some 66, none, .slcL 3 (.t 62) (some (.t 65)) none none⟩,
  ⟨some 67, none, .ovl (.t 61) (.t 66)⟩,
  ⟨some 68, none, .un .not (.t 67)⟩]
def c36_15 : List SI := [⟨some 69, none, .mov (.t 0)⟩,
  ⟨some 70, none, .mov (.t 1)⟩,
  ⟨some 71, none, .mov (.t 7)⟩,
  ⟨some 72, none, .bin .add (.t 70) (.t 71)⟩,
  ⟨some 73, none, .slcL 3 (.t 69) (some (.t 72)) none none⟩,
  ⟨some 74, none, .mov (.t 0)⟩,
  ⟨some 75, none, .mov (.t 1)⟩,
  ⟨some 76, none, .slcL 3 (.t 74) (some (.t 75)) none none⟩,
  ⟨some 77, none, .cpy 3 (.t 73) (.t 76)⟩]
def c36_16 : List SI := [⟨some 78, none, .mov (.t 0)⟩,
  ⟨some 79, none, .mov (.t 1)⟩,
  ⟨some 80, none, .slcL 3 (.t 78) (some (.t 79)) none none⟩,
  ⟨some 81, none, .mov (.t 2)⟩,
  ⟨some 82, none, .cpy 3 (.t 80) (.t 81)⟩]
def c36_17 : List SI := [⟨some 83, none, .mov (.t 0)⟩,
  ⟨some 6, none, .mov (.t 83)⟩]
def c36_18 : List SI := [⟨some 84, none, .mov (.t 0)⟩,
  ⟨some 85, none, .mov (.t 8)⟩,
  ⟨some 86, none, .slcL 3 (.t 84) (some (.t 85)) none none⟩,
  ⟨some 87, none, .mov (.t 2)⟩,
  ⟨some 88, none, .cpy 3 (.t 86) (.t 87)⟩]
def c36_19 : List SI := [⟨some 89, none, .mov (.t 0)⟩,
  ⟨some 90, none, .mov (.t 1)⟩,
  ⟨some 91, none, .slcL 3 (.t 89) (some (.t 90)) none none⟩,
  ⟨some 92, none, .mov (.t 7)⟩,
  ⟨some 93, none, .call (.f 54) [(.t 91), (.t 92)]⟩]
def c36_20 : List SI := [⟨some 94, none, .mov (.t 0)⟩,
  ⟨some 6, none, .mov (.t 94)⟩]
def c36 : SCode := (.seq (.ops c36_0) (.seq (.ops c36_1) (.seq (.ops c36_2) (.seq (.seq (.ops c36_3) (.cond (.t 16) (.seq (.ops c36_4) .ret) .skip)) (.seq (.ops c36_5) (.seq (.seq (.ops c36_6) (.cond (.t 22) (.seq (.ops c36_7) .ret) .skip)) (.seq (.seq (.ops c36_8) (.cond (.t 31) (.seq (.ops c36_9) (.seq (.ops c36_10) (.seq (.drw [0, 0, 0, 6, 15, 0, 0, 96, 255] [] c36_11) (.seq (.ops c36_12) .ret)))) .skip)) (.seq (.ops c36_13) (.seq (.seq (.ops c36_14) (.cond (.t 68) (.seq (.drw [0, 0, 0, 6, 15, 0, 0, 96, 255] [] c36_15) (.seq (.ops c36_16) (.seq (.ops c36_17) .ret))) .skip)) (.seq (.ops c36_18) (.seq (.ops c36_19) (.seq (.ops c36_20) .ret))))))))))))
theorem c36_ok : ((Try.f36).body).bind (resCode Try.prog) = some c36 := by kernel_rfl
/- 37 slices.Clone[[]sealwright/api.Hold,sealwright/api.Hold] · params #[25] · tmps 8 · results .tmp 2 -/
def c37_0 : List SI := [⟨some 2, none, .mov (.c (.lst 3 [] .clip))⟩]
def c37_1 : List SI := [⟨some 3, none, .mov (.t 0)⟩,
  ⟨some 4, none, .isnil false (.t 3)⟩]
def c37_2 : List SI := [⟨some 2, none, .mov (.c (.lst 3 [] .clip))⟩]
def c37_3 : List SI := [⟨some 5, none, .lit 3 []⟩,
  ⟨some 6, none, .mov (.t 0)⟩,
  ⟨some 7, none, .app [(.int .i64 0), (.int .i64 0), (.int .i64 0)] 24 (.t 5) (.t 6)⟩,
  ⟨some 2, none, .mov (.t 7)⟩]
def c37 : SCode := (.seq (.ops c37_0) (.seq (.seq (.ops c37_1) (.cond (.t 4) (.seq (.ops c37_2) .ret) .skip)) (.seq (.ops c37_3) .ret)))
theorem c37_ok : ((Try.f37).body).bind (resCode Try.prog) = some c37 := by kernel_rfl
/- 38 sealwright/leases.without · params #[24, 3] · tmps 14 · results .tmp 4 -/
def c38_0 : List SI := [⟨some 4, none, .mov (.c (.lst 3 [] .clip))⟩]
def c38_1 : List SI := [⟨some 5, none, .mov (.t 0)⟩,
  ⟨some 6, none, .mov (.t 1)⟩,
  ⟨some 7, none, .mov (.t 1)⟩,
  ⟨some 8, none, .slcL 3 (.t 5) none (some (.t 6)) (some (.t 7))⟩,
  ⟨some 9, none, .mov (.t 0)⟩,
  ⟨some 10, none, .mov (.t 1)⟩,
  ⟨some 11, none, .bin .add (.t 10) (.c (.int .i64 1))⟩,
  ⟨some 12, none, .slcL 3 (.t 9) (some (.t 11)) none none⟩,
  ⟨some 13, none, .app [(.int .i64 0), (.int .i64 0), (.lst 1 [] .clip)] 40 (.t 8) (.t 12)⟩,
  ⟨some 4, none, .mov (.t 13)⟩]
def c38 : SCode := (.seq (.ops c38_0) (.seq (.drw [0, 0, 0, 7, 0, 0, 32, 112, 255, 511] [113] c38_1) .ret))
theorem c38_ok : ((Try.f38).body).bind (resCode Try.prog) = some c38 := by kernel_rfl
/- 45 slices.BinarySearchFunc[[]sealwright/api.Lease,sealwright/api.Lease,int] · params #[24, 3, 72] · tmps 49 · results .tmp 6, .tmp 7 -/
def c45_0 : List SI := [⟨some 6, none, .mov (.c (.int .i64 0))⟩,
  ⟨some 7, none, .mov (.c (.bool false))⟩]
def c45_1 : List SI := [⟨some 12, none, .mov (.t 0)⟩,
  ⟨some 13, none, .len false (.t 12)⟩,
  ⟨some 8, none, .mov (.t 13)⟩]
def c45_2 : List SI := [⟨some 14, none, .mov (.t 8)⟩,
  ⟨some 9, none, .mov (.c (.int .i64 0))⟩,
  ⟨some 10, none, .mov (.t 14)⟩]
def c45_3 : List SI := [⟨some 15, none, .mov (.t 9)⟩,
  ⟨some 16, none, .mov (.t 10)⟩,
  ⟨some 17, none, .bin .lss (.t 15) (.t 16)⟩]
def c45_4 : List SI := [⟨some 18, none, .mov (.t 9)⟩,
  ⟨some 19, none, .mov (.t 10)⟩,
  ⟨some 20, none, .bin .add (.t 18) (.t 19)⟩,
  ⟨some 21, none, .toInt .u64 (.t 20)⟩,
  ⟨some 22, none, .bin .shr (.t 21) (.c (.int .u64 1))⟩,
  ⟨some 23, none, .toInt .i64 (.t 22)⟩,
  ⟨some 11, none, .mov (.t 23)⟩]
def c45_5 : List SI := [⟨some 24, none, .mov (.t 2)⟩,
  ⟨some 25, none, .mov (.t 0)⟩,
  ⟨some 26, none, .mov (.t 11)⟩,
  ⟨some 27, none, .iaddrL 3 (.t 25) (.t 26)⟩,
  ⟨some 28, none, .load 3 true (.t 27)⟩,
  ⟨some 29, none, .mov (.t 1)⟩,
  ⟨some 30, none, .call (.t 24) [(.t 28), (.t 29)]⟩,
  ⟨some 31, none, .bin .lss (.t 30) (.c (.int .i64 0))⟩]
def c45_6 : List SI := [⟨some 32, none, .mov (.t 11)⟩,
  ⟨some 33, none, .bin .add (.t 32) (.c (.int .i64 1))⟩,
  ⟨some 9, none, .mov (.t 33)⟩]
def c45_7 : List SI := [⟨some 34, none, .mov (.t 11)⟩,
  ⟨some 10, none, .mov (.t 34)⟩]
def c45_8 : SCode := (.seq (.seq (.ops c45_3) (.cond (.t 17) .skip (.exit 0))) (.block 1 (.seq (.ops c45_4) (.seq (.ops c45_5) (.cond (.t 31) (.ops c45_6) (.ops c45_7))))))
def c45_9 : List SI := [⟨some 35, none, .mov (.t 9)⟩,
  ⟨some 36, none, .mov (.t 9)⟩,
  ⟨some 37, none, .mov (.t 8)⟩,
  ⟨some 38, none, .bin .lss (.t 36) (.t 37)⟩,
  ⟨some 39, none, .mov (.t 38)⟩,
  ⟨some 40, some (39, true), .mov (.t 2)⟩,
  ⟨some 41, some (39, true), .mov (.t 0)⟩,
  ⟨some 42, some (39, true), .mov (.t 9)⟩,
  ⟨some 43, some (39, true), .iaddrL 3 (.t 41) (.t 42)⟩,
  ⟨some 44, some (39, true), .load 3 true (.t 43)⟩,
  ⟨some 45, some (39, true), .mov (.t 1)⟩,
  ⟨some 46, some (39, true), .call (.t 40) [(.t 44), (.t 45)]⟩,
  ⟨some 47, some (39, true), .bin .eql (.t 46) (.c (.int .i64 0))⟩,
  ⟨some 48, none, .pick (.t 39) (.t 47) (.c (.bool false))⟩,
  ⟨some 6, none, .mov (.t 35)⟩,
  ⟨some 7, none, .mov (.t 48)⟩]
def c45 : SCode := (.seq (.ops c45_0) (.seq (.ops c45_1) (.seq (.ops c45_2) (.seq (.block 0 (.loop c45_8)) (.seq (.ops c45_9) .ret)))))
theorem c45_ok : ((Try.f45).body).bind (resCode Try.prog) = some c45 := by kernel_rfl
/- 46 sealwright/leases.findLease$1 · params #[48, 3] · tmps 9 · results .tmp 4 -/
def c46_0 : List SI := [⟨some 2, none, .box (.t 0)⟩,
  ⟨some 4, none, .mov (.c (.int .i64 0))⟩]
def c46_1 : List SI := [⟨some 5, none, .faddr 0 (.t 2)⟩,
  ⟨some 6, none, .load 1 false (.t 5)⟩,
  ⟨some 7, none, .mov (.t 1)⟩,
  ⟨some 8, none, .call (.f 47) [(.t 6), (.t 7)]⟩,
  ⟨some 4, none, .mov (.t 8)⟩]
def c46 : SCode := (.seq (.ops c46_0) (.seq (.ops c46_1) .ret))
theorem c46_ok : ((Try.f46).body).bind (resCode Try.prog) = some c46 := by kernel_rfl
/- 47 cmp.Compare[int] · params #[3, 3] · tmps 20 · results .tmp 4 -/
def c47_0 : List SI := [⟨some 4, none, .mov (.c (.int .i64 0))⟩]
def c47_1 : List SI := [⟨some 7, none, .mov (.t 0)⟩,
  ⟨some 8, none, .call (.f 56) [(.t 7)]⟩,
  ⟨some 5, none, .mov (.t 8)⟩]
def c47_2 : List SI := [⟨some 9, none, .mov (.t 1)⟩,
  ⟨some 10, none, .call (.f 56) [(.t 9)]⟩,
  ⟨some 6, none, .mov (.t 10)⟩]
def c47_3 : List SI := [⟨some 11, none, .mov (.t 5)⟩]
def c47_4 : List SI := [⟨some 12, none, .mov (.t 6)⟩]
def c47_5 : List SI := [⟨some 4, none, .mov (.c (.int .i64 0))⟩]
def c47_6 : List SI := [⟨some 4, none, .mov (.c (.int .i64 (-1)))⟩]
def c47_7 : List SI := [⟨some 13, none, .mov (.t 6)⟩]
def c47_8 : List SI := [⟨some 4, none, .mov (.c (.int .i64 1))⟩]
def c47_9 : List SI := [⟨some 14, none, .mov (.t 0)⟩,
  ⟨some 15, none, .mov (.t 1)⟩,
  ⟨some 16, none, .bin .lss (.t 14) (.t 15)⟩]
def c47_10 : List SI := [⟨some 4, none, .mov (.c (.int .i64 (-1)))⟩]
def c47_11 : List SI := [⟨some 17, none, .mov (.t 0)⟩,
  ⟨some 18, none, .mov (.t 1)⟩,
  ⟨some 19, none, .bin .gtr (.t 17) (.t 18)⟩]
def c47_12 : List SI := [⟨some 4, none, .mov (.c (.int .i64 1))⟩]
def c47_13 : List SI := [⟨some 4, none, .mov (.c (.int .i64 0))⟩]
def c47 : SCode := (.seq (.ops c47_0) (.seq (.ops c47_1) (.seq (.ops c47_2) (.seq (.seq (.ops c47_3) (.cond (.t 11) (.seq (.seq (.ops c47_4) (.cond (.t 12) (.seq (.ops c47_5) .ret) .skip)) (.seq (.ops c47_6) .ret)) .skip)) (.seq (.seq (.ops c47_7) (.cond (.t 13) (.seq (.ops c47_8) .ret) .skip)) (.seq (.seq (.ops c47_9) (.cond (.t 16) (.seq (.ops c47_10) .ret) .skip)) (.seq (.seq (.ops c47_11) (.cond (.t 19) (.seq (.ops c47_12) .ret) .skip)) (.seq (.ops c47_13) .ret))))))))
theorem c47_ok : ((Try.f47).body).bind (resCode Try.prog) = some c47 := by kernel_rfl
/- 51 slices.BinarySearchFunc[[]sealwright/api.Hold,sealwright/api.Hold,int] · params #[25, 3, 76] · tmps 49 · results .tmp 6, .tmp 7 -/
def c51_0 : List SI := [⟨some 6, none, .mov (.c (.int .i64 0))⟩,
  ⟨some 7, none, .mov (.c (.bool false))⟩]
def c51_1 : List SI := [⟨some 12, none, .mov (.t 0)⟩,
  ⟨some 13, none, .len false (.t 12)⟩,
  ⟨some 8, none, .mov (.t 13)⟩]
def c51_2 : List SI := [⟨some 14, none, .mov (.t 8)⟩,
  ⟨some 9, none, .mov (.c (.int .i64 0))⟩,
  ⟨some 10, none, .mov (.t 14)⟩]
def c51_3 : List SI := [⟨some 15, none, .mov (.t 9)⟩,
  ⟨some 16, none, .mov (.t 10)⟩,
  ⟨some 17, none, .bin .lss (.t 15) (.t 16)⟩]
def c51_4 : List SI := [⟨some 18, none, .mov (.t 9)⟩,
  ⟨some 19, none, .mov (.t 10)⟩,
  ⟨some 20, none, .bin .add (.t 18) (.t 19)⟩,
  ⟨some 21, none, .toInt .u64 (.t 20)⟩,
  ⟨some 22, none, .bin .shr (.t 21) (.c (.int .u64 1))⟩,
  ⟨some 23, none, .toInt .i64 (.t 22)⟩,
  ⟨some 11, none, .mov (.t 23)⟩]
def c51_5 : List SI := [⟨some 24, none, .mov (.t 2)⟩,
  ⟨some 25, none, .mov (.t 0)⟩,
  ⟨some 26, none, .mov (.t 11)⟩,
  ⟨some 27, none, .iaddrL 3 (.t 25) (.t 26)⟩,
  ⟨some 28, none, .load 3 true (.t 27)⟩,
  ⟨some 29, none, .mov (.t 1)⟩,
  ⟨some 30, none, .call (.t 24) [(.t 28), (.t 29)]⟩,
  ⟨some 31, none, .bin .lss (.t 30) (.c (.int .i64 0))⟩]
def c51_6 : List SI := [⟨some 32, none, .mov (.t 11)⟩,
  ⟨some 33, none, .bin .add (.t 32) (.c (.int .i64 1))⟩,
  ⟨some 9, none, .mov (.t 33)⟩]
def c51_7 : List SI := [⟨some 34, none, .mov (.t 11)⟩,
  ⟨some 10, none, .mov (.t 34)⟩]
def c51_8 : SCode := (.seq (.seq (.ops c51_3) (.cond (.t 17) .skip (.exit 0))) (.block 1 (.seq (.ops c51_4) (.seq (.ops c51_5) (.cond (.t 31) (.ops c51_6) (.ops c51_7))))))
def c51_9 : List SI := [⟨some 35, none, .mov (.t 9)⟩,
  ⟨some 36, none, .mov (.t 9)⟩,
  ⟨some 37, none, .mov (.t 8)⟩,
  ⟨some 38, none, .bin .lss (.t 36) (.t 37)⟩,
  ⟨some 39, none, .mov (.t 38)⟩,
  ⟨some 40, some (39, true), .mov (.t 2)⟩,
  ⟨some 41, some (39, true), .mov (.t 0)⟩,
  ⟨some 42, some (39, true), .mov (.t 9)⟩,
  ⟨some 43, some (39, true), .iaddrL 3 (.t 41) (.t 42)⟩,
  ⟨some 44, some (39, true), .load 3 true (.t 43)⟩,
  ⟨some 45, some (39, true), .mov (.t 1)⟩,
  ⟨some 46, some (39, true), .call (.t 40) [(.t 44), (.t 45)]⟩,
  ⟨some 47, some (39, true), .bin .eql (.t 46) (.c (.int .i64 0))⟩,
  ⟨some 48, none, .pick (.t 39) (.t 47) (.c (.bool false))⟩,
  ⟨some 6, none, .mov (.t 35)⟩,
  ⟨some 7, none, .mov (.t 48)⟩]
def c51 : SCode := (.seq (.ops c51_0) (.seq (.ops c51_1) (.seq (.ops c51_2) (.seq (.block 0 (.loop c51_8)) (.seq (.ops c51_9) .ret)))))
theorem c51_ok : ((Try.f51).body).bind (resCode Try.prog) = some c51 := by kernel_rfl
/- 52 sealwright/leases.findHold$1 · params #[50, 3] · tmps 9 · results .tmp 4 -/
def c52_0 : List SI := [⟨some 2, none, .box (.t 0)⟩,
  ⟨some 4, none, .mov (.c (.int .i64 0))⟩]
def c52_1 : List SI := [⟨some 5, none, .faddr 0 (.t 2)⟩,
  ⟨some 6, none, .load 1 false (.t 5)⟩,
  ⟨some 7, none, .mov (.t 1)⟩,
  ⟨some 8, none, .call (.f 47) [(.t 6), (.t 7)]⟩,
  ⟨some 4, none, .mov (.t 8)⟩]
def c52 : SCode := (.seq (.ops c52_0) (.seq (.ops c52_1) .ret))
theorem c52_ok : ((Try.f52).body).bind (resCode Try.prog) = some c52 := by kernel_rfl
/- 54 slices.rotateRight[sealwright/api.Hold] · params #[25, 3] · tmps 10 · results  -/
def c54_0 : List SI := [⟨some 4, none, .mov (.t 0)⟩,
  ⟨some 5, none, .mov (.t 0)⟩,
  ⟨some 6, none, .len false (.t 5)⟩,
  ⟨some 7, none, .mov (.t 1)⟩,
  ⟨some 8, none, .bin .sub (.t 6) (.t 7)⟩,
  ⟨some 9, none, .call (.f 58) [(.t 4), (.t 8)]⟩]
def c54 : SCode := (.ops c54_0)
theorem c54_ok : ((Try.f54).body).bind (resCode Try.prog) = some c54 := by kernel_rfl
/- 56 cmp.isNaN[int] · params #[3] · tmps 6 · results .tmp 2 -/
def c56_0 : List SI := [⟨some 2, none, .mov (.c (.bool false))⟩]
def c56_1 : List SI := [⟨some 3, none, .mov (.t 0)⟩,
  ⟨some 4, none, .mov (.t 0)⟩,
  ⟨some 5, none, .bin .neq (.t 3) (.t 4)⟩,
  ⟨some 2, none, .mov (.t 5)⟩]
def c56 : SCode := (.seq (.ops c56_0) (.seq (.ops c56_1) .ret))
theorem c56_ok : ((Try.f56).body).bind (resCode Try.prog) = some c56 := by kernel_rfl

end Go.Proofs.Ytghggnfomlibjaa.Vc

/-
  The resolved text of the functions, each tied to the program's own by the kernel.
-/
import Derived.Test.YtdkgoaiodjokpaaGreatProg
import Derived.Test.YtdkgoaiodjokpaaGreatFd
namespace Go.Proofs.YtdkgoaiodjokpaaGreat.M
open Go Go.RowKit
set_option maxRecDepth 100000

def r5 : RFunc := ⟨16, [.t 4],
 (.seq
  (.reg [⟨(some 4), .v (.mov (.c (.bool false))), none⟩])
  (.seq
   (.reg [⟨(some 5), .v (.mov (.t 0)), none⟩, ⟨(some 6), .v (.len (.t 5)), none⟩, ⟨(some 7), .v (.bin .gtr (.t 6) (.c (.int .i64 1048576))), none⟩, ⟨(some 8), .v (.mov (.t 7)), none⟩, ⟨(some 9), .v (.mov (.t 1)), (some (8, false))⟩, ⟨(some 10), .v (.len (.t 9)), (some (8, false))⟩, ⟨(some 11), .v (.mov (.t 0)), (some (8, false))⟩, ⟨(some 12), .v (.len (.t 11)), (some (8, false))⟩, ⟨(some 13), .v (.bin .sub (.c (.int .i64 1048576)) (.t 12)), (some (8, false))⟩, ⟨(some 14), .v (.bin .gtr (.t 10) (.t 13)), (some (8, false))⟩, ⟨(some 15), .v (.pick (.t 8) (.c (.bool true)) (.t 14)), none⟩, ⟨(some 4), .v (.mov (.t 15)), none⟩])
   .ret))⟩
theorem e5 : rFunc Tryz.prog Tryz.f5 = some r5 := by kernel_rfl
def r8 : RFunc := ⟨10, [.cell true 5 2, .t 3],
 (.seq
  (.reg [⟨(some 2), .m (.alloc [(.int .i64 0), .nils, (.int .i64 0), .nils, (.str [])]), none⟩, ⟨(some 3), .v (.mov (.c (.bool false))), none⟩])
  (.seq
   (.seq
    (.reg [⟨(some 4), .v (.mov (.t 0)), none⟩, ⟨(some 5), .call 36 [(.t 4)], none⟩, ⟨(some 6), .v (.un .not (.t 5)), none⟩])
    (.cond (.t 6)
     (.seq
      (.reg [⟨(some 7), .v (.bld [(.int .i64 0), .nils, (.int .i64 0), .nils, (.str [])] []), none⟩, ⟨none, .m (.store 5 (.t 2) (.t 7)), none⟩, ⟨(some 3), .v (.mov (.c (.bool false))), none⟩])
      .ret)
     .skip))
   (.seq
    (.reg [⟨(some 8), .v (.mov (.t 0)), none⟩, ⟨(some 9), .call 37 [(.t 8)], none⟩, ⟨none, .m (.store 5 (.t 2) (.t 9)), none⟩, ⟨(some 3), .v (.mov (.c (.bool true))), none⟩])
    .ret)))⟩
theorem e8 : rFunc Tryz.prog Tryz.f8 = some r8 := by kernel_rfl
def r57 : RFunc := ⟨26, [.t 4],
 (.seq
  (.reg [⟨(some 4), .v (.mov (.c (.bool false))), none⟩])
  (.seq
   (.seq
    (.reg [⟨(some 6), .v (.mov (.t 0)), none⟩, ⟨(some 7), .v (.len (.t 6)), none⟩, ⟨(some 8), .v (.mov (.t 1)), none⟩, ⟨(some 9), .v (.len (.t 8)), none⟩, ⟨(some 10), .v (.bin .neq (.t 7) (.t 9)), none⟩])
    (.cond (.t 10)
     (.seq
      (.reg [⟨(some 4), .v (.mov (.c (.bool false))), none⟩])
      .ret)
     .skip))
   (.seq
    (.seq
     (.reg [⟨(some 11), .v (.mov (.t 0)), none⟩, ⟨(some 12), .v (.len (.t 11)), none⟩, ⟨(some 13), .v (.mov (.c (.int .i64 0))), none⟩])
     (.block 0
      (.loop
       (.seq
        (.reg [⟨(some 14), .v (.bin .lss (.t 13) (.t 12)), none⟩])
        (.seq
         (.cond (.t 14)
          .skip
          (.exit 0))
         (.seq
          (.block 1
           (.seq
            (.reg [⟨(some 15), .v (.mov (.t 13)), none⟩, ⟨(some 5), .v (.mov (.t 15)), none⟩])
            (.seq
             (.dreg (.fl ⟨(some 16), .v (.mov (.t 0)), none⟩ (.fl ⟨(some 17), .v (.mov (.t 5)), none⟩ (.fl ⟨(some 18), .v (.iaddr 1 (.t 16) (.t 17)), none⟩ (.fl ⟨(some 19), .v (.load false 1 (.t 18)), none⟩ (.fl ⟨(some 20), .v (.mov (.t 1)), none⟩ (.fl ⟨(some 21), .v (.mov (.t 5)), none⟩ (.fl ⟨(some 22), .v (.iaddr 1 (.t 20) (.t 21)), none⟩ (.fl ⟨(some 23), .v (.load false 1 (.t 22)), none⟩ (.fl ⟨(some 24), .v (.bin .neq (.t 19) (.t 23)), none⟩ .done))))))))))
             (.cond (.t 24)
              (.seq
               (.reg [⟨(some 4), .v (.mov (.c (.bool false))), none⟩])
               .ret)
              .skip))))
          (.reg [⟨(some 25), .v (.bin .add (.t 13) (.c (.int .i64 1))), none⟩, ⟨(some 13), .v (.mov (.t 25)), none⟩])))))))
    (.seq
     (.reg [⟨(some 4), .v (.mov (.c (.bool true))), none⟩])
     .ret))))⟩
theorem e57 : rFunc Tryz.prog Tryz.f57 = some r57 := by kernel_rfl
def r42 : RFunc := ⟨17, [.t 4],
 (.seq
  (.reg [⟨(some 2), .m (.box (.t 0)), none⟩, ⟨(some 3), .m (.box (.t 1)), none⟩, ⟨(some 4), .v (.mov (.c (.bool false))), none⟩])
  (.seq
   (.reg [⟨(some 5), .v (.faddr 0 (.t 2)), none⟩, ⟨(some 6), .v (.load false 1 (.t 5)), none⟩, ⟨(some 7), .v (.faddr 0 (.t 3)), none⟩, ⟨(some 8), .v (.load false 1 (.t 7)), none⟩, ⟨(some 9), .v (.bin .eql (.t 6) (.t 8)), none⟩, ⟨(some 10), .v (.mov (.t 9)), none⟩, ⟨(some 11), .v (.faddr 1 (.t 2)), (some (10, true))⟩, ⟨(some 12), .v (.load false 1 (.t 11)), (some (10, true))⟩, ⟨(some 13), .v (.faddr 1 (.t 3)), (some (10, true))⟩, ⟨(some 14), .v (.load false 1 (.t 13)), (some (10, true))⟩, ⟨(some 15), .call 57 [(.t 12), (.t 14)], (some (10, true))⟩, ⟨(some 16), .v (.pick (.t 10) (.t 15) (.c (.bool false))), none⟩, ⟨(some 4), .v (.mov (.t 16)), none⟩])
   .ret))⟩
theorem e42 : rFunc Tryz.prog Tryz.f42 = some r42 := by kernel_rfl
def r11 : RFunc := ⟨24, [.t 4],
 (.seq
  (.reg [⟨(some 2), .m (.box (.t 0)), none⟩, ⟨(some 3), .m (.box (.t 1)), none⟩, ⟨(some 4), .v (.mov (.c (.bool false))), none⟩])
  (.seq
   (.reg [⟨(some 5), .v (.faddr 0 (.t 2)), none⟩, ⟨(some 6), .v (.load true 2 (.t 5)), none⟩, ⟨(some 7), .v (.faddr 0 (.t 3)), none⟩, ⟨(some 8), .v (.load true 2 (.t 7)), none⟩, ⟨(some 9), .call 42 [(.t 6), (.t 8)], none⟩, ⟨(some 10), .v (.mov (.t 9)), none⟩, ⟨(some 11), .v (.faddr 2 (.t 2)), (some (10, true))⟩, ⟨(some 12), .v (.load true 2 (.t 11)), (some (10, true))⟩, ⟨(some 13), .v (.faddr 2 (.t 3)), (some (10, true))⟩, ⟨(some 14), .v (.load true 2 (.t 13)), (some (10, true))⟩, ⟨(some 15), .call 42 [(.t 12), (.t 14)], (some (10, true))⟩, ⟨(some 16), .v (.pick (.t 10) (.t 15) (.c (.bool false))), none⟩, ⟨(some 17), .v (.mov (.t 16)), none⟩, ⟨(some 18), .v (.faddr 4 (.t 2)), (some (17, true))⟩, ⟨(some 19), .v (.load false 1 (.t 18)), (some (17, true))⟩, ⟨(some 20), .v (.faddr 4 (.t 3)), (some (17, true))⟩, ⟨(some 21), .v (.load false 1 (.t 20)), (some (17, true))⟩, ⟨(some 22), .v (.bin .eql (.t 19) (.t 21)), (some (17, true))⟩, ⟨(some 23), .v (.pick (.t 17) (.t 22) (.c (.bool false))), none⟩, ⟨(some 4), .v (.mov (.t 23)), none⟩])
   .ret))⟩
theorem e11 : rFunc Tryz.prog Tryz.f11 = some r11 := by kernel_rfl
def r12 : RFunc := ⟨16, [.t 4, .t 5],
 (.seq
  (.reg [⟨(some 2), .m (.box (.t 0)), none⟩, ⟨(some 4), .v (.mov (.c (.bool false))), none⟩, ⟨(some 5), .v (.mov (.c (.bool false))), none⟩])
  (.seq
   (.reg [⟨(some 9), .call 43 [(.t 2)], none⟩, ⟨(some 8), .v (.mov (.t 9)), none⟩, ⟨(some 10), .v (.ext (.t 8) 0), none⟩, ⟨(some 11), .v (.ext (.t 8) 1), none⟩, ⟨(some 6), .v (.mov (.t 10)), none⟩, ⟨(some 7), .v (.mov (.t 11)), none⟩])
   (.seq
    (.reg [⟨(some 12), .v (.mov (.t 6)), none⟩, ⟨(some 13), .v (.mov (.t 1)), none⟩, ⟨(some 14), .call 44 [(.t 12), (.t 13)], none⟩, ⟨(some 15), .v (.mov (.t 7)), none⟩, ⟨(some 4), .v (.mov (.t 14)), none⟩, ⟨(some 5), .v (.mov (.t 15)), none⟩])
    .ret)))⟩
theorem e12 : rFunc Tryz.prog Tryz.f12 = some r12 := by kernel_rfl
def r14 : RFunc := ⟨22, [.t 4, .t 5],
 (.seq
  (.reg [⟨(some 2), .m (.box (.t 0)), none⟩, ⟨(some 4), .v (.mov (.c (.int .i64 0))), none⟩, ⟨(some 5), .v (.mov (.c (.bool false))), none⟩])
  (.seq
   (.reg [⟨(some 11), .call 43 [(.t 2)], none⟩, ⟨(some 10), .v (.mov (.t 11)), none⟩, ⟨(some 12), .v (.ext (.t 10) 0), none⟩, ⟨(some 13), .v (.ext (.t 10) 1), none⟩, ⟨(some 6), .v (.mov (.t 12)), none⟩, ⟨(some 7), .v (.mov (.t 13)), none⟩])
   (.seq
    (.reg [⟨(some 15), .v (.mov (.t 6)), none⟩, ⟨(some 16), .v (.mov (.t 1)), none⟩, ⟨(some 17), .call 46 [(.t 15), (.t 16)], none⟩, ⟨(some 14), .v (.mov (.t 17)), none⟩, ⟨(some 18), .v (.ext (.t 14) 0), none⟩, ⟨(some 19), .v (.ext (.t 14) 1), none⟩, ⟨(some 8), .v (.mov (.t 18)), none⟩, ⟨(some 9), .v (.mov (.t 19)), none⟩])
    (.seq
     (.reg [⟨(some 20), .v (.mov (.t 8)), none⟩, ⟨(some 21), .v (.mov (.t 7)), none⟩, ⟨(some 4), .v (.mov (.t 20)), none⟩, ⟨(some 5), .v (.mov (.t 21)), none⟩])
     .ret))))⟩
theorem e14 : rFunc Tryz.prog Tryz.f14 = some r14 := by kernel_rfl
def r47 : RFunc := ⟨24, [.t 4],
 (.seq
  (.reg [⟨(some 4), .v (.mov (.c .nils)), none⟩])
  (.seq
   (.reg [⟨(some 8), .m (.bsl 1 0 [(.str [])] []), none⟩, ⟨(some 5), .v (.mov (.t 8)), none⟩])
   (.seq
    (.seq
     (.reg [⟨(some 9), .v (.mov (.t 0)), none⟩, ⟨(some 10), .v (.len (.t 9)), none⟩, ⟨(some 11), .v (.mov (.c (.int .i64 0))), none⟩])
     (.block 0
      (.loop
       (.seq
        (.reg [⟨(some 12), .v (.bin .lss (.t 11) (.t 10)), none⟩])
        (.seq
         (.cond (.t 12)
          .skip
          (.exit 0))
         (.seq
          (.block 1
           (.seq
            (.reg [⟨(some 13), .v (.iaddr 1 (.t 9) (.t 11)), none⟩, ⟨(some 14), .v (.load false 1 (.t 13)), none⟩, ⟨(some 7), .v (.mov (.t 14)), none⟩])
            (.seq
             (.reg [⟨(some 15), .v (.mov (.t 7)), none⟩, ⟨(some 16), .v (.mov (.t 1)), none⟩, ⟨(some 17), .call 48 [(.t 15), (.t 16)], none⟩])
             (.cond (.t 17)
              (.reg [⟨(some 18), .v (.mov (.t 5)), none⟩, ⟨(some 19), .v (.mov (.t 7)), none⟩, ⟨(some 20), .m (.bsl 1 1 [(.str [])] [(0, 1, (.t 19))]), none⟩, ⟨(some 21), .m (.app false 1 16 (.t 18) (.t 20)), none⟩, ⟨(some 5), .v (.mov (.t 21)), none⟩])
              .skip))))
          (.reg [⟨(some 22), .v (.bin .add (.t 11) (.c (.int .i64 1))), none⟩, ⟨(some 11), .v (.mov (.t 22)), none⟩])))))))
    (.seq
     (.reg [⟨(some 23), .v (.mov (.t 5)), none⟩, ⟨(some 4), .v (.mov (.t 23)), none⟩])
     .ret))))⟩
theorem e47 : rFunc Tryz.prog Tryz.f47 = some r47 := by kernel_rfl
def r16 : RFunc := ⟨17, [.t 4, .t 5],
 (.seq
  (.reg [⟨(some 2), .m (.box (.t 0)), none⟩, ⟨(some 4), .v (.mov (.c .nils)), none⟩, ⟨(some 5), .v (.mov (.c (.bool false))), none⟩])
  (.seq
   (.reg [⟨(some 9), .call 43 [(.t 2)], none⟩, ⟨(some 8), .v (.mov (.t 9)), none⟩, ⟨(some 10), .v (.ext (.t 8) 0), none⟩, ⟨(some 11), .v (.ext (.t 8) 1), none⟩, ⟨(some 6), .v (.mov (.t 10)), none⟩, ⟨(some 7), .v (.mov (.t 11)), none⟩])
   (.seq
    (.seq
     (.reg [⟨(some 12), .v (.mov (.t 7)), none⟩, ⟨(some 13), .v (.un .not (.t 12)), none⟩])
     (.cond (.t 13)
      (.seq
       (.reg [⟨(some 4), .v (.mov (.c .nils)), none⟩, ⟨(some 5), .v (.mov (.c (.bool false))), none⟩])
       .ret)
      .skip))
    (.seq
     (.reg [⟨(some 14), .v (.mov (.t 6)), none⟩, ⟨(some 15), .v (.mov (.t 1)), none⟩, ⟨(some 16), .call 47 [(.t 14), (.t 15)], none⟩, ⟨(some 4), .v (.mov (.t 16)), none⟩, ⟨(some 5), .v (.mov (.c (.bool true))), none⟩])
     .ret))))⟩
theorem e16 : rFunc Tryz.prog Tryz.f16 = some r16 := by kernel_rfl
def r18 : RFunc := ⟨26, [.t 4],
 (.seq
  (.reg [⟨(some 4), .v (.mov (.c (.bool false))), none⟩])
  (.seq
   (.seq
    (.reg [⟨(some 6), .v (.mov (.t 0)), none⟩, ⟨(some 7), .v (.len (.t 6)), none⟩, ⟨(some 8), .v (.mov (.t 1)), none⟩, ⟨(some 9), .v (.len (.t 8)), none⟩, ⟨(some 10), .v (.bin .neq (.t 7) (.t 9)), none⟩])
    (.cond (.t 10)
     (.seq
      (.reg [⟨(some 4), .v (.mov (.c (.bool false))), none⟩])
      .ret)
     .skip))
   (.seq
    (.seq
     (.reg [⟨(some 11), .v (.mov (.t 0)), none⟩, ⟨(some 12), .v (.len (.t 11)), none⟩, ⟨(some 13), .v (.mov (.c (.int .i64 0))), none⟩])
     (.block 0
      (.loop
       (.seq
        (.reg [⟨(some 14), .v (.bin .lss (.t 13) (.t 12)), none⟩])
        (.seq
         (.cond (.t 14)
          .skip
          (.exit 0))
         (.seq
          (.block 1
           (.seq
            (.reg [⟨(some 15), .v (.mov (.t 13)), none⟩, ⟨(some 5), .v (.mov (.t 15)), none⟩])
            (.seq
             (.dreg (.fl ⟨(some 16), .v (.mov (.t 0)), none⟩ (.fl ⟨(some 17), .v (.mov (.t 5)), none⟩ (.fl ⟨(some 18), .v (.iaddr 1 (.t 16) (.t 17)), none⟩ (.fl ⟨(some 19), .v (.load false 1 (.t 18)), none⟩ (.fl ⟨(some 20), .v (.mov (.t 1)), none⟩ (.fl ⟨(some 21), .v (.mov (.t 5)), none⟩ (.fl ⟨(some 22), .v (.iaddr 1 (.t 20) (.t 21)), none⟩ (.fl ⟨(some 23), .v (.load false 1 (.t 22)), none⟩ (.fl ⟨(some 24), .v (.bin .neq (.t 19) (.t 23)), none⟩ .done))))))))))
             (.cond (.t 24)
              (.seq
               (.reg [⟨(some 4), .v (.mov (.c (.bool false))), none⟩])
               .ret)
              .skip))))
          (.reg [⟨(some 25), .v (.bin .add (.t 13) (.c (.int .i64 1))), none⟩, ⟨(some 13), .v (.mov (.t 25)), none⟩])))))))
    (.seq
     (.reg [⟨(some 4), .v (.mov (.c (.bool true))), none⟩])
     .ret))))⟩
theorem e18 : rFunc Tryz.prog Tryz.f18 = some r18 := by kernel_rfl
def r3 : RFunc := ⟨328, [.t 4],
 (.seq
  (.reg [⟨(some 4), .v (.mov (.c (.bool false))), none⟩])
  (.seq
   (.seq
    (.reg [⟨(some 35), .v (.mov (.t 0)), none⟩, ⟨(some 36), .v (.mov (.t 1)), none⟩, ⟨(some 37), .call 5 [(.t 35), (.t 36)], none⟩])
    (.cond (.t 37)
     (.seq
      (.reg [⟨(some 4), .v (.mov (.c (.bool true))), none⟩])
      .ret)
     .skip))
   (.seq
    (.reg [⟨(some 39), .v (.mov (.t 0)), none⟩, ⟨(some 40), .call 6 [(.t 39)], none⟩, ⟨(some 38), .v (.mov (.t 40)), none⟩, ⟨(some 41), .v (.ext (.t 38) 0), none⟩, ⟨(some 42), .v (.ext (.t 38) 1), none⟩, ⟨(some 5), .v (.mov (.t 41)), none⟩, ⟨(some 6), .v (.mov (.t 42)), none⟩])
    (.seq
     (.reg [⟨(some 44), .v (.mov (.t 1)), none⟩, ⟨(some 45), .call 7 [(.t 44)], none⟩, ⟨(some 43), .v (.mov (.t 45)), none⟩, ⟨(some 46), .v (.ext (.t 43) 0), none⟩, ⟨(some 47), .v (.ext (.t 43) 1), none⟩, ⟨(some 7), .m (.alloc [(.int .i64 0), .nils, (.int .i64 0), .nils, (.str [])]), none⟩, ⟨none, .m (.store 5 (.t 7) (.t 46)), none⟩, ⟨(some 8), .v (.mov (.t 47)), none⟩])
     (.seq
      (.seq
       (.reg [⟨(some 48), .v (.mov (.t 5)), none⟩, ⟨(some 49), .v (.len (.t 48)), none⟩, ⟨(some 50), .v (.bin .gtr (.t 49) (.c (.int .i64 0))), none⟩, ⟨(some 51), .v (.mov (.t 50)), none⟩, ⟨(some 52), .v (.mov (.t 1)), (some (51, true))⟩, ⟨(some 53), .v (.len (.t 52)), (some (51, true))⟩, ⟨(some 54), .v (.bin .rem (.t 53) (.c (.int .i64 3))), (some (51, true))⟩, ⟨(some 55), .v (.bin .gtr (.t 54) (.c (.int .i64 0))), (some (51, true))⟩, ⟨(some 56), .v (.pick (.t 51) (.t 55) (.c (.bool false))), none⟩])
       (.cond (.t 56)
        (.seq
         (.reg [⟨(some 57), .v (.mov (.t 5)), none⟩, ⟨(some 58), .v (.mov (.t 1)), none⟩, ⟨(some 59), .v (.len (.t 58)), none⟩, ⟨(some 60), .v (.mov (.t 5)), none⟩, ⟨(some 61), .v (.len (.t 60)), none⟩, ⟨(some 62), .v (.bin .rem (.t 59) (.t 61)), none⟩, ⟨(some 63), .v (.iaddr 1 (.t 57) (.t 62)), none⟩, ⟨(some 64), .v (.load false 1 (.t 63)), none⟩, ⟨(some 8), .v (.mov (.t 64)), none⟩])
         (.seq
          (.reg [⟨(some 65), .v (.mov (.t 8)), none⟩, ⟨(some 66), .v (.bin .neq (.t 65) (.c (.str []))), none⟩, ⟨(some 67), .v (.mov (.t 66)), none⟩, ⟨(some 68), .v (.mov (.t 1)), (some (67, true))⟩, ⟨(some 69), .v (.len (.t 68)), (some (67, true))⟩, ⟨(some 70), .v (.bin .rem (.t 69) (.c (.int .i64 2))), (some (67, true))⟩, ⟨(some 71), .v (.bin .eql (.t 70) (.c (.int .i64 1))), (some (67, true))⟩, ⟨(some 72), .v (.pick (.t 67) (.t 71) (.c (.bool false))), none⟩])
          (.cond (.t 72)
           (.reg [⟨(some 73), .v (.mov (.t 8)), none⟩, ⟨(some 74), .v (.sstr (.t 73) none (some (.c (.int .i64 1)))), none⟩, ⟨(some 8), .v (.mov (.t 74)), none⟩])
           .skip)))
        .skip))
      (.seq
       (.reg [⟨(some 76), .v (.mov (.t 5)), none⟩, ⟨(some 77), .call 8 [(.t 76)], none⟩, ⟨(some 75), .v (.mov (.t 77)), none⟩, ⟨(some 78), .v (.ext (.t 75) 0), none⟩, ⟨(some 79), .v (.ext (.t 75) 1), none⟩, ⟨(some 9), .m (.alloc [(.int .i64 0), .nils, (.int .i64 0), .nils, (.str [])]), none⟩, ⟨none, .m (.store 5 (.t 9) (.t 78)), none⟩, ⟨(some 10), .v (.mov (.t 79)), none⟩])
       (.seq
        (.reg [⟨(some 81), .v (.mov (.t 5)), none⟩, ⟨(some 82), .v (.mov (.t 6)), none⟩, ⟨(some 83), .call 9 [(.t 81), (.t 82)], none⟩, ⟨(some 80), .v (.mov (.t 83)), none⟩, ⟨(some 84), .v (.ext (.t 80) 0), none⟩, ⟨(some 85), .v (.ext (.t 80) 1), none⟩, ⟨(some 11), .m (.alloc [(.int .i64 0), .nils, .nils]), none⟩, ⟨none, .m (.store 3 (.t 11) (.t 84)), none⟩, ⟨(some 12), .v (.mov (.t 85)), none⟩])
        (.seq
         (.reg [⟨(some 87), .v (.mov (.t 5)), none⟩, ⟨(some 88), .call 10 [(.t 87)], none⟩, ⟨(some 86), .v (.mov (.t 88)), none⟩, ⟨(some 89), .v (.ext (.t 86) 0), none⟩, ⟨(some 90), .v (.ext (.t 86) 1), none⟩, ⟨(some 13), .m (.alloc [(.int .i64 0), .nils, (.int .i64 0), .nils, (.str [])]), none⟩, ⟨none, .m (.store 5 (.t 13) (.t 89)), none⟩, ⟨(some 14), .v (.mov (.t 90)), none⟩])
         (.seq
          (.seq
           (.reg [⟨(some 91), .v (.mov (.t 10)), none⟩, ⟨(some 92), .v (.mov (.t 14)), none⟩, ⟨(some 93), .v (.beq true (.t 91) (.t 92)), none⟩, ⟨(some 94), .v (.mov (.t 93)), none⟩, ⟨(some 95), .v (.load true 5 (.t 9)), (some (94, false))⟩, ⟨(some 96), .v (.load true 5 (.t 13)), (some (94, false))⟩, ⟨(some 97), .call 11 [(.t 95), (.t 96)], (some (94, false))⟩, ⟨(some 98), .v (.un .not (.t 97)), (some (94, false))⟩, ⟨(some 99), .v (.pick (.t 94) (.c (.bool true)) (.t 98)), none⟩])
           (.cond (.t 99)
            (.seq
             (.reg [⟨(some 4), .v (.mov (.c (.bool false))), none⟩])
             .ret)
            .skip))
          (.seq
           (.seq
            (.reg [⟨(some 100), .v (.mov (.t 10)), none⟩, ⟨(some 101), .v (.un .not (.t 100)), none⟩, ⟨(some 102), .v (.mov (.t 101)), none⟩, ⟨(some 103), .v (.mov (.t 12)), (some (102, false))⟩, ⟨(some 104), .v (.un .not (.t 103)), (some (102, false))⟩, ⟨(some 105), .v (.pick (.t 102) (.c (.bool true)) (.t 104)), none⟩])
            (.cond (.t 105)
             (.seq
              (.reg [⟨(some 4), .v (.mov (.c (.bool true))), none⟩])
              .ret)
             .skip))
           (.seq
            (.reg [⟨(some 107), .v (.load true 5 (.t 9)), none⟩, ⟨(some 108), .v (.mov (.t 8)), none⟩, ⟨(some 109), .call 12 [(.t 107), (.t 108)], none⟩, ⟨(some 106), .v (.mov (.t 109)), none⟩, ⟨(some 110), .v (.ext (.t 106) 0), none⟩, ⟨(some 111), .v (.ext (.t 106) 1), none⟩, ⟨(some 15), .v (.mov (.t 110)), none⟩, ⟨(some 16), .v (.mov (.t 111)), none⟩])
            (.seq
             (.reg [⟨(some 113), .v (.load true 3 (.t 11)), none⟩, ⟨(some 114), .v (.mov (.t 8)), none⟩, ⟨(some 115), .call 13 [(.t 113), (.t 114)], none⟩, ⟨(some 112), .v (.mov (.t 115)), none⟩, ⟨(some 116), .v (.ext (.t 112) 0), none⟩, ⟨(some 117), .v (.ext (.t 112) 1), none⟩, ⟨(some 17), .v (.mov (.t 116)), none⟩, ⟨(some 18), .v (.mov (.t 117)), none⟩])
             (.seq
              (.reg [⟨(some 119), .v (.load true 5 (.t 9)), none⟩, ⟨(some 120), .v (.mov (.t 8)), none⟩, ⟨(some 121), .call 14 [(.t 119), (.t 120)], none⟩, ⟨(some 118), .v (.mov (.t 121)), none⟩, ⟨(some 122), .v (.ext (.t 118) 0), none⟩, ⟨(some 123), .v (.ext (.t 118) 1), none⟩, ⟨(some 19), .v (.mov (.t 122)), none⟩, ⟨(some 20), .v (.mov (.t 123)), none⟩])
              (.seq
               (.reg [⟨(some 125), .v (.load true 3 (.t 11)), none⟩, ⟨(some 126), .v (.mov (.t 8)), none⟩, ⟨(some 127), .call 15 [(.t 125), (.t 126)], none⟩, ⟨(some 124), .v (.mov (.t 127)), none⟩, ⟨(some 128), .v (.ext (.t 124) 0), none⟩, ⟨(some 129), .v (.ext (.t 124) 1), none⟩, ⟨(some 21), .v (.mov (.t 128)), none⟩, ⟨(some 22), .v (.mov (.t 129)), none⟩])
               (.seq
                (.reg [⟨(some 131), .v (.load true 5 (.t 9)), none⟩, ⟨(some 132), .v (.mov (.t 8)), none⟩, ⟨(some 133), .call 16 [(.t 131), (.t 132)], none⟩, ⟨(some 130), .v (.mov (.t 133)), none⟩, ⟨(some 134), .v (.ext (.t 130) 0), none⟩, ⟨(some 135), .v (.ext (.t 130) 1), none⟩, ⟨(some 23), .v (.mov (.t 134)), none⟩, ⟨(some 24), .v (.mov (.t 135)), none⟩])
                (.seq
                 (.reg [⟨(some 137), .v (.load true 5 (.t 9)), none⟩, ⟨(some 138), .v (.mov (.t 8)), none⟩, ⟨(some 139), .call 17 [(.t 137), (.t 138)], none⟩, ⟨(some 136), .v (.mov (.t 139)), none⟩, ⟨(some 140), .v (.ext (.t 136) 0), none⟩, ⟨(some 141), .v (.ext (.t 136) 1), none⟩, ⟨(some 25), .v (.mov (.t 140)), none⟩, ⟨(some 26), .v (.mov (.t 141)), none⟩])
                 (.seq
                  (.seq
                   (.reg [⟨(some 142), .v (.mov (.t 16)), none⟩, ⟨(some 143), .v (.un .not (.t 142)), none⟩, ⟨(some 144), .v (.mov (.t 143)), none⟩, ⟨(some 145), .v (.mov (.t 18)), (some (144, false))⟩, ⟨(some 146), .v (.un .not (.t 145)), (some (144, false))⟩, ⟨(some 147), .v (.pick (.t 144) (.c (.bool true)) (.t 146)), none⟩, ⟨(some 148), .v (.mov (.t 147)), none⟩, ⟨(some 149), .v (.mov (.t 20)), (some (148, false))⟩, ⟨(some 150), .v (.un .not (.t 149)), (some (148, false))⟩, ⟨(some 151), .v (.pick (.t 148) (.c (.bool true)) (.t 150)), none⟩, ⟨(some 152), .v (.mov (.t 151)), none⟩, ⟨(some 153), .v (.mov (.t 22)), (some (152, false))⟩, ⟨(some 154), .v (.un .not (.t 153)), (some (152, false))⟩, ⟨(some 155), .v (.pick (.t 152) (.c (.bool true)) (.t 154)), none⟩, ⟨(some 156), .v (.mov (.t 155)), none⟩, ⟨(some 157), .v (.mov (.t 24)), (some (156, false))⟩, ⟨(some 158), .v (.un .not (.t 157)), (some (156, false))⟩, ⟨(some 159), .v (.pick (.t 156) (.c (.bool true)) (.t 158)), none⟩, ⟨(some 160), .v (.mov (.t 159)), none⟩, ⟨(some 161), .v (.mov (.t 15)), (some (160, false))⟩, ⟨(some 162), .v (.mov (.t 17)), (some (160, false))⟩, ⟨(some 163), .v (.beq true (.t 161) (.t 162)), (some (160, false))⟩, ⟨(some 164), .v (.pick (.t 160) (.c (.bool true)) (.t 163)), none⟩, ⟨(some 165), .v (.mov (.t 164)), none⟩, ⟨(some 166), .v (.mov (.t 19)), (some (165, false))⟩, ⟨(some 167), .v (.mov (.t 21)), (some (165, false))⟩, ⟨(some 168), .v (.bin .neq (.t 166) (.t 167)), (some (165, false))⟩, ⟨(some 169), .v (.pick (.t 165) (.c (.bool true)) (.t 168)), none⟩, ⟨(some 170), .v (.mov (.t 169)), none⟩, ⟨(some 171), .v (.mov (.t 19)), (some (170, false))⟩, ⟨(some 172), .v (.mov (.t 5)), (some (170, false))⟩, ⟨(some 173), .v (.len (.t 172)), (some (170, false))⟩, ⟨(some 174), .v (.bin .gtr (.t 171) (.t 173)), (some (170, false))⟩, ⟨(some 175), .v (.pick (.t 170) (.c (.bool true)) (.t 174)), none⟩, ⟨(some 176), .v (.mov (.t 175)), none⟩, ⟨(some 177), .v (.mov (.t 19)), (some (176, false))⟩, ⟨(some 178), .v (.mov (.t 23)), (some (176, false))⟩, ⟨(some 179), .v (.len (.t 178)), (some (176, false))⟩, ⟨(some 180), .v (.bin .add (.t 177) (.t 179)), (some (176, false))⟩, ⟨(some 181), .v (.mov (.t 5)), (some (176, false))⟩, ⟨(some 182), .v (.len (.t 181)), (some (176, false))⟩, ⟨(some 183), .v (.bin .gtr (.t 180) (.t 182)), (some (176, false))⟩, ⟨(some 184), .v (.pick (.t 176) (.c (.bool true)) (.t 183)), none⟩])
                   (.cond (.t 184)
                    (.seq
                     (.reg [⟨(some 4), .v (.mov (.c (.bool false))), none⟩])
                     .ret)
                    .skip))
                  (.seq
                   (.seq
                    (.reg [⟨(some 185), .v (.mov (.t 15)), none⟩, ⟨(some 186), .v (.mov (.t 19)), none⟩, ⟨(some 187), .v (.mov (.t 5)), none⟩, ⟨(some 188), .v (.len (.t 187)), none⟩, ⟨(some 189), .v (.bin .lss (.t 186) (.t 188)), none⟩, ⟨(some 190), .v (.mov (.t 189)), none⟩, ⟨(some 191), .v (.mov (.t 5)), (some (190, true))⟩, ⟨(some 192), .v (.mov (.t 19)), (some (190, true))⟩, ⟨(some 193), .v (.iaddr 1 (.t 191) (.t 192)), (some (190, true))⟩, ⟨(some 194), .v (.load false 1 (.t 193)), (some (190, true))⟩, ⟨(some 195), .v (.mov (.t 8)), (some (190, true))⟩, ⟨(some 196), .v (.bin .eql (.t 194) (.t 195)), (some (190, true))⟩, ⟨(some 197), .v (.pick (.t 190) (.t 196) (.c (.bool false))), none⟩, ⟨(some 198), .v (.beq true (.t 185) (.t 197)), none⟩, ⟨(some 199), .v (.mov (.t 198)), none⟩, ⟨(some 200), .v (.mov (.t 15)), (some (199, false))⟩, ⟨(some 201), .v (.mov (.t 200)), (some (199, false))⟩, ⟨(some 202), .v (.mov (.t 26)), (some (201, true))⟩, ⟨(some 203), .v (.un .not (.t 202)), (some (201, true))⟩, ⟨(some 204), .v (.pick (.t 201) (.t 203) (.c (.bool false))), (some (199, false))⟩, ⟨(some 205), .v (.pick (.t 199) (.c (.bool true)) (.t 204)), none⟩, ⟨(some 206), .v (.mov (.t 205)), none⟩, ⟨(some 207), .v (.mov (.t 23)), (some (206, false))⟩, ⟨(some 208), .v (.mov (.t 5)), (some (206, false))⟩, ⟨(some 209), .v (.mov (.t 19)), (some (206, false))⟩, ⟨(some 210), .v (.mov (.t 19)), (some (206, false))⟩, ⟨(some 211), .v (.mov (.t 23)), (some (206, false))⟩, ⟨(some 212), .v (.len (.t 211)), (some (206, false))⟩, ⟨(some 213), .v (.bin .add (.t 210) (.t 212)), (some (206, false))⟩, ⟨(some 214), .v (.slc 1 (.t 208) (some (.t 209)) (some (.t 213))), (some (206, false))⟩, ⟨(some 215), .call 18 [(.t 207), (.t 214)], (some (206, false))⟩, ⟨(some 216), .v (.un .not (.t 215)), (some (206, false))⟩, ⟨(some 217), .v (.pick (.t 206) (.c (.bool true)) (.t 216)), none⟩])
                    (.cond (.t 217)
                     (.seq
                      (.reg [⟨(some 4), .v (.mov (.c (.bool false))), none⟩])
                      .ret)
                     .skip))
                   (.seq
                    (.seq
                     (.reg [⟨(some 218), .v (.mov (.t 5)), none⟩, ⟨(some 219), .v (.len (.t 218)), none⟩, ⟨(some 220), .v (.mov (.c (.int .i64 0))), none⟩])
                     (.block 0
                      (.loop
                       (.seq
                        (.reg [⟨(some 221), .v (.bin .lss (.t 220) (.t 219)), none⟩])
                        (.seq
                         (.cond (.t 221)
                          .skip
                          (.exit 0))
                         (.seq
                          (.block 1
                           (.seq
                            (.reg [⟨(some 222), .v (.mov (.t 220)), none⟩, ⟨(some 223), .v (.iaddr 1 (.t 218) (.t 220)), none⟩, ⟨(some 224), .v (.load false 1 (.t 223)), none⟩, ⟨(some 27), .v (.mov (.t 222)), none⟩, ⟨(some 28), .v (.mov (.t 224)), none⟩])
                            (.seq
                             (.seq
                              (.reg [⟨(some 225), .v (.mov (.t 27)), none⟩, ⟨(some 226), .v (.mov (.t 19)), none⟩, ⟨(some 227), .v (.bin .lss (.t 225) (.t 226)), none⟩, ⟨(some 228), .v (.mov (.t 28)), none⟩, ⟨(some 229), .v (.mov (.t 8)), none⟩, ⟨(some 230), .v (.bin .lss (.t 228) (.t 229)), none⟩, ⟨(some 231), .v (.beq true (.t 227) (.t 230)), none⟩])
                              (.cond (.t 231)
                               (.seq
                                (.reg [⟨(some 4), .v (.mov (.c (.bool false))), none⟩])
                                .ret)
                               .skip))
                             (.seq
                              (.reg [⟨(some 232), .v (.mov (.t 28)), none⟩, ⟨(some 233), .v (.lens (.t 232)), none⟩, ⟨(some 234), .v (.mov (.t 8)), none⟩, ⟨(some 235), .v (.lens (.t 234)), none⟩, ⟨(some 236), .v (.bin .geq (.t 233) (.t 235)), none⟩, ⟨(some 237), .v (.mov (.t 236)), none⟩, ⟨(some 238), .v (.mov (.t 28)), (some (237, true))⟩, ⟨(some 239), .v (.mov (.t 8)), (some (237, true))⟩, ⟨(some 240), .v (.lens (.t 239)), (some (237, true))⟩, ⟨(some 241), .v (.sstr (.t 238) none (some (.t 240))), (some (237, true))⟩, ⟨(some 242), .v (.mov (.t 8)), (some (237, true))⟩, ⟨(some 243), .v (.bin .eql (.t 241) (.t 242)), (some (237, true))⟩, ⟨(some 244), .v (.pick (.t 237) (.t 243) (.c (.bool false))), none⟩, ⟨(some 29), .v (.mov (.t 244)), none⟩])
                              (.seq
                               (.reg [⟨(some 245), .v (.mov (.t 28)), none⟩, ⟨(some 246), .v (.lens (.t 245)), none⟩, ⟨(some 247), .v (.mov (.t 8)), none⟩, ⟨(some 248), .v (.lens (.t 247)), none⟩, ⟨(some 249), .v (.bin .leq (.t 246) (.t 248)), none⟩, ⟨(some 250), .v (.mov (.t 249)), none⟩, ⟨(some 251), .v (.mov (.t 8)), (some (250, true))⟩, ⟨(some 252), .v (.mov (.t 28)), (some (250, true))⟩, ⟨(some 253), .v (.lens (.t 252)), (some (250, true))⟩, ⟨(some 254), .v (.sstr (.t 251) none (some (.t 253))), (some (250, true))⟩, ⟨(some 255), .v (.mov (.t 28)), (some (250, true))⟩, ⟨(some 256), .v (.bin .eql (.t 254) (.t 255)), (some (250, true))⟩, ⟨(some 257), .v (.pick (.t 250) (.t 256) (.c (.bool false))), none⟩, ⟨(some 30), .v (.mov (.t 257)), none⟩])
                               (.seq
                                (.seq
                                 (.reg [⟨(some 258), .v (.mov (.t 29)), none⟩, ⟨(some 259), .v (.mov (.t 27)), none⟩, ⟨(some 260), .v (.mov (.t 19)), none⟩, ⟨(some 261), .v (.bin .geq (.t 259) (.t 260)), none⟩, ⟨(some 262), .v (.mov (.t 261)), none⟩, ⟨(some 263), .v (.mov (.t 27)), (some (262, true))⟩, ⟨(some 264), .v (.mov (.t 19)), (some (262, true))⟩, ⟨(some 265), .v (.mov (.t 23)), (some (262, true))⟩, ⟨(some 266), .v (.len (.t 265)), (some (262, true))⟩, ⟨(some 267), .v (.bin .add (.t 264) (.t 266)), (some (262, true))⟩, ⟨(some 268), .v (.bin .lss (.t 263) (.t 267)), (some (262, true))⟩, ⟨(some 269), .v (.pick (.t 262) (.t 268) (.c (.bool false))), none⟩, ⟨(some 270), .v (.beq true (.t 258) (.t 269)), none⟩, ⟨(some 271), .v (.mov (.t 270)), none⟩, ⟨(some 272), .v (.mov (.t 30)), (some (271, false))⟩, ⟨(some 273), .v (.mov (.t 272)), (some (271, false))⟩, ⟨(some 274), .v (.mov (.t 26)), (some (273, true))⟩, ⟨(some 275), .v (.un .not (.t 274)), (some (273, true))⟩, ⟨(some 276), .v (.mov (.t 275)), (some (273, true))⟩, ⟨(some 277), .v (.mov (.t 25)), (some (276, false))⟩, ⟨(some 278), .v (.lens (.t 277)), (some (276, false))⟩, ⟨(some 279), .v (.mov (.t 28)), (some (276, false))⟩, ⟨(some 280), .v (.lens (.t 279)), (some (276, false))⟩, ⟨(some 281), .v (.bin .lss (.t 278) (.t 280)), (some (276, false))⟩, ⟨(some 282), .v (.pick (.t 276) (.c (.bool true)) (.t 281)), (some (273, true))⟩, ⟨(some 283), .v (.pick (.t 273) (.t 282) (.c (.bool false))), (some (271, false))⟩, ⟨(some 284), .v (.pick (.t 271) (.c (.bool true)) (.t 283)), none⟩])
                                 (.cond (.t 284)
                                  (.seq
                                   (.reg [⟨(some 4), .v (.mov (.c (.bool false))), none⟩])
                                   .ret)
                                  .skip))
                                (.seq
                                 (.reg [⟨(some 286), .v (.load true 3 (.t 11)), none⟩, ⟨(some 287), .v (.mov (.t 27)), none⟩, ⟨(some 288), .call 19 [(.t 286), (.t 287)], none⟩, ⟨(some 285), .v (.mov (.t 288)), none⟩, ⟨(some 289), .v (.ext (.t 285) 0), none⟩, ⟨(some 290), .v (.ext (.t 285) 1), none⟩, ⟨(some 31), .v (.mov (.t 289)), none⟩, ⟨(some 32), .v (.mov (.t 290)), none⟩])
                                 (.seq
                                  (.reg [⟨(some 291), .v (.mov (.t 32)), none⟩, ⟨(some 292), .v (.un .not (.t 291)), none⟩, ⟨(some 293), .v (.mov (.t 292)), none⟩, ⟨(some 294), .v (.mov (.t 31)), (some (293, false))⟩, ⟨(some 295), .v (.mov (.t 28)), (some (293, false))⟩, ⟨(some 296), .v (.bin .neq (.t 294) (.t 295)), (some (293, false))⟩, ⟨(some 297), .v (.pick (.t 293) (.c (.bool true)) (.t 296)), none⟩])
                                  (.cond (.t 297)
                                   (.seq
                                    (.reg [⟨(some 4), .v (.mov (.c (.bool false))), none⟩])
                                    .ret)
                                   .skip)))))))))
                          (.reg [⟨(some 298), .v (.bin .add (.t 220) (.c (.int .i64 1))), none⟩, ⟨(some 220), .v (.mov (.t 298)), none⟩])))))))
                    (.seq
                     (.reg [⟨(some 300), .v (.load true 5 (.t 9)), none⟩, ⟨(some 301), .v (.mov (.t 25)), none⟩, ⟨(some 302), .call 12 [(.t 300), (.t 301)], none⟩, ⟨(some 299), .v (.mov (.t 302)), none⟩, ⟨(some 303), .v (.ext (.t 299) 0), none⟩, ⟨(some 304), .v (.ext (.t 299) 1), none⟩, ⟨(some 33), .v (.mov (.t 303)), none⟩, ⟨(some 34), .v (.mov (.t 304)), none⟩])
                     (.seq
                      (.reg [⟨(some 305), .v (.mov (.t 34)), none⟩, ⟨(some 306), .v (.mov (.t 305)), none⟩, ⟨(some 307), .v (.mov (.t 26)), (some (306, true))⟩, ⟨(some 308), .v (.un .not (.t 307)), (some (306, true))⟩, ⟨(some 309), .v (.mov (.t 308)), (some (306, true))⟩, ⟨(some 310), .v (.mov (.t 33)), (some (309, false))⟩, ⟨(some 311), .v (.mov (.t 310)), (some (309, false))⟩, ⟨(some 312), .v (.mov (.t 25)), (some (311, true))⟩, ⟨(some 313), .v (.lens (.t 312)), (some (311, true))⟩, ⟨(some 314), .v (.mov (.t 8)), (some (311, true))⟩, ⟨(some 315), .v (.lens (.t 314)), (some (311, true))⟩, ⟨(some 316), .v (.bin .leq (.t 313) (.t 315)), (some (311, true))⟩, ⟨(some 317), .v (.pick (.t 311) (.t 316) (.c (.bool false))), (some (309, false))⟩, ⟨(some 318), .v (.mov (.t 317)), (some (309, false))⟩, ⟨(some 319), .v (.mov (.t 8)), (some (318, true))⟩, ⟨(some 320), .v (.mov (.t 25)), (some (318, true))⟩, ⟨(some 321), .v (.lens (.t 320)), (some (318, true))⟩, ⟨(some 322), .v (.sstr (.t 319) none (some (.t 321))), (some (318, true))⟩, ⟨(some 323), .v (.mov (.t 25)), (some (318, true))⟩, ⟨(some 324), .v (.bin .eql (.t 322) (.t 323)), (some (318, true))⟩, ⟨(some 325), .v (.pick (.t 318) (.t 324) (.c (.bool false))), (some (309, false))⟩, ⟨(some 326), .v (.pick (.t 309) (.c (.bool true)) (.t 325)), (some (306, true))⟩, ⟨(some 327), .v (.pick (.t 306) (.t 326) (.c (.bool false))), none⟩, ⟨(some 4), .v (.mov (.t 327)), none⟩])
                      .ret)))))))))))))))))))))⟩
theorem e3 : rFunc Tryz.prog Tryz.f3 = some r3 := by kernel_rfl
end Go.Proofs.YtdkgoaiodjokpaaGreat.M

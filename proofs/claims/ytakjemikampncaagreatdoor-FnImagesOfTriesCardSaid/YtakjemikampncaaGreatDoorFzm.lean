/-
  The resolved text of the functions, each tied to the program's own by the kernel.
-/
import Derived.Test.YtakjemikampncaaGreatDoorProg
import Derived.Test.YtakjemikampncaaGreatDoorFzl
namespace Go.Proofs.YtakjemikampncaaGreatDoor.M
open Go Go.RowKit
attribute [local instance] dqF
set_option maxRecDepth 100000

def r15 : RFunc := ⟨16, [.t 4],
 (.seq
  (.reg [⟨(some 4), .v (.mov (.c (.bool false))), none⟩])
  (.seq
   (.reg [⟨(some 5), .v (.mov (.t 0)), none⟩, ⟨(some 6), .v (.len (.t 5)), none⟩, ⟨(some 7), .v (.bin .gtr (.t 6) (.c (.int .i64 1048576))), none⟩, ⟨(some 8), .v (.mov (.t 7)), none⟩, ⟨(some 9), .v (.mov (.t 1)), (some (8, false))⟩, ⟨(some 10), .v (.len (.t 9)), (some (8, false))⟩, ⟨(some 11), .v (.mov (.t 0)), (some (8, false))⟩, ⟨(some 12), .v (.len (.t 11)), (some (8, false))⟩, ⟨(some 13), .v (.bin .sub (.c (.int .i64 1048576)) (.t 12)), (some (8, false))⟩, ⟨(some 14), .v (.bin .gtr (.t 10) (.t 13)), (some (8, false))⟩, ⟨(some 15), .v (.pick (.t 8) (.c (.bool true)) (.t 14)), none⟩, ⟨(some 4), .v (.mov (.t 15)), none⟩])
   .ret))⟩
theorem e15 : rFunc Tryz.prog Tryz.f15 = some r15 := by kernel_rfl
def r18 : RFunc := ⟨7, [.t 2, .t 3],
 (.seq
  (.reg [⟨(some 1), .m (.box (.t 0)), none⟩, ⟨(some 2), .v (.mov (.c .nils)), none⟩, ⟨(some 3), .v (.mov (.c (.bool false))), none⟩])
  (.seq
   (.reg [⟨(some 4), .call 33 [(.t 1)], none⟩, ⟨(some 5), .v (.ext (.t 4) 0), none⟩, ⟨(some 6), .v (.ext (.t 4) 1), none⟩, ⟨(some 2), .v (.mov (.t 5)), none⟩, ⟨(some 3), .v (.mov (.t 6)), none⟩])
   .ret))⟩
theorem e18 : rFunc Tryz.prog Tryz.f18 = some r18 := by kernel_rfl
def r71 : RFunc := ⟨26, [.t 4],
 (.seq
  (.reg [⟨(some 4), .v (.mov (.c (.bool false))), none⟩])
  (.seq
   (.seq
    (.reg [⟨(some 6), .v (.mov (.t 0)), none⟩, ⟨(some 7), .v (.len (.t 6)), none⟩, ⟨(some 8), .v (.mov (.t 1)), none⟩, ⟨(some 9), .v (.len (.t 8)), none⟩, ⟨(some 10), .v (.bin .neq (.t 7) (.t 9)), none⟩])
    (.cond (.t 10)
     (.seq
      (.reg [⟨(some 4), .v (.mov (.c (.bool false))), none⟩])
      .ret)
     .skip))
   (.seq
    (.seq
     (.reg [⟨(some 11), .v (.mov (.t 0)), none⟩, ⟨(some 12), .v (.len (.t 11)), none⟩, ⟨(some 13), .v (.mov (.c (.int .i64 0))), none⟩])
     (.block 0
      (.loop
       (.seq
        (.reg [⟨(some 14), .v (.bin .lss (.t 13) (.t 12)), none⟩])
        (.seq
         (.cond (.t 14)
          .skip
          (.exit 0))
         (.seq
          (.block 1
           (.seq
            (.reg [⟨(some 15), .v (.mov (.t 13)), none⟩, ⟨(some 5), .v (.mov (.t 15)), none⟩])
            (.seq
             (.dreg (.fl ⟨(some 16), .v (.mov (.t 0)), none⟩ (.fl ⟨(some 17), .v (.mov (.t 5)), none⟩ (.fl ⟨(some 18), .v (.iaddr 1 (.t 16) (.t 17)), none⟩ (.fl ⟨(some 19), .v (.load false 1 (.t 18)), none⟩ (.fl ⟨(some 20), .v (.mov (.t 1)), none⟩ (.fl ⟨(some 21), .v (.mov (.t 5)), none⟩ (.fl ⟨(some 22), .v (.iaddr 1 (.t 20) (.t 21)), none⟩ (.fl ⟨(some 23), .v (.load false 1 (.t 22)), none⟩ (.fl ⟨(some 24), .v (.bin .neq (.t 19) (.t 23)), none⟩ .done))))))))))
             (.cond (.t 24)
              (.seq
               (.reg [⟨(some 4), .v (.mov (.c (.bool false))), none⟩])
               .ret)
              .skip))))
          (.reg [⟨(some 25), .v (.bin .add (.t 13) (.c (.int .i64 1))), none⟩, ⟨(some 13), .v (.mov (.t 25)), none⟩])))))))
    (.seq
     (.reg [⟨(some 4), .v (.mov (.c (.bool true))), none⟩])
     .ret))))⟩
theorem e71 : rFunc Tryz.prog Tryz.f71 = some r71 := by kernel_rfl
def r38 : RFunc := ⟨17, [.t 4],
 (.seq
  (.reg [⟨(some 2), .m (.box (.t 0)), none⟩, ⟨(some 3), .m (.box (.t 1)), none⟩, ⟨(some 4), .v (.mov (.c (.bool false))), none⟩])
  (.seq
   (.reg [⟨(some 5), .v (.faddr 0 (.t 2)), none⟩, ⟨(some 6), .v (.load false 1 (.t 5)), none⟩, ⟨(some 7), .v (.faddr 0 (.t 3)), none⟩, ⟨(some 8), .v (.load false 1 (.t 7)), none⟩, ⟨(some 9), .v (.bin .eql (.t 6) (.t 8)), none⟩, ⟨(some 10), .v (.mov (.t 9)), none⟩, ⟨(some 11), .v (.faddr 1 (.t 2)), (some (10, true))⟩, ⟨(some 12), .v (.load false 1 (.t 11)), (some (10, true))⟩, ⟨(some 13), .v (.faddr 1 (.t 3)), (some (10, true))⟩, ⟨(some 14), .v (.load false 1 (.t 13)), (some (10, true))⟩, ⟨(some 15), .call 71 [(.t 12), (.t 14)], (some (10, true))⟩, ⟨(some 16), .v (.pick (.t 10) (.t 15) (.c (.bool false))), none⟩, ⟨(some 4), .v (.mov (.t 16)), none⟩])
   .ret))⟩
theorem e38 : rFunc Tryz.prog Tryz.f38 = some r38 := by kernel_rfl
def r19 : RFunc := ⟨24, [.t 4],
 (.seq
  (.reg [⟨(some 2), .m (.box (.t 0)), none⟩, ⟨(some 3), .m (.box (.t 1)), none⟩, ⟨(some 4), .v (.mov (.c (.bool false))), none⟩])
  (.seq
   (.reg [⟨(some 5), .v (.faddr 0 (.t 2)), none⟩, ⟨(some 6), .v (.load true 2 (.t 5)), none⟩, ⟨(some 7), .v (.faddr 0 (.t 3)), none⟩, ⟨(some 8), .v (.load true 2 (.t 7)), none⟩, ⟨(some 9), .call 38 [(.t 6), (.t 8)], none⟩, ⟨(some 10), .v (.mov (.t 9)), none⟩, ⟨(some 11), .v (.faddr 2 (.t 2)), (some (10, true))⟩, ⟨(some 12), .v (.load true 2 (.t 11)), (some (10, true))⟩, ⟨(some 13), .v (.faddr 2 (.t 3)), (some (10, true))⟩, ⟨(some 14), .v (.load true 2 (.t 13)), (some (10, true))⟩, ⟨(some 15), .call 38 [(.t 12), (.t 14)], (some (10, true))⟩, ⟨(some 16), .v (.pick (.t 10) (.t 15) (.c (.bool false))), none⟩, ⟨(some 17), .v (.mov (.t 16)), none⟩, ⟨(some 18), .v (.faddr 4 (.t 2)), (some (17, true))⟩, ⟨(some 19), .v (.load false 1 (.t 18)), (some (17, true))⟩, ⟨(some 20), .v (.faddr 4 (.t 3)), (some (17, true))⟩, ⟨(some 21), .v (.load false 1 (.t 20)), (some (17, true))⟩, ⟨(some 22), .v (.bin .eql (.t 19) (.t 21)), (some (17, true))⟩, ⟨(some 23), .v (.pick (.t 17) (.t 22) (.c (.bool false))), none⟩, ⟨(some 4), .v (.mov (.t 23)), none⟩])
   .ret))⟩
theorem e19 : rFunc Tryz.prog Tryz.f19 = some r19 := by kernel_rfl
def r5 : RFunc := ⟨89, [.t 4],
 (.seq
  (.reg [⟨(some 4), .v (.mov (.c (.bool false))), none⟩])
  (.seq
   (.seq
    (.reg [⟨(some 19), .v (.mov (.t 0)), none⟩, ⟨(some 20), .v (.mov (.t 1)), none⟩, ⟨(some 21), .call 15 [(.t 19), (.t 20)], none⟩])
    (.cond (.t 21)
     (.seq
      (.reg [⟨(some 4), .v (.mov (.c (.bool true))), none⟩])
      .ret)
     .skip))
   (.seq
    (.reg [⟨(some 22), .v (.mov (.t 0)), none⟩, ⟨(some 23), .call 16 [(.t 22)], none⟩, ⟨(some 5), .m (.alloc [(.int .i64 0), .nils, (.int .i64 0), .nils, (.str [])]), none⟩, ⟨none, .m (.store 5 (.t 5) (.t 23)), none⟩])
    (.seq
     (.reg [⟨(some 25), .v (.load true 5 (.t 5)), none⟩, ⟨(some 26), .call 14 [(.t 25)], none⟩, ⟨(some 24), .v (.mov (.t 26)), none⟩, ⟨(some 27), .v (.ext (.t 24) 0), none⟩, ⟨(some 28), .v (.ext (.t 24) 1), none⟩, ⟨(some 6), .v (.mov (.t 27)), none⟩, ⟨(some 7), .v (.mov (.t 28)), none⟩])
     (.seq
      (.reg [⟨(some 30), .v (.load true 5 (.t 5)), none⟩, ⟨(some 31), .call 12 [(.t 30)], none⟩, ⟨(some 29), .v (.mov (.t 31)), none⟩, ⟨(some 32), .v (.ext (.t 29) 0), none⟩, ⟨(some 33), .v (.ext (.t 29) 1), none⟩, ⟨(some 8), .v (.mov (.t 32)), none⟩, ⟨(some 9), .v (.mov (.t 33)), none⟩])
      (.seq
       (.seq
        (.reg [⟨(some 34), .v (.mov (.t 7)), none⟩, ⟨(some 35), .v (.mov (.t 9)), none⟩, ⟨(some 36), .v (.beq true (.t 34) (.t 35)), none⟩, ⟨(some 37), .v (.mov (.t 36)), none⟩, ⟨(some 38), .v (.mov (.t 6)), (some (37, false))⟩, ⟨(some 39), .v (.mov (.t 8)), (some (37, false))⟩, ⟨(some 40), .v (.bin .neq (.t 38) (.t 39)), (some (37, false))⟩, ⟨(some 41), .v (.pick (.t 37) (.c (.bool true)) (.t 40)), none⟩])
        (.cond (.t 41)
         (.seq
          (.reg [⟨(some 4), .v (.mov (.c (.bool false))), none⟩])
          .ret)
         .skip))
       (.seq
        (.seq
         (.reg [⟨(some 42), .v (.mov (.t 9)), none⟩, ⟨(some 43), .v (.un .not (.t 42)), none⟩])
         (.cond (.t 43)
          (.seq
           (.reg [⟨(some 4), .v (.mov (.c (.bool true))), none⟩])
           .ret)
          .skip))
        (.seq
         (.reg [⟨(some 45), .v (.mov (.t 6)), none⟩, ⟨(some 46), .call 7 [(.t 45)], none⟩, ⟨(some 44), .v (.mov (.t 46)), none⟩, ⟨(some 47), .v (.ext (.t 44) 0), none⟩, ⟨(some 48), .v (.ext (.t 44) 1), none⟩, ⟨(some 10), .m (.alloc [(.int .i64 0), .nils, (.int .i64 0), .nils, (.str [])]), none⟩, ⟨none, .m (.store 5 (.t 10) (.t 47)), none⟩, ⟨(some 11), .v (.mov (.t 48)), none⟩])
         (.seq
          (.reg [⟨(some 50), .v (.mov (.t 6)), none⟩, ⟨(some 51), .call 17 [(.t 50)], none⟩, ⟨(some 49), .v (.mov (.t 51)), none⟩, ⟨(some 52), .v (.ext (.t 49) 0), none⟩, ⟨(some 53), .v (.ext (.t 49) 1), none⟩, ⟨(some 12), .v (.mov (.t 52)), none⟩, ⟨(some 13), .v (.mov (.t 53)), none⟩])
          (.seq
           (.reg [⟨(some 55), .v (.load true 5 (.t 5)), none⟩, ⟨(some 56), .call 18 [(.t 55)], none⟩, ⟨(some 54), .v (.mov (.t 56)), none⟩, ⟨(some 57), .v (.ext (.t 54) 0), none⟩, ⟨(some 58), .v (.ext (.t 54) 1), none⟩, ⟨(some 14), .v (.mov (.t 57)), none⟩, ⟨(some 15), .v (.mov (.t 58)), none⟩])
           (.seq
            (.seq
             (.reg [⟨(some 59), .v (.mov (.t 11)), none⟩, ⟨(some 60), .v (.un .not (.t 59)), none⟩, ⟨(some 61), .v (.mov (.t 60)), none⟩, ⟨(some 62), .v (.mov (.t 13)), (some (61, false))⟩, ⟨(some 63), .v (.un .not (.t 62)), (some (61, false))⟩, ⟨(some 64), .v (.pick (.t 61) (.c (.bool true)) (.t 63)), none⟩, ⟨(some 65), .v (.mov (.t 64)), none⟩, ⟨(some 66), .v (.mov (.t 15)), (some (65, false))⟩, ⟨(some 67), .v (.un .not (.t 66)), (some (65, false))⟩, ⟨(some 68), .v (.pick (.t 65) (.c (.bool true)) (.t 67)), none⟩, ⟨(some 69), .v (.mov (.t 68)), none⟩, ⟨(some 70), .v (.load true 5 (.t 10)), (some (69, false))⟩, ⟨(some 71), .v (.load true 5 (.t 5)), (some (69, false))⟩, ⟨(some 72), .call 19 [(.t 70), (.t 71)], (some (69, false))⟩, ⟨(some 73), .v (.un .not (.t 72)), (some (69, false))⟩, ⟨(some 74), .v (.pick (.t 69) (.c (.bool true)) (.t 73)), none⟩])
             (.cond (.t 74)
              (.seq
               (.reg [⟨(some 4), .v (.mov (.c (.bool false))), none⟩])
               .ret)
              .skip))
            (.seq
             (.reg [⟨(some 16), .v (.mov (.c (.str [116, 114, 105, 101]))), none⟩])
             (.seq
              (.seq
               (.reg [⟨(some 75), .v (.mov (.t 14)), none⟩, ⟨(some 76), .v (.len (.t 75)), none⟩, ⟨(some 77), .v (.mov (.c (.int .i64 0))), none⟩])
               (.block 0
                (.loop
                 (.seq
                  (.reg [⟨(some 78), .v (.bin .lss (.t 77) (.t 76)), none⟩])
                  (.seq
                   (.cond (.t 78)
                    .skip
                    (.exit 0))
                   (.seq
                    (.block 1
                     (.seq
                      (.reg [⟨(some 79), .v (.iaddr 1 (.t 75) (.t 77)), none⟩, ⟨(some 80), .v (.load false 1 (.t 79)), none⟩, ⟨(some 18), .v (.mov (.t 80)), none⟩])
                      (.reg [⟨(some 81), .v (.mov (.t 16)), none⟩, ⟨(some 82), .v (.mov (.t 18)), none⟩, ⟨(some 83), .v (.bin .add (.c (.str [32])) (.t 82)), none⟩, ⟨(some 84), .v (.bin .add (.t 81) (.t 83)), none⟩, ⟨(some 16), .v (.mov (.t 84)), none⟩])))
                    (.reg [⟨(some 85), .v (.bin .add (.t 77) (.c (.int .i64 1))), none⟩, ⟨(some 77), .v (.mov (.t 85)), none⟩])))))))
              (.seq
               (.reg [⟨(some 86), .v (.mov (.t 12)), none⟩, ⟨(some 87), .v (.mov (.t 16)), none⟩, ⟨(some 88), .v (.bin .eql (.t 86) (.t 87)), none⟩, ⟨(some 4), .v (.mov (.t 88)), none⟩])
               .ret))))))))))))))⟩
theorem e5 : rFunc Tryz.prog Tryz.f5 = some r5 := by kernel_rfl
end Go.Proofs.YtakjemikampncaaGreatDoor.M

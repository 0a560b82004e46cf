/-
  The resolved text of the functions, each tied to the program's own by the kernel.
-/
import Derived.Test.YtbkcenkfecndjaaGreatDoorProg
import Derived.Test.YtbkcenkfecndjaaGreatDoorFks
namespace Go.Proofs.YtbkcenkfecndjaaGreatDoor.M
open Go Go.RowKit
set_option maxRecDepth 100000

def r31 : RFunc := ⟨18, [.t 2],
 (.seq
  (.reg [⟨(some 2), .v (.mov (.c (.int .i64 0))), none⟩])
  (.seq
   (.seq
    (.reg [⟨(some 3), .v (.mov (.t 0)), none⟩, ⟨(some 4), .call 35 [(.t 3), (.c (.int .i64 8))], none⟩])
    (.block 0
     (.seq
      (.reg [⟨(some 6), .v (.bin .eql (.t 4) (.c (.int .i64 0))), none⟩, ⟨(some 5), .v (.mov (.t 6)), none⟩])
      (.cond (.t 5)
       (.seq
        (.reg [⟨(some 7), .v (.mov (.t 0)), none⟩, ⟨(some 8), .m (.bsl 1 6 [(.int .i64 0)] [(0, 1, (.c (.int .i64 (-1)))), (1, 1, (.c (.int .i64 0))), (2, 1, (.c (.int .i64 1))), (3, 1, (.c (.int .i64 2))), (4, 1, (.c (.int .i64 100000))), (5, 1, (.c (.int .i64 100001)))]), none⟩, ⟨(some 9), .call 71 [(.t 7), (.t 8)], none⟩, ⟨(some 2), .v (.mov (.t 9)), none⟩])
        .ret)
       (.seq
        (.reg [⟨(some 11), .v (.bin .eql (.t 4) (.c (.int .i64 1))), none⟩, ⟨(some 10), .v (.mov (.t 11)), none⟩])
        (.cond (.t 10)
         (.seq
          (.reg [⟨(some 12), .v (.mov (.t 0)), none⟩, ⟨(some 13), .call 35 [(.t 12), (.c (.int .i64 100000))], none⟩, ⟨(some 14), .v (.bin .add (.c (.int .i64 1)) (.t 13)), none⟩, ⟨(some 2), .v (.mov (.t 14)), none⟩])
          .ret)
         .skip))))))
   (.seq
    (.reg [⟨(some 15), .v (.mov (.t 0)), none⟩, ⟨(some 16), .call 35 [(.t 15), (.c (.int .i64 150))], none⟩, ⟨(some 17), .v (.bin .add (.c (.int .i64 1)) (.t 16)), none⟩, ⟨(some 2), .v (.mov (.t 17)), none⟩])
    .ret)))⟩
theorem e31 : rFunc Tryz.prog Tryz.f31 = some r31 := by kernel_rfl
def r72 : RFunc := ⟨10, [.t 4],
 (.seq
  (.reg [⟨(some 4), .v (.mov (.c (.int .i64 0))), none⟩])
  (.seq
   (.seq
    (.reg [⟨(some 5), .v (.mov (.t 0)), none⟩, ⟨(some 6), .v (.mov (.t 1)), none⟩, ⟨(some 7), .v (.bin .gtr (.t 5) (.t 6)), none⟩])
    (.cond (.t 7)
     (.seq
      (.reg [⟨(some 8), .v (.mov (.t 0)), none⟩, ⟨(some 4), .v (.mov (.t 8)), none⟩])
      .ret)
     .skip))
   (.seq
    (.reg [⟨(some 9), .v (.mov (.t 1)), none⟩, ⟨(some 4), .v (.mov (.t 9)), none⟩])
    .ret)))⟩
theorem e72 : rFunc Tryz.prog Tryz.f72 = some r72 := by kernel_rfl
def r73 : RFunc := ⟨6, [.t 2],
 (.seq
  (.reg [⟨(some 2), .v (.mov (.c .nils)), none⟩])
  (.seq
   (.reg [⟨(some 3), .m (.bsl 1 0 [(.int .i64 0)] []), none⟩, ⟨(some 4), .v (.mov (.t 0)), none⟩, ⟨(some 5), .m (.app false 1 8 (.t 3) (.t 4)), none⟩, ⟨(some 2), .v (.mov (.t 5)), none⟩])
   .ret))⟩
theorem e73 : rFunc Tryz.prog Tryz.f73 = some r73 := by kernel_rfl
def r32 : RFunc := ⟨69, [.t 4],
 (.seq
  (.reg [⟨(some 4), .v (.mov (.c .nils)), none⟩])
  (.seq
   (.reg [⟨(some 5), .v (.mov (.c .nils)), none⟩])
   (.seq
    (.reg [⟨(some 9), .v (.mov (.t 0)), none⟩, ⟨(some 10), .call 35 [(.t 9), (.c (.int .i64 9))], none⟩, ⟨(some 6), .v (.mov (.t 10)), none⟩])
    (.seq
     (.seq
      (.reg [⟨(some 11), .v (.mov (.t 0)), none⟩, ⟨(some 12), .call 41 [(.t 11), (.c (.int .i64 24))], none⟩])
      (.cond (.t 12)
       (.reg [⟨(some 13), .v (.mov (.t 0)), none⟩, ⟨(some 14), .call 35 [(.t 13), (.c (.int .i64 2))], none⟩, ⟨(some 15), .v (.bin .add (.c (.int .i64 60)) (.t 14)), none⟩, ⟨(some 6), .v (.mov (.t 15)), none⟩])
       .skip))
     (.seq
      (.block 0
       (.loop
        (.seq
         (.seq
          (.reg [⟨(some 16), .v (.mov (.t 6)), none⟩, ⟨(some 17), .v (.bin .gtr (.t 16) (.c (.int .i64 0))), none⟩])
          (.cond (.t 17)
           .skip
           (.exit 0)))
         (.seq
          (.block 1
           (.seq
            (.reg [⟨(some 20), .v (.mov (.t 0)), none⟩, ⟨(some 21), .v (.mov (.t 1)), none⟩, ⟨(some 22), .call 72 [(.t 21), (.c (.int .i64 1))], none⟩, ⟨(some 23), .call 35 [(.t 20), (.t 22)], none⟩, ⟨(some 7), .v (.mov (.t 23)), none⟩])
            (.seq
             (.reg [⟨(some 8), .v (.mov (.c (.int .i64 0))), none⟩])
             (.seq
              (.block 2
               (.loop
                (.seq
                 (.seq
                  (.reg [⟨(some 24), .v (.mov (.t 8)), none⟩, ⟨(some 25), .v (.mov (.t 5)), none⟩, ⟨(some 26), .v (.len (.t 25)), none⟩, ⟨(some 27), .v (.bin .lss (.t 24) (.t 26)), none⟩, ⟨(some 28), .v (.mov (.t 27)), none⟩, ⟨(some 29), .v (.mov (.t 5)), (some (28, true))⟩, ⟨(some 30), .v (.mov (.t 8)), (some (28, true))⟩, ⟨(some 31), .v (.iaddr 1 (.t 29) (.t 30)), (some (28, true))⟩, ⟨(some 32), .v (.load false 1 (.t 31)), (some (28, true))⟩, ⟨(some 33), .v (.mov (.t 7)), (some (28, true))⟩, ⟨(some 34), .v (.bin .leq (.t 32) (.t 33)), (some (28, true))⟩, ⟨(some 35), .v (.pick (.t 28) (.t 34) (.c (.bool false))), none⟩])
                  (.cond (.t 35)
                   .skip
                   (.exit 2)))
                 (.block 3
                  (.reg [⟨(some 36), .v (.mov (.t 8)), none⟩, ⟨(some 37), .v (.bin .add (.t 36) (.c (.int .i64 1))), none⟩, ⟨(some 8), .v (.mov (.t 37)), none⟩])))))
              (.dreg (.fl ⟨(some 38), .v (.mov (.t 5)), none⟩ (.fl ⟨(some 39), .v (.mov (.t 8)), none⟩ (.fl ⟨(some 40), .v (.slc 1 (.t 38) none (some (.t 39))), none⟩ (.fl ⟨(some 42), .v (.mov (.t 7)), none⟩ (.fl ⟨(some 45), .v (.mov (.t 5)), none⟩ (.fl ⟨(some 46), .v (.mov (.t 8)), none⟩ (.fl ⟨(some 47), .v (.slc 1 (.t 45) (some (.t 46)) none), none⟩ (.both (.nx ⟨(some 41), .call 73 [(.t 40)], none⟩ (.nx ⟨(some 43), .m (.bsl 1 1 [(.int .i64 0)] [(0, 1, (.t 42))]), none⟩ (.nx ⟨(some 44), .m (.app false 1 8 (.t 41) (.t 43)), none⟩ (.nx ⟨(some 48), .m (.app false 1 8 (.t 44) (.t 47)), none⟩ (.fl ⟨(some 5), .v (.mov (.t 48)), none⟩ .done))))) (.nx ⟨(some 43), .m (.bsl 1 1 [(.int .i64 0)] [(0, 1, (.t 42))]), none⟩ (.nx ⟨(some 41), .call 73 [(.t 40)], none⟩ (.nx ⟨(some 44), .m (.app false 1 8 (.t 41) (.t 43)), none⟩ (.nx ⟨(some 48), .m (.app false 1 8 (.t 44) (.t 47)), none⟩ (.fl ⟨(some 5), .v (.mov (.t 48)), none⟩ .done))))))))))))))))))
          (.reg [⟨(some 18), .v (.mov (.t 6)), none⟩, ⟨(some 19), .v (.bin .sub (.t 18) (.c (.int .i64 1))), none⟩, ⟨(some 6), .v (.mov (.t 19)), none⟩])))))
      (.seq
       (.seq
        (.reg [⟨(some 49), .v (.mov (.t 0)), none⟩, ⟨(some 50), .call 41 [(.t 49), (.c (.int .i64 12))], none⟩, ⟨(some 51), .v (.mov (.t 50)), none⟩, ⟨(some 52), .v (.mov (.t 5)), (some (51, true))⟩, ⟨(some 53), .v (.len (.t 52)), (some (51, true))⟩, ⟨(some 54), .v (.bin .gtr (.t 53) (.c (.int .i64 0))), (some (51, true))⟩, ⟨(some 55), .v (.pick (.t 51) (.t 54) (.c (.bool false))), none⟩])
        (.cond (.t 55)
         (.reg [⟨(some 56), .v (.mov (.t 5)), none⟩, ⟨(some 57), .v (.mov (.t 0)), none⟩, ⟨(some 58), .v (.mov (.t 5)), none⟩, ⟨(some 59), .v (.len (.t 58)), none⟩, ⟨(some 60), .call 35 [(.t 57), (.t 59)], none⟩, ⟨(some 61), .v (.mov (.t 0)), none⟩, ⟨(some 62), .v (.mov (.t 1)), none⟩, ⟨(some 63), .v (.mov (.t 1)), none⟩, ⟨(some 64), .v (.bin .sub (.t 63) (.c (.int .i64 1))), none⟩, ⟨(some 65), .m (.bsl 1 4 [(.int .i64 0)] [(0, 1, (.c (.int .i64 (-1)))), (1, 1, (.c (.int .i64 0))), (2, 1, (.t 62)), (3, 1, (.t 64))]), none⟩, ⟨(some 66), .call 71 [(.t 61), (.t 65)], none⟩, ⟨(some 67), .v (.iaddr 1 (.t 56) (.t 60)), none⟩, ⟨none, .m (.store 1 (.t 67) (.t 66)), none⟩])
         .skip))
       (.seq
        (.reg [⟨(some 68), .v (.mov (.t 5)), none⟩, ⟨(some 4), .v (.mov (.t 68)), none⟩])
        .ret)))))))⟩
theorem e32 : rFunc Tryz.prog Tryz.f32 = some r32 := by kernel_rfl
end Go.Proofs.YtbkcenkfecndjaaGreatDoor.M

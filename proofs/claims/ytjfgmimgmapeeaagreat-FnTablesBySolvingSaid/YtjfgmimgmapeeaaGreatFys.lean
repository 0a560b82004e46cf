/-
  The resolved text of the functions, each tied to the program's own by the kernel.
-/
import Derived.Test.YtjfgmimgmapeeaaGreatProg
import Derived.Test.YtjfgmimgmapeeaaGreatFyq
namespace Go.Proofs.YtjfgmimgmapeeaaGreat.M
open Go Go.RowKit
set_option maxRecDepth 100000

def r110 : RFunc := ⟨10, [.t 4],
 (.seq
  (.reg [⟨(some 4), .v (.mov (.c (.int .i64 0))), none⟩])
  (.seq
   (.seq
    (.reg [⟨(some 5), .v (.mov (.t 0)), none⟩, ⟨(some 6), .v (.mov (.t 1)), none⟩, ⟨(some 7), .v (.bin .lss (.t 5) (.t 6)), none⟩])
    (.cond (.t 7)
     (.seq
      (.reg [⟨(some 8), .v (.mov (.t 0)), none⟩, ⟨(some 4), .v (.mov (.t 8)), none⟩])
      .ret)
     .skip))
   (.seq
    (.reg [⟨(some 9), .v (.mov (.t 1)), none⟩, ⟨(some 4), .v (.mov (.t 9)), none⟩])
    .ret)))⟩
theorem e110 : rFunc Tryz.prog Tryz.f110 = some r110 := by kernel_rfl
def r138 : RFunc := ⟨17, [.t 4],
 (.seq
  (.reg [⟨(some 4), .v (.mov (.c (.int .i64 0))), none⟩])
  (.seq
   (.seq
    (.reg [⟨(some 5), .v (.mov (.t 0)), none⟩, ⟨(some 6), .call 70 [(.t 5), (.c (.int .i64 10))], none⟩])
    (.cond (.t 6)
     (.seq
      (.reg [⟨(some 7), .v (.mov (.t 0)), none⟩, ⟨(some 8), .m (.bsl 1 4 [(.int .i64 0)] [(0, 1, (.c (.int .i64 (-1)))), (1, 1, (.c (.int .i64 0))), (2, 1, (.c (.int .i64 24))), (3, 1, (.c (.int .i64 25)))]), none⟩, ⟨(some 9), .call 78 [(.t 7), (.t 8)], none⟩, ⟨(some 4), .v (.mov (.t 9)), none⟩])
      .ret)
     .skip))
   (.seq
    (.reg [⟨(some 10), .v (.mov (.t 1)), none⟩, ⟨(some 11), .v (.bin .quo (.t 10) (.c (.int .i64 3))), none⟩, ⟨(some 12), .v (.mov (.t 0)), none⟩, ⟨(some 13), .call 71 [(.t 12), (.c (.int .i64 4))], none⟩, ⟨(some 14), .v (.bin .add (.t 11) (.t 13)), none⟩, ⟨(some 15), .call 110 [(.t 14), (.c (.int .i64 23))], none⟩, ⟨(some 16), .v (.bin .add (.c (.int .i64 1)) (.t 15)), none⟩, ⟨(some 4), .v (.mov (.t 16)), none⟩])
    .ret)))⟩
theorem e138 : rFunc Tryz.prog Tryz.f138 = some r138 := by kernel_rfl
def r137 : RFunc := ⟨9, [.t 4],
 (.seq
  (.reg [⟨(some 4), .v (.mov (.c (.int .i64 0))), none⟩])
  (.seq
   (.reg [⟨(some 5), .v (.mov (.t 0)), none⟩, ⟨(some 6), .v (.mov (.t 1)), none⟩, ⟨(some 7), .call 110 [(.t 5), (.t 6)], none⟩, ⟨(some 8), .call 136 [(.c (.int .i64 0)), (.t 7)], none⟩, ⟨(some 4), .v (.mov (.t 8)), none⟩])
   .ret))⟩
theorem e137 : rFunc Tryz.prog Tryz.f137 = some r137 := by kernel_rfl
def r79 : RFunc := ⟨70, [.t 2, .t 3, .t 4, .t 5, .t 6],
 (.seq
  (.reg [⟨(some 2), .v (.mov (.c (.int .i64 0))), none⟩, ⟨(some 3), .v (.mov (.c .nils)), none⟩, ⟨(some 4), .v (.mov (.c .nils)), none⟩, ⟨(some 5), .v (.mov (.c (.int .i64 0))), none⟩, ⟨(some 6), .v (.mov (.c (.int .i64 0))), none⟩])
  (.seq
   (.reg [⟨(some 11), .v (.mov (.t 0)), none⟩, ⟨(some 12), .call 130 [(.t 11)], none⟩, ⟨(some 7), .v (.mov (.t 12)), none⟩])
   (.seq
    (.reg [⟨(some 13), .v (.mov (.t 0)), none⟩, ⟨(some 14), .v (.mov (.t 0)), none⟩, ⟨(some 15), .m (.bsl 1 4 [(.int .i64 0)] [(0, 1, (.c (.int .i64 3))), (1, 1, (.c (.int .i64 6))), (2, 1, (.c (.int .i64 10))), (3, 1, (.c (.int .i64 16)))]), none⟩, ⟨(some 16), .call 78 [(.t 14), (.t 15)], none⟩, ⟨(some 17), .call 76 [(.t 13), (.t 16)], none⟩, ⟨(some 8), .v (.mov (.t 17)), none⟩])
    (.seq
     (.reg [⟨(some 18), .v (.mov (.t 0)), none⟩, ⟨(some 19), .m (.bsl 1 6 [(.int .i64 0)] [(0, 1, (.c (.int .i64 1))), (1, 1, (.c (.int .i64 1))), (2, 1, (.c (.int .i64 2))), (3, 1, (.c (.int .i64 3))), (4, 1, (.c (.int .i64 4))), (5, 1, (.c (.int .i64 8)))]), none⟩, ⟨(some 20), .call 78 [(.t 18), (.t 19)], none⟩, ⟨(some 9), .v (.mov (.t 20)), none⟩])
     (.seq
      (.seq
       (.reg [⟨(some 21), .v (.mov (.t 0)), none⟩, ⟨(some 22), .call 70 [(.t 21), (.c (.int .i64 14))], none⟩])
       (.cond (.t 22)
        (.reg [⟨(some 23), .v (.mov (.t 0)), none⟩, ⟨(some 24), .m (.bsl 1 4 [(.int .i64 0)] [(0, 1, (.c (.int .i64 0))), (1, 1, (.c (.int .i64 (-1)))), (2, 1, (.c (.int .i64 9))), (3, 1, (.c (.int .i64 62)))]), none⟩, ⟨(some 25), .call 78 [(.t 23), (.t 24)], none⟩, ⟨(some 9), .v (.mov (.t 25)), none⟩])
        .skip))
      (.seq
       (.reg [⟨(some 10), .v (.mov (.c .nils)), none⟩])
       (.seq
        (.seq
         (.reg [⟨(some 26), .v (.mov (.t 8)), none⟩, ⟨(some 27), .v (.len (.t 26)), none⟩, ⟨(some 28), .v (.mov (.c (.int .i64 0))), none⟩])
         (.block 0
          (.loop
           (.seq
            (.reg [⟨(some 29), .v (.bin .lss (.t 28) (.t 27)), none⟩])
            (.seq
             (.cond (.t 29)
              .skip
              (.exit 0))
             (.seq
              (.block 1
               (.reg [⟨(some 30), .v (.mov (.t 10)), none⟩, ⟨(some 31), .v (.mov (.t 0)), none⟩, ⟨(some 32), .v (.mov (.t 9)), none⟩, ⟨(some 33), .call 137 [(.t 32), (.c (.int .i64 8))], none⟩, ⟨(some 34), .call 58 [(.t 33)], none⟩, ⟨(some 35), .call 71 [(.t 31), (.t 34)], none⟩, ⟨(some 36), .m (.bsl 1 1 [(.int .i64 0)] [(0, 1, (.t 35))]), none⟩, ⟨(some 37), .m (.app false 1 8 (.t 30) (.t 36)), none⟩, ⟨(some 10), .v (.mov (.t 37)), none⟩]))
              (.reg [⟨(some 38), .v (.bin .add (.t 28) (.c (.int .i64 1))), none⟩, ⟨(some 28), .v (.mov (.t 38)), none⟩])))))))
        (.seq
         (.seq
          (.reg [⟨(some 39), .v (.mov (.t 0)), none⟩, ⟨(some 40), .call 70 [(.t 39), (.c (.int .i64 14))], none⟩])
          (.cond (.t 40)
           (.reg [⟨(some 41), .v (.mov (.t 10)), none⟩, ⟨(some 42), .v (.mov (.t 0)), none⟩, ⟨(some 43), .m (.bsl 1 3 [(.int .i64 0)] [(0, 1, (.c (.int .i64 0))), (1, 1, (.c (.int .i64 (-1)))), (2, 1, (.c (.int .i64 300)))]), none⟩, ⟨(some 44), .call 78 [(.t 42), (.t 43)], none⟩, ⟨(some 45), .m (.bsl 1 1 [(.int .i64 0)] [(0, 1, (.t 44))]), none⟩, ⟨(some 46), .m (.app false 1 8 (.t 41) (.t 45)), none⟩, ⟨(some 10), .v (.mov (.t 46)), none⟩])
           .skip))
         (.seq
          (.seq
           (.reg [⟨(some 47), .v (.mov (.t 0)), none⟩, ⟨(some 48), .call 70 [(.t 47), (.c (.int .i64 14))], none⟩, ⟨(some 49), .v (.mov (.t 48)), none⟩, ⟨(some 50), .v (.mov (.t 10)), (some (49, true))⟩, ⟨(some 51), .v (.len (.t 50)), (some (49, true))⟩, ⟨(some 52), .v (.bin .gtr (.t 51) (.c (.int .i64 0))), (some (49, true))⟩, ⟨(some 53), .v (.pick (.t 49) (.t 52) (.c (.bool false))), none⟩])
           (.cond (.t 53)
            (.reg [⟨(some 54), .v (.mov (.t 10)), none⟩, ⟨(some 55), .v (.mov (.t 0)), none⟩, ⟨(some 56), .v (.mov (.t 9)), none⟩, ⟨(some 57), .call 137 [(.t 56), (.c (.int .i64 8))], none⟩, ⟨(some 58), .call 58 [(.t 57)], none⟩, ⟨(some 59), .m (.bsl 1 3 [(.int .i64 0)] [(0, 1, (.c (.int .i64 (-1)))), (1, 1, (.t 58)), (2, 1, (.c (.int .i64 1099511627776)))]), none⟩, ⟨(some 60), .call 78 [(.t 55), (.t 59)], none⟩, ⟨(some 61), .v (.iaddr 1 (.t 54) (.c (.int .i64 0))), none⟩, ⟨none, .m (.store 1 (.t 61) (.t 60)), none⟩])
            .skip))
          (.seq
           (.reg [⟨(some 62), .v (.mov (.t 7)), none⟩, ⟨(some 63), .v (.mov (.t 8)), none⟩, ⟨(some 64), .v (.mov (.t 10)), none⟩, ⟨(some 65), .v (.mov (.t 0)), none⟩, ⟨(some 66), .v (.mov (.t 8)), none⟩, ⟨(some 67), .v (.len (.t 66)), none⟩, ⟨(some 68), .call 138 [(.t 65), (.t 67)], none⟩, ⟨(some 69), .v (.mov (.t 9)), none⟩, ⟨(some 2), .v (.mov (.t 62)), none⟩, ⟨(some 3), .v (.mov (.t 63)), none⟩, ⟨(some 4), .v (.mov (.t 64)), none⟩, ⟨(some 5), .v (.mov (.t 68)), none⟩, ⟨(some 6), .v (.mov (.t 69)), none⟩])
           .ret))))))))))⟩
theorem e79 : rFunc Tryz.prog Tryz.f79 = some r79 := by kernel_rfl
def r35 : RFunc := ⟨38, [.t 2, .t 3, .t 4, .t 5, .t 6],
 (.seq
  (.reg [⟨(some 2), .v (.mov (.c (.int .i64 0))), none⟩, ⟨(some 3), .v (.mov (.c .nils)), none⟩, ⟨(some 4), .v (.mov (.c .nils)), none⟩, ⟨(some 5), .v (.mov (.c (.int .i64 0))), none⟩, ⟨(some 6), .v (.mov (.c (.int .i64 0))), none⟩])
  (.seq
   (.reg [⟨(some 13), .v (.mov (.t 0)), none⟩, ⟨(some 14), .v (.bld [.nils, (.int .i64 0), (.int .u64 0)] [(0, 1, (.t 13))]), none⟩, ⟨(some 15), .m (.box (.t 14)), none⟩, ⟨(some 7), .v (.mov (.t 15)), none⟩])
   (.seq
    (.reg [⟨(some 17), .v (.mov (.t 7)), none⟩, ⟨(some 18), .call 79 [(.t 17)], none⟩, ⟨(some 16), .v (.mov (.t 18)), none⟩, ⟨(some 19), .v (.ext (.t 16) 0), none⟩, ⟨(some 20), .v (.ext (.t 16) 1), none⟩, ⟨(some 21), .v (.ext (.t 16) 2), none⟩, ⟨(some 22), .v (.ext (.t 16) 3), none⟩, ⟨(some 23), .v (.ext (.t 16) 4), none⟩, ⟨(some 8), .v (.mov (.t 19)), none⟩, ⟨(some 9), .v (.mov (.t 20)), none⟩, ⟨(some 10), .v (.mov (.t 21)), none⟩, ⟨(some 11), .v (.mov (.t 22)), none⟩, ⟨(some 12), .v (.mov (.t 23)), none⟩])
    (.seq
     (.seq
      (.reg [⟨(some 24), .v (.mov (.t 11)), none⟩, ⟨(some 25), .v (.bin .gtr (.t 24) (.c (.int .i64 2))), none⟩, ⟨(some 26), .v (.mov (.t 25)), none⟩, ⟨(some 27), .v (.mov (.t 7)), (some (26, true))⟩, ⟨(some 28), .call 70 [(.t 27), (.c (.int .i64 2))], (some (26, true))⟩, ⟨(some 29), .v (.pick (.t 26) (.t 28) (.c (.bool false))), none⟩])
      (.cond (.t 29)
       (.reg [⟨(some 30), .v (.mov (.t 7)), none⟩, ⟨(some 31), .call 71 [(.t 30), (.c (.int .i64 2))], none⟩, ⟨(some 32), .v (.bin .add (.c (.int .i64 1)) (.t 31)), none⟩, ⟨(some 11), .v (.mov (.t 32)), none⟩])
       .skip))
     (.seq
      (.reg [⟨(some 33), .v (.mov (.t 8)), none⟩, ⟨(some 34), .v (.mov (.t 9)), none⟩, ⟨(some 35), .v (.mov (.t 10)), none⟩, ⟨(some 36), .v (.mov (.t 11)), none⟩, ⟨(some 37), .v (.mov (.t 12)), none⟩, ⟨(some 2), .v (.mov (.t 33)), none⟩, ⟨(some 3), .v (.mov (.t 34)), none⟩, ⟨(some 4), .v (.mov (.t 35)), none⟩, ⟨(some 5), .v (.mov (.t 36)), none⟩, ⟨(some 6), .v (.mov (.t 37)), none⟩])
      .ret)))))⟩
theorem e35 : rFunc Tryz.prog Tryz.f35 = some r35 := by kernel_rfl
end Go.Proofs.YtjfgmimgmapeeaaGreat.M

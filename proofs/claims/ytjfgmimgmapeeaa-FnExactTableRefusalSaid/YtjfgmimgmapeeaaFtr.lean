/-
  The resolved text of the functions, each tied to the program's own by the kernel.
-/
import Derived.Test.YtjfgmimgmapeeaaProg
import Derived.Test.YtjfgmimgmapeeaaFd
namespace Go.Proofs.Ytjfgmimgmapeeaa.M
open Go Go.RowKit
set_option maxRecDepth 100000

def r8 : RFunc := ⟨44, [.t 10, .t 11, .t 12],
 (.seq
  (.reg [⟨(some 10), .v (.mov (.c (.int .i64 0))), none⟩, ⟨(some 11), .v (.mov (.c .nils)), none⟩, ⟨(some 12), .v (.mov (.c (.bool false))), none⟩])
  (.seq
   (.seq
    (.reg [⟨(some 17), .v (.mov (.t 0)), none⟩, ⟨(some 18), .v (.mov (.t 1)), none⟩, ⟨(some 19), .v (.mov (.t 2)), none⟩, ⟨(some 20), .v (.mov (.t 3)), none⟩, ⟨(some 21), .v (.mov (.t 4)), none⟩, ⟨(some 22), .call 38 [(.t 17), (.t 18), (.t 19), (.t 20), (.t 21)], none⟩, ⟨(some 23), .v (.un .not (.t 22)), none⟩])
    (.cond (.t 23)
     (.seq
      (.reg [⟨(some 10), .v (.mov (.c (.int .i64 0))), none⟩, ⟨(some 11), .v (.mov (.c .nils)), none⟩, ⟨(some 12), .v (.mov (.c (.bool false))), none⟩])
      .ret)
     .skip))
   (.seq
    (.reg [⟨(some 24), .v (.mov (.t 0)), none⟩, ⟨(some 25), .v (.mov (.t 1)), none⟩, ⟨(some 26), .v (.mov (.t 3)), none⟩, ⟨(some 27), .call 39 [(.t 24), (.t 25), (.t 26)], none⟩, ⟨(some 13), .m (.alloc [(.int .i64 0), .nils]), none⟩, ⟨none, .m (.store 2 (.t 13) (.t 27)), none⟩])
    (.seq
     (.seq
      (.reg [⟨(some 14), .v (.mov (.c (.int .i64 0))), none⟩])
      (.block 0
       (.loop
        (.seq
         (.seq
          (.reg [⟨(some 28), .v (.mov (.t 14)), none⟩, ⟨(some 29), .v (.mov (.t 4)), none⟩, ⟨(some 30), .v (.bin .lss (.t 28) (.t 29)), none⟩])
          (.cond (.t 30)
           .skip
           (.exit 0)))
         (.seq
          (.block 1
           (.seq
            (.reg [⟨(some 34), .v (.load true 2 (.t 13)), none⟩, ⟨(some 35), .v (.mov (.t 2)), none⟩, ⟨(some 36), .v (.mov (.t 14)), none⟩, ⟨(some 37), .call 41 [(.t 34), (.t 35), (.t 36)], none⟩, ⟨(some 38), .call 40 [(.t 37)], none⟩, ⟨(some 33), .v (.mov (.t 38)), none⟩, ⟨(some 39), .v (.ext (.t 33) 0), none⟩, ⟨(some 40), .v (.ext (.t 33) 1), none⟩, ⟨(some 15), .v (.mov (.t 39)), none⟩, ⟨(some 16), .v (.mov (.t 40)), none⟩])
            (.seq
             (.reg [⟨(some 41), .v (.mov (.t 16)), none⟩])
             (.cond (.t 41)
              (.seq
               (.reg [⟨(some 42), .v (.mov (.t 14)), none⟩, ⟨(some 43), .v (.mov (.t 15)), none⟩, ⟨(some 10), .v (.mov (.t 42)), none⟩, ⟨(some 11), .v (.mov (.t 43)), none⟩, ⟨(some 12), .v (.mov (.c (.bool true))), none⟩])
               .ret)
              .skip))))
          (.reg [⟨(some 31), .v (.mov (.t 14)), none⟩, ⟨(some 32), .v (.bin .add (.t 31) (.c (.int .i64 1))), none⟩, ⟨(some 14), .v (.mov (.t 32)), none⟩]))))))
     (.seq
      (.reg [⟨(some 10), .v (.mov (.c (.int .i64 0))), none⟩, ⟨(some 11), .v (.mov (.c .nils)), none⟩, ⟨(some 12), .v (.mov (.c (.bool false))), none⟩])
      .ret)))))⟩
theorem e8 : rFunc Try.prog Try.f8 = some r8 := by kernel_rfl
def r11 : RFunc := ⟨46, [.t 10, .t 11, .t 12],
 (.seq
  (.reg [⟨(some 10), .v (.mov (.c (.int .i64 0))), none⟩, ⟨(some 11), .v (.mov (.c .nils)), none⟩, ⟨(some 12), .v (.mov (.c (.bool false))), none⟩])
  (.seq
   (.seq
    (.reg [⟨(some 17), .v (.mov (.t 0)), none⟩, ⟨(some 18), .v (.mov (.t 1)), none⟩, ⟨(some 19), .v (.mov (.t 2)), none⟩, ⟨(some 20), .v (.mov (.t 3)), none⟩, ⟨(some 21), .v (.mov (.t 4)), none⟩, ⟨(some 22), .call 42 [(.t 17), (.t 18), (.t 19), (.t 20), (.t 21)], none⟩, ⟨(some 23), .v (.un .not (.t 22)), none⟩])
    (.cond (.t 23)
     (.seq
      (.reg [⟨(some 10), .v (.mov (.c (.int .i64 0))), none⟩, ⟨(some 11), .v (.mov (.c .nils)), none⟩, ⟨(some 12), .v (.mov (.c (.bool false))), none⟩])
      .ret)
     .skip))
   (.seq
    (.reg [⟨(some 24), .v (.mov (.t 0)), none⟩, ⟨(some 25), .v (.mov (.t 1)), none⟩, ⟨(some 26), .v (.mov (.t 3)), none⟩, ⟨(some 27), .call 43 [(.t 24), (.t 25), (.t 26)], none⟩, ⟨(some 13), .m (.alloc [(.int .i64 0), .nils]), none⟩, ⟨none, .m (.store 2 (.t 13) (.t 27)), none⟩])
    (.seq
     (.seq
      (.reg [⟨(some 28), .v (.mov (.t 4)), none⟩, ⟨(some 29), .v (.mov (.c (.int .i64 0))), none⟩])
      (.block 0
       (.loop
        (.seq
         (.reg [⟨(some 30), .v (.bin .lss (.t 29) (.t 28)), none⟩])
         (.seq
          (.cond (.t 30)
           .skip
           (.exit 0))
          (.seq
           (.block 1
            (.seq
             (.reg [⟨(some 31), .v (.mov (.t 29)), none⟩, ⟨(some 14), .v (.mov (.t 31)), none⟩])
             (.seq
              (.reg [⟨(some 33), .v (.load true 2 (.t 13)), none⟩, ⟨(some 34), .v (.mov (.t 2)), none⟩, ⟨(some 35), .v (.mov (.t 14)), none⟩, ⟨(some 36), .call 45 [(.t 33), (.t 34), (.t 35)], none⟩, ⟨(some 37), .call 44 [(.t 36)], none⟩, ⟨(some 32), .v (.mov (.t 37)), none⟩, ⟨(some 38), .v (.ext (.t 32) 0), none⟩, ⟨(some 39), .v (.ext (.t 32) 1), none⟩, ⟨(some 15), .v (.mov (.t 38)), none⟩, ⟨(some 16), .v (.mov (.t 39)), none⟩])
              (.seq
               (.reg [⟨(some 40), .v (.mov (.t 16)), none⟩, ⟨(some 41), .v (.bin .neq (.t 40) (.c (.int .u64 0))), none⟩])
               (.cond (.t 41)
                (.seq
                 (.reg [⟨(some 42), .v (.mov (.t 14)), none⟩, ⟨(some 43), .v (.mov (.t 16)), none⟩, ⟨(some 44), .call 46 [(.t 43)], none⟩, ⟨(some 10), .v (.mov (.t 42)), none⟩, ⟨(some 11), .v (.mov (.t 44)), none⟩, ⟨(some 12), .v (.mov (.c (.bool true))), none⟩])
                 .ret)
                .skip)))))
           (.reg [⟨(some 45), .v (.bin .add (.t 29) (.c (.int .i64 1))), none⟩, ⟨(some 29), .v (.mov (.t 45)), none⟩])))))))
     (.seq
      (.reg [⟨(some 10), .v (.mov (.c (.int .i64 0))), none⟩, ⟨(some 11), .v (.mov (.c .nils)), none⟩, ⟨(some 12), .v (.mov (.c (.bool false))), none⟩])
      .ret)))))⟩
theorem e11 : rFunc Try.prog Try.f11 = some r11 := by kernel_rfl
def r3 : RFunc := ⟨153, [.t 10],
 (.seq
  (.reg [⟨(some 10), .v (.mov (.c (.bool false))), none⟩])
  (.seq
   (.seq
    (.reg [⟨(some 26), .v (.mov (.t 2)), none⟩, ⟨(some 27), .v (.len (.t 26)), none⟩, ⟨(some 28), .v (.bin .gtr (.t 27) (.c (.int .i64 1048576))), none⟩])
    (.cond (.t 28)
     (.seq
      (.reg [⟨(some 10), .v (.mov (.c (.bool true))), none⟩])
      .ret)
     .skip))
   (.seq
    (.reg [⟨(some 11), .v (.mov (.c (.int .i64 1048576))), none⟩])
    (.seq
     (.reg [⟨(some 29), .v (.mov (.t 1)), none⟩, ⟨(some 30), .v (.mov (.t 11)), none⟩, ⟨(some 31), .call 7 [(.t 29), (.t 30)], none⟩, ⟨(some 11), .v (.mov (.t 31)), none⟩])
     (.seq
      (.seq
       (.reg [⟨(some 32), .v (.mov (.t 11)), none⟩, ⟨(some 33), .v (.bin .lss (.t 32) (.c (.int .i64 0))), none⟩])
       (.cond (.t 33)
        (.seq
         (.reg [⟨(some 10), .v (.mov (.c (.bool true))), none⟩])
         .ret)
        .skip))
      (.seq
       (.reg [⟨(some 35), .v (.mov (.t 0)), none⟩, ⟨(some 36), .v (.mov (.t 1)), none⟩, ⟨(some 37), .call 9 [(.t 36)], none⟩, ⟨(some 38), .v (.mov (.t 2)), none⟩, ⟨(some 39), .call 10 [(.t 38)], none⟩, ⟨(some 40), .v (.mov (.t 3)), none⟩, ⟨(some 41), .v (.mov (.t 4)), none⟩, ⟨(some 42), .call 8 [(.t 35), (.t 37), (.t 39), (.t 40), (.t 41)], none⟩, ⟨(some 34), .v (.mov (.t 42)), none⟩, ⟨(some 43), .v (.ext (.t 34) 0), none⟩, ⟨(some 44), .v (.ext (.t 34) 1), none⟩, ⟨(some 45), .v (.ext (.t 34) 2), none⟩, ⟨(some 12), .v (.mov (.t 43)), none⟩, ⟨(some 13), .v (.mov (.t 44)), none⟩, ⟨(some 14), .v (.mov (.t 45)), none⟩])
       (.seq
        (.reg [⟨(some 46), .v (.mov (.t 1)), none⟩, ⟨(some 47), .call 9 [(.t 46)], none⟩, ⟨(some 15), .v (.mov (.t 47)), none⟩])
        (.seq
         (.reg [⟨(some 48), .v (.mov (.t 2)), none⟩, ⟨(some 49), .call 10 [(.t 48)], none⟩, ⟨(some 16), .v (.mov (.t 49)), none⟩])
         (.seq
          (.reg [⟨(some 51), .v (.mov (.t 0)), none⟩, ⟨(some 52), .v (.mov (.t 15)), none⟩, ⟨(some 53), .v (.mov (.t 16)), none⟩, ⟨(some 54), .v (.mov (.t 3)), none⟩, ⟨(some 55), .v (.mov (.t 4)), none⟩, ⟨(some 56), .call 11 [(.t 51), (.t 52), (.t 53), (.t 54), (.t 55)], none⟩, ⟨(some 50), .v (.mov (.t 56)), none⟩, ⟨(some 57), .v (.ext (.t 50) 0), none⟩, ⟨(some 58), .v (.ext (.t 50) 1), none⟩, ⟨(some 59), .v (.ext (.t 50) 2), none⟩, ⟨(some 17), .v (.mov (.t 57)), none⟩, ⟨(some 18), .v (.mov (.t 58)), none⟩, ⟨(some 19), .v (.mov (.t 59)), none⟩])
          (.seq
           (.seq
            (.reg [⟨(some 60), .v (.mov (.t 17)), none⟩, ⟨(some 61), .v (.mov (.t 12)), none⟩, ⟨(some 62), .v (.bin .neq (.t 60) (.t 61)), none⟩, ⟨(some 63), .v (.mov (.t 62)), none⟩, ⟨(some 64), .v (.mov (.t 18)), (some (63, false))⟩, ⟨(some 65), .v (.mov (.t 13)), (some (63, false))⟩, ⟨(some 66), .call 12 [(.t 64), (.t 65)], (some (63, false))⟩, ⟨(some 67), .v (.un .not (.t 66)), (some (63, false))⟩, ⟨(some 68), .v (.pick (.t 63) (.c (.bool true)) (.t 67)), none⟩, ⟨(some 69), .v (.mov (.t 68)), none⟩, ⟨(some 70), .v (.mov (.t 19)), (some (69, false))⟩, ⟨(some 71), .v (.mov (.t 14)), (some (69, false))⟩, ⟨(some 72), .v (.beq true (.t 70) (.t 71)), (some (69, false))⟩, ⟨(some 73), .v (.pick (.t 69) (.c (.bool true)) (.t 72)), none⟩])
            (.cond (.t 73)
             (.seq
              (.reg [⟨(some 10), .v (.mov (.c (.bool false))), none⟩])
              .ret)
             .skip))
           (.seq
            (.seq
             (.reg [⟨(some 74), .v (.mov (.t 15)), none⟩, ⟨(some 75), .v (.mov (.t 1)), none⟩, ⟨(some 76), .call 9 [(.t 75)], none⟩, ⟨(some 77), .call 13 [(.t 74), (.t 76)], none⟩, ⟨(some 78), .v (.un .not (.t 77)), none⟩])
             (.cond (.t 78)
              (.seq
               (.reg [⟨(some 10), .v (.mov (.c (.bool false))), none⟩])
               .ret)
              .skip))
            (.seq
             (.seq
              (.reg [⟨(some 79), .v (.mov (.t 16)), none⟩, ⟨(some 80), .v (.mov (.t 2)), none⟩, ⟨(some 81), .call 10 [(.t 80)], none⟩, ⟨(some 82), .call 12 [(.t 79), (.t 81)], none⟩, ⟨(some 83), .v (.un .not (.t 82)), none⟩])
              (.cond (.t 83)
               (.seq
                (.reg [⟨(some 10), .v (.mov (.c (.bool false))), none⟩])
                .ret)
               .skip))
             (.seq
              (.reg [⟨(some 20), .v (.mov (.c (.int .i64 1))), none⟩])
              (.seq
               (.reg [⟨(some 84), .v (.mov (.t 15)), none⟩, ⟨(some 85), .v (.mov (.t 20)), none⟩, ⟨(some 86), .call 14 [(.t 84), (.t 85)], none⟩, ⟨(some 20), .v (.mov (.t 86)), none⟩])
               (.seq
                (.reg [⟨(some 87), .v (.mov (.t 16)), none⟩, ⟨(some 88), .v (.mov (.t 20)), none⟩, ⟨(some 89), .call 15 [(.t 87), (.t 88)], none⟩, ⟨(some 20), .v (.mov (.t 89)), none⟩])
                (.seq
                 (.seq
                  (.reg [⟨(some 90), .v (.mov (.t 20)), none⟩, ⟨(some 91), .v (.bin .lss (.t 90) (.c (.int .i64 0))), none⟩, ⟨(some 92), .v (.mov (.t 91)), none⟩, ⟨(some 93), .v (.mov (.t 17)), (some (92, false))⟩, ⟨(some 94), .v (.mov (.t 12)), (some (92, false))⟩, ⟨(some 95), .v (.bin .neq (.t 93) (.t 94)), (some (92, false))⟩, ⟨(some 96), .v (.pick (.t 92) (.c (.bool true)) (.t 95)), none⟩, ⟨(some 97), .v (.mov (.t 96)), none⟩, ⟨(some 98), .v (.mov (.t 18)), (some (97, false))⟩, ⟨(some 99), .v (.mov (.t 13)), (some (97, false))⟩, ⟨(some 100), .call 12 [(.t 98), (.t 99)], (some (97, false))⟩, ⟨(some 101), .v (.un .not (.t 100)), (some (97, false))⟩, ⟨(some 102), .v (.pick (.t 97) (.c (.bool true)) (.t 101)), none⟩, ⟨(some 103), .v (.mov (.t 102)), none⟩, ⟨(some 104), .v (.mov (.t 19)), (some (103, false))⟩, ⟨(some 105), .v (.mov (.t 14)), (some (103, false))⟩, ⟨(some 106), .v (.beq true (.t 104) (.t 105)), (some (103, false))⟩, ⟨(some 107), .v (.pick (.t 103) (.c (.bool true)) (.t 106)), none⟩])
                  (.cond (.t 107)
                   (.seq
                    (.reg [⟨(some 10), .v (.mov (.c (.bool false))), none⟩])
                    .ret)
                   .skip))
                 (.seq
                  (.reg [⟨(some 21), .v (.mov (.c (.int .i64 1))), none⟩])
                  (.seq
                   (.reg [⟨(some 108), .v (.mov (.t 18)), none⟩, ⟨(some 109), .v (.mov (.t 21)), none⟩, ⟨(some 110), .call 15 [(.t 108), (.t 109)], none⟩, ⟨(some 21), .v (.mov (.t 110)), none⟩])
                   (.seq
                    (.reg [⟨(some 22), .v (.mov (.c (.int .i64 1))), none⟩])
                    (.seq
                     (.reg [⟨(some 111), .v (.mov (.t 18)), none⟩, ⟨(some 112), .v (.mov (.t 22)), none⟩, ⟨(some 113), .call 16 [(.t 111), (.t 112)], none⟩, ⟨(some 22), .v (.mov (.t 113)), none⟩])
                     (.seq
                      (.seq
                       (.reg [⟨(some 114), .v (.mov (.t 22)), none⟩, ⟨(some 115), .v (.bin .lss (.t 114) (.c (.int .i64 0))), none⟩])
                       (.cond (.t 115)
                        (.seq
                         (.reg [⟨(some 10), .v (.mov (.c (.bool false))), none⟩])
                         .ret)
                        .skip))
                      (.seq
                       (.seq
                        (.reg [⟨(some 116), .v (.mov (.t 22)), none⟩, ⟨(some 117), .v (.mov (.t 21)), none⟩, ⟨(some 118), .v (.bin .neq (.t 116) (.t 117)), none⟩])
                        (.cond (.t 118)
                         (.seq
                          (.reg [⟨(some 10), .v (.mov (.c (.bool false))), none⟩])
                          .ret)
                         .skip))
                       (.seq
                        (.reg [⟨(some 120), .v (.mov (.t 0)), none⟩, ⟨(some 121), .v (.mov (.t 1)), none⟩, ⟨(some 122), .call 9 [(.t 121)], none⟩, ⟨(some 123), .v (.mov (.t 2)), none⟩, ⟨(some 124), .call 10 [(.t 123)], none⟩, ⟨(some 125), .v (.mov (.t 3)), none⟩, ⟨(some 126), .v (.mov (.t 4)), none⟩, ⟨(some 127), .call 11 [(.t 120), (.t 122), (.t 124), (.t 125), (.t 126)], none⟩, ⟨(some 119), .v (.mov (.t 127)), none⟩, ⟨(some 128), .v (.ext (.t 119) 0), none⟩, ⟨(some 129), .v (.ext (.t 119) 1), none⟩, ⟨(some 130), .v (.ext (.t 119) 2), none⟩, ⟨(some 23), .v (.mov (.t 128)), none⟩, ⟨(some 24), .v (.mov (.t 129)), none⟩, ⟨(some 25), .v (.mov (.t 130)), none⟩])
                        (.seq
                         (.seq
                          (.reg [⟨(some 131), .v (.mov (.t 23)), none⟩, ⟨(some 132), .v (.mov (.t 12)), none⟩, ⟨(some 133), .v (.bin .neq (.t 131) (.t 132)), none⟩, ⟨(some 134), .v (.mov (.t 133)), none⟩, ⟨(some 135), .v (.mov (.t 24)), (some (134, false))⟩, ⟨(some 136), .v (.mov (.t 13)), (some (134, false))⟩, ⟨(some 137), .call 12 [(.t 135), (.t 136)], (some (134, false))⟩, ⟨(some 138), .v (.un .not (.t 137)), (some (134, false))⟩, ⟨(some 139), .v (.pick (.t 134) (.c (.bool true)) (.t 138)), none⟩, ⟨(some 140), .v (.mov (.t 139)), none⟩, ⟨(some 141), .v (.mov (.t 25)), (some (140, false))⟩, ⟨(some 142), .v (.mov (.t 14)), (some (140, false))⟩, ⟨(some 143), .v (.beq true (.t 141) (.t 142)), (some (140, false))⟩, ⟨(some 144), .v (.pick (.t 140) (.c (.bool true)) (.t 143)), none⟩])
                          (.cond (.t 144)
                           (.seq
                            (.reg [⟨(some 10), .v (.mov (.c (.bool false))), none⟩])
                            .ret)
                           .skip))
                         (.seq
                          (.reg [⟨(some 22), .v (.mov (.c (.int .i64 1))), none⟩])
                          (.seq
                           (.reg [⟨(some 145), .v (.mov (.t 18)), none⟩, ⟨(some 146), .v (.mov (.t 22)), none⟩, ⟨(some 147), .call 16 [(.t 145), (.t 146)], none⟩, ⟨(some 22), .v (.mov (.t 147)), none⟩])
                           (.seq
                            (.seq
                             (.reg [⟨(some 148), .v (.mov (.t 22)), none⟩, ⟨(some 149), .v (.bin .lss (.t 148) (.c (.int .i64 0))), none⟩])
                             (.cond (.t 149)
                              (.seq
                               (.reg [⟨(some 10), .v (.mov (.c (.bool false))), none⟩])
                               .ret)
                              .skip))
                            (.seq
                             (.seq
                              (.reg [⟨(some 150), .v (.mov (.t 22)), none⟩, ⟨(some 151), .v (.mov (.t 21)), none⟩, ⟨(some 152), .v (.bin .neq (.t 150) (.t 151)), none⟩])
                              (.cond (.t 152)
                               (.seq
                                (.reg [⟨(some 10), .v (.mov (.c (.bool false))), none⟩])
                                .ret)
                               .skip))
                             (.seq
                              (.reg [⟨(some 10), .v (.mov (.c (.bool true))), none⟩])
                              .ret)))))))))))))))))))))))))))))⟩
theorem e3 : rFunc Try.prog Try.f3 = some r3 := by kernel_rfl
end Go.Proofs.Ytjfgmimgmapeeaa.M

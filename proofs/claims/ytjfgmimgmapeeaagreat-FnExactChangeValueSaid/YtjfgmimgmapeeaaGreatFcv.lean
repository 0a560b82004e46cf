/-
  The resolved text of the functions, each tied to the program's own by the kernel.
-/
import Derived.Test.YtjfgmimgmapeeaaGreatProg
import Derived.Test.YtjfgmimgmapeeaaGreatFg
namespace Go.Proofs.YtjfgmimgmapeeaaGreat.M
open Go Go.RowKit
set_option maxRecDepth 100000

def r3 : RFunc := ⟨129, [.t 8],
 (.seq
  (.reg [⟨(some 4), .m (.box (.t 0)), none⟩, ⟨(some 8), .v (.mov (.c (.bool false))), none⟩])
  (.seq
   (.reg [⟨(some 9), .v (.mov (.c (.int .i64 1048576))), none⟩])
   (.seq
    (.reg [⟨(some 21), .v (.load true 4 (.t 4)), none⟩, ⟨(some 22), .v (.mov (.t 9)), none⟩, ⟨(some 23), .call 8 [(.t 21), (.t 22)], none⟩, ⟨(some 9), .v (.mov (.t 23)), none⟩])
    (.seq
     (.seq
      (.reg [⟨(some 24), .v (.mov (.t 9)), none⟩, ⟨(some 25), .v (.bin .lss (.t 24) (.c (.int .i64 0))), none⟩])
      (.cond (.t 25)
       (.seq
        (.reg [⟨(some 8), .v (.mov (.c (.bool true))), none⟩])
        .ret)
       .skip))
     (.seq
      (.reg [⟨(some 26), .v (.mov (.t 1)), none⟩, ⟨(some 27), .v (.mov (.t 9)), none⟩, ⟨(some 28), .call 9 [(.t 26), (.t 27)], none⟩, ⟨(some 9), .v (.mov (.t 28)), none⟩])
      (.seq
       (.seq
        (.reg [⟨(some 29), .v (.mov (.t 9)), none⟩, ⟨(some 30), .v (.bin .lss (.t 29) (.c (.int .i64 0))), none⟩])
        (.cond (.t 30)
         (.seq
          (.reg [⟨(some 8), .v (.mov (.c (.bool true))), none⟩])
          .ret)
         .skip))
       (.seq
        (.reg [⟨(some 32), .v (.load true 4 (.t 4)), none⟩, ⟨(some 33), .call 11 [(.t 32)], none⟩, ⟨(some 34), .v (.mov (.t 1)), none⟩, ⟨(some 35), .call 12 [(.t 34)], none⟩, ⟨(some 36), .v (.mov (.t 2)), none⟩, ⟨(some 37), .v (.mov (.t 3)), none⟩, ⟨(some 38), .call 10 [(.t 33), (.t 35), (.t 36), (.t 37)], none⟩, ⟨(some 31), .v (.mov (.t 38)), none⟩, ⟨(some 39), .v (.ext (.t 31) 0), none⟩, ⟨(some 40), .v (.ext (.t 31) 1), none⟩, ⟨(some 10), .m (.alloc [(.int .i64 0), (.int .i64 0), (.int .i64 0), .nils]), none⟩, ⟨none, .m (.store 4 (.t 10) (.t 39)), none⟩, ⟨(some 11), .v (.mov (.t 40)), none⟩])
        (.seq
         (.reg [⟨(some 41), .v (.load true 4 (.t 4)), none⟩, ⟨(some 42), .call 11 [(.t 41)], none⟩, ⟨(some 12), .m (.alloc [(.int .i64 0), (.int .i64 0), (.int .i64 0), .nils]), none⟩, ⟨none, .m (.store 4 (.t 12) (.t 42)), none⟩])
         (.seq
          (.reg [⟨(some 43), .v (.mov (.t 1)), none⟩, ⟨(some 44), .call 12 [(.t 43)], none⟩, ⟨(some 13), .v (.mov (.t 44)), none⟩])
          (.seq
           (.reg [⟨(some 46), .v (.load true 4 (.t 12)), none⟩, ⟨(some 47), .v (.mov (.t 13)), none⟩, ⟨(some 48), .v (.mov (.t 2)), none⟩, ⟨(some 49), .v (.mov (.t 3)), none⟩, ⟨(some 50), .call 13 [(.t 46), (.t 47), (.t 48), (.t 49)], none⟩, ⟨(some 45), .v (.mov (.t 50)), none⟩, ⟨(some 51), .v (.ext (.t 45) 0), none⟩, ⟨(some 52), .v (.ext (.t 45) 1), none⟩, ⟨(some 14), .m (.alloc [(.int .i64 0), (.int .i64 0), (.int .i64 0), .nils]), none⟩, ⟨none, .m (.store 4 (.t 14) (.t 51)), none⟩, ⟨(some 15), .v (.mov (.t 52)), none⟩])
           (.seq
            (.seq
             (.reg [⟨(some 53), .v (.load true 4 (.t 14)), none⟩, ⟨(some 54), .v (.load true 4 (.t 10)), none⟩, ⟨(some 55), .call 14 [(.t 53), (.t 54)], none⟩, ⟨(some 56), .v (.un .not (.t 55)), none⟩, ⟨(some 57), .v (.mov (.t 56)), none⟩, ⟨(some 58), .v (.mov (.t 15)), (some (57, false))⟩, ⟨(some 59), .v (.mov (.t 11)), (some (57, false))⟩, ⟨(some 60), .v (.beq true (.t 58) (.t 59)), (some (57, false))⟩, ⟨(some 61), .v (.pick (.t 57) (.c (.bool true)) (.t 60)), none⟩])
             (.cond (.t 61)
              (.seq
               (.reg [⟨(some 8), .v (.mov (.c (.bool false))), none⟩])
               .ret)
              .skip))
            (.seq
             (.seq
              (.dreg (.fl ⟨(some 62), .v (.load true 4 (.t 12)), none⟩ (.fl ⟨(some 63), .v (.load true 4 (.t 4)), none⟩ (.nx ⟨(some 64), .call 11 [(.t 63)], none⟩ (.nx ⟨(some 65), .call 14 [(.t 62), (.t 64)], none⟩ (.fl ⟨(some 66), .v (.un .not (.t 65)), none⟩ .done))))))
              (.cond (.t 66)
               (.seq
                (.reg [⟨(some 8), .v (.mov (.c (.bool false))), none⟩])
                .ret)
               .skip))
             (.seq
              (.seq
               (.reg [⟨(some 67), .v (.mov (.t 13)), none⟩, ⟨(some 68), .v (.mov (.t 1)), none⟩, ⟨(some 69), .call 12 [(.t 68)], none⟩, ⟨(some 70), .call 15 [(.t 67), (.t 69)], none⟩, ⟨(some 71), .v (.un .not (.t 70)), none⟩])
               (.cond (.t 71)
                (.seq
                 (.reg [⟨(some 8), .v (.mov (.c (.bool false))), none⟩])
                 .ret)
                .skip))
              (.seq
               (.reg [⟨(some 16), .v (.mov (.c (.int .i64 1))), none⟩])
               (.seq
                (.reg [⟨(some 72), .v (.load true 4 (.t 12)), none⟩, ⟨(some 73), .v (.mov (.t 16)), none⟩, ⟨(some 74), .call 16 [(.t 72), (.t 73)], none⟩, ⟨(some 16), .v (.mov (.t 74)), none⟩])
                (.seq
                 (.reg [⟨(some 75), .v (.mov (.t 13)), none⟩, ⟨(some 76), .v (.mov (.t 16)), none⟩, ⟨(some 77), .call 17 [(.t 75), (.t 76)], none⟩, ⟨(some 16), .v (.mov (.t 77)), none⟩])
                 (.seq
                  (.seq
                   (.reg [⟨(some 78), .v (.mov (.t 16)), none⟩, ⟨(some 79), .v (.bin .lss (.t 78) (.c (.int .i64 0))), none⟩, ⟨(some 80), .v (.mov (.t 79)), none⟩, ⟨(some 81), .v (.load true 4 (.t 14)), (some (80, false))⟩, ⟨(some 82), .v (.load true 4 (.t 10)), (some (80, false))⟩, ⟨(some 83), .call 14 [(.t 81), (.t 82)], (some (80, false))⟩, ⟨(some 84), .v (.un .not (.t 83)), (some (80, false))⟩, ⟨(some 85), .v (.pick (.t 80) (.c (.bool true)) (.t 84)), none⟩, ⟨(some 86), .v (.mov (.t 85)), none⟩, ⟨(some 87), .v (.mov (.t 15)), (some (86, false))⟩, ⟨(some 88), .v (.mov (.t 11)), (some (86, false))⟩, ⟨(some 89), .v (.beq true (.t 87) (.t 88)), (some (86, false))⟩, ⟨(some 90), .v (.pick (.t 86) (.c (.bool true)) (.t 89)), none⟩])
                   (.cond (.t 90)
                    (.seq
                     (.reg [⟨(some 8), .v (.mov (.c (.bool false))), none⟩])
                     .ret)
                    .skip))
                  (.seq
                   (.reg [⟨(some 17), .v (.mov (.c (.int .i64 1))), none⟩])
                   (.seq
                    (.reg [⟨(some 91), .v (.load true 4 (.t 14)), none⟩, ⟨(some 92), .v (.mov (.t 17)), none⟩, ⟨(some 93), .call 16 [(.t 91), (.t 92)], none⟩, ⟨(some 17), .v (.mov (.t 93)), none⟩])
                    (.seq
                     (.reg [⟨(some 18), .v (.mov (.c (.int .i64 1))), none⟩])
                     (.seq
                      (.reg [⟨(some 94), .v (.load true 4 (.t 14)), none⟩, ⟨(some 95), .v (.mov (.t 18)), none⟩, ⟨(some 96), .call 18 [(.t 94), (.t 95)], none⟩, ⟨(some 18), .v (.mov (.t 96)), none⟩])
                      (.seq
                       (.seq
                        (.reg [⟨(some 97), .v (.mov (.t 18)), none⟩, ⟨(some 98), .v (.bin .lss (.t 97) (.c (.int .i64 0))), none⟩])
                        (.cond (.t 98)
                         (.seq
                          (.reg [⟨(some 8), .v (.mov (.c (.bool false))), none⟩])
                          .ret)
                         .skip))
                       (.seq
                        (.seq
                         (.reg [⟨(some 99), .v (.mov (.t 18)), none⟩, ⟨(some 100), .v (.mov (.t 17)), none⟩, ⟨(some 101), .v (.bin .neq (.t 99) (.t 100)), none⟩])
                         (.cond (.t 101)
                          (.seq
                           (.reg [⟨(some 8), .v (.mov (.c (.bool false))), none⟩])
                           .ret)
                          .skip))
                        (.seq
                         (.reg [⟨(some 103), .v (.load true 4 (.t 4)), none⟩, ⟨(some 104), .call 11 [(.t 103)], none⟩, ⟨(some 105), .v (.mov (.t 1)), none⟩, ⟨(some 106), .call 12 [(.t 105)], none⟩, ⟨(some 107), .v (.mov (.t 2)), none⟩, ⟨(some 108), .v (.mov (.t 3)), none⟩, ⟨(some 109), .call 13 [(.t 104), (.t 106), (.t 107), (.t 108)], none⟩, ⟨(some 102), .v (.mov (.t 109)), none⟩, ⟨(some 110), .v (.ext (.t 102) 0), none⟩, ⟨(some 111), .v (.ext (.t 102) 1), none⟩, ⟨(some 19), .m (.alloc [(.int .i64 0), (.int .i64 0), (.int .i64 0), .nils]), none⟩, ⟨none, .m (.store 4 (.t 19) (.t 110)), none⟩, ⟨(some 20), .v (.mov (.t 111)), none⟩])
                         (.seq
                          (.seq
                           (.reg [⟨(some 112), .v (.load true 4 (.t 19)), none⟩, ⟨(some 113), .v (.load true 4 (.t 10)), none⟩, ⟨(some 114), .call 14 [(.t 112), (.t 113)], none⟩, ⟨(some 115), .v (.un .not (.t 114)), none⟩, ⟨(some 116), .v (.mov (.t 115)), none⟩, ⟨(some 117), .v (.mov (.t 20)), (some (116, false))⟩, ⟨(some 118), .v (.mov (.t 11)), (some (116, false))⟩, ⟨(some 119), .v (.beq true (.t 117) (.t 118)), (some (116, false))⟩, ⟨(some 120), .v (.pick (.t 116) (.c (.bool true)) (.t 119)), none⟩])
                           (.cond (.t 120)
                            (.seq
                             (.reg [⟨(some 8), .v (.mov (.c (.bool false))), none⟩])
                             .ret)
                            .skip))
                          (.seq
                           (.reg [⟨(some 18), .v (.mov (.c (.int .i64 1))), none⟩])
                           (.seq
                            (.reg [⟨(some 121), .v (.load true 4 (.t 14)), none⟩, ⟨(some 122), .v (.mov (.t 18)), none⟩, ⟨(some 123), .call 18 [(.t 121), (.t 122)], none⟩, ⟨(some 18), .v (.mov (.t 123)), none⟩])
                            (.seq
                             (.seq
                              (.reg [⟨(some 124), .v (.mov (.t 18)), none⟩, ⟨(some 125), .v (.bin .lss (.t 124) (.c (.int .i64 0))), none⟩])
                              (.cond (.t 125)
                               (.seq
                                (.reg [⟨(some 8), .v (.mov (.c (.bool false))), none⟩])
                                .ret)
                               .skip))
                             (.seq
                              (.seq
                               (.reg [⟨(some 126), .v (.mov (.t 18)), none⟩, ⟨(some 127), .v (.mov (.t 17)), none⟩, ⟨(some 128), .v (.bin .neq (.t 126) (.t 127)), none⟩])
                               (.cond (.t 128)
                                (.seq
                                 (.reg [⟨(some 8), .v (.mov (.c (.bool false))), none⟩])
                                 .ret)
                                .skip))
                              (.seq
                               (.reg [⟨(some 8), .v (.mov (.c (.bool true))), none⟩])
                               .ret))))))))))))))))))))))))))))))⟩
theorem e3 : rFunc Tryz.prog Tryz.f3 = some r3 := by kernel_rfl
end Go.Proofs.YtjfgmimgmapeeaaGreat.M

/-
  The resolved text of the functions, each tied to the program's own by the kernel.
-/
import Derived.Test.YtjfgmimgmapeeaaProg
import Derived.Test.YtjfgmimgmapeeaaFe
namespace Go.Proofs.Ytjfgmimgmapeeaa.M
open Go Go.RowKit
set_option maxRecDepth 100000

def r4 : RFunc := ⟨132, [.t 10],
 (.seq
  (.reg [⟨(some 10), .v (.mov (.c (.bool false))), none⟩])
  (.seq
   (.seq
    (.reg [⟨(some 23), .v (.mov (.t 2)), none⟩, ⟨(some 24), .v (.len (.t 23)), none⟩, ⟨(some 25), .v (.bin .gtr (.t 24) (.c (.int .i64 1048576))), none⟩])
    (.cond (.t 25)
     (.seq
      (.reg [⟨(some 10), .v (.mov (.c (.bool true))), none⟩])
      .ret)
     .skip))
   (.seq
    (.reg [⟨(some 11), .v (.mov (.c (.int .i64 1048576))), none⟩])
    (.seq
     (.reg [⟨(some 26), .v (.mov (.t 1)), none⟩, ⟨(some 27), .v (.mov (.t 11)), none⟩, ⟨(some 28), .call 7 [(.t 26), (.t 27)], none⟩, ⟨(some 11), .v (.mov (.t 28)), none⟩])
     (.seq
      (.seq
       (.reg [⟨(some 29), .v (.mov (.t 11)), none⟩, ⟨(some 30), .v (.bin .lss (.t 29) (.c (.int .i64 0))), none⟩])
       (.cond (.t 30)
        (.seq
         (.reg [⟨(some 10), .v (.mov (.c (.bool true))), none⟩])
         .ret)
        .skip))
      (.seq
       (.reg [⟨(some 32), .v (.mov (.t 0)), none⟩, ⟨(some 33), .v (.mov (.t 1)), none⟩, ⟨(some 34), .call 9 [(.t 33)], none⟩, ⟨(some 35), .v (.mov (.t 2)), none⟩, ⟨(some 36), .call 10 [(.t 35)], none⟩, ⟨(some 37), .v (.mov (.t 3)), none⟩, ⟨(some 38), .v (.mov (.t 4)), none⟩, ⟨(some 39), .call 17 [(.t 32), (.t 34), (.t 36), (.t 37), (.t 38)], none⟩, ⟨(some 31), .v (.mov (.t 39)), none⟩, ⟨(some 40), .v (.ext (.t 31) 0), none⟩, ⟨(some 41), .v (.ext (.t 31) 1), none⟩, ⟨(some 12), .m (.alloc [(.int .i64 0), (.int .i64 0), (.int .i64 0), .nils]), none⟩, ⟨none, .m (.store 4 (.t 12) (.t 40)), none⟩, ⟨(some 13), .v (.mov (.t 41)), none⟩])
       (.seq
        (.reg [⟨(some 42), .v (.mov (.t 1)), none⟩, ⟨(some 43), .call 9 [(.t 42)], none⟩, ⟨(some 14), .v (.mov (.t 43)), none⟩])
        (.seq
         (.reg [⟨(some 44), .v (.mov (.t 2)), none⟩, ⟨(some 45), .call 10 [(.t 44)], none⟩, ⟨(some 15), .v (.mov (.t 45)), none⟩])
         (.seq
          (.reg [⟨(some 47), .v (.mov (.t 0)), none⟩, ⟨(some 48), .v (.mov (.t 14)), none⟩, ⟨(some 49), .v (.mov (.t 15)), none⟩, ⟨(some 50), .v (.mov (.t 3)), none⟩, ⟨(some 51), .v (.mov (.t 4)), none⟩, ⟨(some 52), .call 18 [(.t 47), (.t 48), (.t 49), (.t 50), (.t 51)], none⟩, ⟨(some 46), .v (.mov (.t 52)), none⟩, ⟨(some 53), .v (.ext (.t 46) 0), none⟩, ⟨(some 54), .v (.ext (.t 46) 1), none⟩, ⟨(some 16), .m (.alloc [(.int .i64 0), (.int .i64 0), (.int .i64 0), .nils]), none⟩, ⟨none, .m (.store 4 (.t 16) (.t 53)), none⟩, ⟨(some 17), .v (.mov (.t 54)), none⟩])
          (.seq
           (.seq
            (.reg [⟨(some 55), .v (.load true 4 (.t 16)), none⟩, ⟨(some 56), .v (.load true 4 (.t 12)), none⟩, ⟨(some 57), .call 19 [(.t 55), (.t 56)], none⟩, ⟨(some 58), .v (.un .not (.t 57)), none⟩, ⟨(some 59), .v (.mov (.t 58)), none⟩, ⟨(some 60), .v (.mov (.t 17)), (some (59, false))⟩, ⟨(some 61), .v (.mov (.t 13)), (some (59, false))⟩, ⟨(some 62), .v (.beq true (.t 60) (.t 61)), (some (59, false))⟩, ⟨(some 63), .v (.pick (.t 59) (.c (.bool true)) (.t 62)), none⟩])
            (.cond (.t 63)
             (.seq
              (.reg [⟨(some 10), .v (.mov (.c (.bool false))), none⟩])
              .ret)
             .skip))
           (.seq
            (.seq
             (.reg [⟨(some 64), .v (.mov (.t 14)), none⟩, ⟨(some 65), .v (.mov (.t 1)), none⟩, ⟨(some 66), .call 9 [(.t 65)], none⟩, ⟨(some 67), .call 13 [(.t 64), (.t 66)], none⟩, ⟨(some 68), .v (.un .not (.t 67)), none⟩])
             (.cond (.t 68)
              (.seq
               (.reg [⟨(some 10), .v (.mov (.c (.bool false))), none⟩])
               .ret)
              .skip))
            (.seq
             (.seq
              (.reg [⟨(some 69), .v (.mov (.t 15)), none⟩, ⟨(some 70), .v (.mov (.t 2)), none⟩, ⟨(some 71), .call 10 [(.t 70)], none⟩, ⟨(some 72), .call 12 [(.t 69), (.t 71)], none⟩, ⟨(some 73), .v (.un .not (.t 72)), none⟩])
              (.cond (.t 73)
               (.seq
                (.reg [⟨(some 10), .v (.mov (.c (.bool false))), none⟩])
                .ret)
               .skip))
             (.seq
              (.reg [⟨(some 18), .v (.mov (.c (.int .i64 1))), none⟩])
              (.seq
               (.reg [⟨(some 74), .v (.mov (.t 14)), none⟩, ⟨(some 75), .v (.mov (.t 18)), none⟩, ⟨(some 76), .call 14 [(.t 74), (.t 75)], none⟩, ⟨(some 18), .v (.mov (.t 76)), none⟩])
               (.seq
                (.reg [⟨(some 77), .v (.mov (.t 15)), none⟩, ⟨(some 78), .v (.mov (.t 18)), none⟩, ⟨(some 79), .call 15 [(.t 77), (.t 78)], none⟩, ⟨(some 18), .v (.mov (.t 79)), none⟩])
                (.seq
                 (.seq
                  (.reg [⟨(some 80), .v (.mov (.t 18)), none⟩, ⟨(some 81), .v (.bin .lss (.t 80) (.c (.int .i64 0))), none⟩, ⟨(some 82), .v (.mov (.t 81)), none⟩, ⟨(some 83), .v (.load true 4 (.t 16)), (some (82, false))⟩, ⟨(some 84), .v (.load true 4 (.t 12)), (some (82, false))⟩, ⟨(some 85), .call 19 [(.t 83), (.t 84)], (some (82, false))⟩, ⟨(some 86), .v (.un .not (.t 85)), (some (82, false))⟩, ⟨(some 87), .v (.pick (.t 82) (.c (.bool true)) (.t 86)), none⟩, ⟨(some 88), .v (.mov (.t 87)), none⟩, ⟨(some 89), .v (.mov (.t 17)), (some (88, false))⟩, ⟨(some 90), .v (.mov (.t 13)), (some (88, false))⟩, ⟨(some 91), .v (.beq true (.t 89) (.t 90)), (some (88, false))⟩, ⟨(some 92), .v (.pick (.t 88) (.c (.bool true)) (.t 91)), none⟩])
                  (.cond (.t 92)
                   (.seq
                    (.reg [⟨(some 10), .v (.mov (.c (.bool false))), none⟩])
                    .ret)
                   .skip))
                 (.seq
                  (.reg [⟨(some 19), .v (.mov (.c (.int .i64 1))), none⟩])
                  (.seq
                   (.reg [⟨(some 93), .v (.load true 4 (.t 16)), none⟩, ⟨(some 94), .v (.mov (.t 19)), none⟩, ⟨(some 95), .call 20 [(.t 93), (.t 94)], none⟩, ⟨(some 19), .v (.mov (.t 95)), none⟩])
                   (.seq
                    (.reg [⟨(some 20), .v (.mov (.c (.int .i64 1))), none⟩])
                    (.seq
                     (.reg [⟨(some 96), .v (.load true 4 (.t 16)), none⟩, ⟨(some 97), .v (.mov (.t 20)), none⟩, ⟨(some 98), .call 21 [(.t 96), (.t 97)], none⟩, ⟨(some 20), .v (.mov (.t 98)), none⟩])
                     (.seq
                      (.seq
                       (.reg [⟨(some 99), .v (.mov (.t 20)), none⟩, ⟨(some 100), .v (.bin .lss (.t 99) (.c (.int .i64 0))), none⟩])
                       (.cond (.t 100)
                        (.seq
                         (.reg [⟨(some 10), .v (.mov (.c (.bool false))), none⟩])
                         .ret)
                        .skip))
                      (.seq
                       (.seq
                        (.reg [⟨(some 101), .v (.mov (.t 20)), none⟩, ⟨(some 102), .v (.mov (.t 19)), none⟩, ⟨(some 103), .v (.bin .neq (.t 101) (.t 102)), none⟩])
                        (.cond (.t 103)
                         (.seq
                          (.reg [⟨(some 10), .v (.mov (.c (.bool false))), none⟩])
                          .ret)
                         .skip))
                       (.seq
                        (.reg [⟨(some 105), .v (.mov (.t 0)), none⟩, ⟨(some 106), .v (.mov (.t 1)), none⟩, ⟨(some 107), .call 9 [(.t 106)], none⟩, ⟨(some 108), .v (.mov (.t 2)), none⟩, ⟨(some 109), .call 10 [(.t 108)], none⟩, ⟨(some 110), .v (.mov (.t 3)), none⟩, ⟨(some 111), .v (.mov (.t 4)), none⟩, ⟨(some 112), .call 18 [(.t 105), (.t 107), (.t 109), (.t 110), (.t 111)], none⟩, ⟨(some 104), .v (.mov (.t 112)), none⟩, ⟨(some 113), .v (.ext (.t 104) 0), none⟩, ⟨(some 114), .v (.ext (.t 104) 1), none⟩, ⟨(some 21), .m (.alloc [(.int .i64 0), (.int .i64 0), (.int .i64 0), .nils]), none⟩, ⟨none, .m (.store 4 (.t 21) (.t 113)), none⟩, ⟨(some 22), .v (.mov (.t 114)), none⟩])
                        (.seq
                         (.seq
                          (.reg [⟨(some 115), .v (.load true 4 (.t 21)), none⟩, ⟨(some 116), .v (.load true 4 (.t 12)), none⟩, ⟨(some 117), .call 19 [(.t 115), (.t 116)], none⟩, ⟨(some 118), .v (.un .not (.t 117)), none⟩, ⟨(some 119), .v (.mov (.t 118)), none⟩, ⟨(some 120), .v (.mov (.t 22)), (some (119, false))⟩, ⟨(some 121), .v (.mov (.t 13)), (some (119, false))⟩, ⟨(some 122), .v (.beq true (.t 120) (.t 121)), (some (119, false))⟩, ⟨(some 123), .v (.pick (.t 119) (.c (.bool true)) (.t 122)), none⟩])
                          (.cond (.t 123)
                           (.seq
                            (.reg [⟨(some 10), .v (.mov (.c (.bool false))), none⟩])
                            .ret)
                           .skip))
                         (.seq
                          (.reg [⟨(some 20), .v (.mov (.c (.int .i64 1))), none⟩])
                          (.seq
                           (.reg [⟨(some 124), .v (.load true 4 (.t 16)), none⟩, ⟨(some 125), .v (.mov (.t 20)), none⟩, ⟨(some 126), .call 21 [(.t 124), (.t 125)], none⟩, ⟨(some 20), .v (.mov (.t 126)), none⟩])
                           (.seq
                            (.seq
                             (.reg [⟨(some 127), .v (.mov (.t 20)), none⟩, ⟨(some 128), .v (.bin .lss (.t 127) (.c (.int .i64 0))), none⟩])
                             (.cond (.t 128)
                              (.seq
                               (.reg [⟨(some 10), .v (.mov (.c (.bool false))), none⟩])
                               .ret)
                              .skip))
                            (.seq
                             (.seq
                              (.reg [⟨(some 129), .v (.mov (.t 20)), none⟩, ⟨(some 130), .v (.mov (.t 19)), none⟩, ⟨(some 131), .v (.bin .neq (.t 129) (.t 130)), none⟩])
                              (.cond (.t 131)
                               (.seq
                                (.reg [⟨(some 10), .v (.mov (.c (.bool false))), none⟩])
                                .ret)
                               .skip))
                             (.seq
                              (.reg [⟨(some 10), .v (.mov (.c (.bool true))), none⟩])
                              .ret)))))))))))))))))))))))))))))⟩
theorem e4 : rFunc Try.prog Try.f4 = some r4 := by kernel_rfl
end Go.Proofs.Ytjfgmimgmapeeaa.M

/-
  The resolved text of the functions, each tied to the program's own by the kernel.
-/
import Derived.Test.YtgkdnpigbpkehaaProg
import Derived.Test.YtgkdnpigbpkehaaFb
namespace Go.Proofs.Ytgkdnpigbpkehaa.M
open Go Go.RowKit
set_option maxRecDepth 100000

def r26 : RFunc := ⟨18, [.t 2, .t 3],
 (.seq
  (.reg [⟨(some 1), .m (.box (.t 0)), none⟩, ⟨(some 2), .v (.mov (.c .nils)), none⟩, ⟨(some 3), .v (.mov (.c (.bool false))), none⟩])
  (.seq
   (.seq
    (.reg [⟨(some 6), .v (.load true 3 (.t 1)), none⟩, ⟨(some 7), .call 59 [(.t 6)], none⟩, ⟨(some 8), .v (.un .not (.t 7)), none⟩])
    (.cond (.t 8)
     (.seq
      (.reg [⟨(some 2), .v (.mov (.c .nils)), none⟩, ⟨(some 3), .v (.mov (.c (.bool false))), none⟩])
      .ret)
     .skip))
   (.seq
    (.reg [⟨(some 10), .v (.load true 3 (.t 1)), none⟩, ⟨(some 11), .call 71 [(.t 10)], none⟩, ⟨(some 9), .v (.mov (.t 11)), none⟩, ⟨(some 12), .v (.ext (.t 9) 0), none⟩, ⟨(some 13), .v (.ext (.t 9) 1), none⟩, ⟨(some 4), .v (.mov (.t 12)), none⟩, ⟨(some 5), .v (.mov (.t 13)), none⟩])
    (.seq
     (.reg [⟨(some 14), .v (.mov (.t 5)), none⟩, ⟨(some 15), .v (.mov (.t 5)), none⟩, ⟨(some 16), .v (.len (.t 15)), none⟩, ⟨(some 17), .v (.bin .gtr (.t 16) (.c (.int .i64 0))), none⟩, ⟨(some 2), .v (.mov (.t 14)), none⟩, ⟨(some 3), .v (.mov (.t 17)), none⟩])
     .ret))))⟩
theorem e26 : rFunc Try.prog Try.f26 = some r26 := by kernel_rfl
def r73 : RFunc := ⟨20, [.t 2],
 (.seq
  (.reg [⟨(some 2), .v (.mov (.c .nils)), none⟩])
  (.seq
   (.reg [⟨(some 5), .m (.bsl 1 0 [(.int .i64 0)] []), none⟩, ⟨(some 3), .v (.mov (.t 5)), none⟩])
   (.seq
    (.seq
     (.reg [⟨(some 6), .v (.mov (.c (.int .i64 0))), none⟩])
     (.block 0
      (.loop
       (.seq
        (.reg [⟨(some 7), .v (.bin .lss (.t 6) (.c (.int .i64 64))), none⟩])
        (.seq
         (.cond (.t 7)
          .skip
          (.exit 0))
         (.seq
          (.block 1
           (.seq
            (.reg [⟨(some 8), .v (.mov (.t 6)), none⟩, ⟨(some 4), .v (.mov (.t 8)), none⟩])
            (.seq
             (.reg [⟨(some 9), .v (.mov (.t 0)), none⟩, ⟨(some 10), .v (.mov (.t 4)), none⟩, ⟨(some 11), .v (.bin .shr (.t 9) (.t 10)), none⟩, ⟨(some 12), .v (.bin .and (.t 11) (.c (.int .u64 1))), none⟩, ⟨(some 13), .v (.bin .eql (.t 12) (.c (.int .u64 1))), none⟩])
             (.cond (.t 13)
              (.reg [⟨(some 14), .v (.mov (.t 3)), none⟩, ⟨(some 15), .v (.mov (.t 4)), none⟩, ⟨(some 16), .m (.bsl 1 1 [(.int .i64 0)] [(0, 1, (.t 15))]), none⟩, ⟨(some 17), .m (.app false 1 8 (.t 14) (.t 16)), none⟩, ⟨(some 3), .v (.mov (.t 17)), none⟩])
              .skip))))
          (.reg [⟨(some 18), .v (.bin .add (.t 6) (.c (.int .i64 1))), none⟩, ⟨(some 6), .v (.mov (.t 18)), none⟩])))))))
    (.seq
     (.reg [⟨(some 19), .v (.mov (.t 3)), none⟩, ⟨(some 2), .v (.mov (.t 19)), none⟩])
     .ret))))⟩
theorem e73 : rFunc Try.prog Try.f73 = some r73 := by kernel_rfl
def r27 : RFunc := ⟨18, [.t 2, .t 3],
 (.seq
  (.reg [⟨(some 1), .m (.box (.t 0)), none⟩, ⟨(some 2), .v (.mov (.c .nils)), none⟩, ⟨(some 3), .v (.mov (.c (.bool false))), none⟩])
  (.seq
   (.seq
    (.reg [⟨(some 6), .v (.load true 3 (.t 1)), none⟩, ⟨(some 7), .call 50 [(.t 6)], none⟩, ⟨(some 8), .v (.un .not (.t 7)), none⟩])
    (.cond (.t 8)
     (.seq
      (.reg [⟨(some 2), .v (.mov (.c .nils)), none⟩, ⟨(some 3), .v (.mov (.c (.bool false))), none⟩])
      .ret)
     .skip))
   (.seq
    (.reg [⟨(some 10), .v (.load true 3 (.t 1)), none⟩, ⟨(some 11), .call 72 [(.t 10)], none⟩, ⟨(some 9), .v (.mov (.t 11)), none⟩, ⟨(some 12), .v (.ext (.t 9) 0), none⟩, ⟨(some 13), .v (.ext (.t 9) 1), none⟩, ⟨(some 4), .v (.mov (.t 12)), none⟩, ⟨(some 5), .v (.mov (.t 13)), none⟩])
    (.seq
     (.seq
      (.reg [⟨(some 14), .v (.mov (.t 5)), none⟩, ⟨(some 15), .v (.bin .eql (.t 14) (.c (.int .u64 0))), none⟩])
      (.cond (.t 15)
       (.seq
        (.reg [⟨(some 2), .v (.mov (.c .nils)), none⟩, ⟨(some 3), .v (.mov (.c (.bool false))), none⟩])
        .ret)
       .skip))
     (.seq
      (.reg [⟨(some 16), .v (.mov (.t 5)), none⟩, ⟨(some 17), .call 73 [(.t 16)], none⟩, ⟨(some 2), .v (.mov (.t 17)), none⟩, ⟨(some 3), .v (.mov (.c (.bool true))), none⟩])
      .ret)))))⟩
theorem e27 : rFunc Try.prog Try.f27 = some r27 := by kernel_rfl
def r6 : RFunc := ⟨96, [.t 2],
 (.seq
  (.reg [⟨(some 1), .m (.box (.t 0)), none⟩, ⟨(some 2), .v (.mov (.c (.bool false))), none⟩])
  (.seq
   (.reg [⟨(some 3), .v (.mov (.c (.int .i64 1048576))), none⟩])
   (.seq
    (.reg [⟨(some 14), .v (.load true 3 (.t 1)), none⟩, ⟨(some 15), .v (.mov (.t 3)), none⟩, ⟨(some 16), .call 17 [(.t 14), (.t 15)], none⟩, ⟨(some 3), .v (.mov (.t 16)), none⟩])
    (.seq
     (.seq
      (.reg [⟨(some 17), .v (.mov (.t 3)), none⟩, ⟨(some 18), .v (.bin .lss (.t 17) (.c (.int .i64 0))), none⟩])
      (.cond (.t 18)
       (.seq
        (.reg [⟨(some 2), .v (.mov (.c (.bool true))), none⟩])
        .ret)
       .skip))
     (.seq
      (.reg [⟨(some 20), .v (.load true 3 (.t 1)), none⟩, ⟨(some 21), .call 19 [(.t 20)], none⟩, ⟨(some 22), .call 26 [(.t 21)], none⟩, ⟨(some 19), .v (.mov (.t 22)), none⟩, ⟨(some 23), .v (.ext (.t 19) 0), none⟩, ⟨(some 24), .v (.ext (.t 19) 1), none⟩, ⟨(some 4), .v (.mov (.t 23)), none⟩, ⟨(some 5), .v (.mov (.t 24)), none⟩])
      (.seq
       (.reg [⟨(some 25), .v (.load true 3 (.t 1)), none⟩, ⟨(some 26), .call 19 [(.t 25)], none⟩, ⟨(some 6), .m (.alloc [(.int .i64 0), .nils, .nils]), none⟩, ⟨none, .m (.store 3 (.t 6) (.t 26)), none⟩])
       (.seq
        (.reg [⟨(some 28), .v (.load true 3 (.t 6)), none⟩, ⟨(some 29), .call 27 [(.t 28)], none⟩, ⟨(some 27), .v (.mov (.t 29)), none⟩, ⟨(some 30), .v (.ext (.t 27) 0), none⟩, ⟨(some 31), .v (.ext (.t 27) 1), none⟩, ⟨(some 7), .v (.mov (.t 30)), none⟩, ⟨(some 8), .v (.mov (.t 31)), none⟩])
        (.seq
         (.seq
          (.reg [⟨(some 32), .v (.mov (.t 7)), none⟩, ⟨(some 33), .v (.mov (.t 4)), none⟩, ⟨(some 34), .call 23 [(.t 32), (.t 33)], none⟩, ⟨(some 35), .v (.un .not (.t 34)), none⟩, ⟨(some 36), .v (.mov (.t 35)), none⟩, ⟨(some 37), .v (.mov (.t 8)), (some (36, false))⟩, ⟨(some 38), .v (.mov (.t 5)), (some (36, false))⟩, ⟨(some 39), .v (.beq true (.t 37) (.t 38)), (some (36, false))⟩, ⟨(some 40), .v (.pick (.t 36) (.c (.bool true)) (.t 39)), none⟩])
          (.cond (.t 40)
           (.seq
            (.reg [⟨(some 2), .v (.mov (.c (.bool false))), none⟩])
            .ret)
           .skip))
         (.seq
          (.seq
           (.dreg (.fl ⟨(some 41), .v (.load true 3 (.t 6)), none⟩ (.fl ⟨(some 42), .v (.load true 3 (.t 1)), none⟩ (.nx ⟨(some 43), .call 19 [(.t 42)], none⟩ (.nx ⟨(some 44), .call 22 [(.t 41), (.t 43)], none⟩ (.fl ⟨(some 45), .v (.un .not (.t 44)), none⟩ .done))))))
           (.cond (.t 45)
            (.seq
             (.reg [⟨(some 2), .v (.mov (.c (.bool false))), none⟩])
             .ret)
            .skip))
          (.seq
           (.reg [⟨(some 9), .v (.mov (.c (.int .i64 1))), none⟩])
           (.seq
            (.reg [⟨(some 46), .v (.load true 3 (.t 6)), none⟩, ⟨(some 47), .v (.mov (.t 9)), none⟩, ⟨(some 48), .call 28 [(.t 46), (.t 47)], none⟩, ⟨(some 9), .v (.mov (.t 48)), none⟩])
            (.seq
             (.seq
              (.reg [⟨(some 49), .v (.mov (.t 9)), none⟩, ⟨(some 50), .v (.bin .lss (.t 49) (.c (.int .i64 0))), none⟩, ⟨(some 51), .v (.mov (.t 50)), none⟩, ⟨(some 52), .v (.mov (.t 7)), (some (51, false))⟩, ⟨(some 53), .v (.mov (.t 4)), (some (51, false))⟩, ⟨(some 54), .call 23 [(.t 52), (.t 53)], (some (51, false))⟩, ⟨(some 55), .v (.un .not (.t 54)), (some (51, false))⟩, ⟨(some 56), .v (.pick (.t 51) (.c (.bool true)) (.t 55)), none⟩, ⟨(some 57), .v (.mov (.t 56)), none⟩, ⟨(some 58), .v (.mov (.t 8)), (some (57, false))⟩, ⟨(some 59), .v (.mov (.t 5)), (some (57, false))⟩, ⟨(some 60), .v (.beq true (.t 58) (.t 59)), (some (57, false))⟩, ⟨(some 61), .v (.pick (.t 57) (.c (.bool true)) (.t 60)), none⟩])
              (.cond (.t 61)
               (.seq
                (.reg [⟨(some 2), .v (.mov (.c (.bool false))), none⟩])
                .ret)
               .skip))
             (.seq
              (.reg [⟨(some 10), .v (.mov (.c (.int .i64 1))), none⟩])
              (.seq
               (.reg [⟨(some 62), .v (.mov (.t 7)), none⟩, ⟨(some 63), .v (.mov (.t 10)), none⟩, ⟨(some 64), .call 29 [(.t 62), (.t 63)], none⟩, ⟨(some 10), .v (.mov (.t 64)), none⟩])
               (.seq
                (.reg [⟨(some 11), .v (.mov (.c (.int .i64 1))), none⟩])
                (.seq
                 (.reg [⟨(some 65), .v (.mov (.t 7)), none⟩, ⟨(some 66), .v (.mov (.t 11)), none⟩, ⟨(some 67), .call 30 [(.t 65), (.t 66)], none⟩, ⟨(some 11), .v (.mov (.t 67)), none⟩])
                 (.seq
                  (.seq
                   (.reg [⟨(some 68), .v (.mov (.t 11)), none⟩, ⟨(some 69), .v (.bin .lss (.t 68) (.c (.int .i64 0))), none⟩])
                   (.cond (.t 69)
                    (.seq
                     (.reg [⟨(some 2), .v (.mov (.c (.bool false))), none⟩])
                     .ret)
                    .skip))
                  (.seq
                   (.seq
                    (.reg [⟨(some 70), .v (.mov (.t 11)), none⟩, ⟨(some 71), .v (.mov (.t 10)), none⟩, ⟨(some 72), .v (.bin .neq (.t 70) (.t 71)), none⟩])
                    (.cond (.t 72)
                     (.seq
                      (.reg [⟨(some 2), .v (.mov (.c (.bool false))), none⟩])
                      .ret)
                     .skip))
                   (.seq
                    (.reg [⟨(some 74), .v (.load true 3 (.t 1)), none⟩, ⟨(some 75), .call 19 [(.t 74)], none⟩, ⟨(some 76), .call 27 [(.t 75)], none⟩, ⟨(some 73), .v (.mov (.t 76)), none⟩, ⟨(some 77), .v (.ext (.t 73) 0), none⟩, ⟨(some 78), .v (.ext (.t 73) 1), none⟩, ⟨(some 12), .v (.mov (.t 77)), none⟩, ⟨(some 13), .v (.mov (.t 78)), none⟩])
                    (.seq
                     (.seq
                      (.reg [⟨(some 79), .v (.mov (.t 12)), none⟩, ⟨(some 80), .v (.mov (.t 4)), none⟩, ⟨(some 81), .call 23 [(.t 79), (.t 80)], none⟩, ⟨(some 82), .v (.un .not (.t 81)), none⟩, ⟨(some 83), .v (.mov (.t 82)), none⟩, ⟨(some 84), .v (.mov (.t 13)), (some (83, false))⟩, ⟨(some 85), .v (.mov (.t 5)), (some (83, false))⟩, ⟨(some 86), .v (.beq true (.t 84) (.t 85)), (some (83, false))⟩, ⟨(some 87), .v (.pick (.t 83) (.c (.bool true)) (.t 86)), none⟩])
                      (.cond (.t 87)
                       (.seq
                        (.reg [⟨(some 2), .v (.mov (.c (.bool false))), none⟩])
                        .ret)
                       .skip))
                     (.seq
                      (.reg [⟨(some 11), .v (.mov (.c (.int .i64 1))), none⟩])
                      (.seq
                       (.reg [⟨(some 88), .v (.mov (.t 7)), none⟩, ⟨(some 89), .v (.mov (.t 11)), none⟩, ⟨(some 90), .call 30 [(.t 88), (.t 89)], none⟩, ⟨(some 11), .v (.mov (.t 90)), none⟩])
                       (.seq
                        (.seq
                         (.reg [⟨(some 91), .v (.mov (.t 11)), none⟩, ⟨(some 92), .v (.bin .lss (.t 91) (.c (.int .i64 0))), none⟩])
                         (.cond (.t 92)
                          (.seq
                           (.reg [⟨(some 2), .v (.mov (.c (.bool false))), none⟩])
                           .ret)
                          .skip))
                        (.seq
                         (.seq
                          (.reg [⟨(some 93), .v (.mov (.t 11)), none⟩, ⟨(some 94), .v (.mov (.t 10)), none⟩, ⟨(some 95), .v (.bin .neq (.t 93) (.t 94)), none⟩])
                          (.cond (.t 95)
                           (.seq
                            (.reg [⟨(some 2), .v (.mov (.c (.bool false))), none⟩])
                            .ret)
                           .skip))
                         (.seq
                          (.reg [⟨(some 2), .v (.mov (.c (.bool true))), none⟩])
                          .ret)))))))))))))))))))))))))⟩
theorem e6 : rFunc Try.prog Try.f6 = some r6 := by kernel_rfl
end Go.Proofs.Ytgkdnpigbpkehaa.M

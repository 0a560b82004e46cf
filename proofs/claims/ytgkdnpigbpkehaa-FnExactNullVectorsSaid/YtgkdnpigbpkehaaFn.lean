/-
  The resolved text of the functions, each tied to the program's own by the kernel.
-/
import Derived.Test.YtgkdnpigbpkehaaProg
import Derived.Test.YtgkdnpigbpkehaaFc
namespace Go.Proofs.Ytgkdnpigbpkehaa.M
open Go Go.RowKit
set_option maxRecDepth 100000

def r38 : RFunc := ⟨39, [.t 2, .t 3],
 (.seq
  (.reg [⟨(some 1), .m (.box (.t 0)), none⟩, ⟨(some 2), .v (.mov (.c .nils)), none⟩, ⟨(some 3), .v (.mov (.c (.bool false))), none⟩])
  (.seq
   (.seq
    (.reg [⟨(some 10), .v (.load true 3 (.t 1)), none⟩, ⟨(some 11), .call 59 [(.t 10)], none⟩, ⟨(some 12), .v (.un .not (.t 11)), none⟩])
    (.cond (.t 12)
     (.seq
      (.reg [⟨(some 2), .v (.mov (.c .nils)), none⟩, ⟨(some 3), .v (.mov (.c (.bool false))), none⟩])
      .ret)
     .skip))
   (.seq
    (.reg [⟨(some 14), .v (.load true 3 (.t 1)), none⟩, ⟨(some 15), .call 71 [(.t 14)], none⟩, ⟨(some 13), .v (.mov (.t 15)), none⟩, ⟨(some 16), .v (.ext (.t 13) 0), none⟩, ⟨(some 17), .v (.ext (.t 13) 1), none⟩, ⟨(some 4), .v (.mov (.t 16)), none⟩, ⟨(some 5), .v (.mov (.t 17)), none⟩])
    (.seq
     (.reg [⟨(some 6), .v (.mov (.c .nils)), none⟩])
     (.seq
      (.seq
       (.reg [⟨(some 18), .v (.load true 3 (.t 1)), none⟩, ⟨(some 19), .call 75 [(.t 18)], none⟩, ⟨(some 20), .v (.len (.t 19)), none⟩, ⟨(some 21), .v (.mov (.c (.int .i64 0))), none⟩])
       (.block 0
        (.loop
         (.seq
          (.reg [⟨(some 22), .v (.bin .lss (.t 21) (.t 20)), none⟩])
          (.seq
           (.cond (.t 22)
            .skip
            (.exit 0))
           (.seq
            (.block 1
             (.seq
              (.reg [⟨(some 23), .v (.iaddr 1 (.t 19) (.t 21)), none⟩, ⟨(some 24), .v (.load false 1 (.t 23)), none⟩, ⟨(some 8), .v (.mov (.t 24)), none⟩])
              (.seq
               (.reg [⟨(some 25), .v (.faddr 0 (.t 1)), none⟩, ⟨(some 26), .v (.load false 1 (.t 25)), none⟩, ⟨(some 27), .call 61 [(.t 26)], none⟩, ⟨(some 9), .m (.alloc [(.int .i64 0), .nils]), none⟩, ⟨none, .m (.store 2 (.t 9) (.t 27)), none⟩])
               (.seq
                (.reg [⟨(some 28), .v (.load true 2 (.t 9)), none⟩, ⟨(some 29), .v (.mov (.t 8)), none⟩, ⟨(some 30), .call 79 [(.t 28), (.t 29)], none⟩])
                (.reg [⟨(some 31), .v (.mov (.t 6)), none⟩, ⟨(some 32), .v (.mov (.t 4)), none⟩, ⟨(some 33), .v (.load true 2 (.t 9)), none⟩, ⟨(some 34), .call 80 [(.t 32), (.t 33), (.c (.bool false))], none⟩, ⟨(some 35), .m (.bsl 2 1 [(.int .i64 0), .nils] [(0, 2, (.t 34))]), none⟩, ⟨(some 36), .m (.app false 2 32 (.t 31) (.t 35)), none⟩, ⟨(some 6), .v (.mov (.t 36)), none⟩])))))
            (.reg [⟨(some 37), .v (.bin .add (.t 21) (.c (.int .i64 1))), none⟩, ⟨(some 21), .v (.mov (.t 37)), none⟩])))))))
      (.seq
       (.reg [⟨(some 38), .v (.mov (.t 6)), none⟩, ⟨(some 2), .v (.mov (.t 38)), none⟩, ⟨(some 3), .v (.mov (.c (.bool true))), none⟩])
       .ret))))))⟩
theorem e38 : rFunc Try.prog Try.f38 = some r38 := by kernel_rfl
def r39 : RFunc := ⟨53, [.t 2, .t 3],
 (.seq
  (.reg [⟨(some 1), .m (.box (.t 0)), none⟩, ⟨(some 2), .v (.mov (.c .nils)), none⟩, ⟨(some 3), .v (.mov (.c (.bool false))), none⟩])
  (.seq
   (.seq
    (.reg [⟨(some 12), .v (.load true 3 (.t 1)), none⟩, ⟨(some 13), .call 50 [(.t 12)], none⟩, ⟨(some 14), .v (.un .not (.t 13)), none⟩])
    (.cond (.t 14)
     (.seq
      (.reg [⟨(some 2), .v (.mov (.c .nils)), none⟩, ⟨(some 3), .v (.mov (.c (.bool false))), none⟩])
      .ret)
     .skip))
   (.seq
    (.reg [⟨(some 16), .v (.load true 3 (.t 1)), none⟩, ⟨(some 17), .call 72 [(.t 16)], none⟩, ⟨(some 15), .v (.mov (.t 17)), none⟩, ⟨(some 18), .v (.ext (.t 15) 0), none⟩, ⟨(some 19), .v (.ext (.t 15) 1), none⟩, ⟨(some 4), .v (.mov (.t 18)), none⟩, ⟨(some 5), .v (.mov (.t 19)), none⟩])
    (.seq
     (.reg [⟨(some 20), .m (.bsl 2 0 [(.int .i64 0), .nils] []), none⟩, ⟨(some 6), .v (.mov (.t 20)), none⟩])
     (.seq
      (.seq
       (.reg [⟨(some 21), .v (.load true 3 (.t 1)), none⟩, ⟨(some 22), .v (.mov (.t 4)), none⟩, ⟨(some 23), .call 76 [(.t 21), (.t 22)], none⟩, ⟨(some 24), .v (.len (.t 23)), none⟩, ⟨(some 25), .v (.mov (.c (.int .i64 0))), none⟩])
       (.block 0
        (.loop
         (.seq
          (.reg [⟨(some 26), .v (.bin .lss (.t 25) (.t 24)), none⟩])
          (.seq
           (.cond (.t 26)
            .skip
            (.exit 0))
           (.seq
            (.block 1
             (.seq
              (.reg [⟨(some 27), .v (.iaddr 1 (.t 23) (.t 25)), none⟩, ⟨(some 28), .v (.load false 1 (.t 27)), none⟩, ⟨(some 8), .v (.mov (.t 28)), none⟩])
              (.seq
               (.reg [⟨(some 29), .v (.faddr 0 (.t 1)), none⟩, ⟨(some 30), .v (.load false 1 (.t 29)), none⟩, ⟨(some 31), .call 67 [(.t 30)], none⟩, ⟨(some 9), .m (.alloc [(.int .i64 0), .nils]), none⟩, ⟨none, .m (.store 2 (.t 9) (.t 31)), none⟩])
               (.seq
                (.reg [⟨(some 32), .v (.mov (.t 8)), none⟩, ⟨(some 33), .call 81 [(.t 9), (.t 32), (.c (.bool true))], none⟩])
                (.seq
                 (.seq
                  (.reg [⟨(some 34), .v (.mov (.t 4)), none⟩, ⟨(some 35), .v (.len (.t 34)), none⟩, ⟨(some 36), .v (.mov (.c (.int .i64 0))), none⟩])
                  (.block 2
                   (.loop
                    (.seq
                     (.reg [⟨(some 37), .v (.bin .lss (.t 36) (.t 35)), none⟩])
                     (.seq
                      (.cond (.t 37)
                       .skip
                       (.exit 2))
                      (.seq
                       (.block 3
                        (.seq
                         (.reg [⟨(some 38), .v (.iaddr 4 (.t 34) (.t 36)), none⟩, ⟨(some 39), .v (.load true 4 (.t 38)), none⟩, ⟨(some 11), .m (.alloc [(.int .i64 0), .nils, (.bool false), (.int .u64 0)]), none⟩, ⟨none, .m (.store 4 (.t 11) (.t 39)), none⟩])
                         (.reg [⟨(some 40), .v (.faddr 0 (.t 11)), none⟩, ⟨(some 41), .call 69 [(.t 40), (.c (.int .i64 0)), (.c (.bool true))], none⟩, ⟨(some 42), .v (.faddr 0 (.t 11)), none⟩, ⟨(some 43), .v (.mov (.t 8)), none⟩, ⟨(some 44), .call 82 [(.t 42), (.t 43)], none⟩, ⟨(some 45), .call 81 [(.t 9), (.t 41), (.t 44)], none⟩])))
                       (.reg [⟨(some 46), .v (.bin .add (.t 36) (.c (.int .i64 1))), none⟩, ⟨(some 36), .v (.mov (.t 46)), none⟩])))))))
                 (.reg [⟨(some 47), .v (.mov (.t 6)), none⟩, ⟨(some 48), .v (.load true 2 (.t 9)), none⟩, ⟨(some 49), .m (.bsl 2 1 [(.int .i64 0), .nils] [(0, 2, (.t 48))]), none⟩, ⟨(some 50), .m (.app false 2 32 (.t 47) (.t 49)), none⟩, ⟨(some 6), .v (.mov (.t 50)), none⟩]))))))
            (.reg [⟨(some 51), .v (.bin .add (.t 25) (.c (.int .i64 1))), none⟩, ⟨(some 25), .v (.mov (.t 51)), none⟩])))))))
      (.seq
       (.reg [⟨(some 52), .v (.mov (.t 6)), none⟩, ⟨(some 2), .v (.mov (.t 52)), none⟩, ⟨(some 3), .v (.mov (.c (.bool true))), none⟩])
       .ret))))))⟩
theorem e39 : rFunc Try.prog Try.f39 = some r39 := by kernel_rfl
def r9 : RFunc := ⟨96, [.t 2],
 (.seq
  (.reg [⟨(some 1), .m (.box (.t 0)), none⟩, ⟨(some 2), .v (.mov (.c (.bool false))), none⟩])
  (.seq
   (.reg [⟨(some 3), .v (.mov (.c (.int .i64 1048576))), none⟩])
   (.seq
    (.reg [⟨(some 14), .v (.load true 3 (.t 1)), none⟩, ⟨(some 15), .v (.mov (.t 3)), none⟩, ⟨(some 16), .call 17 [(.t 14), (.t 15)], none⟩, ⟨(some 3), .v (.mov (.t 16)), none⟩])
    (.seq
     (.seq
      (.reg [⟨(some 17), .v (.mov (.t 3)), none⟩, ⟨(some 18), .v (.bin .lss (.t 17) (.c (.int .i64 0))), none⟩])
      (.cond (.t 18)
       (.seq
        (.reg [⟨(some 2), .v (.mov (.c (.bool true))), none⟩])
        .ret)
       .skip))
     (.seq
      (.reg [⟨(some 20), .v (.load true 3 (.t 1)), none⟩, ⟨(some 21), .call 19 [(.t 20)], none⟩, ⟨(some 22), .call 38 [(.t 21)], none⟩, ⟨(some 19), .v (.mov (.t 22)), none⟩, ⟨(some 23), .v (.ext (.t 19) 0), none⟩, ⟨(some 24), .v (.ext (.t 19) 1), none⟩, ⟨(some 4), .v (.mov (.t 23)), none⟩, ⟨(some 5), .v (.mov (.t 24)), none⟩])
      (.seq
       (.reg [⟨(some 25), .v (.load true 3 (.t 1)), none⟩, ⟨(some 26), .call 19 [(.t 25)], none⟩, ⟨(some 6), .m (.alloc [(.int .i64 0), .nils, .nils]), none⟩, ⟨none, .m (.store 3 (.t 6) (.t 26)), none⟩])
       (.seq
        (.reg [⟨(some 28), .v (.load true 3 (.t 6)), none⟩, ⟨(some 29), .call 39 [(.t 28)], none⟩, ⟨(some 27), .v (.mov (.t 29)), none⟩, ⟨(some 30), .v (.ext (.t 27) 0), none⟩, ⟨(some 31), .v (.ext (.t 27) 1), none⟩, ⟨(some 7), .v (.mov (.t 30)), none⟩, ⟨(some 8), .v (.mov (.t 31)), none⟩])
        (.seq
         (.seq
          (.reg [⟨(some 32), .v (.mov (.t 7)), none⟩, ⟨(some 33), .v (.mov (.t 4)), none⟩, ⟨(some 34), .call 40 [(.t 32), (.t 33)], none⟩, ⟨(some 35), .v (.un .not (.t 34)), none⟩, ⟨(some 36), .v (.mov (.t 35)), none⟩, ⟨(some 37), .v (.mov (.t 8)), (some (36, false))⟩, ⟨(some 38), .v (.mov (.t 5)), (some (36, false))⟩, ⟨(some 39), .v (.beq true (.t 37) (.t 38)), (some (36, false))⟩, ⟨(some 40), .v (.pick (.t 36) (.c (.bool true)) (.t 39)), none⟩])
          (.cond (.t 40)
           (.seq
            (.reg [⟨(some 2), .v (.mov (.c (.bool false))), none⟩])
            .ret)
           .skip))
         (.seq
          (.seq
           (.dreg (.fl ⟨(some 41), .v (.load true 3 (.t 6)), none⟩ (.fl ⟨(some 42), .v (.load true 3 (.t 1)), none⟩ (.nx ⟨(some 43), .call 19 [(.t 42)], none⟩ (.nx ⟨(some 44), .call 22 [(.t 41), (.t 43)], none⟩ (.fl ⟨(some 45), .v (.un .not (.t 44)), none⟩ .done))))))
           (.cond (.t 45)
            (.seq
             (.reg [⟨(some 2), .v (.mov (.c (.bool false))), none⟩])
             .ret)
            .skip))
          (.seq
           (.reg [⟨(some 9), .v (.mov (.c (.int .i64 1))), none⟩])
           (.seq
            (.reg [⟨(some 46), .v (.load true 3 (.t 6)), none⟩, ⟨(some 47), .v (.mov (.t 9)), none⟩, ⟨(some 48), .call 28 [(.t 46), (.t 47)], none⟩, ⟨(some 9), .v (.mov (.t 48)), none⟩])
            (.seq
             (.seq
              (.reg [⟨(some 49), .v (.mov (.t 9)), none⟩, ⟨(some 50), .v (.bin .lss (.t 49) (.c (.int .i64 0))), none⟩, ⟨(some 51), .v (.mov (.t 50)), none⟩, ⟨(some 52), .v (.mov (.t 7)), (some (51, false))⟩, ⟨(some 53), .v (.mov (.t 4)), (some (51, false))⟩, ⟨(some 54), .call 40 [(.t 52), (.t 53)], (some (51, false))⟩, ⟨(some 55), .v (.un .not (.t 54)), (some (51, false))⟩, ⟨(some 56), .v (.pick (.t 51) (.c (.bool true)) (.t 55)), none⟩, ⟨(some 57), .v (.mov (.t 56)), none⟩, ⟨(some 58), .v (.mov (.t 8)), (some (57, false))⟩, ⟨(some 59), .v (.mov (.t 5)), (some (57, false))⟩, ⟨(some 60), .v (.beq true (.t 58) (.t 59)), (some (57, false))⟩, ⟨(some 61), .v (.pick (.t 57) (.c (.bool true)) (.t 60)), none⟩])
              (.cond (.t 61)
               (.seq
                (.reg [⟨(some 2), .v (.mov (.c (.bool false))), none⟩])
                .ret)
               .skip))
             (.seq
              (.reg [⟨(some 10), .v (.mov (.c (.int .i64 1))), none⟩])
              (.seq
               (.reg [⟨(some 62), .v (.mov (.t 7)), none⟩, ⟨(some 63), .v (.mov (.t 10)), none⟩, ⟨(some 64), .call 41 [(.t 62), (.t 63)], none⟩, ⟨(some 10), .v (.mov (.t 64)), none⟩])
               (.seq
                (.reg [⟨(some 11), .v (.mov (.c (.int .i64 1))), none⟩])
                (.seq
                 (.reg [⟨(some 65), .v (.mov (.t 7)), none⟩, ⟨(some 66), .v (.mov (.t 11)), none⟩, ⟨(some 67), .call 42 [(.t 65), (.t 66)], none⟩, ⟨(some 11), .v (.mov (.t 67)), none⟩])
                 (.seq
                  (.seq
                   (.reg [⟨(some 68), .v (.mov (.t 11)), none⟩, ⟨(some 69), .v (.bin .lss (.t 68) (.c (.int .i64 0))), none⟩])
                   (.cond (.t 69)
                    (.seq
                     (.reg [⟨(some 2), .v (.mov (.c (.bool false))), none⟩])
                     .ret)
                    .skip))
                  (.seq
                   (.seq
                    (.reg [⟨(some 70), .v (.mov (.t 11)), none⟩, ⟨(some 71), .v (.mov (.t 10)), none⟩, ⟨(some 72), .v (.bin .neq (.t 70) (.t 71)), none⟩])
                    (.cond (.t 72)
                     (.seq
                      (.reg [⟨(some 2), .v (.mov (.c (.bool false))), none⟩])
                      .ret)
                     .skip))
                   (.seq
                    (.reg [⟨(some 74), .v (.load true 3 (.t 1)), none⟩, ⟨(some 75), .call 19 [(.t 74)], none⟩, ⟨(some 76), .call 39 [(.t 75)], none⟩, ⟨(some 73), .v (.mov (.t 76)), none⟩, ⟨(some 77), .v (.ext (.t 73) 0), none⟩, ⟨(some 78), .v (.ext (.t 73) 1), none⟩, ⟨(some 12), .v (.mov (.t 77)), none⟩, ⟨(some 13), .v (.mov (.t 78)), none⟩])
                    (.seq
                     (.seq
                      (.reg [⟨(some 79), .v (.mov (.t 12)), none⟩, ⟨(some 80), .v (.mov (.t 4)), none⟩, ⟨(some 81), .call 40 [(.t 79), (.t 80)], none⟩, ⟨(some 82), .v (.un .not (.t 81)), none⟩, ⟨(some 83), .v (.mov (.t 82)), none⟩, ⟨(some 84), .v (.mov (.t 13)), (some (83, false))⟩, ⟨(some 85), .v (.mov (.t 5)), (some (83, false))⟩, ⟨(some 86), .v (.beq true (.t 84) (.t 85)), (some (83, false))⟩, ⟨(some 87), .v (.pick (.t 83) (.c (.bool true)) (.t 86)), none⟩])
                      (.cond (.t 87)
                       (.seq
                        (.reg [⟨(some 2), .v (.mov (.c (.bool false))), none⟩])
                        .ret)
                       .skip))
                     (.seq
                      (.reg [⟨(some 11), .v (.mov (.c (.int .i64 1))), none⟩])
                      (.seq
                       (.reg [⟨(some 88), .v (.mov (.t 7)), none⟩, ⟨(some 89), .v (.mov (.t 11)), none⟩, ⟨(some 90), .call 42 [(.t 88), (.t 89)], none⟩, ⟨(some 11), .v (.mov (.t 90)), none⟩])
                       (.seq
                        (.seq
                         (.reg [⟨(some 91), .v (.mov (.t 11)), none⟩, ⟨(some 92), .v (.bin .lss (.t 91) (.c (.int .i64 0))), none⟩])
                         (.cond (.t 92)
                          (.seq
                           (.reg [⟨(some 2), .v (.mov (.c (.bool false))), none⟩])
                           .ret)
                          .skip))
                        (.seq
                         (.seq
                          (.reg [⟨(some 93), .v (.mov (.t 11)), none⟩, ⟨(some 94), .v (.mov (.t 10)), none⟩, ⟨(some 95), .v (.bin .neq (.t 93) (.t 94)), none⟩])
                          (.cond (.t 95)
                           (.seq
                            (.reg [⟨(some 2), .v (.mov (.c (.bool false))), none⟩])
                            .ret)
                           .skip))
                         (.seq
                          (.reg [⟨(some 2), .v (.mov (.c (.bool true))), none⟩])
                          .ret)))))))))))))))))))))))))⟩
theorem e9 : rFunc Try.prog Try.f9 = some r9 := by kernel_rfl
end Go.Proofs.Ytgkdnpigbpkehaa.M

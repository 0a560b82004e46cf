/-
  The resolved text of the functions, each tied to the program's own by the kernel.
-/
import Derived.Test.YtdkgoaiodjokpaaGreatProg
import Derived.Test.YtdkgoaiodjokpaaGreatFb
namespace Go.Proofs.YtdkgoaiodjokpaaGreat.M
open Go Go.RowKit
set_option maxRecDepth 100000

def r95 : RFunc := ⟨26, [.t 4],
 (.seq
  (.reg [⟨(some 4), .v (.mov (.c (.bool false))), none⟩])
  (.seq
   (.seq
    (.reg [⟨(some 6), .v (.mov (.t 0)), none⟩, ⟨(some 7), .v (.len (.t 6)), none⟩, ⟨(some 8), .v (.mov (.t 1)), none⟩, ⟨(some 9), .v (.len (.t 8)), none⟩, ⟨(some 10), .v (.bin .neq (.t 7) (.t 9)), none⟩])
    (.cond (.t 10)
     (.seq
      (.reg [⟨(some 4), .v (.mov (.c (.bool false))), none⟩])
      .ret)
     .skip))
   (.seq
    (.seq
     (.reg [⟨(some 11), .v (.mov (.t 0)), none⟩, ⟨(some 12), .v (.len (.t 11)), none⟩, ⟨(some 13), .v (.mov (.c (.int .i64 0))), none⟩])
     (.block 0
      (.loop
       (.seq
        (.reg [⟨(some 14), .v (.bin .lss (.t 13) (.t 12)), none⟩])
        (.seq
         (.cond (.t 14)
          .skip
          (.exit 0))
         (.seq
          (.block 1
           (.seq
            (.reg [⟨(some 15), .v (.mov (.t 13)), none⟩, ⟨(some 5), .v (.mov (.t 15)), none⟩])
            (.seq
             (.dreg (.fl ⟨(some 16), .v (.mov (.t 0)), none⟩ (.fl ⟨(some 17), .v (.mov (.t 5)), none⟩ (.fl ⟨(some 18), .v (.iaddr 1 (.t 16) (.t 17)), none⟩ (.fl ⟨(some 19), .v (.load false 1 (.t 18)), none⟩ (.fl ⟨(some 20), .v (.mov (.t 1)), none⟩ (.fl ⟨(some 21), .v (.mov (.t 5)), none⟩ (.fl ⟨(some 22), .v (.iaddr 1 (.t 20) (.t 21)), none⟩ (.fl ⟨(some 23), .v (.load false 1 (.t 22)), none⟩ (.fl ⟨(some 24), .v (.bin .neq (.t 19) (.t 23)), none⟩ .done))))))))))
             (.cond (.t 24)
              (.seq
               (.reg [⟨(some 4), .v (.mov (.c (.bool false))), none⟩])
               .ret)
              .skip))))
          (.reg [⟨(some 25), .v (.bin .add (.t 13) (.c (.int .i64 1))), none⟩, ⟨(some 13), .v (.mov (.t 25)), none⟩])))))))
    (.seq
     (.reg [⟨(some 4), .v (.mov (.c (.bool true))), none⟩])
     .ret))))⟩
theorem e95 : rFunc Tryz.prog Tryz.f95 = some r95 := by kernel_rfl
def r45 : RFunc := ⟨105, [.t 2, .t 3],
 (.seq
  (.reg [⟨(some 2), .v (.mov (.c .nils)), none⟩, ⟨(some 3), .v (.mov (.c (.bool false))), none⟩])
  (.seq
   (.seq
    (.dreg (.fl ⟨(some 9), .v (.mov (.t 0)), none⟩ (.fl ⟨(some 10), .v (.nchk (.t 9)), none⟩ (.fl ⟨(some 11), .v (.faddr 0 (.t 10)), none⟩ (.fl ⟨(some 12), .v (.load false 1 (.t 11)), none⟩ (.nx ⟨(some 13), .call 38 [(.t 12), (.c (.int .i64 1)), (.c (.int .i64 16))], none⟩ (.fl ⟨(some 14), .v (.un .not (.t 13)), none⟩ (.fl ⟨(some 15), .v (.mov (.t 14)), none⟩ (.fl ⟨(some 16), .v (.mov (.t 0)), (some (15, false))⟩ (.fl ⟨(some 17), .v (.nchk (.t 16)), (some (15, false))⟩ (.fl ⟨(some 18), .v (.faddr 1 (.t 17)), (some (15, false))⟩ (.fl ⟨(some 19), .v (.load false 1 (.t 18)), (some (15, false))⟩ (.fl ⟨(some 20), .v (.len (.t 19)), (some (15, false))⟩ (.fl ⟨(some 21), .v (.mov (.t 0)), (some (15, false))⟩ (.fl ⟨(some 22), .v (.nchk (.t 21)), (some (15, false))⟩ (.fl ⟨(some 23), .v (.faddr 2 (.t 22)), (some (15, false))⟩ (.fl ⟨(some 24), .v (.load false 1 (.t 23)), (some (15, false))⟩ (.fl ⟨(some 25), .v (.len (.t 24)), (some (15, false))⟩ (.fl ⟨(some 26), .v (.bin .neq (.t 20) (.t 25)), (some (15, false))⟩ (.fl ⟨(some 27), .v (.pick (.t 15) (.c (.bool true)) (.t 26)), none⟩ (.fl ⟨(some 28), .v (.mov (.t 27)), none⟩ (.fl ⟨(some 29), .v (.mov (.t 0)), (some (28, false))⟩ (.fl ⟨(some 30), .v (.nchk (.t 29)), (some (28, false))⟩ (.fl ⟨(some 31), .v (.faddr 2 (.t 30)), (some (28, false))⟩ (.fl ⟨(some 32), .v (.load false 1 (.t 31)), (some (28, false))⟩ (.fl ⟨(some 33), .v (.len (.t 32)), (some (28, false))⟩ (.fl ⟨(some 34), .v (.bin .gtr (.t 33) (.c (.int .i64 40))), (some (28, false))⟩ (.fl ⟨(some 35), .v (.pick (.t 28) (.c (.bool true)) (.t 34)), none⟩ .done))))))))))))))))))))))))))))
    (.cond (.t 35)
     (.seq
      (.reg [⟨(some 2), .v (.mov (.c .nils)), none⟩, ⟨(some 3), .v (.mov (.c (.bool false))), none⟩])
      .ret)
     .skip))
   (.seq
    (.reg [⟨(some 36), .m (.bsl 1 0 [(.str [])] []), none⟩, ⟨(some 4), .v (.mov (.t 36)), none⟩, ⟨(some 5), .v (.mov (.c (.str []))), none⟩])
    (.seq
     (.seq
      (.reg [⟨(some 37), .v (.mov (.t 0)), none⟩, ⟨(some 38), .v (.nchk (.t 37)), none⟩, ⟨(some 39), .v (.faddr 1 (.t 38)), none⟩, ⟨(some 40), .v (.load false 1 (.t 39)), none⟩, ⟨(some 41), .v (.len (.t 40)), none⟩, ⟨(some 42), .v (.mov (.c (.int .i64 0))), none⟩])
      (.block 0
       (.loop
        (.seq
         (.reg [⟨(some 43), .v (.bin .lss (.t 42) (.t 41)), none⟩])
         (.seq
          (.cond (.t 43)
           .skip
           (.exit 0))
          (.seq
           (.block 1
            (.seq
             (.reg [⟨(some 44), .v (.mov (.t 42)), none⟩, ⟨(some 45), .v (.iaddr 1 (.t 40) (.t 42)), none⟩, ⟨(some 46), .v (.load false 1 (.t 45)), none⟩, ⟨(some 6), .v (.mov (.t 44)), none⟩, ⟨(some 7), .v (.mov (.t 46)), none⟩])
             (.seq
              (.seq
               (.reg [⟨(some 47), .v (.mov (.t 7)), none⟩, ⟨(some 48), .v (.mov (.t 5)), none⟩, ⟨(some 49), .v (.lens (.t 48)), none⟩, ⟨(some 50), .call 38 [(.t 47), (.c (.int .i64 0)), (.t 49)], none⟩, ⟨(some 51), .v (.un .not (.t 50)), none⟩, ⟨(some 52), .v (.mov (.t 51)), none⟩, ⟨(some 53), .v (.mov (.t 0)), (some (52, false))⟩, ⟨(some 54), .v (.nchk (.t 53)), (some (52, false))⟩, ⟨(some 55), .v (.faddr 2 (.t 54)), (some (52, false))⟩, ⟨(some 56), .v (.load false 1 (.t 55)), (some (52, false))⟩, ⟨(some 57), .v (.mov (.t 6)), (some (52, false))⟩, ⟨(some 58), .v (.iaddr 1 (.t 56) (.t 57)), (some (52, false))⟩, ⟨(some 59), .v (.load false 1 (.t 58)), (some (52, false))⟩, ⟨(some 60), .v (.lens (.t 59)), (some (52, false))⟩, ⟨(some 61), .v (.bin .gtr (.t 60) (.c (.int .i64 12))), (some (52, false))⟩, ⟨(some 62), .v (.pick (.t 52) (.c (.bool true)) (.t 61)), none⟩])
               (.cond (.t 62)
                (.seq
                 (.reg [⟨(some 2), .v (.mov (.c .nils)), none⟩, ⟨(some 3), .v (.mov (.c (.bool false))), none⟩])
                 .ret)
                .skip))
              (.seq
               (.dreg (.fl ⟨(some 63), .v (.mov (.t 5)), none⟩ (.fl ⟨(some 64), .v (.mov (.t 7)), none⟩ (.fl ⟨(some 65), .v (.sstr (.t 63) none (some (.t 64))), none⟩ (.fl ⟨(some 66), .v (.mov (.t 0)), none⟩ (.fl ⟨(some 67), .v (.nchk (.t 66)), none⟩ (.fl ⟨(some 68), .v (.faddr 2 (.t 67)), none⟩ (.fl ⟨(some 69), .v (.load false 1 (.t 68)), none⟩ (.fl ⟨(some 70), .v (.mov (.t 6)), none⟩ (.fl ⟨(some 71), .v (.iaddr 1 (.t 69) (.t 70)), none⟩ (.fl ⟨(some 72), .v (.load false 1 (.t 71)), none⟩ (.fl ⟨(some 73), .v (.bin .add (.t 65) (.t 72)), none⟩ (.fl ⟨(some 5), .v (.mov (.t 73)), none⟩ .done)))))))))))))
               (.reg [⟨(some 74), .v (.mov (.t 4)), none⟩, ⟨(some 75), .v (.mov (.t 5)), none⟩, ⟨(some 76), .m (.bsl 1 1 [(.str [])] [(0, 1, (.t 75))]), none⟩, ⟨(some 77), .m (.app false 1 16 (.t 74) (.t 76)), none⟩, ⟨(some 4), .v (.mov (.t 77)), none⟩])))))
           (.reg [⟨(some 78), .v (.bin .add (.t 42) (.c (.int .i64 1))), none⟩, ⟨(some 42), .v (.mov (.t 78)), none⟩])))))))
     (.seq
      (.seq
       (.reg [⟨(some 79), .v (.mov (.t 4)), none⟩, ⟨(some 80), .call 36 [(.t 79)], none⟩, ⟨(some 81), .v (.un .not (.t 80)), none⟩])
       (.cond (.t 81)
        (.seq
         (.reg [⟨(some 2), .v (.mov (.c .nils)), none⟩, ⟨(some 3), .v (.mov (.c (.bool false))), none⟩])
         .ret)
        .skip))
      (.seq
       (.reg [⟨(some 82), .v (.mov (.t 4)), none⟩, ⟨(some 83), .v (.mov (.t 0)), none⟩, ⟨(some 84), .v (.nchk (.t 83)), none⟩, ⟨(some 85), .v (.faddr 0 (.t 84)), none⟩, ⟨(some 86), .v (.load false 1 (.t 85)), none⟩, ⟨(some 87), .call 39 [(.t 82), (.t 86)], none⟩, ⟨(some 8), .m (.alloc [(.int .i64 0), .nils, .nils]), none⟩, ⟨none, .m (.store 3 (.t 8) (.t 87)), none⟩])
       (.seq
        (.dreg (.fl ⟨(some 88), .v (.mov (.t 4)), none⟩ (.fl ⟨(some 89), .v (.faddr 1 (.t 8)), none⟩ (.fl ⟨(some 90), .v (.load false 1 (.t 89)), none⟩ (.fl ⟨(some 91), .v (.mov (.t 0)), none⟩ (.fl ⟨(some 92), .v (.nchk (.t 91)), none⟩ (.fl ⟨(some 93), .v (.faddr 1 (.t 92)), none⟩ (.fl ⟨(some 94), .v (.load false 1 (.t 93)), none⟩ (.nx ⟨(some 95), .call 94 [(.t 90), (.t 94)], none⟩ (.fl ⟨(some 96), .v (.mov (.t 95)), none⟩ (.fl ⟨(some 97), .v (.faddr 2 (.t 8)), (some (96, true))⟩ (.fl ⟨(some 98), .v (.load false 1 (.t 97)), (some (96, true))⟩ (.fl ⟨(some 99), .v (.mov (.t 0)), (some (96, true))⟩ (.fl ⟨(some 100), .v (.nchk (.t 99)), (some (96, true))⟩ (.fl ⟨(some 101), .v (.faddr 2 (.t 100)), (some (96, true))⟩ (.fl ⟨(some 102), .v (.load false 1 (.t 101)), (some (96, true))⟩ (.nx ⟨(some 103), .call 95 [(.t 98), (.t 102)], (some (96, true))⟩ (.fl ⟨(some 104), .v (.pick (.t 96) (.t 103) (.c (.bool false))), none⟩ (.fl ⟨(some 2), .v (.mov (.t 88)), none⟩ (.fl ⟨(some 3), .v (.mov (.t 104)), none⟩ .done))))))))))))))))))))
        .ret)))))))⟩
theorem e45 : rFunc Tryz.prog Tryz.f45 = some r45 := by kernel_rfl
end Go.Proofs.YtdkgoaiodjokpaaGreat.M

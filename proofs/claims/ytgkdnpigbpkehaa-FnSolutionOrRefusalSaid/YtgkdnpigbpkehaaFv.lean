/-
  The resolved text of the functions, each tied to the program's own by the kernel.
-/
import Derived.Test.YtgkdnpigbpkehaaProg
import Derived.Test.YtgkdnpigbpkehaaFu
namespace Go.Proofs.Ytgkdnpigbpkehaa.M
open Go Go.RowKit
set_option maxRecDepth 100000

def r77 : RFunc := ⟨20, [.cell true 2 2, .t 3],
 (.seq
  (.reg [⟨(some 1), .m (.box (.t 0)), none⟩, ⟨(some 2), .m (.alloc [(.int .i64 0), .nils]), none⟩, ⟨(some 3), .v (.mov (.c (.bool false))), none⟩])
  (.seq
   (.reg [⟨(some 7), .v (.load true 3 (.t 1)), none⟩, ⟨(some 8), .call 71 [(.t 7)], none⟩, ⟨(some 6), .v (.mov (.t 8)), none⟩, ⟨(some 9), .v (.ext (.t 6) 0), none⟩, ⟨(some 10), .v (.ext (.t 6) 1), none⟩, ⟨(some 4), .v (.mov (.t 9)), none⟩, ⟨(some 5), .v (.mov (.t 10)), none⟩])
   (.seq
    (.seq
     (.reg [⟨(some 11), .v (.mov (.t 5)), none⟩, ⟨(some 12), .v (.len (.t 11)), none⟩, ⟨(some 13), .v (.bin .gtr (.t 12) (.c (.int .i64 0))), none⟩])
     (.cond (.t 13)
      (.seq
       (.reg [⟨(some 14), .v (.bld [(.int .i64 0), .nils] []), none⟩, ⟨none, .m (.store 2 (.t 2) (.t 14)), none⟩, ⟨(some 3), .v (.mov (.c (.bool false))), none⟩])
       .ret)
      .skip))
    (.seq
     (.reg [⟨(some 15), .v (.mov (.t 4)), none⟩, ⟨(some 16), .v (.faddr 0 (.t 1)), none⟩, ⟨(some 17), .v (.load false 1 (.t 16)), none⟩, ⟨(some 18), .call 61 [(.t 17)], none⟩, ⟨(some 19), .call 80 [(.t 15), (.t 18), (.c (.bool true))], none⟩, ⟨none, .m (.store 2 (.t 2) (.t 19)), none⟩, ⟨(some 3), .v (.mov (.c (.bool true))), none⟩])
     .ret))))⟩
theorem e77 : rFunc Try.prog Try.f77 = some r77 := by kernel_rfl
def r51 : RFunc := ⟨51, [.cell true 3 2, .cell true 2 3],
 (.seq
  (.reg [⟨(some 2), .m (.alloc [(.int .i64 0), .nils, .nils]), none⟩, ⟨(some 3), .m (.alloc [(.int .i64 0), .nils]), none⟩])
  (.seq
   (.reg [⟨(some 10), .v (.mov (.t 0)), none⟩, ⟨(some 11), .v (.bld [.nils, (.int .i64 0), (.int .u64 0)] [(0, 1, (.t 10))]), none⟩, ⟨(some 12), .m (.box (.t 11)), none⟩, ⟨(some 4), .v (.mov (.t 12)), none⟩])
   (.seq
    (.reg [⟨(some 13), .v (.mov (.t 0)), none⟩, ⟨(some 14), .call 44 [(.t 13)], none⟩, ⟨(some 5), .m (.alloc [(.int .i64 0), .nils, .nils]), none⟩, ⟨none, .m (.store 3 (.t 5) (.t 14)), none⟩])
    (.seq
     (.seq
      (.reg [⟨(some 15), .v (.load true 3 (.t 5)), none⟩, ⟨(some 16), .call 59 [(.t 15)], none⟩, ⟨(some 17), .v (.mov (.t 16)), none⟩, ⟨(some 18), .v (.mov (.t 4)), (some (17, true))⟩, ⟨(some 19), .call 84 [(.t 18), (.c (.int .i64 2))], (some (17, true))⟩, ⟨(some 20), .v (.pick (.t 17) (.t 19) (.c (.bool false))), none⟩])
      (.cond (.t 20)
       (.seq
        (.reg [⟨(some 22), .v (.load true 3 (.t 5)), none⟩, ⟨(some 23), .call 77 [(.t 22)], none⟩, ⟨(some 21), .v (.mov (.t 23)), none⟩, ⟨(some 24), .v (.ext (.t 21) 0), none⟩, ⟨(some 25), .v (.ext (.t 21) 1), none⟩, ⟨(some 6), .m (.alloc [(.int .i64 0), .nils]), none⟩, ⟨none, .m (.store 2 (.t 6) (.t 24)), none⟩, ⟨(some 7), .v (.mov (.t 25)), none⟩])
        (.seq
         (.reg [⟨(some 26), .v (.mov (.t 7)), none⟩])
         (.cond (.t 26)
          (.seq
           (.dreg (.both (.nx ⟨(some 27), .v (.load true 3 (.t 5)), none⟩ (.both (.nx ⟨(some 28), .v (.load true 2 (.t 6)), none⟩ (.nx ⟨none, .m (.store 3 (.t 2) (.t 27)), none⟩ (.nx ⟨none, .m (.store 2 (.t 3) (.t 28)), none⟩ .done))) (.nx ⟨none, .m (.store 3 (.t 2) (.t 27)), none⟩ (.nx ⟨(some 28), .v (.load true 2 (.t 6)), none⟩ (.nx ⟨none, .m (.store 2 (.t 3) (.t 28)), none⟩ .done))))) (.nx ⟨(some 28), .v (.load true 2 (.t 6)), none⟩ (.nx ⟨(some 27), .v (.load true 3 (.t 5)), none⟩ (.nx ⟨none, .m (.store 3 (.t 2) (.t 27)), none⟩ (.nx ⟨none, .m (.store 2 (.t 3) (.t 28)), none⟩ .done))))))
           .ret)
          .skip)))
       .skip))
     (.seq
      (.seq
       (.reg [⟨(some 29), .v (.mov (.t 4)), none⟩, ⟨(some 30), .call 84 [(.t 29), (.c (.int .i64 6))], none⟩])
       (.cond (.t 30)
        (.seq
         (.dreg (.fl ⟨(some 32), .v (.mov (.t 4)), none⟩ (.both (.nx ⟨(some 31), .v (.load true 3 (.t 5)), none⟩ (.nx ⟨(some 33), .call 92 [(.t 32)], none⟩ (.nx ⟨none, .m (.store 3 (.t 2) (.t 31)), none⟩ (.nx ⟨none, .m (.store 2 (.t 3) (.t 33)), none⟩ .done)))) (.nx ⟨(some 33), .call 92 [(.t 32)], none⟩ (.nx ⟨(some 31), .v (.load true 3 (.t 5)), none⟩ (.nx ⟨none, .m (.store 3 (.t 2) (.t 31)), none⟩ (.nx ⟨none, .m (.store 2 (.t 3) (.t 33)), none⟩ .done)))))))
         .ret)
        .skip))
      (.seq
       (.reg [⟨(some 34), .v (.faddr 0 (.t 5)), none⟩, ⟨(some 35), .v (.load false 1 (.t 34)), none⟩, ⟨(some 36), .call 93 [(.t 35), (.c (.int .i64 80))], none⟩, ⟨(some 37), .call 61 [(.t 36)], none⟩, ⟨(some 8), .m (.alloc [(.int .i64 0), .nils]), none⟩, ⟨none, .m (.store 2 (.t 8) (.t 37)), none⟩])
       (.seq
        (.seq
         (.reg [⟨(some 9), .v (.mov (.c (.int .i64 0))), none⟩])
         (.block 0
          (.loop
           (.seq
            (.seq
             (.reg [⟨(some 38), .v (.mov (.t 9)), none⟩, ⟨(some 39), .v (.faddr 0 (.t 8)), none⟩, ⟨(some 40), .v (.load false 1 (.t 39)), none⟩, ⟨(some 41), .v (.bin .lss (.t 38) (.t 40)), none⟩])
             (.cond (.t 41)
              .skip
              (.exit 0)))
            (.seq
             (.block 1
              (.seq
               (.reg [⟨(some 44), .v (.mov (.t 4)), none⟩, ⟨(some 45), .call 84 [(.t 44), (.c (.int .i64 2))], none⟩])
               (.cond (.t 45)
                (.reg [⟨(some 46), .v (.load true 2 (.t 8)), none⟩, ⟨(some 47), .v (.mov (.t 9)), none⟩, ⟨(some 48), .call 79 [(.t 46), (.t 47)], none⟩])
                .skip)))
             (.reg [⟨(some 42), .v (.mov (.t 9)), none⟩, ⟨(some 43), .v (.bin .add (.t 42) (.c (.int .i64 1))), none⟩, ⟨(some 9), .v (.mov (.t 43)), none⟩]))))))
        (.seq
         (.dreg (.both (.nx ⟨(some 49), .v (.load true 3 (.t 5)), none⟩ (.both (.nx ⟨(some 50), .v (.load true 2 (.t 8)), none⟩ (.nx ⟨none, .m (.store 3 (.t 2) (.t 49)), none⟩ (.nx ⟨none, .m (.store 2 (.t 3) (.t 50)), none⟩ .done))) (.nx ⟨none, .m (.store 3 (.t 2) (.t 49)), none⟩ (.nx ⟨(some 50), .v (.load true 2 (.t 8)), none⟩ (.nx ⟨none, .m (.store 2 (.t 3) (.t 50)), none⟩ .done))))) (.nx ⟨(some 50), .v (.load true 2 (.t 8)), none⟩ (.nx ⟨(some 49), .v (.load true 3 (.t 5)), none⟩ (.nx ⟨none, .m (.store 3 (.t 2) (.t 49)), none⟩ (.nx ⟨none, .m (.store 2 (.t 3) (.t 50)), none⟩ .done))))))
         .ret))))))))⟩
theorem e51 : rFunc Try.prog Try.f51 = some r51 := by kernel_rfl
end Go.Proofs.Ytgkdnpigbpkehaa.M

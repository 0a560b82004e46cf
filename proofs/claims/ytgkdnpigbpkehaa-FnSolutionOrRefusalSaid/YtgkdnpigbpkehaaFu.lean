/-
  The resolved text of the functions, each tied to the program's own by the kernel.
-/
import Derived.Test.YtgkdnpigbpkehaaProg
import Derived.Test.YtgkdnpigbpkehaaFt
namespace Go.Proofs.Ytgkdnpigbpkehaa.M
open Go Go.RowKit
set_option maxRecDepth 100000

def r53 : RFunc := ⟨56, [.cell true 3 2, .t 3],
 (.seq
  (.reg [⟨(some 2), .m (.alloc [(.int .i64 0), .nils, .nils]), none⟩, ⟨(some 3), .v (.mov (.c .nils)), none⟩])
  (.seq
   (.reg [⟨(some 10), .v (.mov (.t 0)), none⟩, ⟨(some 11), .v (.bld [.nils, (.int .i64 0), (.int .u64 0)] [(0, 1, (.t 10))]), none⟩, ⟨(some 12), .m (.box (.t 11)), none⟩, ⟨(some 4), .v (.mov (.t 12)), none⟩])
   (.seq
    (.reg [⟨(some 13), .v (.mov (.t 4)), none⟩, ⟨(some 14), .call 83 [(.t 13)], none⟩, ⟨(some 5), .m (.alloc [(.int .i64 0), .nils, .nils]), none⟩, ⟨none, .m (.store 3 (.t 5) (.t 14)), none⟩])
    (.seq
     (.seq
      (.reg [⟨(some 15), .v (.load true 3 (.t 5)), none⟩, ⟨(some 16), .call 59 [(.t 15)], none⟩, ⟨(some 17), .v (.mov (.t 16)), none⟩, ⟨(some 18), .v (.mov (.t 4)), (some (17, true))⟩, ⟨(some 19), .call 84 [(.t 18), (.c (.int .i64 2))], (some (17, true))⟩, ⟨(some 20), .v (.pick (.t 17) (.t 19) (.c (.bool false))), none⟩])
      (.cond (.t 20)
       (.seq
        (.reg [⟨(some 22), .v (.load true 3 (.t 5)), none⟩, ⟨(some 23), .call 71 [(.t 22)], none⟩, ⟨(some 21), .v (.mov (.t 23)), none⟩, ⟨(some 24), .v (.ext (.t 21) 0), none⟩, ⟨(some 25), .v (.ext (.t 21) 1), none⟩, ⟨(some 6), .v (.mov (.t 24)), none⟩, ⟨(some 7), .v (.mov (.t 25)), none⟩])
        (.seq
         (.reg [⟨(some 26), .v (.mov (.t 7)), none⟩, ⟨(some 27), .v (.len (.t 26)), none⟩, ⟨(some 28), .v (.bin .gtr (.t 27) (.c (.int .i64 0))), none⟩])
         (.cond (.t 28)
          (.seq
           (.reg [⟨(some 29), .v (.load true 3 (.t 5)), none⟩, ⟨(some 30), .v (.mov (.t 7)), none⟩, ⟨none, .m (.store 3 (.t 2) (.t 29)), none⟩, ⟨(some 3), .v (.mov (.t 30)), none⟩])
           .ret)
          .skip)))
       .skip))
     (.seq
      (.reg [⟨(some 8), .v (.mov (.c .nils)), none⟩])
      (.seq
       (.seq
        (.reg [⟨(some 31), .v (.faddr 1 (.t 5)), none⟩, ⟨(some 32), .v (.load false 1 (.t 31)), none⟩, ⟨(some 33), .v (.len (.t 32)), none⟩, ⟨(some 34), .v (.mov (.c (.int .i64 0))), none⟩])
        (.block 0
         (.loop
          (.seq
           (.reg [⟨(some 35), .v (.bin .lss (.t 34) (.t 33)), none⟩])
           (.seq
            (.cond (.t 35)
             .skip
             (.exit 0))
            (.seq
             (.block 1
              (.seq
               (.reg [⟨(some 36), .v (.mov (.t 34)), none⟩, ⟨(some 9), .v (.mov (.t 36)), none⟩])
               (.seq
                (.reg [⟨(some 37), .v (.mov (.t 4)), none⟩, ⟨(some 38), .call 84 [(.t 37), (.c (.int .i64 2))], none⟩])
                (.cond (.t 38)
                 (.reg [⟨(some 39), .v (.mov (.t 8)), none⟩, ⟨(some 40), .v (.mov (.t 9)), none⟩, ⟨(some 41), .m (.bsl 1 1 [(.int .i64 0)] [(0, 1, (.t 40))]), none⟩, ⟨(some 42), .m (.app false 1 8 (.t 39) (.t 41)), none⟩, ⟨(some 8), .v (.mov (.t 42)), none⟩])
                 .skip))))
             (.reg [⟨(some 43), .v (.bin .add (.t 34) (.c (.int .i64 1))), none⟩, ⟨(some 34), .v (.mov (.t 43)), none⟩])))))))
       (.seq
        (.seq
         (.reg [⟨(some 44), .v (.mov (.t 4)), none⟩, ⟨(some 45), .call 84 [(.t 44), (.c (.int .i64 8))], none⟩])
         (.cond (.t 45)
          (.reg [⟨(some 46), .v (.mov (.t 8)), none⟩, ⟨(some 47), .v (.mov (.t 4)), none⟩, ⟨(some 48), .v (.faddr 1 (.t 5)), none⟩, ⟨(some 49), .v (.load false 1 (.t 48)), none⟩, ⟨(some 50), .v (.len (.t 49)), none⟩, ⟨(some 51), .call 95 [(.t 47), (.t 50)], none⟩, ⟨(some 52), .m (.bsl 1 1 [(.int .i64 0)] [(0, 1, (.t 51))]), none⟩, ⟨(some 53), .m (.app false 1 8 (.t 46) (.t 52)), none⟩, ⟨(some 8), .v (.mov (.t 53)), none⟩])
          .skip))
        (.seq
         (.reg [⟨(some 54), .v (.load true 3 (.t 5)), none⟩, ⟨(some 55), .v (.mov (.t 8)), none⟩, ⟨none, .m (.store 3 (.t 2) (.t 54)), none⟩, ⟨(some 3), .v (.mov (.t 55)), none⟩])
         .ret))))))))⟩
theorem e53 : rFunc Try.prog Try.f53 = some r53 := by kernel_rfl
end Go.Proofs.Ytgkdnpigbpkehaa.M

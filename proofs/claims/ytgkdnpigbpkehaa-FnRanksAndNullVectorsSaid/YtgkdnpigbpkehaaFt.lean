/-
  The resolved text of the functions, each tied to the program's own by the kernel.
-/
import Derived.Test.YtgkdnpigbpkehaaProg
import Derived.Test.YtgkdnpigbpkehaaFs
namespace Go.Proofs.Ytgkdnpigbpkehaa.M
open Go Go.RowKit
set_option maxRecDepth 100000

def r44 : RFunc := ⟨52, [.cell true 3 2],
 (.seq
  (.reg [⟨(some 2), .m (.alloc [(.int .i64 0), .nils, .nils]), none⟩])
  (.seq
   (.reg [⟨(some 9), .v (.mov (.t 0)), none⟩, ⟨(some 10), .v (.bld [.nils, (.int .i64 0), (.int .u64 0)] [(0, 1, (.t 9))]), none⟩, ⟨(some 11), .m (.box (.t 10)), none⟩, ⟨(some 3), .v (.mov (.t 11)), none⟩])
   (.seq
    (.reg [⟨(some 12), .v (.mov (.t 3)), none⟩, ⟨(some 13), .call 83 [(.t 12)], none⟩, ⟨(some 4), .m (.alloc [(.int .i64 0), .nils, .nils]), none⟩, ⟨none, .m (.store 3 (.t 4) (.t 13)), none⟩])
    (.seq
     (.seq
      (.reg [⟨(some 14), .v (.load true 3 (.t 4)), none⟩, ⟨(some 15), .call 59 [(.t 14)], none⟩, ⟨(some 16), .v (.mov (.t 15)), none⟩, ⟨(some 17), .v (.mov (.t 3)), (some (16, true))⟩, ⟨(some 18), .call 84 [(.t 17), (.c (.int .i64 3))], (some (16, true))⟩, ⟨(some 19), .v (.un .not (.t 18)), (some (16, true))⟩, ⟨(some 20), .v (.pick (.t 16) (.t 19) (.c (.bool false))), none⟩])
      (.cond (.t 20)
       (.seq
        (.reg [⟨(some 21), .v (.faddr 0 (.t 4)), none⟩, ⟨(some 22), .v (.load false 1 (.t 21)), none⟩, ⟨(some 23), .call 61 [(.t 22)], none⟩, ⟨(some 5), .m (.alloc [(.int .i64 0), .nils]), none⟩, ⟨none, .m (.store 2 (.t 5) (.t 23)), none⟩])
        (.seq
         (.seq
          (.reg [⟨(some 6), .v (.mov (.c (.int .i64 0))), none⟩])
          (.block 0
           (.loop
            (.seq
             (.seq
              (.reg [⟨(some 24), .v (.mov (.t 6)), none⟩, ⟨(some 25), .v (.faddr 0 (.t 4)), none⟩, ⟨(some 26), .v (.load false 1 (.t 25)), none⟩, ⟨(some 27), .v (.bin .lss (.t 24) (.t 26)), none⟩])
              (.cond (.t 27)
               .skip
               (.exit 0)))
             (.seq
              (.block 1
               (.seq
                (.reg [⟨(some 30), .v (.mov (.t 3)), none⟩, ⟨(some 31), .call 84 [(.t 30), (.c (.int .i64 2))], none⟩])
                (.cond (.t 31)
                 (.reg [⟨(some 32), .v (.load true 2 (.t 5)), none⟩, ⟨(some 33), .v (.mov (.t 6)), none⟩, ⟨(some 34), .call 79 [(.t 32), (.t 33)], none⟩])
                 .skip)))
              (.reg [⟨(some 28), .v (.mov (.t 6)), none⟩, ⟨(some 29), .v (.bin .add (.t 28) (.c (.int .i64 1))), none⟩, ⟨(some 6), .v (.mov (.t 29)), none⟩]))))))
         (.seq
          (.reg [⟨(some 35), .v (.faddr 1 (.t 4)), none⟩, ⟨(some 36), .v (.load false 1 (.t 35)), none⟩, ⟨(some 37), .v (.len (.t 36)), none⟩, ⟨(some 38), .v (.mov (.c (.int .i64 0))), none⟩])
          (.block 2
           (.loop
            (.seq
             (.reg [⟨(some 39), .v (.bin .lss (.t 38) (.t 37)), none⟩])
             (.seq
              (.cond (.t 39)
               .skip
               (.exit 2))
              (.seq
               (.block 3
                (.seq
                 (.reg [⟨(some 40), .v (.mov (.t 38)), none⟩, ⟨(some 41), .v (.iaddr 2 (.t 36) (.t 38)), none⟩, ⟨(some 42), .v (.load true 2 (.t 41)), none⟩, ⟨(some 8), .m (.alloc [(.int .i64 0), .nils]), none⟩, ⟨(some 7), .v (.mov (.t 40)), none⟩, ⟨none, .m (.store 2 (.t 8) (.t 42)), none⟩])
                 (.dreg (.fl ⟨(some 43), .v (.faddr 2 (.t 4)), none⟩ (.fl ⟨(some 45), .v (.mov (.t 7)), none⟩ (.both (.nx ⟨(some 44), .v (.load false 1 (.t 43)), none⟩ (.both (.nx ⟨(some 46), .v (.load true 2 (.t 8)), none⟩ (.nx ⟨(some 47), .v (.load true 2 (.t 5)), none⟩ (.nx ⟨(some 48), .call 85 [(.t 46), (.t 47)], none⟩ (.fl ⟨(some 49), .v (.iaddr 1 (.t 44) (.t 45)), none⟩ (.nx ⟨none, .m (.store 1 (.t 49) (.t 48)), none⟩ .done))))) (.nx ⟨(some 47), .v (.load true 2 (.t 5)), none⟩ (.nx ⟨(some 46), .v (.load true 2 (.t 8)), none⟩ (.nx ⟨(some 48), .call 85 [(.t 46), (.t 47)], none⟩ (.fl ⟨(some 49), .v (.iaddr 1 (.t 44) (.t 45)), none⟩ (.nx ⟨none, .m (.store 1 (.t 49) (.t 48)), none⟩ .done))))))) (.both (.nx ⟨(some 46), .v (.load true 2 (.t 8)), none⟩ (.both (.nx ⟨(some 44), .v (.load false 1 (.t 43)), none⟩ (.nx ⟨(some 47), .v (.load true 2 (.t 5)), none⟩ (.nx ⟨(some 48), .call 85 [(.t 46), (.t 47)], none⟩ (.fl ⟨(some 49), .v (.iaddr 1 (.t 44) (.t 45)), none⟩ (.nx ⟨none, .m (.store 1 (.t 49) (.t 48)), none⟩ .done))))) (.nx ⟨(some 47), .v (.load true 2 (.t 5)), none⟩ (.both (.nx ⟨(some 44), .v (.load false 1 (.t 43)), none⟩ (.nx ⟨(some 48), .call 85 [(.t 46), (.t 47)], none⟩ (.fl ⟨(some 49), .v (.iaddr 1 (.t 44) (.t 45)), none⟩ (.nx ⟨none, .m (.store 1 (.t 49) (.t 48)), none⟩ .done)))) (.nx ⟨(some 48), .call 85 [(.t 46), (.t 47)], none⟩ (.nx ⟨(some 44), .v (.load false 1 (.t 43)), none⟩ (.fl ⟨(some 49), .v (.iaddr 1 (.t 44) (.t 45)), none⟩ (.nx ⟨none, .m (.store 1 (.t 49) (.t 48)), none⟩ .done)))))))) (.nx ⟨(some 47), .v (.load true 2 (.t 5)), none⟩ (.both (.nx ⟨(some 44), .v (.load false 1 (.t 43)), none⟩ (.nx ⟨(some 46), .v (.load true 2 (.t 8)), none⟩ (.nx ⟨(some 48), .call 85 [(.t 46), (.t 47)], none⟩ (.fl ⟨(some 49), .v (.iaddr 1 (.t 44) (.t 45)), none⟩ (.nx ⟨none, .m (.store 1 (.t 49) (.t 48)), none⟩ .done))))) (.nx ⟨(some 46), .v (.load true 2 (.t 8)), none⟩ (.both (.nx ⟨(some 44), .v (.load false 1 (.t 43)), none⟩ (.nx ⟨(some 48), .call 85 [(.t 46), (.t 47)], none⟩ (.fl ⟨(some 49), .v (.iaddr 1 (.t 44) (.t 45)), none⟩ (.nx ⟨none, .m (.store 1 (.t 49) (.t 48)), none⟩ .done)))) (.nx ⟨(some 48), .call 85 [(.t 46), (.t 47)], none⟩ (.nx ⟨(some 44), .v (.load false 1 (.t 43)), none⟩ (.fl ⟨(some 49), .v (.iaddr 1 (.t 44) (.t 45)), none⟩ (.nx ⟨none, .m (.store 1 (.t 49) (.t 48)), none⟩ .done)))))))))))))))
               (.reg [⟨(some 50), .v (.bin .add (.t 38) (.c (.int .i64 1))), none⟩, ⟨(some 38), .v (.mov (.t 50)), none⟩])))))))))
       .skip))
     (.seq
      (.reg [⟨(some 51), .v (.load true 3 (.t 4)), none⟩, ⟨none, .m (.store 3 (.t 2) (.t 51)), none⟩])
      .ret)))))⟩
theorem e44 : rFunc Try.prog Try.f44 = some r44 := by kernel_rfl
end Go.Proofs.Ytgkdnpigbpkehaa.M

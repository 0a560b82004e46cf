/-
  The resolved text of the functions, each tied to the program's own by the kernel.
-/
import Derived.Test.YtjfgmimgmapeeaaGreatProg
import Derived.Test.YtjfgmimgmapeeaaGreatFyd
namespace Go.Proofs.YtjfgmimgmapeeaaGreat.M
open Go Go.RowKit
set_option maxRecDepth 100000

def r60 : RFunc := ⟨65, [.cell true 4 10, .t 11],
 (.seq
  (.reg [⟨(some 10), .m (.alloc [(.int .i64 0), (.int .i64 0), (.int .i64 0), .nils]), none⟩, ⟨(some 11), .v (.mov (.c (.bool false))), none⟩])
  (.seq
   (.reg [⟨(some 18), .v (.mov (.t 0)), none⟩, ⟨(some 19), .v (.mov (.t 1)), none⟩, ⟨(some 20), .v (.mov (.t 3)), none⟩, ⟨(some 21), .call 97 [(.t 18), (.t 19), (.t 20)], none⟩, ⟨(some 12), .m (.alloc [(.int .i64 0), .nils]), none⟩, ⟨none, .m (.store 2 (.t 12) (.t 21)), none⟩])
   (.seq
    (.reg [⟨(some 22), .v (.mov (.t 0)), none⟩, ⟨(some 23), .v (.mov (.t 3)), none⟩, ⟨(some 24), .v (.mov (.t 4)), none⟩, ⟨(some 25), .v (.mov (.t 3)), none⟩, ⟨(some 26), .v (.bin .mul (.c (.int .i64 3)) (.t 25)), none⟩, ⟨(some 27), .m (.mks 1 8 [(.int .i64 0)] (.t 26) (.t 26)), none⟩, ⟨(some 28), .v (.bld [(.int .i64 0), (.int .i64 0), (.int .i64 0), .nils] [(0, 1, (.t 22)), (1, 1, (.t 23)), (2, 1, (.t 24)), (3, 1, (.t 27))]), none⟩, ⟨(some 13), .m (.alloc [(.int .i64 0), (.int .i64 0), (.int .i64 0), .nils]), none⟩, ⟨none, .m (.store 4 (.t 13) (.t 28)), none⟩])
    (.seq
     (.seq
      (.reg [⟨(some 14), .v (.mov (.c (.int .i64 0))), none⟩])
      (.block 0
       (.loop
        (.seq
         (.seq
          (.reg [⟨(some 29), .v (.mov (.t 14)), none⟩, ⟨(some 30), .v (.mov (.t 4)), none⟩, ⟨(some 31), .v (.bin .lss (.t 29) (.t 30)), none⟩])
          (.cond (.t 31)
           .skip
           (.exit 0)))
         (.seq
          (.block 1
           (.seq
            (.reg [⟨(some 35), .v (.load true 2 (.t 12)), none⟩, ⟨(some 36), .v (.mov (.t 2)), none⟩, ⟨(some 37), .v (.mov (.t 14)), none⟩, ⟨(some 38), .call 99 [(.t 35), (.t 36), (.t 37)], none⟩, ⟨(some 39), .call 128 [(.t 38)], none⟩, ⟨(some 34), .v (.mov (.t 39)), none⟩, ⟨(some 40), .v (.ext (.t 34) 0), none⟩, ⟨(some 41), .v (.ext (.t 34) 1), none⟩, ⟨(some 15), .m (.alloc [(.int .i64 0), .nils]), none⟩, ⟨none, .m (.store 2 (.t 15) (.t 40)), none⟩, ⟨(some 16), .v (.mov (.t 41)), none⟩])
            (.seq
             (.seq
              (.reg [⟨(some 42), .v (.mov (.t 16)), none⟩, ⟨(some 43), .v (.un .not (.t 42)), none⟩])
              (.cond (.t 43)
               (.seq
                (.reg [⟨(some 44), .v (.bld [(.int .i64 0), (.int .i64 0), (.int .i64 0), .nils] []), none⟩, ⟨none, .m (.store 4 (.t 10) (.t 44)), none⟩, ⟨(some 11), .v (.mov (.c (.bool false))), none⟩])
                .ret)
               .skip))
             (.seq
              (.reg [⟨(some 45), .v (.faddr 3 (.t 13)), none⟩, ⟨(some 46), .v (.load false 1 (.t 45)), none⟩, ⟨(some 47), .v (.len (.t 46)), none⟩, ⟨(some 48), .v (.mov (.c (.int .i64 0))), none⟩])
              (.block 2
               (.loop
                (.seq
                 (.reg [⟨(some 49), .v (.bin .lss (.t 48) (.t 47)), none⟩])
                 (.seq
                  (.cond (.t 49)
                   .skip
                   (.exit 2))
                  (.seq
                   (.block 3
                    (.seq
                     (.reg [⟨(some 50), .v (.mov (.t 48)), none⟩, ⟨(some 17), .v (.mov (.t 50)), none⟩])
                     (.seq
                      (.reg [⟨(some 51), .v (.load true 2 (.t 15)), none⟩, ⟨(some 52), .v (.mov (.t 17)), none⟩, ⟨(some 53), .call 111 [(.t 51), (.t 52)], none⟩])
                      (.cond (.t 53)
                       (.dreg (.fl ⟨(some 54), .v (.faddr 3 (.t 13)), none⟩ (.fl ⟨(some 56), .v (.mov (.t 17)), none⟩ (.fl ⟨(some 59), .v (.mov (.t 14)), none⟩ (.both (.nx ⟨(some 55), .v (.load false 1 (.t 54)), none⟩ (.fl ⟨(some 57), .v (.iaddr 1 (.t 55) (.t 56)), none⟩ (.both (.nx ⟨(some 58), .v (.load false 1 (.t 57)), none⟩ (.nx ⟨(some 60), .call 58 [(.t 59)], none⟩ (.fl ⟨(some 61), .v (.bin .add (.t 58) (.t 60)), none⟩ (.fl ⟨(some 62), .v (.iaddr 1 (.t 55) (.t 56)), none⟩ (.nx ⟨none, .m (.store 1 (.t 62) (.t 61)), none⟩ .done))))) (.nx ⟨(some 60), .call 58 [(.t 59)], none⟩ (.nx ⟨(some 58), .v (.load false 1 (.t 57)), none⟩ (.fl ⟨(some 61), .v (.bin .add (.t 58) (.t 60)), none⟩ (.fl ⟨(some 62), .v (.iaddr 1 (.t 55) (.t 56)), none⟩ (.nx ⟨none, .m (.store 1 (.t 62) (.t 61)), none⟩ .done)))))))) (.nx ⟨(some 60), .call 58 [(.t 59)], none⟩ (.nx ⟨(some 55), .v (.load false 1 (.t 54)), none⟩ (.fl ⟨(some 57), .v (.iaddr 1 (.t 55) (.t 56)), none⟩ (.nx ⟨(some 58), .v (.load false 1 (.t 57)), none⟩ (.fl ⟨(some 61), .v (.bin .add (.t 58) (.t 60)), none⟩ (.fl ⟨(some 62), .v (.iaddr 1 (.t 55) (.t 56)), none⟩ (.nx ⟨none, .m (.store 1 (.t 62) (.t 61)), none⟩ .done))))))))))))
                       .skip))))
                   (.reg [⟨(some 63), .v (.bin .add (.t 48) (.c (.int .i64 1))), none⟩, ⟨(some 48), .v (.mov (.t 63)), none⟩]))))))))))
          (.reg [⟨(some 32), .v (.mov (.t 14)), none⟩, ⟨(some 33), .v (.bin .add (.t 32) (.c (.int .i64 1))), none⟩, ⟨(some 14), .v (.mov (.t 33)), none⟩]))))))
     (.seq
      (.reg [⟨(some 64), .v (.load true 4 (.t 13)), none⟩, ⟨none, .m (.store 4 (.t 10) (.t 64)), none⟩, ⟨(some 11), .v (.mov (.c (.bool true))), none⟩])
      .ret)))))⟩
theorem e60 : rFunc Tryz.prog Tryz.f60 = some r60 := by kernel_rfl
def r31 : RFunc := ⟨72, [.cell true 4 10, .t 11],
 (.seq
  (.reg [⟨(some 10), .m (.alloc [(.int .i64 0), (.int .i64 0), (.int .i64 0), .nils]), none⟩, ⟨(some 11), .v (.mov (.c (.bool false))), none⟩])
  (.seq
   (.seq
    (.reg [⟨(some 18), .v (.mov (.t 0)), none⟩, ⟨(some 19), .v (.mov (.t 1)), none⟩, ⟨(some 20), .v (.mov (.t 2)), none⟩, ⟨(some 21), .v (.mov (.t 3)), none⟩, ⟨(some 22), .v (.mov (.t 4)), none⟩, ⟨(some 23), .call 80 [(.t 18), (.t 19), (.t 20), (.t 21), (.t 22)], none⟩, ⟨(some 24), .v (.un .not (.t 23)), none⟩])
    (.cond (.t 24)
     (.seq
      (.reg [⟨(some 25), .v (.bld [(.int .i64 0), (.int .i64 0), (.int .i64 0), .nils] []), none⟩, ⟨none, .m (.store 4 (.t 10) (.t 25)), none⟩, ⟨(some 11), .v (.mov (.c (.bool false))), none⟩])
      .ret)
     .skip))
   (.seq
    (.reg [⟨(some 26), .v (.mov (.t 0)), none⟩, ⟨(some 27), .v (.mov (.t 1)), none⟩, ⟨(some 28), .v (.mov (.t 3)), none⟩, ⟨(some 29), .call 81 [(.t 26), (.t 27), (.t 28)], none⟩, ⟨(some 12), .m (.alloc [(.int .i64 0), .nils]), none⟩, ⟨none, .m (.store 2 (.t 12) (.t 29)), none⟩])
    (.seq
     (.reg [⟨(some 30), .v (.mov (.t 0)), none⟩, ⟨(some 31), .v (.mov (.t 3)), none⟩, ⟨(some 32), .v (.mov (.t 4)), none⟩, ⟨(some 33), .v (.faddr 0 (.t 12)), none⟩, ⟨(some 34), .v (.load false 1 (.t 33)), none⟩, ⟨(some 35), .m (.mks 1 8 [(.int .i64 0)] (.t 34) (.t 34)), none⟩, ⟨(some 36), .v (.bld [(.int .i64 0), (.int .i64 0), (.int .i64 0), .nils] [(0, 1, (.t 30)), (1, 1, (.t 31)), (2, 1, (.t 32)), (3, 1, (.t 35))]), none⟩, ⟨(some 13), .m (.alloc [(.int .i64 0), (.int .i64 0), (.int .i64 0), .nils]), none⟩, ⟨none, .m (.store 4 (.t 13) (.t 36)), none⟩])
     (.seq
      (.seq
       (.reg [⟨(some 37), .v (.mov (.t 4)), none⟩, ⟨(some 38), .v (.mov (.c (.int .i64 0))), none⟩])
       (.block 0
        (.loop
         (.seq
          (.reg [⟨(some 39), .v (.bin .lss (.t 38) (.t 37)), none⟩])
          (.seq
           (.cond (.t 39)
            .skip
            (.exit 0))
           (.seq
            (.block 1
             (.seq
              (.reg [⟨(some 40), .v (.mov (.t 38)), none⟩, ⟨(some 14), .v (.mov (.t 40)), none⟩])
              (.seq
               (.reg [⟨(some 42), .v (.load true 2 (.t 12)), none⟩, ⟨(some 43), .v (.mov (.t 2)), none⟩, ⟨(some 44), .v (.mov (.t 14)), none⟩, ⟨(some 45), .call 88 [(.t 42), (.t 43), (.t 44)], none⟩, ⟨(some 46), .call 87 [(.t 45)], none⟩, ⟨(some 41), .v (.mov (.t 46)), none⟩, ⟨(some 47), .v (.ext (.t 41) 0), none⟩, ⟨(some 48), .v (.ext (.t 41) 1), none⟩, ⟨(some 15), .m (.alloc [(.int .i64 0), .nils]), none⟩, ⟨none, .m (.store 2 (.t 15) (.t 47)), none⟩, ⟨(some 16), .v (.mov (.t 48)), none⟩])
               (.seq
                (.seq
                 (.reg [⟨(some 49), .v (.mov (.t 16)), none⟩, ⟨(some 50), .v (.un .not (.t 49)), none⟩])
                 (.cond (.t 50)
                  (.seq
                   (.reg [⟨(some 51), .v (.bld [(.int .i64 0), (.int .i64 0), (.int .i64 0), .nils] []), none⟩, ⟨none, .m (.store 4 (.t 10) (.t 51)), none⟩, ⟨(some 11), .v (.mov (.c (.bool false))), none⟩])
                   .ret)
                  .skip))
                (.seq
                 (.reg [⟨(some 52), .v (.faddr 3 (.t 13)), none⟩, ⟨(some 53), .v (.load false 1 (.t 52)), none⟩, ⟨(some 54), .v (.len (.t 53)), none⟩, ⟨(some 55), .v (.mov (.c (.int .i64 0))), none⟩])
                 (.block 2
                  (.loop
                   (.seq
                    (.reg [⟨(some 56), .v (.bin .lss (.t 55) (.t 54)), none⟩])
                    (.seq
                     (.cond (.t 56)
                      .skip
                      (.exit 2))
                     (.seq
                      (.block 3
                       (.seq
                        (.reg [⟨(some 57), .v (.mov (.t 55)), none⟩, ⟨(some 17), .v (.mov (.t 57)), none⟩])
                        (.seq
                         (.reg [⟨(some 58), .v (.mov (.t 17)), none⟩, ⟨(some 59), .call 89 [(.t 15), (.t 58)], none⟩])
                         (.cond (.t 59)
                          (.dreg (.fl ⟨(some 60), .v (.faddr 3 (.t 13)), none⟩ (.fl ⟨(some 62), .v (.mov (.t 17)), none⟩ (.fl ⟨(some 65), .v (.mov (.t 14)), none⟩ (.fl ⟨(some 66), .v (.bin .shl (.c (.int .i64 1)) (.t 65)), none⟩ (.nx ⟨(some 61), .v (.load false 1 (.t 60)), none⟩ (.fl ⟨(some 63), .v (.iaddr 1 (.t 61) (.t 62)), none⟩ (.nx ⟨(some 64), .v (.load false 1 (.t 63)), none⟩ (.fl ⟨(some 67), .v (.bin .or (.t 64) (.t 66)), none⟩ (.fl ⟨(some 68), .v (.iaddr 1 (.t 61) (.t 62)), none⟩ (.nx ⟨none, .m (.store 1 (.t 68) (.t 67)), none⟩ .done)))))))))))
                          .skip))))
                      (.reg [⟨(some 69), .v (.bin .add (.t 55) (.c (.int .i64 1))), none⟩, ⟨(some 55), .v (.mov (.t 69)), none⟩])))))))))))
            (.reg [⟨(some 70), .v (.bin .add (.t 38) (.c (.int .i64 1))), none⟩, ⟨(some 38), .v (.mov (.t 70)), none⟩])))))))
      (.seq
       (.reg [⟨(some 71), .v (.load true 4 (.t 13)), none⟩, ⟨none, .m (.store 4 (.t 10) (.t 71)), none⟩, ⟨(some 11), .v (.mov (.c (.bool true))), none⟩])
       .ret))))))⟩
theorem e31 : rFunc Tryz.prog Tryz.f31 = some r31 := by kernel_rfl
end Go.Proofs.YtjfgmimgmapeeaaGreat.M

/-
  The resolved text of the functions, each tied to the program's own by the kernel.
-/
import Derived.Test.YtjfgmimgmapeeaaGreatProg
import Derived.Test.YtjfgmimgmapeeaaGreatFzk
namespace Go.Proofs.YtjfgmimgmapeeaaGreat.M
open Go Go.RowKit
set_option maxRecDepth 100000

def r24 : RFunc := ⟨12, [.cell true 4 2, .t 3],
 (.seq
  (.reg [⟨(some 2), .m (.alloc [(.int .i64 0), (.int .i64 0), (.int .i64 0), .nils]), none⟩, ⟨(some 3), .v (.mov (.c (.str []))), none⟩])
  (.seq
   (.reg [⟨(some 5), .v (.mov (.t 0)), none⟩, ⟨(some 6), .v (.bld [.nils, (.int .i64 0), (.int .u64 0)] [(0, 1, (.t 5))]), none⟩, ⟨(some 7), .m (.box (.t 6)), none⟩, ⟨(some 4), .v (.mov (.t 7)), none⟩])
   (.seq
    (.reg [⟨(some 8), .v (.mov (.t 4)), none⟩, ⟨(some 9), .call 69 [(.t 8)], none⟩, ⟨(some 10), .v (.mov (.t 4)), none⟩, ⟨(some 11), .call 73 [(.t 10)], none⟩, ⟨none, .m (.store 4 (.t 2) (.t 9)), none⟩, ⟨(some 3), .v (.mov (.t 11)), none⟩])
    .ret)))⟩
theorem e24 : rFunc Tryz.prog Tryz.f24 = some r24 := by kernel_rfl
def r27 : RFunc := ⟨23, [.cell true 4 2, .t 3, .t 4, .t 5],
 (.seq
  (.reg [⟨(some 2), .m (.alloc [(.int .i64 0), (.int .i64 0), (.int .i64 0), .nils]), none⟩, ⟨(some 3), .v (.mov (.c .nils)), none⟩, ⟨(some 4), .v (.mov (.c (.int .i64 0))), none⟩, ⟨(some 5), .v (.mov (.c (.int .i64 0))), none⟩])
  (.seq
   (.reg [⟨(some 8), .v (.mov (.t 0)), none⟩, ⟨(some 9), .v (.bld [.nils, (.int .i64 0), (.int .u64 0)] [(0, 1, (.t 8))]), none⟩, ⟨(some 10), .m (.box (.t 9)), none⟩, ⟨(some 6), .v (.mov (.t 10)), none⟩])
   (.seq
    (.reg [⟨(some 11), .v (.mov (.t 6)), none⟩, ⟨(some 12), .call 76 [(.t 11), (.c (.int .i64 6))], none⟩, ⟨(some 7), .v (.mov (.t 12)), none⟩])
    (.seq
     (.reg [⟨(some 13), .v (.mov (.t 6)), none⟩, ⟨(some 14), .call 69 [(.t 13)], none⟩, ⟨(some 15), .v (.mov (.t 7)), none⟩, ⟨(some 16), .v (.mov (.t 6)), none⟩, ⟨(some 17), .v (.mov (.t 7)), none⟩, ⟨(some 18), .v (.len (.t 17)), none⟩, ⟨(some 19), .call 77 [(.t 16), (.t 18)], none⟩, ⟨(some 20), .v (.mov (.t 6)), none⟩, ⟨(some 21), .m (.bsl 1 9 [(.int .i64 0)] [(0, 1, (.c (.int .i64 0))), (1, 1, (.c (.int .i64 1))), (2, 1, (.c (.int .i64 1))), (3, 1, (.c (.int .i64 2))), (4, 1, (.c (.int .i64 3))), (5, 1, (.c (.int .i64 7))), (6, 1, (.c (.int .i64 15))), (7, 1, (.c (.int .i64 16))), (8, 1, (.c (.int .i64 (-1))))]), none⟩, ⟨(some 22), .call 78 [(.t 20), (.t 21)], none⟩, ⟨none, .m (.store 4 (.t 2) (.t 14)), none⟩, ⟨(some 3), .v (.mov (.t 15)), none⟩, ⟨(some 4), .v (.mov (.t 19)), none⟩, ⟨(some 5), .v (.mov (.t 22)), none⟩])
     .ret))))⟩
theorem e27 : rFunc Tryz.prog Tryz.f27 = some r27 := by kernel_rfl
def r20 : RFunc := ⟨47, [.cell true 4 2, .cell true 4 3],
 (.seq
  (.reg [⟨(some 2), .m (.alloc [(.int .i64 0), (.int .i64 0), (.int .i64 0), .nils]), none⟩, ⟨(some 3), .m (.alloc [(.int .i64 0), (.int .i64 0), (.int .i64 0), .nils]), none⟩])
  (.seq
   (.reg [⟨(some 7), .v (.mov (.t 0)), none⟩, ⟨(some 8), .v (.bld [.nils, (.int .i64 0), (.int .u64 0)] [(0, 1, (.t 7))]), none⟩, ⟨(some 9), .m (.box (.t 8)), none⟩, ⟨(some 4), .v (.mov (.t 9)), none⟩])
   (.seq
    (.reg [⟨(some 10), .v (.mov (.t 4)), none⟩, ⟨(some 11), .call 69 [(.t 10)], none⟩, ⟨(some 5), .m (.alloc [(.int .i64 0), (.int .i64 0), (.int .i64 0), .nils]), none⟩, ⟨none, .m (.store 4 (.t 5) (.t 11)), none⟩])
    (.seq
     (.seq
      (.reg [⟨(some 12), .v (.mov (.t 4)), none⟩, ⟨(some 13), .call 70 [(.t 12), (.c (.int .i64 5))], none⟩, ⟨(some 14), .v (.mov (.t 13)), none⟩, ⟨(some 15), .v (.load true 4 (.t 5)), (some (14, false))⟩, ⟨(some 16), .call 55 [(.t 15)], (some (14, false))⟩, ⟨(some 17), .v (.un .not (.t 16)), (some (14, false))⟩, ⟨(some 18), .v (.pick (.t 14) (.c (.bool true)) (.t 17)), none⟩])
      (.cond (.t 18)
       (.seq
        (.dreg (.fl ⟨(some 20), .v (.mov (.t 4)), none⟩ (.both (.nx ⟨(some 19), .v (.load true 4 (.t 5)), none⟩ (.nx ⟨(some 21), .call 69 [(.t 20)], none⟩ (.nx ⟨none, .m (.store 4 (.t 2) (.t 19)), none⟩ (.nx ⟨none, .m (.store 4 (.t 3) (.t 21)), none⟩ .done)))) (.nx ⟨(some 21), .call 69 [(.t 20)], none⟩ (.nx ⟨(some 19), .v (.load true 4 (.t 5)), none⟩ (.nx ⟨none, .m (.store 4 (.t 2) (.t 19)), none⟩ (.nx ⟨none, .m (.store 4 (.t 3) (.t 21)), none⟩ .done)))))))
        .ret)
       .skip))
     (.seq
      (.reg [⟨(some 22), .v (.faddr 0 (.t 5)), none⟩, ⟨(some 23), .v (.load false 1 (.t 22)), none⟩, ⟨(some 24), .v (.faddr 1 (.t 5)), none⟩, ⟨(some 25), .v (.load false 1 (.t 24)), none⟩, ⟨(some 26), .v (.faddr 2 (.t 5)), none⟩, ⟨(some 27), .v (.load false 1 (.t 26)), none⟩, ⟨(some 28), .v (.bld [(.int .i64 0), (.int .i64 0), (.int .i64 0), .nils] [(0, 1, (.t 23)), (1, 1, (.t 25)), (2, 1, (.t 27))]), none⟩, ⟨(some 6), .m (.alloc [(.int .i64 0), (.int .i64 0), (.int .i64 0), .nils]), none⟩, ⟨none, .m (.store 4 (.t 6) (.t 28)), none⟩])
      (.seq
       (.seq
        (.reg [⟨(some 29), .v (.faddr 3 (.t 5)), none⟩, ⟨(some 30), .v (.load false 1 (.t 29)), none⟩, ⟨(some 31), .v (.len (.t 30)), none⟩, ⟨(some 32), .v (.mov (.c (.int .i64 0))), none⟩])
        (.block 0
         (.loop
          (.seq
           (.reg [⟨(some 33), .v (.bin .lss (.t 32) (.t 31)), none⟩])
           (.seq
            (.cond (.t 33)
             .skip
             (.exit 0))
            (.seq
             (.block 1
              (.dreg (.fl ⟨(some 34), .v (.faddr 3 (.t 6)), none⟩ (.fl ⟨(some 36), .v (.mov (.t 4)), none⟩ (.fl ⟨(some 37), .v (.faddr 2 (.t 5)), none⟩ (.both (.nx ⟨(some 35), .v (.load false 1 (.t 34)), none⟩ (.nx ⟨(some 38), .v (.load false 1 (.t 37)), none⟩ (.nx ⟨(some 39), .call 58 [(.t 38)], none⟩ (.nx ⟨(some 40), .call 71 [(.t 36), (.t 39)], none⟩ (.nx ⟨(some 41), .m (.bsl 1 1 [(.int .i64 0)] [(0, 1, (.t 40))]), none⟩ (.nx ⟨(some 42), .m (.app false 1 8 (.t 35) (.t 41)), none⟩ (.fl ⟨(some 43), .v (.faddr 3 (.t 6)), none⟩ (.nx ⟨none, .m (.store 1 (.t 43) (.t 42)), none⟩ .done)))))))) (.nx ⟨(some 38), .v (.load false 1 (.t 37)), none⟩ (.both (.nx ⟨(some 35), .v (.load false 1 (.t 34)), none⟩ (.nx ⟨(some 39), .call 58 [(.t 38)], none⟩ (.nx ⟨(some 40), .call 71 [(.t 36), (.t 39)], none⟩ (.nx ⟨(some 41), .m (.bsl 1 1 [(.int .i64 0)] [(0, 1, (.t 40))]), none⟩ (.nx ⟨(some 42), .m (.app false 1 8 (.t 35) (.t 41)), none⟩ (.fl ⟨(some 43), .v (.faddr 3 (.t 6)), none⟩ (.nx ⟨none, .m (.store 1 (.t 43) (.t 42)), none⟩ .done))))))) (.nx ⟨(some 39), .call 58 [(.t 38)], none⟩ (.both (.nx ⟨(some 35), .v (.load false 1 (.t 34)), none⟩ (.nx ⟨(some 40), .call 71 [(.t 36), (.t 39)], none⟩ (.nx ⟨(some 41), .m (.bsl 1 1 [(.int .i64 0)] [(0, 1, (.t 40))]), none⟩ (.nx ⟨(some 42), .m (.app false 1 8 (.t 35) (.t 41)), none⟩ (.fl ⟨(some 43), .v (.faddr 3 (.t 6)), none⟩ (.nx ⟨none, .m (.store 1 (.t 43) (.t 42)), none⟩ .done)))))) (.nx ⟨(some 40), .call 71 [(.t 36), (.t 39)], none⟩ (.both (.nx ⟨(some 35), .v (.load false 1 (.t 34)), none⟩ (.nx ⟨(some 41), .m (.bsl 1 1 [(.int .i64 0)] [(0, 1, (.t 40))]), none⟩ (.nx ⟨(some 42), .m (.app false 1 8 (.t 35) (.t 41)), none⟩ (.fl ⟨(some 43), .v (.faddr 3 (.t 6)), none⟩ (.nx ⟨none, .m (.store 1 (.t 43) (.t 42)), none⟩ .done))))) (.nx ⟨(some 41), .m (.bsl 1 1 [(.int .i64 0)] [(0, 1, (.t 40))]), none⟩ (.nx ⟨(some 35), .v (.load false 1 (.t 34)), none⟩ (.nx ⟨(some 42), .m (.app false 1 8 (.t 35) (.t 41)), none⟩ (.fl ⟨(some 43), .v (.faddr 3 (.t 6)), none⟩ (.nx ⟨none, .m (.store 1 (.t 43) (.t 42)), none⟩ .done)))))))))))))))))
             (.reg [⟨(some 44), .v (.bin .add (.t 32) (.c (.int .i64 1))), none⟩, ⟨(some 32), .v (.mov (.t 44)), none⟩])))))))
       (.seq
        (.dreg (.both (.nx ⟨(some 45), .v (.load true 4 (.t 5)), none⟩ (.both (.nx ⟨(some 46), .v (.load true 4 (.t 6)), none⟩ (.nx ⟨none, .m (.store 4 (.t 2) (.t 45)), none⟩ (.nx ⟨none, .m (.store 4 (.t 3) (.t 46)), none⟩ .done))) (.nx ⟨none, .m (.store 4 (.t 2) (.t 45)), none⟩ (.nx ⟨(some 46), .v (.load true 4 (.t 6)), none⟩ (.nx ⟨none, .m (.store 4 (.t 3) (.t 46)), none⟩ .done))))) (.nx ⟨(some 46), .v (.load true 4 (.t 6)), none⟩ (.nx ⟨(some 45), .v (.load true 4 (.t 5)), none⟩ (.nx ⟨none, .m (.store 4 (.t 2) (.t 45)), none⟩ (.nx ⟨none, .m (.store 4 (.t 3) (.t 46)), none⟩ .done))))))
        .ret)))))))⟩
theorem e20 : rFunc Tryz.prog Tryz.f20 = some r20 := by kernel_rfl
end Go.Proofs.YtjfgmimgmapeeaaGreat.M

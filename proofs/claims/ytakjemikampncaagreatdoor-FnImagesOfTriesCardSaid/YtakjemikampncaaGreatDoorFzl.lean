/-
  The resolved text of the functions, each tied to the program's own by the kernel.
-/
import Derived.Test.YtakjemikampncaaGreatDoorProg
import Derived.Test.YtakjemikampncaaGreatDoorFzk
namespace Go.Proofs.YtakjemikampncaaGreatDoor.M
open Go Go.RowKit
attribute [local instance] dqF
set_option maxRecDepth 100000

def r96 : RFunc := ⟨22, [.cell true 2 4],
 (.seq
  (.reg [⟨(some 4), .m (.alloc [(.int .i64 0), .nils]), none⟩])
  (.seq
   (.reg [⟨(some 5), .v (.mov (.c .nils)), none⟩])
   (.seq
    (.seq
     (.reg [⟨(some 7), .v (.mov (.t 0)), none⟩, ⟨(some 8), .v (.mov (.t 1)), none⟩, ⟨(some 9), .v (.bin .add (.t 8) (.c (.int .i64 1))), none⟩, ⟨(some 10), .call 65 [(.t 7), (.t 9)], none⟩, ⟨(some 6), .v (.mov (.t 10)), none⟩])
     (.block 0
      (.loop
       (.seq
        (.seq
         (.reg [⟨(some 11), .v (.mov (.t 6)), none⟩, ⟨(some 12), .v (.bin .gtr (.t 11) (.c (.int .i64 0))), none⟩])
         (.cond (.t 12)
          .skip
          (.exit 0)))
        (.seq
         (.block 1
          (.reg [⟨(some 15), .v (.mov (.t 5)), none⟩, ⟨(some 16), .v (.mov (.t 0)), none⟩, ⟨(some 17), .call 63 [(.t 16), (.c (.int .i64 2))], none⟩, ⟨(some 18), .m (.bsl 1 1 [(.bool false)] [(0, 1, (.t 17))]), none⟩, ⟨(some 19), .m (.app false 1 1 (.t 15) (.t 18)), none⟩, ⟨(some 5), .v (.mov (.t 19)), none⟩]))
         (.reg [⟨(some 13), .v (.mov (.t 6)), none⟩, ⟨(some 14), .v (.bin .sub (.t 13) (.c (.int .i64 1))), none⟩, ⟨(some 6), .v (.mov (.t 14)), none⟩]))))))
    (.seq
     (.reg [⟨(some 20), .v (.mov (.t 5)), none⟩, ⟨(some 21), .call 45 [(.t 20)], none⟩, ⟨none, .m (.store 2 (.t 4) (.t 21)), none⟩])
     .ret))))⟩
theorem e96 : rFunc Tryz.prog Tryz.f96 = some r96 := by kernel_rfl
def r97 : RFunc := ⟨12, [.t 4],
 (.seq
  (.reg [⟨(some 4), .v (.mov (.c (.int .i64 0))), none⟩])
  (.seq
   (.reg [⟨(some 5), .v (.mov (.t 1)), none⟩, ⟨(some 6), .v (.mov (.t 0)), none⟩, ⟨(some 7), .v (.mov (.t 1)), none⟩, ⟨(some 8), .v (.len (.t 7)), none⟩, ⟨(some 9), .call 65 [(.t 6), (.t 8)], none⟩, ⟨(some 10), .v (.iaddr 1 (.t 5) (.t 9)), none⟩, ⟨(some 11), .v (.load false 1 (.t 10)), none⟩, ⟨(some 4), .v (.mov (.t 11)), none⟩])
   .ret))⟩
theorem e97 : rFunc Tryz.prog Tryz.f97 = some r97 := by kernel_rfl
def r68 : RFunc := ⟨56, [.cell true 2 2],
 (.seq
  (.reg [⟨(some 2), .m (.alloc [(.int .i64 0), .nils]), none⟩])
  (.seq
   (.reg [⟨(some 4), .v (.mov (.t 0)), none⟩, ⟨(some 5), .call 96 [(.t 4), (.c (.int .i64 40))], none⟩, ⟨(some 3), .m (.alloc [(.int .i64 0), .nils]), none⟩, ⟨none, .m (.store 2 (.t 3) (.t 5)), none⟩])
   (.seq
    (.seq
     (.reg [⟨(some 6), .v (.mov (.t 0)), none⟩, ⟨(some 7), .call 65 [(.t 6), (.c (.int .i64 16))], none⟩])
     (.block 0
      (.seq
       (.reg [⟨(some 9), .v (.bin .eql (.t 7) (.c (.int .i64 0))), none⟩, ⟨(some 8), .v (.mov (.t 9)), none⟩])
       (.cond (.t 8)
        (.dreg (.fl ⟨(some 10), .v (.faddr 1 (.t 3)), none⟩ (.fl ⟨(some 12), .v (.mov (.t 0)), none⟩ (.both (.nx ⟨(some 11), .v (.load false 1 (.t 10)), none⟩ (.nx ⟨(some 13), .call 65 [(.t 12), (.c (.int .i64 2))], none⟩ (.nx ⟨(some 14), .m (.bsl 1 1 [(.int .i64 0)] [(0, 1, (.t 13))]), none⟩ (.nx ⟨(some 15), .m (.app false 1 8 (.t 11) (.t 14)), none⟩ (.fl ⟨(some 16), .v (.faddr 1 (.t 3)), none⟩ (.nx ⟨none, .m (.store 1 (.t 16) (.t 15)), none⟩ .done)))))) (.nx ⟨(some 13), .call 65 [(.t 12), (.c (.int .i64 2))], none⟩ (.both (.nx ⟨(some 11), .v (.load false 1 (.t 10)), none⟩ (.nx ⟨(some 14), .m (.bsl 1 1 [(.int .i64 0)] [(0, 1, (.t 13))]), none⟩ (.nx ⟨(some 15), .m (.app false 1 8 (.t 11) (.t 14)), none⟩ (.fl ⟨(some 16), .v (.faddr 1 (.t 3)), none⟩ (.nx ⟨none, .m (.store 1 (.t 16) (.t 15)), none⟩ .done))))) (.nx ⟨(some 14), .m (.bsl 1 1 [(.int .i64 0)] [(0, 1, (.t 13))]), none⟩ (.nx ⟨(some 11), .v (.load false 1 (.t 10)), none⟩ (.nx ⟨(some 15), .m (.app false 1 8 (.t 11) (.t 14)), none⟩ (.fl ⟨(some 16), .v (.faddr 1 (.t 3)), none⟩ (.nx ⟨none, .m (.store 1 (.t 16) (.t 15)), none⟩ .done)))))))))))
        (.seq
         (.reg [⟨(some 18), .v (.bin .eql (.t 7) (.c (.int .i64 1))), none⟩, ⟨(some 17), .v (.mov (.t 18)), none⟩])
         (.cond (.t 17)
          (.dreg (.fl ⟨(some 19), .v (.faddr 0 (.t 3)), none⟩ (.fl ⟨(some 21), .v (.mov (.t 0)), none⟩ (.both (.nx ⟨(some 20), .v (.load false 1 (.t 19)), none⟩ (.nx ⟨(some 22), .call 65 [(.t 21), (.c (.int .i64 3))], none⟩ (.fl ⟨(some 23), .v (.bin .sub (.t 22) (.c (.int .i64 1))), none⟩ (.fl ⟨(some 24), .v (.bin .add (.t 20) (.t 23)), none⟩ (.fl ⟨(some 25), .v (.faddr 0 (.t 3)), none⟩ (.nx ⟨none, .m (.store 1 (.t 25) (.t 24)), none⟩ .done)))))) (.nx ⟨(some 22), .call 65 [(.t 21), (.c (.int .i64 3))], none⟩ (.fl ⟨(some 23), .v (.bin .sub (.t 22) (.c (.int .i64 1))), none⟩ (.nx ⟨(some 20), .v (.load false 1 (.t 19)), none⟩ (.fl ⟨(some 24), .v (.bin .add (.t 20) (.t 23)), none⟩ (.fl ⟨(some 25), .v (.faddr 0 (.t 3)), none⟩ (.nx ⟨none, .m (.store 1 (.t 25) (.t 24)), none⟩ .done))))))))))
          (.seq
           (.reg [⟨(some 27), .v (.bin .eql (.t 7) (.c (.int .i64 2))), none⟩, ⟨(some 26), .v (.mov (.t 27)), none⟩])
           (.cond (.t 26)
            (.seq
             (.reg [⟨(some 28), .v (.faddr 1 (.t 3)), none⟩, ⟨(some 29), .v (.load false 1 (.t 28)), none⟩, ⟨(some 30), .v (.len (.t 29)), none⟩, ⟨(some 31), .v (.bin .gtr (.t 30) (.c (.int .i64 0))), none⟩])
             (.cond (.t 31)
              (.dreg (.fl ⟨(some 32), .v (.faddr 1 (.t 3)), none⟩ (.fl ⟨(some 34), .v (.mov (.t 0)), none⟩ (.fl ⟨(some 35), .v (.faddr 1 (.t 3)), none⟩ (.fl ⟨(some 39), .v (.mov (.t 0)), none⟩ (.both (.nx ⟨(some 33), .v (.load false 1 (.t 32)), none⟩ (.both (.nx ⟨(some 36), .v (.load false 1 (.t 35)), none⟩ (.fl ⟨(some 37), .v (.len (.t 36)), none⟩ (.both (.nx ⟨(some 38), .call 65 [(.t 34), (.t 37)], none⟩ (.nx ⟨(some 40), .m (.bsl 1 4 [(.int .i64 0)] [(0, 1, (.c (.int .i64 (-1)))), (1, 1, (.c (.int .i64 65535))), (2, 1, (.c (.int .i64 65536))), (3, 1, (.c (.int .i64 40000)))]), none⟩ (.nx ⟨(some 41), .call 97 [(.t 39), (.t 40)], none⟩ (.fl ⟨(some 42), .v (.iaddr 1 (.t 33) (.t 38)), none⟩ (.nx ⟨none, .m (.store 1 (.t 42) (.t 41)), none⟩ .done))))) (.nx ⟨(some 40), .m (.bsl 1 4 [(.int .i64 0)] [(0, 1, (.c (.int .i64 (-1)))), (1, 1, (.c (.int .i64 65535))), (2, 1, (.c (.int .i64 65536))), (3, 1, (.c (.int .i64 40000)))]), none⟩ (.nx ⟨(some 38), .call 65 [(.t 34), (.t 37)], none⟩ (.nx ⟨(some 41), .call 97 [(.t 39), (.t 40)], none⟩ (.fl ⟨(some 42), .v (.iaddr 1 (.t 33) (.t 38)), none⟩ (.nx ⟨none, .m (.store 1 (.t 42) (.t 41)), none⟩ .done)))))))) (.nx ⟨(some 40), .m (.bsl 1 4 [(.int .i64 0)] [(0, 1, (.c (.int .i64 (-1)))), (1, 1, (.c (.int .i64 65535))), (2, 1, (.c (.int .i64 65536))), (3, 1, (.c (.int .i64 40000)))]), none⟩ (.nx ⟨(some 36), .v (.load false 1 (.t 35)), none⟩ (.fl ⟨(some 37), .v (.len (.t 36)), none⟩ (.nx ⟨(some 38), .call 65 [(.t 34), (.t 37)], none⟩ (.nx ⟨(some 41), .call 97 [(.t 39), (.t 40)], none⟩ (.fl ⟨(some 42), .v (.iaddr 1 (.t 33) (.t 38)), none⟩ (.nx ⟨none, .m (.store 1 (.t 42) (.t 41)), none⟩ .done))))))))) (.both (.nx ⟨(some 36), .v (.load false 1 (.t 35)), none⟩ (.fl ⟨(some 37), .v (.len (.t 36)), none⟩ (.both (.nx ⟨(some 33), .v (.load false 1 (.t 32)), none⟩ (.both (.nx ⟨(some 38), .call 65 [(.t 34), (.t 37)], none⟩ (.nx ⟨(some 40), .m (.bsl 1 4 [(.int .i64 0)] [(0, 1, (.c (.int .i64 (-1)))), (1, 1, (.c (.int .i64 65535))), (2, 1, (.c (.int .i64 65536))), (3, 1, (.c (.int .i64 40000)))]), none⟩ (.nx ⟨(some 41), .call 97 [(.t 39), (.t 40)], none⟩ (.fl ⟨(some 42), .v (.iaddr 1 (.t 33) (.t 38)), none⟩ (.nx ⟨none, .m (.store 1 (.t 42) (.t 41)), none⟩ .done))))) (.nx ⟨(some 40), .m (.bsl 1 4 [(.int .i64 0)] [(0, 1, (.c (.int .i64 (-1)))), (1, 1, (.c (.int .i64 65535))), (2, 1, (.c (.int .i64 65536))), (3, 1, (.c (.int .i64 40000)))]), none⟩ (.nx ⟨(some 38), .call 65 [(.t 34), (.t 37)], none⟩ (.nx ⟨(some 41), .call 97 [(.t 39), (.t 40)], none⟩ (.fl ⟨(some 42), .v (.iaddr 1 (.t 33) (.t 38)), none⟩ (.nx ⟨none, .m (.store 1 (.t 42) (.t 41)), none⟩ .done))))))) (.both (.nx ⟨(some 38), .call 65 [(.t 34), (.t 37)], none⟩ (.both (.nx ⟨(some 33), .v (.load false 1 (.t 32)), none⟩ (.nx ⟨(some 40), .m (.bsl 1 4 [(.int .i64 0)] [(0, 1, (.c (.int .i64 (-1)))), (1, 1, (.c (.int .i64 65535))), (2, 1, (.c (.int .i64 65536))), (3, 1, (.c (.int .i64 40000)))]), none⟩ (.nx ⟨(some 41), .call 97 [(.t 39), (.t 40)], none⟩ (.fl ⟨(some 42), .v (.iaddr 1 (.t 33) (.t 38)), none⟩ (.nx ⟨none, .m (.store 1 (.t 42) (.t 41)), none⟩ .done))))) (.nx ⟨(some 40), .m (.bsl 1 4 [(.int .i64 0)] [(0, 1, (.c (.int .i64 (-1)))), (1, 1, (.c (.int .i64 65535))), (2, 1, (.c (.int .i64 65536))), (3, 1, (.c (.int .i64 40000)))]), none⟩ (.both (.nx ⟨(some 33), .v (.load false 1 (.t 32)), none⟩ (.nx ⟨(some 41), .call 97 [(.t 39), (.t 40)], none⟩ (.fl ⟨(some 42), .v (.iaddr 1 (.t 33) (.t 38)), none⟩ (.nx ⟨none, .m (.store 1 (.t 42) (.t 41)), none⟩ .done)))) (.nx ⟨(some 41), .call 97 [(.t 39), (.t 40)], none⟩ (.nx ⟨(some 33), .v (.load false 1 (.t 32)), none⟩ (.fl ⟨(some 42), .v (.iaddr 1 (.t 33) (.t 38)), none⟩ (.nx ⟨none, .m (.store 1 (.t 42) (.t 41)), none⟩ .done)))))))) (.nx ⟨(some 40), .m (.bsl 1 4 [(.int .i64 0)] [(0, 1, (.c (.int .i64 (-1)))), (1, 1, (.c (.int .i64 65535))), (2, 1, (.c (.int .i64 65536))), (3, 1, (.c (.int .i64 40000)))]), none⟩ (.both (.nx ⟨(some 33), .v (.load false 1 (.t 32)), none⟩ (.nx ⟨(some 38), .call 65 [(.t 34), (.t 37)], none⟩ (.nx ⟨(some 41), .call 97 [(.t 39), (.t 40)], none⟩ (.fl ⟨(some 42), .v (.iaddr 1 (.t 33) (.t 38)), none⟩ (.nx ⟨none, .m (.store 1 (.t 42) (.t 41)), none⟩ .done))))) (.nx ⟨(some 38), .call 65 [(.t 34), (.t 37)], none⟩ (.both (.nx ⟨(some 33), .v (.load false 1 (.t 32)), none⟩ (.nx ⟨(some 41), .call 97 [(.t 39), (.t 40)], none⟩ (.fl ⟨(some 42), .v (.iaddr 1 (.t 33) (.t 38)), none⟩ (.nx ⟨none, .m (.store 1 (.t 42) (.t 41)), none⟩ .done)))) (.nx ⟨(some 41), .call 97 [(.t 39), (.t 40)], none⟩ (.nx ⟨(some 33), .v (.load false 1 (.t 32)), none⟩ (.fl ⟨(some 42), .v (.iaddr 1 (.t 33) (.t 38)), none⟩ (.nx ⟨none, .m (.store 1 (.t 42) (.t 41)), none⟩ .done)))))))))))) (.nx ⟨(some 40), .m (.bsl 1 4 [(.int .i64 0)] [(0, 1, (.c (.int .i64 (-1)))), (1, 1, (.c (.int .i64 65535))), (2, 1, (.c (.int .i64 65536))), (3, 1, (.c (.int .i64 40000)))]), none⟩ (.both (.nx ⟨(some 33), .v (.load false 1 (.t 32)), none⟩ (.nx ⟨(some 36), .v (.load false 1 (.t 35)), none⟩ (.fl ⟨(some 37), .v (.len (.t 36)), none⟩ (.nx ⟨(some 38), .call 65 [(.t 34), (.t 37)], none⟩ (.nx ⟨(some 41), .call 97 [(.t 39), (.t 40)], none⟩ (.fl ⟨(some 42), .v (.iaddr 1 (.t 33) (.t 38)), none⟩ (.nx ⟨none, .m (.store 1 (.t 42) (.t 41)), none⟩ .done))))))) (.nx ⟨(some 36), .v (.load false 1 (.t 35)), none⟩ (.fl ⟨(some 37), .v (.len (.t 36)), none⟩ (.both (.nx ⟨(some 33), .v (.load false 1 (.t 32)), none⟩ (.nx ⟨(some 38), .call 65 [(.t 34), (.t 37)], none⟩ (.nx ⟨(some 41), .call 97 [(.t 39), (.t 40)], none⟩ (.fl ⟨(some 42), .v (.iaddr 1 (.t 33) (.t 38)), none⟩ (.nx ⟨none, .m (.store 1 (.t 42) (.t 41)), none⟩ .done))))) (.nx ⟨(some 38), .call 65 [(.t 34), (.t 37)], none⟩ (.both (.nx ⟨(some 33), .v (.load false 1 (.t 32)), none⟩ (.nx ⟨(some 41), .call 97 [(.t 39), (.t 40)], none⟩ (.fl ⟨(some 42), .v (.iaddr 1 (.t 33) (.t 38)), none⟩ (.nx ⟨none, .m (.store 1 (.t 42) (.t 41)), none⟩ .done)))) (.nx ⟨(some 41), .call 97 [(.t 39), (.t 40)], none⟩ (.nx ⟨(some 33), .v (.load false 1 (.t 32)), none⟩ (.fl ⟨(some 42), .v (.iaddr 1 (.t 33) (.t 38)), none⟩ (.nx ⟨none, .m (.store 1 (.t 42) (.t 41)), none⟩ .done))))))))))))))))))
              .skip))
            (.seq
             (.reg [⟨(some 44), .v (.bin .eql (.t 7) (.c (.int .i64 3))), none⟩, ⟨(some 43), .v (.mov (.t 44)), none⟩])
             (.cond (.t 43)
              (.reg [⟨(some 45), .v (.mov (.t 0)), none⟩, ⟨(some 46), .call 65 [(.t 45), (.c (.int .i64 2))], none⟩, ⟨(some 47), .v (.bin .sub (.c (.int .i64 4096)) (.t 46)), none⟩, ⟨(some 48), .call 74 [(.t 47)], none⟩, ⟨none, .m (.store 2 (.t 3) (.t 48)), none⟩])
              (.seq
               (.reg [⟨(some 50), .v (.bin .eql (.t 7) (.c (.int .i64 4))), none⟩, ⟨(some 49), .v (.mov (.t 50)), none⟩])
               (.cond (.t 49)
                (.reg [⟨(some 51), .v (.mov (.t 0)), none⟩, ⟨(some 52), .call 65 [(.t 51), (.c (.int .i64 5))], none⟩, ⟨(some 53), .v (.bin .mul (.c (.int .i64 16)) (.t 52)), none⟩, ⟨(some 54), .call 74 [(.t 53)], none⟩, ⟨none, .m (.store 2 (.t 3) (.t 54)), none⟩])
                .skip))))))))))))
    (.seq
     (.reg [⟨(some 55), .v (.load true 2 (.t 3)), none⟩, ⟨none, .m (.store 2 (.t 2) (.t 55)), none⟩])
     .ret))))⟩
theorem e68 : rFunc Tryz.prog Tryz.f68 = some r68 := by kernel_rfl
def r35 : RFunc := ⟨72, [.cell true 5 2],
 (.seq
  (.reg [⟨(some 2), .m (.alloc [(.int .i64 0), .nils, (.int .i64 0), .nils, (.str [])]), none⟩])
  (.seq
   (.reg [⟨(some 9), .v (.mov (.t 0)), none⟩, ⟨(some 10), .call 62 [(.t 9), (.c (.int .i64 8))], none⟩, ⟨(some 3), .v (.mov (.t 10)), none⟩])
   (.seq
    (.seq
     (.reg [⟨(some 11), .v (.mov (.t 0)), none⟩, ⟨(some 12), .call 63 [(.t 11), (.c (.int .i64 20))], none⟩])
     (.cond (.t 12)
      (.reg [⟨(some 13), .v (.mov (.t 0)), none⟩, ⟨(some 14), .call 64 [(.t 13), (.c (.int .i64 40))], none⟩, ⟨(some 3), .v (.mov (.t 14)), none⟩])
      .skip))
    (.seq
     (.reg [⟨(some 15), .v (.mov (.t 3)), none⟩, ⟨(some 16), .call 23 [(.t 15)], none⟩, ⟨(some 4), .m (.alloc [(.int .i64 0), .nils, (.int .i64 0), .nils, (.str [])]), none⟩, ⟨none, .m (.store 5 (.t 4) (.t 16)), none⟩])
     (.seq
      (.seq
       (.reg [⟨(some 17), .v (.mov (.t 0)), none⟩, ⟨(some 18), .call 65 [(.t 17), (.c (.int .i64 14))], none⟩])
       (.block 0
        (.seq
         (.reg [⟨(some 20), .v (.bin .eql (.t 18) (.c (.int .i64 0))), none⟩, ⟨(some 19), .v (.mov (.t 20)), none⟩])
         (.cond (.t 19)
          (.seq
           (.reg [⟨(some 21), .v (.faddr 0 (.t 4)), none⟩, ⟨(some 22), .v (.load true 2 (.t 21)), none⟩, ⟨(some 23), .call 66 [(.t 22)], none⟩, ⟨(some 5), .v (.mov (.t 23)), none⟩])
           (.seq
            (.reg [⟨(some 24), .v (.mov (.t 0)), none⟩, ⟨(some 25), .v (.mov (.t 5)), none⟩, ⟨(some 26), .v (.len (.t 25)), none⟩, ⟨(some 27), .call 65 [(.t 24), (.t 26)], none⟩, ⟨(some 6), .v (.mov (.t 27)), none⟩])
            (.seq
             (.reg [⟨(some 28), .v (.mov (.t 5)), none⟩, ⟨(some 29), .v (.mov (.t 6)), none⟩, ⟨(some 30), .v (.mov (.t 5)), none⟩, ⟨(some 31), .v (.mov (.t 6)), none⟩, ⟨(some 32), .v (.iaddr 1 (.t 30) (.t 31)), none⟩, ⟨(some 33), .v (.load false 1 (.t 32)), none⟩, ⟨(some 34), .v (.un .not (.t 33)), none⟩, ⟨(some 35), .v (.iaddr 1 (.t 28) (.t 29)), none⟩, ⟨none, .m (.store 1 (.t 35) (.t 34)), none⟩])
             (.reg [⟨(some 36), .v (.mov (.t 5)), none⟩, ⟨(some 37), .call 45 [(.t 36)], none⟩, ⟨(some 38), .v (.faddr 0 (.t 4)), none⟩, ⟨none, .m (.store 2 (.t 38) (.t 37)), none⟩]))))
          (.seq
           (.reg [⟨(some 40), .v (.bin .eql (.t 18) (.c (.int .i64 1))), none⟩, ⟨(some 39), .v (.mov (.t 40)), none⟩])
           (.cond (.t 39)
            (.seq
             (.reg [⟨(some 41), .v (.faddr 2 (.t 4)), none⟩, ⟨(some 42), .v (.load true 2 (.t 41)), none⟩, ⟨(some 43), .call 66 [(.t 42)], none⟩, ⟨(some 7), .v (.mov (.t 43)), none⟩])
             (.seq
              (.reg [⟨(some 44), .v (.mov (.t 0)), none⟩, ⟨(some 45), .v (.mov (.t 7)), none⟩, ⟨(some 46), .v (.len (.t 45)), none⟩, ⟨(some 47), .call 65 [(.t 44), (.t 46)], none⟩, ⟨(some 8), .v (.mov (.t 47)), none⟩])
              (.seq
               (.reg [⟨(some 48), .v (.mov (.t 7)), none⟩, ⟨(some 49), .v (.mov (.t 8)), none⟩, ⟨(some 50), .v (.mov (.t 7)), none⟩, ⟨(some 51), .v (.mov (.t 8)), none⟩, ⟨(some 52), .v (.iaddr 1 (.t 50) (.t 51)), none⟩, ⟨(some 53), .v (.load false 1 (.t 52)), none⟩, ⟨(some 54), .v (.un .not (.t 53)), none⟩, ⟨(some 55), .v (.iaddr 1 (.t 48) (.t 49)), none⟩, ⟨none, .m (.store 1 (.t 55) (.t 54)), none⟩])
               (.reg [⟨(some 56), .v (.mov (.t 7)), none⟩, ⟨(some 57), .call 45 [(.t 56)], none⟩, ⟨(some 58), .v (.faddr 2 (.t 4)), none⟩, ⟨none, .m (.store 2 (.t 58) (.t 57)), none⟩]))))
            (.seq
             (.reg [⟨(some 60), .v (.bin .eql (.t 18) (.c (.int .i64 2))), none⟩, ⟨(some 59), .v (.mov (.t 60)), none⟩])
             (.cond (.t 59)
              (.reg [⟨(some 61), .v (.mov (.t 0)), none⟩, ⟨(some 62), .v (.faddr 4 (.t 4)), none⟩, ⟨(some 63), .v (.load false 1 (.t 62)), none⟩, ⟨(some 64), .call 67 [(.t 61), (.t 63), (.c (.str [97, 98, 122, 125, 32]))], none⟩, ⟨(some 65), .v (.faddr 4 (.t 4)), none⟩, ⟨none, .m (.store 1 (.t 65) (.t 64)), none⟩])
              (.seq
               (.reg [⟨(some 67), .v (.bin .eql (.t 18) (.c (.int .i64 3))), none⟩, ⟨(some 66), .v (.mov (.t 67)), none⟩])
               (.cond (.t 66)
                (.reg [⟨(some 68), .v (.mov (.t 0)), none⟩, ⟨(some 69), .call 68 [(.t 68)], none⟩, ⟨(some 70), .v (.faddr 2 (.t 4)), none⟩, ⟨none, .m (.store 2 (.t 70) (.t 69)), none⟩])
                .skip))))))))))
      (.seq
       (.reg [⟨(some 71), .v (.load true 5 (.t 4)), none⟩, ⟨none, .m (.store 5 (.t 2) (.t 71)), none⟩])
       .ret))))))⟩
theorem e35 : rFunc Tryz.prog Tryz.f35 = some r35 := by kernel_rfl
def r16 : RFunc := ⟨9, [.cell true 5 2],
 (.seq
  (.reg [⟨(some 2), .m (.alloc [(.int .i64 0), .nils, (.int .i64 0), .nils, (.str [])]), none⟩])
  (.seq
   (.reg [⟨(some 4), .v (.mov (.t 0)), none⟩, ⟨(some 5), .v (.bld [.nils, (.int .i64 0), (.int .u64 0)] [(0, 1, (.t 4))]), none⟩, ⟨(some 6), .m (.box (.t 5)), none⟩, ⟨(some 3), .v (.mov (.t 6)), none⟩])
   (.seq
    (.reg [⟨(some 7), .v (.mov (.t 3)), none⟩, ⟨(some 8), .call 35 [(.t 7)], none⟩, ⟨none, .m (.store 5 (.t 2) (.t 8)), none⟩])
    .ret)))⟩
theorem e16 : rFunc Tryz.prog Tryz.f16 = some r16 := by kernel_rfl
end Go.Proofs.YtakjemikampncaaGreatDoor.M

/-
  The resolved text of the functions, each tied to the program's own by the kernel.
-/
import Derived.Test.YtbkcenkfecndjaaGreatDoorProg
import Derived.Test.YtbkcenkfecndjaaGreatDoorM21
namespace Go.Proofs.YtbkcenkfecndjaaGreatDoor.M
open Go Go.RowKit
set_option maxRecDepth 100000

def r103 : RFunc := ⟨17, [.t 2],
 (.seq
  (.reg [⟨(some 1), .m (.box (.t 0)), none⟩, ⟨(some 2), .v (.mov (.c .nils)), none⟩])
  (.seq
   (.reg [⟨(some 3), .v (.mov (.c .nils)), none⟩])
   (.seq
    (.seq
     (.reg [⟨(some 5), .v (.faddr 1 (.t 1)), none⟩, ⟨(some 6), .v (.load false 1 (.t 5)), none⟩, ⟨(some 7), .v (.len (.t 6)), none⟩, ⟨(some 8), .v (.mov (.c (.int .i64 0))), none⟩])
     (.block 0
      (.loop
       (.seq
        (.reg [⟨(some 9), .v (.bin .lss (.t 8) (.t 7)), none⟩])
        (.seq
         (.cond (.t 9)
          .skip
          (.exit 0))
         (.seq
          (.block 1
           (.seq
            (.reg [⟨(some 10), .v (.mov (.t 8)), none⟩, ⟨(some 4), .v (.mov (.t 10)), none⟩])
            (.reg [⟨(some 11), .v (.mov (.t 3)), none⟩, ⟨(some 12), .v (.mov (.t 4)), none⟩, ⟨(some 13), .m (.bsl 1 1 [(.int .i64 0)] [(0, 1, (.t 12))]), none⟩, ⟨(some 14), .m (.app false 1 8 (.t 11) (.t 13)), none⟩, ⟨(some 3), .v (.mov (.t 14)), none⟩])))
          (.reg [⟨(some 15), .v (.bin .add (.t 8) (.c (.int .i64 1))), none⟩, ⟨(some 8), .v (.mov (.t 15)), none⟩])))))))
    (.seq
     (.reg [⟨(some 16), .v (.mov (.t 3)), none⟩, ⟨(some 2), .v (.mov (.t 16)), none⟩])
     .ret))))⟩
theorem e103 : rFunc Tryz.prog Tryz.f103 = some r103 := by kernel_rfl
def r123 : RFunc := ⟨38, [.t 4],
 (.seq
  (.reg [⟨(some 2), .m (.box (.t 0)), none⟩, ⟨(some 4), .v (.mov (.c .nils)), none⟩])
  (.seq
   (.reg [⟨(some 10), .v (.faddr 0 (.t 2)), none⟩, ⟨(some 11), .v (.load false 1 (.t 10)), none⟩, ⟨(some 12), .m (.mks 1 8 [(.int .i64 0)] (.t 11) (.t 11)), none⟩, ⟨(some 5), .v (.mov (.t 12)), none⟩])
   (.seq
    (.seq
     (.reg [⟨(some 13), .v (.mov (.t 1)), none⟩, ⟨(some 14), .v (.len (.t 13)), none⟩, ⟨(some 15), .v (.mov (.c (.int .i64 0))), none⟩])
     (.block 0
      (.loop
       (.seq
        (.reg [⟨(some 16), .v (.bin .lss (.t 15) (.t 14)), none⟩])
        (.seq
         (.cond (.t 16)
          .skip
          (.exit 0))
         (.seq
          (.block 1
           (.seq
            (.reg [⟨(some 17), .v (.iaddr 1 (.t 13) (.t 15)), none⟩, ⟨(some 18), .v (.load false 1 (.t 17)), none⟩, ⟨(some 7), .v (.mov (.t 18)), none⟩])
            (.seq
             (.reg [⟨(some 19), .v (.faddr 1 (.t 2)), none⟩, ⟨(some 20), .v (.load false 1 (.t 19)), none⟩, ⟨(some 21), .v (.mov (.t 7)), none⟩, ⟨(some 22), .v (.iaddr 1 (.t 20) (.t 21)), none⟩, ⟨(some 23), .v (.load false 1 (.t 22)), none⟩, ⟨(some 24), .v (.len (.t 23)), none⟩, ⟨(some 25), .v (.mov (.c (.int .i64 0))), none⟩])
             (.block 2
              (.loop
               (.seq
                (.reg [⟨(some 26), .v (.bin .lss (.t 25) (.t 24)), none⟩])
                (.seq
                 (.cond (.t 26)
                  .skip
                  (.exit 2))
                 (.seq
                  (.block 3
                   (.seq
                    (.reg [⟨(some 27), .v (.iaddr 1 (.t 23) (.t 25)), none⟩, ⟨(some 28), .v (.load false 1 (.t 27)), none⟩, ⟨(some 9), .v (.mov (.t 28)), none⟩])
                    (.reg [⟨(some 29), .v (.mov (.t 5)), none⟩, ⟨(some 30), .v (.mov (.t 9)), none⟩, ⟨(some 31), .v (.iaddr 1 (.t 29) (.t 30)), none⟩, ⟨(some 32), .v (.load false 1 (.t 31)), none⟩, ⟨(some 33), .v (.bin .add (.t 32) (.c (.int .i64 1))), none⟩, ⟨(some 34), .v (.iaddr 1 (.t 29) (.t 30)), none⟩, ⟨none, .m (.store 1 (.t 34) (.t 33)), none⟩])))
                  (.reg [⟨(some 35), .v (.bin .add (.t 25) (.c (.int .i64 1))), none⟩, ⟨(some 25), .v (.mov (.t 35)), none⟩])))))))))
          (.reg [⟨(some 36), .v (.bin .add (.t 15) (.c (.int .i64 1))), none⟩, ⟨(some 15), .v (.mov (.t 36)), none⟩])))))))
    (.seq
     (.reg [⟨(some 37), .v (.mov (.t 5)), none⟩, ⟨(some 4), .v (.mov (.t 37)), none⟩])
     .ret))))⟩
theorem e123 : rFunc Tryz.prog Tryz.f123 = some r123 := by kernel_rfl
def r104 : RFunc := ⟨25, [.t 4],
 (.seq
  (.reg [⟨(some 2), .m (.box (.t 0)), none⟩, ⟨(some 4), .v (.mov (.c .nils)), none⟩])
  (.seq
   (.reg [⟨(some 5), .v (.mov (.c .nils)), none⟩])
   (.seq
    (.seq
     (.reg [⟨(some 8), .v (.load true 2 (.t 2)), none⟩, ⟨(some 9), .v (.mov (.t 1)), none⟩, ⟨(some 10), .call 123 [(.t 8), (.t 9)], none⟩, ⟨(some 11), .v (.len (.t 10)), none⟩, ⟨(some 12), .v (.mov (.c (.int .i64 0))), none⟩])
     (.block 0
      (.loop
       (.seq
        (.reg [⟨(some 13), .v (.bin .lss (.t 12) (.t 11)), none⟩])
        (.seq
         (.cond (.t 13)
          .skip
          (.exit 0))
         (.seq
          (.block 1
           (.seq
            (.reg [⟨(some 14), .v (.mov (.t 12)), none⟩, ⟨(some 15), .v (.iaddr 1 (.t 10) (.t 12)), none⟩, ⟨(some 16), .v (.load false 1 (.t 15)), none⟩, ⟨(some 6), .v (.mov (.t 14)), none⟩, ⟨(some 7), .v (.mov (.t 16)), none⟩])
            (.seq
             (.reg [⟨(some 17), .v (.mov (.t 7)), none⟩, ⟨(some 18), .v (.bin .eql (.t 17) (.c (.int .i64 1))), none⟩])
             (.cond (.t 18)
              (.reg [⟨(some 19), .v (.mov (.t 5)), none⟩, ⟨(some 20), .v (.mov (.t 6)), none⟩, ⟨(some 21), .m (.bsl 1 1 [(.int .i64 0)] [(0, 1, (.t 20))]), none⟩, ⟨(some 22), .m (.app false 1 8 (.t 19) (.t 21)), none⟩, ⟨(some 5), .v (.mov (.t 22)), none⟩])
              .skip))))
          (.reg [⟨(some 23), .v (.bin .add (.t 12) (.c (.int .i64 1))), none⟩, ⟨(some 12), .v (.mov (.t 23)), none⟩])))))))
    (.seq
     (.reg [⟨(some 24), .v (.mov (.t 5)), none⟩, ⟨(some 4), .v (.mov (.t 24)), none⟩])
     .ret))))⟩
theorem e104 : rFunc Tryz.prog Tryz.f104 = some r104 := by kernel_rfl
def r124 : RFunc := ⟨17, [.t 4],
 (.seq
  (.reg [⟨(some 4), .v (.mov (.c (.bool false))), none⟩])
  (.seq
   (.seq
    (.reg [⟨(some 7), .v (.mov (.t 0)), none⟩, ⟨(some 8), .v (.len (.t 7)), none⟩, ⟨(some 9), .v (.mov (.c (.int .i64 0))), none⟩])
    (.block 0
     (.loop
      (.seq
       (.reg [⟨(some 10), .v (.bin .lss (.t 9) (.t 8)), none⟩])
       (.seq
        (.cond (.t 10)
         .skip
         (.exit 0))
        (.seq
         (.block 1
          (.seq
           (.reg [⟨(some 11), .v (.iaddr 1 (.t 7) (.t 9)), none⟩, ⟨(some 12), .v (.load false 1 (.t 11)), none⟩, ⟨(some 6), .v (.mov (.t 12)), none⟩])
           (.seq
            (.reg [⟨(some 13), .v (.mov (.t 6)), none⟩, ⟨(some 14), .v (.mov (.t 1)), none⟩, ⟨(some 15), .v (.bin .eql (.t 13) (.t 14)), none⟩])
            (.cond (.t 15)
             (.seq
              (.reg [⟨(some 4), .v (.mov (.c (.bool true))), none⟩])
              .ret)
             .skip))))
         (.reg [⟨(some 16), .v (.bin .add (.t 9) (.c (.int .i64 1))), none⟩, ⟨(some 9), .v (.mov (.t 16)), none⟩])))))))
   (.seq
    (.reg [⟨(some 4), .v (.mov (.c (.bool false))), none⟩])
    .ret)))⟩
theorem e124 : rFunc Tryz.prog Tryz.f124 = some r124 := by kernel_rfl
def r105 : RFunc := ⟨24, [.t 6],
 (.seq
  (.reg [⟨(some 3), .m (.box (.t 0)), none⟩, ⟨(some 6), .v (.mov (.c (.int .i64 0))), none⟩])
  (.seq
   (.seq
    (.reg [⟨(some 9), .v (.mov (.t 1)), none⟩, ⟨(some 10), .v (.len (.t 9)), none⟩, ⟨(some 11), .v (.mov (.c (.int .i64 0))), none⟩])
    (.block 0
     (.loop
      (.seq
       (.reg [⟨(some 12), .v (.bin .lss (.t 11) (.t 10)), none⟩])
       (.seq
        (.cond (.t 12)
         .skip
         (.exit 0))
        (.seq
         (.block 1
          (.seq
           (.reg [⟨(some 13), .v (.iaddr 1 (.t 9) (.t 11)), none⟩, ⟨(some 14), .v (.load false 1 (.t 13)), none⟩, ⟨(some 8), .v (.mov (.t 14)), none⟩])
           (.seq
            (.reg [⟨(some 15), .v (.faddr 1 (.t 3)), none⟩, ⟨(some 16), .v (.load false 1 (.t 15)), none⟩, ⟨(some 17), .v (.mov (.t 8)), none⟩, ⟨(some 18), .v (.iaddr 1 (.t 16) (.t 17)), none⟩, ⟨(some 19), .v (.load false 1 (.t 18)), none⟩, ⟨(some 20), .v (.mov (.t 2)), none⟩, ⟨(some 21), .call 124 [(.t 19), (.t 20)], none⟩])
            (.cond (.t 21)
             (.seq
              (.reg [⟨(some 22), .v (.mov (.t 8)), none⟩, ⟨(some 6), .v (.mov (.t 22)), none⟩])
              .ret)
             .skip))))
         (.reg [⟨(some 23), .v (.bin .add (.t 11) (.c (.int .i64 1))), none⟩, ⟨(some 11), .v (.mov (.t 23)), none⟩])))))))
   (.seq
    (.reg [⟨(some 6), .v (.mov (.c (.int .i64 (-1)))), none⟩])
    .ret)))⟩
theorem e105 : rFunc Tryz.prog Tryz.f105 = some r105 := by kernel_rfl
def r106 : RFunc := ⟨23, [.t 4],
 (.seq
  (.reg [⟨(some 4), .v (.mov (.c .nils)), none⟩])
  (.seq
   (.reg [⟨(some 5), .v (.mov (.c .nils)), none⟩])
   (.seq
    (.seq
     (.reg [⟨(some 8), .v (.mov (.t 0)), none⟩, ⟨(some 9), .v (.len (.t 8)), none⟩, ⟨(some 10), .v (.mov (.c (.int .i64 0))), none⟩])
     (.block 0
      (.loop
       (.seq
        (.reg [⟨(some 11), .v (.bin .lss (.t 10) (.t 9)), none⟩])
        (.seq
         (.cond (.t 11)
          .skip
          (.exit 0))
         (.seq
          (.block 1
           (.seq
            (.reg [⟨(some 12), .v (.iaddr 1 (.t 8) (.t 10)), none⟩, ⟨(some 13), .v (.load false 1 (.t 12)), none⟩, ⟨(some 7), .v (.mov (.t 13)), none⟩])
            (.seq
             (.reg [⟨(some 14), .v (.mov (.t 7)), none⟩, ⟨(some 15), .v (.mov (.t 1)), none⟩, ⟨(some 16), .v (.bin .neq (.t 14) (.t 15)), none⟩])
             (.cond (.t 16)
              (.reg [⟨(some 17), .v (.mov (.t 5)), none⟩, ⟨(some 18), .v (.mov (.t 7)), none⟩, ⟨(some 19), .m (.bsl 1 1 [(.int .i64 0)] [(0, 1, (.t 18))]), none⟩, ⟨(some 20), .m (.app false 1 8 (.t 17) (.t 19)), none⟩, ⟨(some 5), .v (.mov (.t 20)), none⟩])
              .skip))))
          (.reg [⟨(some 21), .v (.bin .add (.t 10) (.c (.int .i64 1))), none⟩, ⟨(some 10), .v (.mov (.t 21)), none⟩])))))))
    (.seq
     (.reg [⟨(some 22), .v (.mov (.t 5)), none⟩, ⟨(some 4), .v (.mov (.t 22)), none⟩])
     .ret))))⟩
theorem e106 : rFunc Tryz.prog Tryz.f106 = some r106 := by kernel_rfl
def r84 : RFunc := ⟨64, [.t 6, .t 7],
 (.seq
  (.reg [⟨(some 3), .m (.box (.t 0)), none⟩, ⟨(some 6), .v (.mov (.c .nils)), none⟩, ⟨(some 7), .v (.mov (.c .nils)), none⟩])
  (.seq
   (.reg [⟨(some 8), .v (.mov (.c .nils)), none⟩])
   (.seq
    (.reg [⟨(some 14), .v (.load true 2 (.t 3)), none⟩, ⟨(some 15), .call 103 [(.t 14)], none⟩, ⟨(some 9), .v (.mov (.t 15)), none⟩])
    (.seq
     (.seq
      (.reg [⟨(some 10), .v (.mov (.c (.int .i64 0))), none⟩])
      (.block 0
       (.loop
        (.seq
         (.seq
          (.reg [⟨(some 16), .v (.mov (.t 2)), none⟩, ⟨(some 17), .v (.mov (.t 16)), none⟩, ⟨(some 18), .v (.mov (.t 10)), (some (17, false))⟩, ⟨(some 19), .v (.mov (.t 1)), (some (17, false))⟩, ⟨(some 20), .v (.len (.t 19)), (some (17, false))⟩, ⟨(some 21), .v (.bin .lss (.t 18) (.t 20)), (some (17, false))⟩, ⟨(some 22), .v (.pick (.t 17) (.c (.bool true)) (.t 21)), none⟩])
          (.cond (.t 22)
           .skip
           (.exit 0)))
         (.seq
          (.block 1
           (.seq
            (.reg [⟨(some 25), .v (.load true 2 (.t 3)), none⟩, ⟨(some 26), .v (.mov (.t 9)), none⟩, ⟨(some 27), .call 104 [(.t 25), (.t 26)], none⟩, ⟨(some 11), .v (.mov (.t 27)), none⟩])
            (.seq
             (.seq
              (.reg [⟨(some 28), .v (.mov (.t 11)), none⟩, ⟨(some 29), .v (.len (.t 28)), none⟩, ⟨(some 30), .v (.bin .eql (.t 29) (.c (.int .i64 0))), none⟩])
              (.cond (.t 30)
               (.exit 0)
               .skip))
             (.seq
              (.reg [⟨(some 12), .v (.mov (.c (.int .i64 0))), none⟩])
              (.seq
               (.seq
                (.reg [⟨(some 31), .v (.mov (.t 10)), none⟩, ⟨(some 32), .v (.mov (.t 1)), none⟩, ⟨(some 33), .v (.len (.t 32)), none⟩, ⟨(some 34), .v (.bin .lss (.t 31) (.t 33)), none⟩])
                (.cond (.t 34)
                 (.reg [⟨(some 35), .v (.mov (.t 1)), none⟩, ⟨(some 36), .v (.mov (.t 10)), none⟩, ⟨(some 37), .v (.iaddr 1 (.t 35) (.t 36)), none⟩, ⟨(some 38), .v (.load false 1 (.t 37)), none⟩, ⟨(some 39), .v (.mov (.t 11)), none⟩, ⟨(some 40), .v (.len (.t 39)), none⟩, ⟨(some 41), .v (.bin .rem (.t 38) (.t 40)), none⟩, ⟨(some 12), .v (.mov (.t 41)), none⟩])
                 .skip))
               (.seq
                (.dreg (.fl ⟨(some 42), .v (.load true 2 (.t 3)), none⟩ (.fl ⟨(some 43), .v (.mov (.t 9)), none⟩ (.fl ⟨(some 44), .v (.mov (.t 11)), none⟩ (.fl ⟨(some 45), .v (.mov (.t 12)), none⟩ (.fl ⟨(some 46), .v (.iaddr 1 (.t 44) (.t 45)), none⟩ (.fl ⟨(some 47), .v (.load false 1 (.t 46)), none⟩ (.fl ⟨(some 49), .v (.mov (.t 11)), none⟩ (.fl ⟨(some 50), .v (.mov (.t 12)), none⟩ (.fl ⟨(some 51), .v (.iaddr 1 (.t 49) (.t 50)), none⟩ (.fl ⟨(some 52), .v (.load false 1 (.t 51)), none⟩ (.both (.nx ⟨(some 48), .call 105 [(.t 42), (.t 43), (.t 47)], none⟩ (.fl ⟨(some 53), .v (.bld [(.int .i64 0), (.int .i64 0)] [(0, 1, (.t 48)), (1, 1, (.t 52))]), none⟩ (.nx ⟨(some 13), .m (.alloc [(.int .i64 0), (.int .i64 0)]), none⟩ (.nx ⟨none, .m (.store 2 (.t 13) (.t 53)), none⟩ .done)))) (.nx ⟨(some 13), .m (.alloc [(.int .i64 0), (.int .i64 0)]), none⟩ (.nx ⟨(some 48), .call 105 [(.t 42), (.t 43), (.t 47)], none⟩ (.fl ⟨(some 53), .v (.bld [(.int .i64 0), (.int .i64 0)] [(0, 1, (.t 48)), (1, 1, (.t 52))]), none⟩ (.nx ⟨none, .m (.store 2 (.t 13) (.t 53)), none⟩ .done))))))))))))))))
                (.seq
                 (.reg [⟨(some 54), .v (.mov (.t 8)), none⟩, ⟨(some 55), .v (.load true 2 (.t 13)), none⟩, ⟨(some 56), .m (.bsl 2 1 [(.int .i64 0), (.int .i64 0)] [(0, 2, (.t 55))]), none⟩, ⟨(some 57), .m (.app false 2 16 (.t 54) (.t 56)), none⟩, ⟨(some 8), .v (.mov (.t 57)), none⟩])
                 (.reg [⟨(some 58), .v (.mov (.t 9)), none⟩, ⟨(some 59), .v (.faddr 0 (.t 13)), none⟩, ⟨(some 60), .v (.load false 1 (.t 59)), none⟩, ⟨(some 61), .call 106 [(.t 58), (.t 60)], none⟩, ⟨(some 9), .v (.mov (.t 61)), none⟩]))))))))
          (.reg [⟨(some 23), .v (.mov (.t 10)), none⟩, ⟨(some 24), .v (.bin .add (.t 23) (.c (.int .i64 1))), none⟩, ⟨(some 10), .v (.mov (.t 24)), none⟩]))))))
     (.seq
      (.reg [⟨(some 62), .v (.mov (.t 8)), none⟩, ⟨(some 63), .v (.mov (.t 9)), none⟩, ⟨(some 6), .v (.mov (.t 62)), none⟩, ⟨(some 7), .v (.mov (.t 63)), none⟩])
      .ret)))))⟩
theorem e84 : rFunc Tryz.prog Tryz.f84 = some r84 := by kernel_rfl
end Go.Proofs.YtbkcenkfecndjaaGreatDoor.M

/-
  The resolved text of the functions, each tied to the program's own by the kernel.
-/
import Derived.Test.YtoappkfndnggnaaDoorProg
import Derived.Test.YtoappkfndnggnaaDoorFt
namespace Go.Proofs.YtoappkfndnggnaaDoor.M
open Go Go.RowKit
set_option maxRecDepth 100000

def r29 : RFunc := ⟨50, [.cell true 7 2, .t 3],
 (.seq
  (.reg [⟨(some 2), .m (.alloc [(.int .i64 0), (.int .i64 0), (.int .i64 0), (.int .i64 0), .nils, (.int .i64 0), .nils]), none⟩, ⟨(some 3), .v (.mov (.c (.bool false))), none⟩])
  (.seq
   (.reg [⟨(some 10), .v (.mov (.t 0)), none⟩, ⟨(some 11), .call 33 [(.t 10)], none⟩, ⟨(some 9), .v (.mov (.t 11)), none⟩, ⟨(some 12), .v (.ext (.t 9) 0), none⟩, ⟨(some 13), .v (.ext (.t 9) 1), none⟩, ⟨(some 4), .v (.mov (.t 12)), none⟩, ⟨(some 5), .v (.mov (.t 13)), none⟩])
   (.seq
    (.seq
     (.reg [⟨(some 14), .v (.mov (.t 5)), none⟩, ⟨(some 15), .v (.un .not (.t 14)), none⟩, ⟨(some 16), .v (.mov (.t 15)), none⟩, ⟨(some 17), .v (.mov (.t 4)), (some (16, false))⟩, ⟨(some 18), .call 34 [(.t 17), (.c (.str [115, 112, 97, 114, 115, 101, 32]))], (some (16, false))⟩, ⟨(some 19), .v (.un .not (.t 18)), (some (16, false))⟩, ⟨(some 20), .v (.pick (.t 16) (.c (.bool true)) (.t 19)), none⟩])
     (.cond (.t 20)
      (.seq
       (.reg [⟨(some 21), .v (.bld [(.int .i64 0), (.int .i64 0), (.int .i64 0), (.int .i64 0), .nils, (.int .i64 0), .nils] []), none⟩, ⟨none, .m (.store 7 (.t 2) (.t 21)), none⟩, ⟨(some 3), .v (.mov (.c (.bool false))), none⟩])
       .ret)
      .skip))
    (.seq
     (.reg [⟨(some 6), .v (.mov (.c .nils)), none⟩])
     (.seq
      (.seq
       (.reg [⟨(some 22), .v (.mov (.t 4)), none⟩, ⟨(some 23), .v (.sstr (.t 22) (some (.c (.int .i64 7))) none), none⟩, ⟨(some 24), .call 50 [(.t 23), (.c (.int .u8 32))], none⟩, ⟨(some 25), .v (.len (.t 24)), none⟩, ⟨(some 26), .v (.mov (.c (.int .i64 0))), none⟩])
       (.block 0
        (.loop
         (.seq
          (.reg [⟨(some 27), .v (.bin .lss (.t 26) (.t 25)), none⟩])
          (.seq
           (.cond (.t 27)
            .skip
            (.exit 0))
           (.seq
            (.block 1
             (.seq
              (.reg [⟨(some 28), .v (.iaddr 1 (.t 24) (.t 26)), none⟩, ⟨(some 29), .v (.load false 1 (.t 28)), none⟩, ⟨(some 8), .v (.mov (.t 29)), none⟩])
              (.reg [⟨(some 30), .v (.mov (.t 6)), none⟩, ⟨(some 31), .v (.mov (.t 8)), none⟩, ⟨(some 32), .call 51 [(.t 31)], none⟩, ⟨(some 33), .m (.bsl 1 1 [(.int .i64 0)] [(0, 1, (.t 32))]), none⟩, ⟨(some 34), .m (.app false 1 8 (.t 30) (.t 33)), none⟩, ⟨(some 6), .v (.mov (.t 34)), none⟩])))
            (.reg [⟨(some 35), .v (.bin .add (.t 26) (.c (.int .i64 1))), none⟩, ⟨(some 26), .v (.mov (.t 35)), none⟩])))))))
      (.seq
       (.seq
        (.dreg (.fl ⟨(some 36), .v (.mov (.t 6)), none⟩ (.fl ⟨(some 37), .v (.slc 1 (.t 36) (some (.c (.int .i64 1))) none), none⟩ (.fl ⟨(some 38), .v (.mov (.t 6)), none⟩ (.fl ⟨(some 39), .v (.iaddr 1 (.t 38) (.c (.int .i64 0))), none⟩ (.fl ⟨(some 40), .v (.load false 1 (.t 39)), none⟩ (.nx ⟨(some 41), .call 62 [(.t 37), (.t 40)], none⟩ (.fl ⟨(some 42), .v (.un .not (.t 41)), none⟩ .done))))))))
        (.cond (.t 42)
         (.seq
          (.reg [⟨(some 43), .v (.bld [(.int .i64 0), (.int .i64 0), (.int .i64 0), (.int .i64 0), .nils, (.int .i64 0), .nils] []), none⟩, ⟨none, .m (.store 7 (.t 2) (.t 43)), none⟩, ⟨(some 3), .v (.mov (.c (.bool false))), none⟩])
          .ret)
         .skip))
       (.seq
        (.dreg (.fl ⟨(some 44), .v (.mov (.t 6)), none⟩ (.fl ⟨(some 45), .v (.slc 1 (.t 44) (some (.c (.int .i64 1))) none), none⟩ (.fl ⟨(some 46), .v (.mov (.t 6)), none⟩ (.fl ⟨(some 47), .v (.iaddr 1 (.t 46) (.c (.int .i64 0))), none⟩ (.nx ⟨(some 48), .v (.load false 1 (.t 47)), none⟩ (.nx ⟨(some 49), .call 63 [(.t 45), (.t 48)], none⟩ (.nx ⟨none, .m (.store 7 (.t 2) (.t 49)), none⟩ (.fl ⟨(some 3), .v (.mov (.c (.bool true))), none⟩ .done)))))))))
        .ret)))))))⟩
theorem e29 : rFunc Tryd.prog Tryd.f29 = some r29 := by kernel_rfl
def r64 : RFunc := ⟨14, [.cell true 7 4, .t 5],
 (.seq
  (.reg [⟨(some 4), .m (.alloc [(.int .i64 0), (.int .i64 0), (.int .i64 0), (.int .i64 0), .nils, (.int .i64 0), .nils]), none⟩, ⟨(some 5), .v (.mov (.c (.bool false))), none⟩])
  (.seq
   (.seq
    (.reg [⟨(some 6), .v (.mov (.t 0)), none⟩, ⟨(some 7), .v (.mov (.t 1)), none⟩, ⟨(some 8), .call 96 [(.t 6), (.t 7)], none⟩, ⟨(some 9), .v (.un .not (.t 8)), none⟩])
    (.cond (.t 9)
     (.seq
      (.reg [⟨(some 10), .v (.bld [(.int .i64 0), (.int .i64 0), (.int .i64 0), (.int .i64 0), .nils, (.int .i64 0), .nils] []), none⟩, ⟨none, .m (.store 7 (.t 4) (.t 10)), none⟩, ⟨(some 5), .v (.mov (.c (.bool false))), none⟩])
      .ret)
     .skip))
   (.seq
    (.reg [⟨(some 11), .v (.mov (.t 0)), none⟩, ⟨(some 12), .v (.mov (.t 1)), none⟩, ⟨(some 13), .call 97 [(.t 11), (.t 12)], none⟩, ⟨none, .m (.store 7 (.t 4) (.t 13)), none⟩, ⟨(some 5), .v (.mov (.c (.bool true))), none⟩])
    .ret)))⟩
theorem e64 : rFunc Tryd.prog Tryd.f64 = some r64 := by kernel_rfl
def r30 : RFunc := ⟨52, [.cell true 7 2, .t 3],
 (.seq
  (.reg [⟨(some 2), .m (.alloc [(.int .i64 0), (.int .i64 0), (.int .i64 0), (.int .i64 0), .nils, (.int .i64 0), .nils]), none⟩, ⟨(some 3), .v (.mov (.c (.bool false))), none⟩])
  (.seq
   (.reg [⟨(some 12), .v (.mov (.t 0)), none⟩, ⟨(some 13), .call 36 [(.t 12), (.c (.str [115, 112, 97, 114, 115, 101]))], none⟩, ⟨(some 11), .v (.mov (.t 13)), none⟩, ⟨(some 14), .v (.ext (.t 11) 0), none⟩, ⟨(some 15), .v (.ext (.t 11) 1), none⟩, ⟨(some 4), .v (.mov (.t 14)), none⟩, ⟨(some 5), .v (.mov (.t 15)), none⟩])
   (.seq
    (.seq
     (.reg [⟨(some 16), .v (.mov (.t 5)), none⟩, ⟨(some 17), .v (.un .not (.t 16)), none⟩, ⟨(some 18), .v (.mov (.t 17)), none⟩, ⟨(some 19), .v (.mov (.t 4)), (some (18, false))⟩, ⟨(some 20), .v (.len (.t 19)), (some (18, false))⟩, ⟨(some 21), .v (.bin .eql (.t 20) (.c (.int .i64 0))), (some (18, false))⟩, ⟨(some 22), .v (.pick (.t 18) (.c (.bool true)) (.t 21)), none⟩])
     (.cond (.t 22)
      (.seq
       (.reg [⟨(some 23), .v (.bld [(.int .i64 0), (.int .i64 0), (.int .i64 0), (.int .i64 0), .nils, (.int .i64 0), .nils] []), none⟩, ⟨none, .m (.store 7 (.t 2) (.t 23)), none⟩, ⟨(some 3), .v (.mov (.c (.bool false))), none⟩])
       .ret)
      .skip))
    (.seq
     (.reg [⟨(some 24), .m (.bsl 1 0 [(.int .i64 0)] []), none⟩, ⟨(some 6), .v (.mov (.t 24)), none⟩])
     (.seq
      (.seq
       (.reg [⟨(some 25), .v (.mov (.t 4)), none⟩, ⟨(some 26), .v (.len (.t 25)), none⟩, ⟨(some 27), .v (.mov (.c (.int .i64 0))), none⟩])
       (.block 0
        (.loop
         (.seq
          (.reg [⟨(some 28), .v (.bin .lss (.t 27) (.t 26)), none⟩])
          (.seq
           (.cond (.t 28)
            .skip
            (.exit 0))
           (.seq
            (.block 1
             (.seq
              (.reg [⟨(some 29), .v (.iaddr 1 (.t 25) (.t 27)), none⟩, ⟨(some 30), .v (.load false 1 (.t 29)), none⟩, ⟨(some 8), .v (.mov (.t 30)), none⟩])
              (.seq
               (.reg [⟨(some 32), .v (.mov (.t 8)), none⟩, ⟨(some 33), .call 53 [(.t 32)], none⟩, ⟨(some 31), .v (.mov (.t 33)), none⟩, ⟨(some 34), .v (.ext (.t 31) 0), none⟩, ⟨(some 35), .v (.ext (.t 31) 1), none⟩, ⟨(some 9), .v (.mov (.t 34)), none⟩, ⟨(some 10), .v (.mov (.t 35)), none⟩])
               (.seq
                (.seq
                 (.reg [⟨(some 36), .v (.mov (.t 10)), none⟩, ⟨(some 37), .v (.un .not (.t 36)), none⟩])
                 (.cond (.t 37)
                  (.seq
                   (.reg [⟨(some 38), .v (.bld [(.int .i64 0), (.int .i64 0), (.int .i64 0), (.int .i64 0), .nils, (.int .i64 0), .nils] []), none⟩, ⟨none, .m (.store 7 (.t 2) (.t 38)), none⟩, ⟨(some 3), .v (.mov (.c (.bool false))), none⟩])
                   .ret)
                  .skip))
                (.reg [⟨(some 39), .v (.mov (.t 6)), none⟩, ⟨(some 40), .v (.mov (.t 9)), none⟩, ⟨(some 41), .m (.bsl 1 1 [(.int .i64 0)] [(0, 1, (.t 40))]), none⟩, ⟨(some 42), .m (.app false 1 8 (.t 39) (.t 41)), none⟩, ⟨(some 6), .v (.mov (.t 42)), none⟩])))))
            (.reg [⟨(some 43), .v (.bin .add (.t 27) (.c (.int .i64 1))), none⟩, ⟨(some 27), .v (.mov (.t 43)), none⟩])))))))
      (.seq
       (.dreg (.fl ⟨(some 44), .v (.mov (.t 6)), none⟩ (.fl ⟨(some 45), .v (.slc 1 (.t 44) (some (.c (.int .i64 1))) none), none⟩ (.fl ⟨(some 46), .v (.mov (.t 6)), none⟩ (.fl ⟨(some 47), .v (.iaddr 1 (.t 46) (.c (.int .i64 0))), none⟩ (.nx ⟨(some 48), .v (.load false 1 (.t 47)), none⟩ (.nx ⟨(some 49), .call 64 [(.t 45), (.t 48)], none⟩ (.fl ⟨(some 50), .v (.ext (.t 49) 0), none⟩ (.fl ⟨(some 51), .v (.ext (.t 49) 1), none⟩ (.nx ⟨none, .m (.store 7 (.t 2) (.t 50)), none⟩ (.fl ⟨(some 3), .v (.mov (.t 51)), none⟩ .done)))))))))))
       .ret))))))⟩
theorem e30 : rFunc Tryd.prog Tryd.f30 = some r30 := by kernel_rfl
def r28 : RFunc := ⟨32, [.t 4],
 (.seq
  (.reg [⟨(some 2), .m (.box (.t 0)), none⟩, ⟨(some 3), .m (.box (.t 1)), none⟩, ⟨(some 4), .v (.mov (.c (.bool false))), none⟩])
  (.seq
   (.seq
    (.reg [⟨(some 5), .v (.faddr 0 (.t 2)), none⟩, ⟨(some 6), .v (.load false 1 (.t 5)), none⟩, ⟨(some 7), .v (.faddr 0 (.t 3)), none⟩, ⟨(some 8), .v (.load false 1 (.t 7)), none⟩, ⟨(some 9), .v (.bin .neq (.t 6) (.t 8)), none⟩])
    (.cond (.t 9)
     (.seq
      (.reg [⟨(some 4), .v (.mov (.c (.bool false))), none⟩])
      .ret)
     .skip))
   (.seq
    (.seq
     (.reg [⟨(some 10), .v (.faddr 1 (.t 2)), none⟩, ⟨(some 11), .v (.load false 1 (.t 10)), none⟩, ⟨(some 12), .v (.faddr 1 (.t 3)), none⟩, ⟨(some 13), .v (.load false 1 (.t 12)), none⟩, ⟨(some 14), .v (.bin .neq (.t 11) (.t 13)), none⟩])
     (.cond (.t 14)
      (.seq
       (.reg [⟨(some 4), .v (.mov (.c (.bool false))), none⟩])
       .ret)
      .skip))
    (.seq
     (.seq
      (.reg [⟨(some 15), .v (.faddr 2 (.t 2)), none⟩, ⟨(some 16), .v (.load false 1 (.t 15)), none⟩, ⟨(some 17), .v (.faddr 2 (.t 3)), none⟩, ⟨(some 18), .v (.load false 1 (.t 17)), none⟩, ⟨(some 19), .v (.bin .neq (.t 16) (.t 18)), none⟩])
      (.cond (.t 19)
       (.seq
        (.reg [⟨(some 4), .v (.mov (.c (.bool false))), none⟩])
        .ret)
       .skip))
     (.seq
      (.seq
       (.reg [⟨(some 20), .v (.faddr 3 (.t 2)), none⟩, ⟨(some 21), .v (.load true 2 (.t 20)), none⟩, ⟨(some 22), .v (.faddr 3 (.t 3)), none⟩, ⟨(some 23), .v (.load true 2 (.t 22)), none⟩, ⟨(some 24), .call 10 [(.t 21), (.t 23)], none⟩, ⟨(some 25), .v (.un .not (.t 24)), none⟩])
       (.cond (.t 25)
        (.seq
         (.reg [⟨(some 4), .v (.mov (.c (.bool false))), none⟩])
         .ret)
        .skip))
      (.seq
       (.seq
        (.reg [⟨(some 26), .v (.faddr 5 (.t 2)), none⟩, ⟨(some 27), .v (.load true 2 (.t 26)), none⟩, ⟨(some 28), .v (.faddr 5 (.t 3)), none⟩, ⟨(some 29), .v (.load true 2 (.t 28)), none⟩, ⟨(some 30), .call 10 [(.t 27), (.t 29)], none⟩, ⟨(some 31), .v (.un .not (.t 30)), none⟩])
        (.cond (.t 31)
         (.seq
          (.reg [⟨(some 4), .v (.mov (.c (.bool false))), none⟩])
          .ret)
         .skip))
       (.seq
        (.reg [⟨(some 4), .v (.mov (.c (.bool true))), none⟩])
        .ret)))))))⟩
theorem e28 : rFunc Tryd.prog Tryd.f28 = some r28 := by kernel_rfl
def r31 : RFunc := ⟨14, [.t 4],
 (.seq
  (.reg [⟨(some 2), .m (.box (.t 0)), none⟩, ⟨(some 4), .v (.mov (.c (.int .i64 0))), none⟩])
  (.seq
   (.reg [⟨(some 5), .v (.faddr 3 (.t 2)), none⟩, ⟨(some 6), .v (.load true 2 (.t 5)), none⟩, ⟨(some 7), .v (.mov (.t 1)), none⟩, ⟨(some 8), .call 11 [(.t 6), (.t 7)], none⟩, ⟨(some 1), .v (.mov (.t 8)), none⟩])
   (.seq
    (.reg [⟨(some 9), .v (.faddr 5 (.t 2)), none⟩, ⟨(some 10), .v (.load true 2 (.t 9)), none⟩, ⟨(some 11), .v (.mov (.t 1)), none⟩, ⟨(some 12), .call 11 [(.t 10), (.t 11)], none⟩, ⟨(some 1), .v (.mov (.t 12)), none⟩])
    (.seq
     (.reg [⟨(some 13), .v (.mov (.t 1)), none⟩, ⟨(some 4), .v (.mov (.t 13)), none⟩])
     .ret))))⟩
theorem e31 : rFunc Tryd.prog Tryd.f31 = some r31 := by kernel_rfl
def r32 : RFunc := ⟨18, [.t 4],
 (.seq
  (.reg [⟨(some 2), .m (.box (.t 0)), none⟩, ⟨(some 4), .v (.mov (.c (.int .i64 0))), none⟩])
  (.seq
   (.reg [⟨(some 5), .v (.faddr 3 (.t 2)), none⟩, ⟨(some 6), .v (.load true 2 (.t 5)), none⟩, ⟨(some 7), .v (.mov (.t 1)), none⟩, ⟨(some 8), .call 12 [(.t 6), (.t 7)], none⟩, ⟨(some 1), .v (.mov (.t 8)), none⟩])
   (.seq
    (.seq
     (.reg [⟨(some 9), .v (.mov (.t 1)), none⟩, ⟨(some 10), .v (.bin .lss (.t 9) (.c (.int .i64 0))), none⟩])
     (.cond (.t 10)
      (.seq
       (.reg [⟨(some 4), .v (.mov (.c (.int .i64 (-1)))), none⟩])
       .ret)
      .skip))
    (.seq
     (.reg [⟨(some 11), .v (.faddr 5 (.t 2)), none⟩, ⟨(some 12), .v (.load true 2 (.t 11)), none⟩, ⟨(some 13), .v (.mov (.t 1)), none⟩, ⟨(some 14), .call 12 [(.t 12), (.t 13)], none⟩, ⟨(some 1), .v (.mov (.t 14)), none⟩])
     (.seq
      (.seq
       (.reg [⟨(some 15), .v (.mov (.t 1)), none⟩, ⟨(some 16), .v (.bin .lss (.t 15) (.c (.int .i64 0))), none⟩])
       (.cond (.t 16)
        (.seq
         (.reg [⟨(some 4), .v (.mov (.c (.int .i64 (-1)))), none⟩])
         .ret)
        .skip))
      (.seq
       (.reg [⟨(some 17), .v (.mov (.t 1)), none⟩, ⟨(some 4), .v (.mov (.t 17)), none⟩])
       .ret))))))⟩
theorem e32 : rFunc Tryd.prog Tryd.f32 = some r32 := by kernel_rfl
def r7 : RFunc := ⟨66, [.t 2],
 (.seq
  (.reg [⟨(some 2), .v (.mov (.c (.bool false))), none⟩])
  (.seq
   (.seq
    (.reg [⟨(some 11), .v (.mov (.t 0)), none⟩, ⟨(some 12), .v (.lens (.t 11)), none⟩, ⟨(some 13), .v (.bin .gtr (.t 12) (.c (.int .i64 1048576))), none⟩])
    (.cond (.t 13)
     (.seq
      (.reg [⟨(some 2), .v (.mov (.c (.bool true))), none⟩])
      .ret)
     .skip))
   (.seq
    (.reg [⟨(some 15), .v (.mov (.t 0)), none⟩, ⟨(some 16), .call 29 [(.t 15)], none⟩, ⟨(some 14), .v (.mov (.t 16)), none⟩, ⟨(some 17), .v (.ext (.t 14) 0), none⟩, ⟨(some 18), .v (.ext (.t 14) 1), none⟩, ⟨(some 3), .m (.alloc [(.int .i64 0), (.int .i64 0), (.int .i64 0), (.int .i64 0), .nils, (.int .i64 0), .nils]), none⟩, ⟨none, .m (.store 7 (.t 3) (.t 17)), none⟩, ⟨(some 4), .v (.mov (.t 18)), none⟩])
    (.seq
     (.reg [⟨(some 20), .v (.mov (.t 0)), none⟩, ⟨(some 21), .call 30 [(.t 20)], none⟩, ⟨(some 19), .v (.mov (.t 21)), none⟩, ⟨(some 22), .v (.ext (.t 19) 0), none⟩, ⟨(some 23), .v (.ext (.t 19) 1), none⟩, ⟨(some 5), .m (.alloc [(.int .i64 0), (.int .i64 0), (.int .i64 0), (.int .i64 0), .nils, (.int .i64 0), .nils]), none⟩, ⟨none, .m (.store 7 (.t 5) (.t 22)), none⟩, ⟨(some 6), .v (.mov (.t 23)), none⟩])
     (.seq
      (.seq
       (.reg [⟨(some 24), .v (.load true 7 (.t 5)), none⟩, ⟨(some 25), .v (.load true 7 (.t 3)), none⟩, ⟨(some 26), .call 28 [(.t 24), (.t 25)], none⟩, ⟨(some 27), .v (.un .not (.t 26)), none⟩, ⟨(some 28), .v (.mov (.t 27)), none⟩, ⟨(some 29), .v (.mov (.t 6)), (some (28, false))⟩, ⟨(some 30), .v (.mov (.t 4)), (some (28, false))⟩, ⟨(some 31), .v (.beq true (.t 29) (.t 30)), (some (28, false))⟩, ⟨(some 32), .v (.pick (.t 28) (.c (.bool true)) (.t 31)), none⟩])
       (.cond (.t 32)
        (.seq
         (.reg [⟨(some 2), .v (.mov (.c (.bool false))), none⟩])
         .ret)
        .skip))
      (.seq
       (.reg [⟨(some 7), .v (.mov (.c (.int .i64 1))), none⟩])
       (.seq
        (.reg [⟨(some 33), .v (.load true 7 (.t 5)), none⟩, ⟨(some 34), .v (.mov (.t 7)), none⟩, ⟨(some 35), .call 31 [(.t 33), (.t 34)], none⟩, ⟨(some 7), .v (.mov (.t 35)), none⟩])
        (.seq
         (.reg [⟨(some 8), .v (.mov (.c (.int .i64 1))), none⟩])
         (.seq
          (.reg [⟨(some 36), .v (.load true 7 (.t 5)), none⟩, ⟨(some 37), .v (.mov (.t 8)), none⟩, ⟨(some 38), .call 32 [(.t 36), (.t 37)], none⟩, ⟨(some 8), .v (.mov (.t 38)), none⟩])
          (.seq
           (.seq
            (.reg [⟨(some 39), .v (.mov (.t 8)), none⟩, ⟨(some 40), .v (.bin .lss (.t 39) (.c (.int .i64 0))), none⟩])
            (.cond (.t 40)
             (.seq
              (.reg [⟨(some 2), .v (.mov (.c (.bool false))), none⟩])
              .ret)
             .skip))
           (.seq
            (.seq
             (.reg [⟨(some 41), .v (.mov (.t 8)), none⟩, ⟨(some 42), .v (.mov (.t 7)), none⟩, ⟨(some 43), .v (.bin .neq (.t 41) (.t 42)), none⟩])
             (.cond (.t 43)
              (.seq
               (.reg [⟨(some 2), .v (.mov (.c (.bool false))), none⟩])
               .ret)
              .skip))
            (.seq
             (.reg [⟨(some 45), .v (.mov (.t 0)), none⟩, ⟨(some 46), .call 30 [(.t 45)], none⟩, ⟨(some 44), .v (.mov (.t 46)), none⟩, ⟨(some 47), .v (.ext (.t 44) 0), none⟩, ⟨(some 48), .v (.ext (.t 44) 1), none⟩, ⟨(some 9), .m (.alloc [(.int .i64 0), (.int .i64 0), (.int .i64 0), (.int .i64 0), .nils, (.int .i64 0), .nils]), none⟩, ⟨none, .m (.store 7 (.t 9) (.t 47)), none⟩, ⟨(some 10), .v (.mov (.t 48)), none⟩])
             (.seq
              (.seq
               (.reg [⟨(some 49), .v (.load true 7 (.t 9)), none⟩, ⟨(some 50), .v (.load true 7 (.t 3)), none⟩, ⟨(some 51), .call 28 [(.t 49), (.t 50)], none⟩, ⟨(some 52), .v (.un .not (.t 51)), none⟩, ⟨(some 53), .v (.mov (.t 52)), none⟩, ⟨(some 54), .v (.mov (.t 10)), (some (53, false))⟩, ⟨(some 55), .v (.mov (.t 4)), (some (53, false))⟩, ⟨(some 56), .v (.beq true (.t 54) (.t 55)), (some (53, false))⟩, ⟨(some 57), .v (.pick (.t 53) (.c (.bool true)) (.t 56)), none⟩])
               (.cond (.t 57)
                (.seq
                 (.reg [⟨(some 2), .v (.mov (.c (.bool false))), none⟩])
                 .ret)
                .skip))
              (.seq
               (.reg [⟨(some 8), .v (.mov (.c (.int .i64 1))), none⟩])
               (.seq
                (.reg [⟨(some 58), .v (.load true 7 (.t 5)), none⟩, ⟨(some 59), .v (.mov (.t 8)), none⟩, ⟨(some 60), .call 32 [(.t 58), (.t 59)], none⟩, ⟨(some 8), .v (.mov (.t 60)), none⟩])
                (.seq
                 (.seq
                  (.reg [⟨(some 61), .v (.mov (.t 8)), none⟩, ⟨(some 62), .v (.bin .lss (.t 61) (.c (.int .i64 0))), none⟩])
                  (.cond (.t 62)
                   (.seq
                    (.reg [⟨(some 2), .v (.mov (.c (.bool false))), none⟩])
                    .ret)
                   .skip))
                 (.seq
                  (.seq
                   (.reg [⟨(some 63), .v (.mov (.t 8)), none⟩, ⟨(some 64), .v (.mov (.t 7)), none⟩, ⟨(some 65), .v (.bin .neq (.t 63) (.t 64)), none⟩])
                   (.cond (.t 65)
                    (.seq
                     (.reg [⟨(some 2), .v (.mov (.c (.bool false))), none⟩])
                     .ret)
                    .skip))
                  (.seq
                   (.reg [⟨(some 2), .v (.mov (.c (.bool true))), none⟩])
                   .ret))))))))))))))))))⟩
theorem e7 : rFunc Tryd.prog Tryd.f7 = some r7 := by kernel_rfl
end Go.Proofs.YtoappkfndnggnaaDoor.M

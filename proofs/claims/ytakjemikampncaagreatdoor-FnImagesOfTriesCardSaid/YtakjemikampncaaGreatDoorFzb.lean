/-
  The resolved text of the functions, each tied to the program's own by the kernel.
-/
import Derived.Test.YtakjemikampncaaGreatDoorProg
import Derived.Test.YtakjemikampncaaGreatDoorFza
namespace Go.Proofs.YtakjemikampncaaGreatDoor.M
open Go Go.RowKit
attribute [local instance] dqF
set_option maxRecDepth 100000

def r37 : RFunc := ⟨40, [.t 2, .t 3],
 (.seq
  (.reg [⟨(some 2), .v (.mov (.c (.str []))), none⟩, ⟨(some 3), .v (.mov (.c (.bool false))), none⟩])
  (.seq
   (.reg [⟨(some 4), .v (.mov (.c (.int .i64 0))), none⟩])
   (.seq
    (.seq
     (.reg [⟨(some 6), .v (.mov (.t 0)), none⟩, ⟨(some 7), .v (.lens (.t 6)), none⟩, ⟨(some 8), .v (.mov (.c (.int .i64 0))), none⟩])
     (.block 0
      (.loop
       (.seq
        (.reg [⟨(some 9), .v (.bin .lss (.t 8) (.t 7)), none⟩])
        (.seq
         (.cond (.t 9)
          .skip
          (.exit 0))
         (.seq
          (.block 1
           (.seq
            (.reg [⟨(some 10), .v (.mov (.t 8)), none⟩, ⟨(some 5), .v (.mov (.t 10)), none⟩])
            (.seq
             (.seq
              (.reg [⟨(some 11), .v (.mov (.t 0)), none⟩, ⟨(some 12), .v (.mov (.t 5)), none⟩, ⟨(some 13), .v (.sidx (.t 11) (.t 12)), none⟩, ⟨(some 14), .v (.bin .lss (.t 13) (.c (.int .u8 32))), none⟩, ⟨(some 15), .v (.mov (.t 14)), none⟩, ⟨(some 16), .v (.mov (.t 0)), (some (15, false))⟩, ⟨(some 17), .v (.mov (.t 5)), (some (15, false))⟩, ⟨(some 18), .v (.sidx (.t 16) (.t 17)), (some (15, false))⟩, ⟨(some 19), .v (.bin .gtr (.t 18) (.c (.int .u8 125))), (some (15, false))⟩, ⟨(some 20), .v (.pick (.t 15) (.c (.bool true)) (.t 19)), none⟩])
              (.cond (.t 20)
               (.seq
                (.reg [⟨(some 2), .v (.mov (.c (.str []))), none⟩, ⟨(some 3), .v (.mov (.c (.bool false))), none⟩])
                .ret)
               .skip))
             (.reg [⟨(some 21), .v (.mov (.t 4)), none⟩, ⟨(some 22), .v (.mov (.t 5)), none⟩, ⟨(some 23), .v (.bin .add (.t 22) (.c (.int .i64 1))), none⟩, ⟨(some 24), .v (.mov (.t 0)), none⟩, ⟨(some 25), .v (.mov (.t 5)), none⟩, ⟨(some 26), .v (.sidx (.t 24) (.t 25)), none⟩, ⟨(some 27), .v (.conv .i64 (.t 26)), none⟩, ⟨(some 28), .v (.bin .mul (.t 23) (.t 27)), none⟩, ⟨(some 29), .v (.bin .add (.t 21) (.t 28)), none⟩, ⟨(some 30), .v (.bin .rem (.t 29) (.c (.int .i64 65521))), none⟩, ⟨(some 4), .v (.mov (.t 30)), none⟩]))))
          (.reg [⟨(some 31), .v (.bin .add (.t 8) (.c (.int .i64 1))), none⟩, ⟨(some 8), .v (.mov (.t 31)), none⟩])))))))
    (.seq
     (.seq
      (.reg [⟨(some 32), .v (.mov (.t 0)), none⟩, ⟨(some 33), .v (.lens (.t 32)), none⟩, ⟨(some 34), .v (.bin .gtr (.t 33) (.c (.int .i64 6000))), none⟩])
      (.cond (.t 34)
       (.seq
        (.reg [⟨(some 2), .v (.mov (.c (.str []))), none⟩, ⟨(some 3), .v (.mov (.c (.bool false))), none⟩])
        .ret)
       .skip))
     (.seq
      (.reg [⟨(some 35), .v (.mov (.t 0)), none⟩, ⟨(some 36), .v (.bin .add (.t 35) (.c (.str [126]))), none⟩, ⟨(some 37), .v (.mov (.t 4)), none⟩, ⟨(some 38), .call 70 [(.t 37)], none⟩, ⟨(some 39), .v (.bin .add (.t 36) (.t 38)), none⟩, ⟨(some 2), .v (.mov (.t 39)), none⟩, ⟨(some 3), .v (.mov (.c (.bool true))), none⟩])
      .ret)))))⟩
theorem e37 : rFunc Tryz.prog Tryz.f37 = some r37 := by kernel_rfl
def r17 : RFunc := ⟨32, [.t 2, .t 3],
 (.seq
  (.reg [⟨(some 2), .v (.mov (.c (.str []))), none⟩, ⟨(some 3), .v (.mov (.c (.bool false))), none⟩])
  (.seq
   (.reg [⟨(some 10), .v (.mov (.t 0)), none⟩, ⟨(some 11), .call 36 [(.t 10), (.c (.str [126]))], none⟩, ⟨(some 9), .v (.mov (.t 11)), none⟩, ⟨(some 12), .v (.ext (.t 9) 0), none⟩, ⟨(some 13), .v (.ext (.t 9) 1), none⟩, ⟨(some 14), .v (.ext (.t 9) 2), none⟩, ⟨(some 4), .v (.mov (.t 12)), none⟩, ⟨(some 5), .v (.mov (.t 13)), none⟩, ⟨(some 6), .v (.mov (.t 14)), none⟩])
   (.seq
    (.reg [⟨(some 16), .v (.mov (.t 4)), none⟩, ⟨(some 17), .call 37 [(.t 16)], none⟩, ⟨(some 15), .v (.mov (.t 17)), none⟩, ⟨(some 18), .v (.ext (.t 15) 0), none⟩, ⟨(some 19), .v (.ext (.t 15) 1), none⟩, ⟨(some 7), .v (.mov (.t 18)), none⟩, ⟨(some 8), .v (.mov (.t 19)), none⟩])
    (.seq
     (.seq
      (.reg [⟨(some 20), .v (.mov (.t 6)), none⟩, ⟨(some 21), .v (.un .not (.t 20)), none⟩, ⟨(some 22), .v (.mov (.t 21)), none⟩, ⟨(some 23), .v (.mov (.t 8)), (some (22, false))⟩, ⟨(some 24), .v (.un .not (.t 23)), (some (22, false))⟩, ⟨(some 25), .v (.pick (.t 22) (.c (.bool true)) (.t 24)), none⟩, ⟨(some 26), .v (.mov (.t 25)), none⟩, ⟨(some 27), .v (.mov (.t 7)), (some (26, false))⟩, ⟨(some 28), .v (.mov (.t 0)), (some (26, false))⟩, ⟨(some 29), .v (.bin .neq (.t 27) (.t 28)), (some (26, false))⟩, ⟨(some 30), .v (.pick (.t 26) (.c (.bool true)) (.t 29)), none⟩])
      (.cond (.t 30)
       (.seq
        (.reg [⟨(some 2), .v (.mov (.c (.str []))), none⟩, ⟨(some 3), .v (.mov (.c (.bool false))), none⟩])
        .ret)
       .skip))
     (.seq
      (.reg [⟨(some 31), .v (.mov (.t 4)), none⟩, ⟨(some 2), .v (.mov (.t 31)), none⟩, ⟨(some 3), .v (.mov (.c (.bool true))), none⟩])
      .ret)))))⟩
theorem e17 : rFunc Tryz.prog Tryz.f17 = some r17 := by kernel_rfl
def r24 : RFunc := ⟨27, [.t 4, .t 5],
 (.seq
  (.reg [⟨(some 4), .v (.mov (.c .nils)), none⟩, ⟨(some 5), .v (.mov (.c (.bool false))), none⟩])
  (.seq
   (.reg [⟨(some 10), .v (.mov (.t 0)), none⟩, ⟨(some 11), .call 17 [(.t 10)], none⟩, ⟨(some 9), .v (.mov (.t 11)), none⟩, ⟨(some 12), .v (.ext (.t 9) 0), none⟩, ⟨(some 13), .v (.ext (.t 9) 1), none⟩, ⟨(some 6), .v (.mov (.t 12)), none⟩, ⟨(some 7), .v (.mov (.t 13)), none⟩])
   (.seq
    (.reg [⟨(some 14), .v (.mov (.t 6)), none⟩, ⟨(some 15), .call 46 [(.t 14), (.c (.str [32]))], none⟩, ⟨(some 8), .v (.mov (.t 15)), none⟩])
    (.seq
     (.seq
      (.reg [⟨(some 16), .v (.mov (.t 7)), none⟩, ⟨(some 17), .v (.un .not (.t 16)), none⟩, ⟨(some 18), .v (.mov (.t 17)), none⟩, ⟨(some 19), .v (.mov (.t 8)), (some (18, false))⟩, ⟨(some 20), .v (.iaddr 1 (.t 19) (.c (.int .i64 0))), (some (18, false))⟩, ⟨(some 21), .v (.load false 1 (.t 20)), (some (18, false))⟩, ⟨(some 22), .v (.mov (.t 1)), (some (18, false))⟩, ⟨(some 23), .v (.bin .neq (.t 21) (.t 22)), (some (18, false))⟩, ⟨(some 24), .v (.pick (.t 18) (.c (.bool true)) (.t 23)), none⟩])
      (.cond (.t 24)
       (.seq
        (.reg [⟨(some 4), .v (.mov (.c .nils)), none⟩, ⟨(some 5), .v (.mov (.c (.bool false))), none⟩])
        .ret)
       .skip))
     (.seq
      (.reg [⟨(some 25), .v (.mov (.t 8)), none⟩, ⟨(some 26), .v (.slc 1 (.t 25) (some (.c (.int .i64 1))) none), none⟩, ⟨(some 4), .v (.mov (.t 26)), none⟩, ⟨(some 5), .v (.mov (.c (.bool true))), none⟩])
      .ret)))))⟩
theorem e24 : rFunc Tryz.prog Tryz.f24 = some r24 := by kernel_rfl
def r25 : RFunc := ⟨10, [.cell true 5 2, .t 3],
 (.seq
  (.reg [⟨(some 2), .m (.alloc [(.int .i64 0), .nils, (.int .i64 0), .nils, (.str [])]), none⟩, ⟨(some 3), .v (.mov (.c (.bool false))), none⟩])
  (.seq
   (.seq
    (.reg [⟨(some 4), .v (.mov (.t 0)), none⟩, ⟨(some 5), .call 47 [(.t 4)], none⟩, ⟨(some 6), .v (.un .not (.t 5)), none⟩])
    (.cond (.t 6)
     (.seq
      (.reg [⟨(some 7), .v (.bld [(.int .i64 0), .nils, (.int .i64 0), .nils, (.str [])] []), none⟩, ⟨none, .m (.store 5 (.t 2) (.t 7)), none⟩, ⟨(some 3), .v (.mov (.c (.bool false))), none⟩])
      .ret)
     .skip))
   (.seq
    (.reg [⟨(some 8), .v (.mov (.t 0)), none⟩, ⟨(some 9), .call 48 [(.t 8)], none⟩, ⟨none, .m (.store 5 (.t 2) (.t 9)), none⟩, ⟨(some 3), .v (.mov (.c (.bool true))), none⟩])
    .ret)))⟩
theorem e25 : rFunc Tryz.prog Tryz.f25 = some r25 := by kernel_rfl
def r7 : RFunc := ⟨18, [.cell true 5 2, .t 3],
 (.seq
  (.reg [⟨(some 2), .m (.alloc [(.int .i64 0), .nils, (.int .i64 0), .nils, (.str [])]), none⟩, ⟨(some 3), .v (.mov (.c (.bool false))), none⟩])
  (.seq
   (.reg [⟨(some 7), .v (.mov (.t 0)), none⟩, ⟨(some 8), .call 24 [(.t 7), (.c (.str [116, 114, 105, 101]))], none⟩, ⟨(some 6), .v (.mov (.t 8)), none⟩, ⟨(some 9), .v (.ext (.t 6) 0), none⟩, ⟨(some 10), .v (.ext (.t 6) 1), none⟩, ⟨(some 4), .v (.mov (.t 9)), none⟩, ⟨(some 5), .v (.mov (.t 10)), none⟩])
   (.seq
    (.seq
     (.reg [⟨(some 11), .v (.mov (.t 5)), none⟩, ⟨(some 12), .v (.un .not (.t 11)), none⟩])
     (.cond (.t 12)
      (.seq
       (.reg [⟨(some 13), .v (.bld [(.int .i64 0), .nils, (.int .i64 0), .nils, (.str [])] []), none⟩, ⟨none, .m (.store 5 (.t 2) (.t 13)), none⟩, ⟨(some 3), .v (.mov (.c (.bool false))), none⟩])
       .ret)
      .skip))
    (.seq
     (.reg [⟨(some 14), .v (.mov (.t 4)), none⟩, ⟨(some 15), .call 25 [(.t 14)], none⟩, ⟨(some 16), .v (.ext (.t 15) 0), none⟩, ⟨(some 17), .v (.ext (.t 15) 1), none⟩, ⟨none, .m (.store 5 (.t 2) (.t 16)), none⟩, ⟨(some 3), .v (.mov (.t 17)), none⟩])
     .ret))))⟩
theorem e7 : rFunc Tryz.prog Tryz.f7 = some r7 := by kernel_rfl
def r49 : RFunc := ⟨26, [.t 4],
 (.seq
  (.reg [⟨(some 4), .v (.mov (.c (.bool false))), none⟩])
  (.seq
   (.seq
    (.reg [⟨(some 6), .v (.mov (.t 0)), none⟩, ⟨(some 7), .v (.len (.t 6)), none⟩, ⟨(some 8), .v (.mov (.t 1)), none⟩, ⟨(some 9), .v (.len (.t 8)), none⟩, ⟨(some 10), .v (.bin .neq (.t 7) (.t 9)), none⟩])
    (.cond (.t 10)
     (.seq
      (.reg [⟨(some 4), .v (.mov (.c (.bool false))), none⟩])
      .ret)
     .skip))
   (.seq
    (.seq
     (.reg [⟨(some 5), .v (.mov (.c (.int .i64 0))), none⟩])
     (.block 0
      (.loop
       (.seq
        (.seq
         (.reg [⟨(some 11), .v (.mov (.t 5)), none⟩, ⟨(some 12), .v (.mov (.t 0)), none⟩, ⟨(some 13), .v (.len (.t 12)), none⟩, ⟨(some 14), .v (.bin .lss (.t 11) (.t 13)), none⟩])
         (.cond (.t 14)
          .skip
          (.exit 0)))
        (.seq
         (.block 1
          (.seq
           (.dreg (.fl ⟨(some 17), .v (.mov (.t 0)), none⟩ (.fl ⟨(some 18), .v (.mov (.t 5)), none⟩ (.fl ⟨(some 19), .v (.iaddr 1 (.t 17) (.t 18)), none⟩ (.fl ⟨(some 20), .v (.load false 1 (.t 19)), none⟩ (.fl ⟨(some 21), .v (.mov (.t 1)), none⟩ (.fl ⟨(some 22), .v (.mov (.t 5)), none⟩ (.fl ⟨(some 23), .v (.iaddr 1 (.t 21) (.t 22)), none⟩ (.fl ⟨(some 24), .v (.load false 1 (.t 23)), none⟩ (.fl ⟨(some 25), .v (.bin .neq (.t 20) (.t 24)), none⟩ .done))))))))))
           (.cond (.t 25)
            (.seq
             (.reg [⟨(some 4), .v (.mov (.c (.bool false))), none⟩])
             .ret)
            .skip)))
         (.reg [⟨(some 15), .v (.mov (.t 5)), none⟩, ⟨(some 16), .v (.bin .add (.t 15) (.c (.int .i64 1))), none⟩, ⟨(some 5), .v (.mov (.t 16)), none⟩]))))))
    (.seq
     (.reg [⟨(some 4), .v (.mov (.c (.bool true))), none⟩])
     .ret))))⟩
theorem e49 : rFunc Tryz.prog Tryz.f49 = some r49 := by kernel_rfl
def r26 : RFunc := ⟨16, [.t 4],
 (.seq
  (.reg [⟨(some 2), .m (.box (.t 0)), none⟩, ⟨(some 3), .m (.box (.t 1)), none⟩, ⟨(some 4), .v (.mov (.c (.bool false))), none⟩])
  (.seq
   (.seq
    (.reg [⟨(some 5), .v (.faddr 0 (.t 2)), none⟩, ⟨(some 6), .v (.load false 1 (.t 5)), none⟩, ⟨(some 7), .v (.faddr 0 (.t 3)), none⟩, ⟨(some 8), .v (.load false 1 (.t 7)), none⟩, ⟨(some 9), .v (.bin .neq (.t 6) (.t 8)), none⟩])
    (.cond (.t 9)
     (.seq
      (.reg [⟨(some 4), .v (.mov (.c (.bool false))), none⟩])
      .ret)
     .skip))
   (.seq
    (.seq
     (.reg [⟨(some 10), .v (.faddr 1 (.t 2)), none⟩, ⟨(some 11), .v (.load false 1 (.t 10)), none⟩, ⟨(some 12), .v (.faddr 1 (.t 3)), none⟩, ⟨(some 13), .v (.load false 1 (.t 12)), none⟩, ⟨(some 14), .call 49 [(.t 11), (.t 13)], none⟩, ⟨(some 15), .v (.un .not (.t 14)), none⟩])
     (.cond (.t 15)
      (.seq
       (.reg [⟨(some 4), .v (.mov (.c (.bool false))), none⟩])
       .ret)
      .skip))
    (.seq
     (.reg [⟨(some 4), .v (.mov (.c (.bool true))), none⟩])
     .ret))))⟩
theorem e26 : rFunc Tryz.prog Tryz.f26 = some r26 := by kernel_rfl
def r8 : RFunc := ⟨22, [.t 4],
 (.seq
  (.reg [⟨(some 2), .m (.box (.t 0)), none⟩, ⟨(some 3), .m (.box (.t 1)), none⟩, ⟨(some 4), .v (.mov (.c (.bool false))), none⟩])
  (.seq
   (.seq
    (.reg [⟨(some 5), .v (.faddr 0 (.t 2)), none⟩, ⟨(some 6), .v (.load true 2 (.t 5)), none⟩, ⟨(some 7), .v (.faddr 0 (.t 3)), none⟩, ⟨(some 8), .v (.load true 2 (.t 7)), none⟩, ⟨(some 9), .call 26 [(.t 6), (.t 8)], none⟩, ⟨(some 10), .v (.un .not (.t 9)), none⟩])
    (.cond (.t 10)
     (.seq
      (.reg [⟨(some 4), .v (.mov (.c (.bool false))), none⟩])
      .ret)
     .skip))
   (.seq
    (.seq
     (.reg [⟨(some 11), .v (.faddr 2 (.t 2)), none⟩, ⟨(some 12), .v (.load true 2 (.t 11)), none⟩, ⟨(some 13), .v (.faddr 2 (.t 3)), none⟩, ⟨(some 14), .v (.load true 2 (.t 13)), none⟩, ⟨(some 15), .call 26 [(.t 12), (.t 14)], none⟩, ⟨(some 16), .v (.un .not (.t 15)), none⟩])
     (.cond (.t 16)
      (.seq
       (.reg [⟨(some 4), .v (.mov (.c (.bool false))), none⟩])
       .ret)
      .skip))
    (.seq
     (.seq
      (.reg [⟨(some 17), .v (.faddr 4 (.t 2)), none⟩, ⟨(some 18), .v (.load false 1 (.t 17)), none⟩, ⟨(some 19), .v (.faddr 4 (.t 3)), none⟩, ⟨(some 20), .v (.load false 1 (.t 19)), none⟩, ⟨(some 21), .v (.bin .neq (.t 18) (.t 20)), none⟩])
      (.cond (.t 21)
       (.seq
        (.reg [⟨(some 4), .v (.mov (.c (.bool false))), none⟩])
        .ret)
       .skip))
     (.seq
      (.reg [⟨(some 4), .v (.mov (.c (.bool true))), none⟩])
      .ret)))))⟩
theorem e8 : rFunc Tryz.prog Tryz.f8 = some r8 := by kernel_rfl
def r3 : RFunc := ⟨66, [.t 2],
 (.seq
  (.reg [⟨(some 2), .v (.mov (.c (.bool false))), none⟩])
  (.seq
   (.seq
    (.reg [⟨(some 11), .v (.mov (.t 0)), none⟩, ⟨(some 12), .v (.lens (.t 11)), none⟩, ⟨(some 13), .v (.bin .gtr (.t 12) (.c (.int .i64 1048576))), none⟩])
    (.cond (.t 13)
     (.seq
      (.reg [⟨(some 2), .v (.mov (.c (.bool true))), none⟩])
      .ret)
     .skip))
   (.seq
    (.reg [⟨(some 15), .v (.mov (.t 0)), none⟩, ⟨(some 16), .call 6 [(.t 15)], none⟩, ⟨(some 14), .v (.mov (.t 16)), none⟩, ⟨(some 17), .v (.ext (.t 14) 0), none⟩, ⟨(some 18), .v (.ext (.t 14) 1), none⟩, ⟨(some 3), .m (.alloc [(.int .i64 0), .nils, (.int .i64 0), .nils, (.str [])]), none⟩, ⟨none, .m (.store 5 (.t 3) (.t 17)), none⟩, ⟨(some 4), .v (.mov (.t 18)), none⟩])
    (.seq
     (.reg [⟨(some 20), .v (.mov (.t 0)), none⟩, ⟨(some 21), .call 7 [(.t 20)], none⟩, ⟨(some 19), .v (.mov (.t 21)), none⟩, ⟨(some 22), .v (.ext (.t 19) 0), none⟩, ⟨(some 23), .v (.ext (.t 19) 1), none⟩, ⟨(some 5), .m (.alloc [(.int .i64 0), .nils, (.int .i64 0), .nils, (.str [])]), none⟩, ⟨none, .m (.store 5 (.t 5) (.t 22)), none⟩, ⟨(some 6), .v (.mov (.t 23)), none⟩])
     (.seq
      (.seq
       (.reg [⟨(some 24), .v (.load true 5 (.t 5)), none⟩, ⟨(some 25), .v (.load true 5 (.t 3)), none⟩, ⟨(some 26), .call 8 [(.t 24), (.t 25)], none⟩, ⟨(some 27), .v (.un .not (.t 26)), none⟩, ⟨(some 28), .v (.mov (.t 27)), none⟩, ⟨(some 29), .v (.mov (.t 6)), (some (28, false))⟩, ⟨(some 30), .v (.mov (.t 4)), (some (28, false))⟩, ⟨(some 31), .v (.beq true (.t 29) (.t 30)), (some (28, false))⟩, ⟨(some 32), .v (.pick (.t 28) (.c (.bool true)) (.t 31)), none⟩])
       (.cond (.t 32)
        (.seq
         (.reg [⟨(some 2), .v (.mov (.c (.bool false))), none⟩])
         .ret)
        .skip))
      (.seq
       (.reg [⟨(some 7), .v (.mov (.c (.int .i64 1))), none⟩])
       (.seq
        (.reg [⟨(some 33), .v (.load true 5 (.t 5)), none⟩, ⟨(some 34), .v (.mov (.t 7)), none⟩, ⟨(some 35), .call 9 [(.t 33), (.t 34)], none⟩, ⟨(some 7), .v (.mov (.t 35)), none⟩])
        (.seq
         (.reg [⟨(some 8), .v (.mov (.c (.int .i64 1))), none⟩])
         (.seq
          (.reg [⟨(some 36), .v (.load true 5 (.t 5)), none⟩, ⟨(some 37), .v (.mov (.t 8)), none⟩, ⟨(some 38), .call 10 [(.t 36), (.t 37)], none⟩, ⟨(some 8), .v (.mov (.t 38)), none⟩])
          (.seq
           (.seq
            (.reg [⟨(some 39), .v (.mov (.t 8)), none⟩, ⟨(some 40), .v (.bin .lss (.t 39) (.c (.int .i64 0))), none⟩])
            (.cond (.t 40)
             (.seq
              (.reg [⟨(some 2), .v (.mov (.c (.bool false))), none⟩])
              .ret)
             .skip))
           (.seq
            (.seq
             (.reg [⟨(some 41), .v (.mov (.t 8)), none⟩, ⟨(some 42), .v (.mov (.t 7)), none⟩, ⟨(some 43), .v (.bin .neq (.t 41) (.t 42)), none⟩])
             (.cond (.t 43)
              (.seq
               (.reg [⟨(some 2), .v (.mov (.c (.bool false))), none⟩])
               .ret)
              .skip))
            (.seq
             (.reg [⟨(some 45), .v (.mov (.t 0)), none⟩, ⟨(some 46), .call 7 [(.t 45)], none⟩, ⟨(some 44), .v (.mov (.t 46)), none⟩, ⟨(some 47), .v (.ext (.t 44) 0), none⟩, ⟨(some 48), .v (.ext (.t 44) 1), none⟩, ⟨(some 9), .m (.alloc [(.int .i64 0), .nils, (.int .i64 0), .nils, (.str [])]), none⟩, ⟨none, .m (.store 5 (.t 9) (.t 47)), none⟩, ⟨(some 10), .v (.mov (.t 48)), none⟩])
             (.seq
              (.seq
               (.reg [⟨(some 49), .v (.load true 5 (.t 9)), none⟩, ⟨(some 50), .v (.load true 5 (.t 3)), none⟩, ⟨(some 51), .call 8 [(.t 49), (.t 50)], none⟩, ⟨(some 52), .v (.un .not (.t 51)), none⟩, ⟨(some 53), .v (.mov (.t 52)), none⟩, ⟨(some 54), .v (.mov (.t 10)), (some (53, false))⟩, ⟨(some 55), .v (.mov (.t 4)), (some (53, false))⟩, ⟨(some 56), .v (.beq true (.t 54) (.t 55)), (some (53, false))⟩, ⟨(some 57), .v (.pick (.t 53) (.c (.bool true)) (.t 56)), none⟩])
               (.cond (.t 57)
                (.seq
                 (.reg [⟨(some 2), .v (.mov (.c (.bool false))), none⟩])
                 .ret)
                .skip))
              (.seq
               (.reg [⟨(some 8), .v (.mov (.c (.int .i64 1))), none⟩])
               (.seq
                (.reg [⟨(some 58), .v (.load true 5 (.t 5)), none⟩, ⟨(some 59), .v (.mov (.t 8)), none⟩, ⟨(some 60), .call 10 [(.t 58), (.t 59)], none⟩, ⟨(some 8), .v (.mov (.t 60)), none⟩])
                (.seq
                 (.seq
                  (.reg [⟨(some 61), .v (.mov (.t 8)), none⟩, ⟨(some 62), .v (.bin .lss (.t 61) (.c (.int .i64 0))), none⟩])
                  (.cond (.t 62)
                   (.seq
                    (.reg [⟨(some 2), .v (.mov (.c (.bool false))), none⟩])
                    .ret)
                   .skip))
                 (.seq
                  (.seq
                   (.reg [⟨(some 63), .v (.mov (.t 8)), none⟩, ⟨(some 64), .v (.mov (.t 7)), none⟩, ⟨(some 65), .v (.bin .neq (.t 63) (.t 64)), none⟩])
                   (.cond (.t 65)
                    (.seq
                     (.reg [⟨(some 2), .v (.mov (.c (.bool false))), none⟩])
                     .ret)
                    .skip))
                  (.seq
                   (.reg [⟨(some 2), .v (.mov (.c (.bool true))), none⟩])
                   .ret))))))))))))))))))⟩
theorem e3 : rFunc Tryz.prog Tryz.f3 = some r3 := by kernel_rfl
end Go.Proofs.YtakjemikampncaaGreatDoor.M

/-
  The resolved text of the functions, each tied to the program's own by the kernel.
-/
import Derived.Test.YtoappkfndnggnaaDoorProg
import Derived.Test.YtoappkfndnggnaaDoorFt
namespace Go.Proofs.YtoappkfndnggnaaDoor.M
open Go Go.RowKit
set_option maxRecDepth 100000

def r88 : RFunc := ⟨12, [.t 4],
 (.seq
  (.reg [⟨(some 4), .v (.mov (.c (.int .i64 0))), none⟩])
  (.seq
   (.reg [⟨(some 5), .v (.mov (.t 1)), none⟩, ⟨(some 6), .v (.mov (.t 0)), none⟩, ⟨(some 7), .v (.len (.t 6)), none⟩, ⟨(some 8), .v (.bin .sub (.t 5) (.t 7)), none⟩, ⟨(some 1), .v (.mov (.t 8)), none⟩])
   (.seq
    (.seq
     (.reg [⟨(some 9), .v (.mov (.t 1)), none⟩, ⟨(some 10), .v (.bin .lss (.t 9) (.c (.int .i64 0))), none⟩])
     (.cond (.t 10)
      (.seq
       (.reg [⟨(some 4), .v (.mov (.c (.int .i64 (-1)))), none⟩])
       .ret)
      .skip))
    (.seq
     (.reg [⟨(some 11), .v (.mov (.t 1)), none⟩, ⟨(some 4), .v (.mov (.t 11)), none⟩])
     .ret))))⟩
theorem e88 : rFunc Tryd.prog Tryd.f88 = some r88 := by kernel_rfl
def r55 : RFunc := ⟨12, [.t 4],
 (.seq
  (.reg [⟨(some 2), .m (.box (.t 0)), none⟩, ⟨(some 4), .v (.mov (.c (.int .i64 0))), none⟩])
  (.seq
   (.reg [⟨(some 5), .v (.faddr 1 (.t 2)), none⟩, ⟨(some 6), .v (.load false 1 (.t 5)), none⟩, ⟨(some 7), .v (.mov (.t 1)), none⟩, ⟨(some 8), .call 88 [(.t 6), (.t 7)], none⟩, ⟨(some 1), .v (.mov (.t 8)), none⟩])
   (.seq
    (.seq
     (.reg [⟨(some 9), .v (.mov (.t 1)), none⟩, ⟨(some 10), .v (.bin .lss (.t 9) (.c (.int .i64 0))), none⟩])
     (.cond (.t 10)
      (.seq
       (.reg [⟨(some 4), .v (.mov (.c (.int .i64 (-1)))), none⟩])
       .ret)
      .skip))
    (.seq
     (.reg [⟨(some 11), .v (.mov (.t 1)), none⟩, ⟨(some 4), .v (.mov (.t 11)), none⟩])
     .ret))))⟩
theorem e55 : rFunc Tryd.prog Tryd.f55 = some r55 := by kernel_rfl
def r24 : RFunc := ⟨18, [.t 4],
 (.seq
  (.reg [⟨(some 2), .m (.box (.t 0)), none⟩, ⟨(some 4), .v (.mov (.c (.int .i64 0))), none⟩])
  (.seq
   (.reg [⟨(some 5), .v (.faddr 3 (.t 2)), none⟩, ⟨(some 6), .v (.load true 2 (.t 5)), none⟩, ⟨(some 7), .v (.mov (.t 1)), none⟩, ⟨(some 8), .call 55 [(.t 6), (.t 7)], none⟩, ⟨(some 1), .v (.mov (.t 8)), none⟩])
   (.seq
    (.seq
     (.reg [⟨(some 9), .v (.mov (.t 1)), none⟩, ⟨(some 10), .v (.bin .lss (.t 9) (.c (.int .i64 0))), none⟩])
     (.cond (.t 10)
      (.seq
       (.reg [⟨(some 4), .v (.mov (.c (.int .i64 (-1)))), none⟩])
       .ret)
      .skip))
    (.seq
     (.reg [⟨(some 11), .v (.faddr 5 (.t 2)), none⟩, ⟨(some 12), .v (.load true 2 (.t 11)), none⟩, ⟨(some 13), .v (.mov (.t 1)), none⟩, ⟨(some 14), .call 55 [(.t 12), (.t 13)], none⟩, ⟨(some 1), .v (.mov (.t 14)), none⟩])
     (.seq
      (.seq
       (.reg [⟨(some 15), .v (.mov (.t 1)), none⟩, ⟨(some 16), .v (.bin .lss (.t 15) (.c (.int .i64 0))), none⟩])
       (.cond (.t 16)
        (.seq
         (.reg [⟨(some 4), .v (.mov (.c (.int .i64 (-1)))), none⟩])
         .ret)
        .skip))
      (.seq
       (.reg [⟨(some 17), .v (.mov (.t 1)), none⟩, ⟨(some 4), .v (.mov (.t 17)), none⟩])
       .ret))))))⟩
theorem e24 : rFunc Tryd.prog Tryd.f24 = some r24 := by kernel_rfl
def r93 : RFunc := ⟨22, [.t 2],
 (.seq
  (.reg [⟨(some 2), .v (.mov (.c .nils)), none⟩])
  (.seq
   (.reg [⟨(some 5), .v (.mov (.t 0)), none⟩, ⟨(some 6), .v (.len (.t 5)), none⟩, ⟨(some 7), .m (.mks 1 8 [(.int .i64 0)] (.t 6) (.t 6)), none⟩, ⟨(some 3), .v (.mov (.t 7)), none⟩])
   (.seq
    (.seq
     (.reg [⟨(some 4), .v (.mov (.c (.int .i64 0))), none⟩])
     (.block 0
      (.loop
       (.seq
        (.seq
         (.reg [⟨(some 8), .v (.mov (.t 4)), none⟩, ⟨(some 9), .v (.mov (.t 0)), none⟩, ⟨(some 10), .v (.len (.t 9)), none⟩, ⟨(some 11), .v (.bin .lss (.t 8) (.t 10)), none⟩])
         (.cond (.t 11)
          .skip
          (.exit 0)))
        (.seq
         (.block 1
          (.reg [⟨(some 14), .v (.mov (.t 3)), none⟩, ⟨(some 15), .v (.mov (.t 4)), none⟩, ⟨(some 16), .v (.mov (.t 0)), none⟩, ⟨(some 17), .v (.mov (.t 4)), none⟩, ⟨(some 18), .v (.iaddr 1 (.t 16) (.t 17)), none⟩, ⟨(some 19), .v (.load false 1 (.t 18)), none⟩, ⟨(some 20), .v (.iaddr 1 (.t 14) (.t 15)), none⟩, ⟨none, .m (.store 1 (.t 20) (.t 19)), none⟩]))
         (.reg [⟨(some 12), .v (.mov (.t 4)), none⟩, ⟨(some 13), .v (.bin .add (.t 12) (.c (.int .i64 1))), none⟩, ⟨(some 4), .v (.mov (.t 13)), none⟩]))))))
    (.seq
     (.reg [⟨(some 21), .v (.mov (.t 3)), none⟩, ⟨(some 2), .v (.mov (.t 21)), none⟩])
     .ret))))⟩
theorem e93 : rFunc Tryd.prog Tryd.f93 = some r93 := by kernel_rfl
def r59 : RFunc := ⟨12, [.cell true 2 2],
 (.seq
  (.reg [⟨(some 1), .m (.box (.t 0)), none⟩, ⟨(some 2), .m (.alloc [(.int .i64 0), .nils]), none⟩])
  (.seq
   (.reg [⟨(some 3), .m (.alloc [(.int .i64 0), .nils]), none⟩])
   (.seq
    (.reg [⟨(some 4), .v (.faddr 0 (.t 1)), none⟩, ⟨(some 5), .v (.load false 1 (.t 4)), none⟩, ⟨(some 6), .v (.faddr 0 (.t 3)), none⟩, ⟨none, .m (.store 1 (.t 6) (.t 5)), none⟩])
    (.seq
     (.reg [⟨(some 7), .v (.faddr 1 (.t 1)), none⟩, ⟨(some 8), .v (.load false 1 (.t 7)), none⟩, ⟨(some 9), .call 93 [(.t 8)], none⟩, ⟨(some 10), .v (.faddr 1 (.t 3)), none⟩, ⟨none, .m (.store 1 (.t 10) (.t 9)), none⟩])
     (.seq
      (.reg [⟨(some 11), .v (.load true 2 (.t 3)), none⟩, ⟨none, .m (.store 2 (.t 2) (.t 11)), none⟩])
      .ret)))))⟩
theorem e59 : rFunc Tryd.prog Tryd.f59 = some r59 := by kernel_rfl
def r26 : RFunc := ⟨22, [.cell true 7 2],
 (.seq
  (.reg [⟨(some 1), .m (.box (.t 0)), none⟩, ⟨(some 2), .m (.alloc [(.int .i64 0), (.int .i64 0), (.int .i64 0), (.int .i64 0), .nils, (.int .i64 0), .nils]), none⟩])
  (.seq
   (.reg [⟨(some 3), .m (.alloc [(.int .i64 0), (.int .i64 0), (.int .i64 0), (.int .i64 0), .nils, (.int .i64 0), .nils]), none⟩])
   (.seq
    (.reg [⟨(some 4), .v (.faddr 0 (.t 1)), none⟩, ⟨(some 5), .v (.load false 1 (.t 4)), none⟩, ⟨(some 6), .v (.faddr 0 (.t 3)), none⟩, ⟨none, .m (.store 1 (.t 6) (.t 5)), none⟩])
    (.seq
     (.reg [⟨(some 7), .v (.faddr 1 (.t 1)), none⟩, ⟨(some 8), .v (.load false 1 (.t 7)), none⟩, ⟨(some 9), .v (.faddr 1 (.t 3)), none⟩, ⟨none, .m (.store 1 (.t 9) (.t 8)), none⟩])
     (.seq
      (.reg [⟨(some 10), .v (.faddr 2 (.t 1)), none⟩, ⟨(some 11), .v (.load false 1 (.t 10)), none⟩, ⟨(some 12), .v (.faddr 2 (.t 3)), none⟩, ⟨none, .m (.store 1 (.t 12) (.t 11)), none⟩])
      (.seq
       (.reg [⟨(some 13), .v (.faddr 3 (.t 1)), none⟩, ⟨(some 14), .v (.load true 2 (.t 13)), none⟩, ⟨(some 15), .call 59 [(.t 14)], none⟩, ⟨(some 16), .v (.faddr 3 (.t 3)), none⟩, ⟨none, .m (.store 2 (.t 16) (.t 15)), none⟩])
       (.seq
        (.reg [⟨(some 17), .v (.faddr 5 (.t 1)), none⟩, ⟨(some 18), .v (.load true 2 (.t 17)), none⟩, ⟨(some 19), .call 59 [(.t 18)], none⟩, ⟨(some 20), .v (.faddr 5 (.t 3)), none⟩, ⟨none, .m (.store 2 (.t 20) (.t 19)), none⟩])
        (.seq
         (.reg [⟨(some 21), .v (.load true 7 (.t 3)), none⟩, ⟨none, .m (.store 7 (.t 2) (.t 21)), none⟩])
         .ret))))))))⟩
theorem e26 : rFunc Tryd.prog Tryd.f26 = some r26 := by kernel_rfl
def r45 : RFunc := ⟨9, [.t 2, .t 3],
 (.seq
  (.reg [⟨(some 2), .v (.mov (.c (.str []))), none⟩, ⟨(some 3), .v (.mov (.c (.bool false))), none⟩])
  (.seq
   (.seq
    (.reg [⟨(some 4), .v (.mov (.t 0)), none⟩, ⟨(some 5), .call 65 [(.t 4)], none⟩, ⟨(some 6), .v (.un .not (.t 5)), none⟩])
    (.cond (.t 6)
     (.seq
      (.reg [⟨(some 2), .v (.mov (.c (.str []))), none⟩, ⟨(some 3), .v (.mov (.c (.bool false))), none⟩])
      .ret)
     .skip))
   (.seq
    (.reg [⟨(some 7), .v (.mov (.t 0)), none⟩, ⟨(some 8), .call 66 [(.t 7)], none⟩, ⟨(some 2), .v (.mov (.t 8)), none⟩, ⟨(some 3), .v (.mov (.c (.bool true))), none⟩])
    .ret)))⟩
theorem e45 : rFunc Tryd.prog Tryd.f45 = some r45 := by kernel_rfl
def r25 : RFunc := ⟨31, [.t 2, .t 3],
 (.seq
  (.reg [⟨(some 1), .m (.box (.t 0)), none⟩, ⟨(some 2), .v (.mov (.c (.str []))), none⟩, ⟨(some 3), .v (.mov (.c (.bool false))), none⟩])
  (.seq
   (.seq
    (.reg [⟨(some 7), .v (.load true 7 (.t 1)), none⟩, ⟨(some 8), .call 56 [(.t 7)], none⟩, ⟨(some 9), .v (.un .not (.t 8)), none⟩])
    (.cond (.t 9)
     (.seq
      (.reg [⟨(some 2), .v (.mov (.c (.str []))), none⟩, ⟨(some 3), .v (.mov (.c (.bool false))), none⟩])
      .ret)
     .skip))
   (.seq
    (.reg [⟨(some 10), .v (.faddr 1 (.t 1)), none⟩, ⟨(some 11), .v (.load false 1 (.t 10)), none⟩, ⟨(some 12), .call 57 [(.t 11)], none⟩, ⟨(some 13), .v (.bin .add (.c (.str [115, 112, 97, 114, 115, 101, 32])) (.t 12)), none⟩, ⟨(some 4), .v (.mov (.t 13)), none⟩])
    (.seq
     (.seq
      (.reg [⟨(some 14), .v (.load true 7 (.t 1)), none⟩, ⟨(some 15), .call 58 [(.t 14)], none⟩, ⟨(some 16), .v (.len (.t 15)), none⟩, ⟨(some 17), .v (.mov (.c (.int .i64 0))), none⟩])
      (.block 0
       (.loop
        (.seq
         (.reg [⟨(some 18), .v (.bin .lss (.t 17) (.t 16)), none⟩])
         (.seq
          (.cond (.t 18)
           .skip
           (.exit 0))
          (.seq
           (.block 1
            (.seq
             (.reg [⟨(some 19), .v (.iaddr 1 (.t 15) (.t 17)), none⟩, ⟨(some 20), .v (.load false 1 (.t 19)), none⟩, ⟨(some 6), .v (.mov (.t 20)), none⟩])
             (.reg [⟨(some 21), .v (.mov (.t 4)), none⟩, ⟨(some 22), .v (.mov (.t 6)), none⟩, ⟨(some 23), .call 57 [(.t 22)], none⟩, ⟨(some 24), .v (.bin .add (.c (.str [32])) (.t 23)), none⟩, ⟨(some 25), .v (.bin .add (.t 21) (.t 24)), none⟩, ⟨(some 4), .v (.mov (.t 25)), none⟩])))
           (.reg [⟨(some 26), .v (.bin .add (.t 17) (.c (.int .i64 1))), none⟩, ⟨(some 17), .v (.mov (.t 26)), none⟩])))))))
     (.seq
      (.reg [⟨(some 27), .v (.mov (.t 4)), none⟩, ⟨(some 28), .call 45 [(.t 27)], none⟩, ⟨(some 29), .v (.ext (.t 28) 0), none⟩, ⟨(some 30), .v (.ext (.t 28) 1), none⟩, ⟨(some 2), .v (.mov (.t 29)), none⟩, ⟨(some 3), .v (.mov (.t 30)), none⟩])
      .ret)))))⟩
theorem e25 : rFunc Tryd.prog Tryd.f25 = some r25 := by kernel_rfl
def r43 : RFunc := ⟨12, [.t 4, .t 5],
 (.seq
  (.reg [⟨(some 4), .v (.mov (.c (.str []))), none⟩, ⟨(some 5), .v (.mov (.c (.bool false))), none⟩])
  (.seq
   (.seq
    (.reg [⟨(some 6), .v (.mov (.t 1)), none⟩, ⟨(some 7), .v (.un .not (.t 6)), none⟩])
    (.cond (.t 7)
     (.seq
      (.reg [⟨(some 4), .v (.mov (.c (.str []))), none⟩, ⟨(some 5), .v (.mov (.c (.bool false))), none⟩])
      .ret)
     .skip))
   (.seq
    (.reg [⟨(some 8), .v (.mov (.t 0)), none⟩, ⟨(some 9), .call 49 [(.t 8)], none⟩, ⟨(some 10), .v (.ext (.t 9) 0), none⟩, ⟨(some 11), .v (.ext (.t 9) 1), none⟩, ⟨(some 4), .v (.mov (.t 10)), none⟩, ⟨(some 5), .v (.mov (.t 11)), none⟩])
    .ret)))⟩
theorem e43 : rFunc Tryd.prog Tryd.f43 = some r43 := by kernel_rfl
def r27 : RFunc := ⟨34, [.t 2, .t 3],
 (.seq
  (.reg [⟨(some 1), .m (.box (.t 0)), none⟩, ⟨(some 2), .v (.mov (.c (.str []))), none⟩, ⟨(some 3), .v (.mov (.c (.bool false))), none⟩])
  (.seq
   (.reg [⟨(some 10), .call 60 [(.t 1)], none⟩, ⟨(some 9), .v (.mov (.t 10)), none⟩, ⟨(some 11), .v (.ext (.t 9) 0), none⟩, ⟨(some 12), .v (.ext (.t 9) 1), none⟩, ⟨(some 4), .v (.mov (.t 11)), none⟩, ⟨(some 5), .v (.mov (.t 12)), none⟩])
   (.seq
    (.reg [⟨(some 13), .v (.faddr 1 (.t 1)), none⟩, ⟨(some 14), .v (.load false 1 (.t 13)), none⟩, ⟨(some 15), .call 61 [(.t 14)], none⟩, ⟨(some 16), .v (.bin .add (.c (.str [115, 112, 97, 114, 115, 101, 32])) (.t 15)), none⟩, ⟨(some 6), .v (.mov (.t 16)), none⟩])
    (.seq
     (.seq
      (.reg [⟨(some 17), .v (.mov (.t 4)), none⟩, ⟨(some 18), .v (.len (.t 17)), none⟩, ⟨(some 19), .v (.mov (.c (.int .i64 0))), none⟩])
      (.block 0
       (.loop
        (.seq
         (.reg [⟨(some 20), .v (.bin .lss (.t 19) (.t 18)), none⟩])
         (.seq
          (.cond (.t 20)
           .skip
           (.exit 0))
          (.seq
           (.block 1
            (.seq
             (.reg [⟨(some 21), .v (.iaddr 1 (.t 17) (.t 19)), none⟩, ⟨(some 22), .v (.load false 1 (.t 21)), none⟩, ⟨(some 8), .v (.mov (.t 22)), none⟩])
             (.reg [⟨(some 23), .v (.mov (.t 6)), none⟩, ⟨(some 24), .v (.mov (.t 8)), none⟩, ⟨(some 25), .call 61 [(.t 24)], none⟩, ⟨(some 26), .v (.bin .add (.c (.str [32])) (.t 25)), none⟩, ⟨(some 27), .v (.bin .add (.t 23) (.t 26)), none⟩, ⟨(some 6), .v (.mov (.t 27)), none⟩])))
           (.reg [⟨(some 28), .v (.bin .add (.t 19) (.c (.int .i64 1))), none⟩, ⟨(some 19), .v (.mov (.t 28)), none⟩])))))))
     (.seq
      (.reg [⟨(some 29), .v (.mov (.t 6)), none⟩, ⟨(some 30), .v (.mov (.t 5)), none⟩, ⟨(some 31), .call 43 [(.t 29), (.t 30)], none⟩, ⟨(some 32), .v (.ext (.t 31) 0), none⟩, ⟨(some 33), .v (.ext (.t 31) 1), none⟩, ⟨(some 2), .v (.mov (.t 32)), none⟩, ⟨(some 3), .v (.mov (.t 33)), none⟩])
      .ret)))))⟩
theorem e27 : rFunc Tryd.prog Tryd.f27 = some r27 := by kernel_rfl
def r28 : RFunc := ⟨32, [.t 4],
 (.seq
  (.reg [⟨(some 2), .m (.box (.t 0)), none⟩, ⟨(some 3), .m (.box (.t 1)), none⟩, ⟨(some 4), .v (.mov (.c (.bool false))), none⟩])
  (.seq
   (.seq
    (.reg [⟨(some 5), .v (.faddr 0 (.t 2)), none⟩, ⟨(some 6), .v (.load false 1 (.t 5)), none⟩, ⟨(some 7), .v (.faddr 0 (.t 3)), none⟩, ⟨(some 8), .v (.load false 1 (.t 7)), none⟩, ⟨(some 9), .v (.bin .neq (.t 6) (.t 8)), none⟩])
    (.cond (.t 9)
     (.seq
      (.reg [⟨(some 4), .v (.mov (.c (.bool false))), none⟩])
      .ret)
     .skip))
   (.seq
    (.seq
     (.reg [⟨(some 10), .v (.faddr 1 (.t 2)), none⟩, ⟨(some 11), .v (.load false 1 (.t 10)), none⟩, ⟨(some 12), .v (.faddr 1 (.t 3)), none⟩, ⟨(some 13), .v (.load false 1 (.t 12)), none⟩, ⟨(some 14), .v (.bin .neq (.t 11) (.t 13)), none⟩])
     (.cond (.t 14)
      (.seq
       (.reg [⟨(some 4), .v (.mov (.c (.bool false))), none⟩])
       .ret)
      .skip))
    (.seq
     (.seq
      (.reg [⟨(some 15), .v (.faddr 2 (.t 2)), none⟩, ⟨(some 16), .v (.load false 1 (.t 15)), none⟩, ⟨(some 17), .v (.faddr 2 (.t 3)), none⟩, ⟨(some 18), .v (.load false 1 (.t 17)), none⟩, ⟨(some 19), .v (.bin .neq (.t 16) (.t 18)), none⟩])
      (.cond (.t 19)
       (.seq
        (.reg [⟨(some 4), .v (.mov (.c (.bool false))), none⟩])
        .ret)
       .skip))
     (.seq
      (.seq
       (.reg [⟨(some 20), .v (.faddr 3 (.t 2)), none⟩, ⟨(some 21), .v (.load true 2 (.t 20)), none⟩, ⟨(some 22), .v (.faddr 3 (.t 3)), none⟩, ⟨(some 23), .v (.load true 2 (.t 22)), none⟩, ⟨(some 24), .call 10 [(.t 21), (.t 23)], none⟩, ⟨(some 25), .v (.un .not (.t 24)), none⟩])
       (.cond (.t 25)
        (.seq
         (.reg [⟨(some 4), .v (.mov (.c (.bool false))), none⟩])
         .ret)
        .skip))
      (.seq
       (.seq
        (.reg [⟨(some 26), .v (.faddr 5 (.t 2)), none⟩, ⟨(some 27), .v (.load true 2 (.t 26)), none⟩, ⟨(some 28), .v (.faddr 5 (.t 3)), none⟩, ⟨(some 29), .v (.load true 2 (.t 28)), none⟩, ⟨(some 30), .call 10 [(.t 27), (.t 29)], none⟩, ⟨(some 31), .v (.un .not (.t 30)), none⟩])
        (.cond (.t 31)
         (.seq
          (.reg [⟨(some 4), .v (.mov (.c (.bool false))), none⟩])
          .ret)
         .skip))
       (.seq
        (.reg [⟨(some 4), .v (.mov (.c (.bool true))), none⟩])
        .ret)))))))⟩
theorem e28 : rFunc Tryd.prog Tryd.f28 = some r28 := by kernel_rfl
def r6 : RFunc := ⟨40, [.t 2],
 (.seq
  (.reg [⟨(some 1), .m (.box (.t 0)), none⟩, ⟨(some 2), .v (.mov (.c (.bool false))), none⟩])
  (.seq
   (.reg [⟨(some 3), .v (.mov (.c (.int .i64 1048576))), none⟩])
   (.seq
    (.reg [⟨(some 9), .v (.load true 7 (.t 1)), none⟩, ⟨(some 10), .v (.mov (.t 3)), none⟩, ⟨(some 11), .call 24 [(.t 9), (.t 10)], none⟩, ⟨(some 3), .v (.mov (.t 11)), none⟩])
    (.seq
     (.seq
      (.reg [⟨(some 12), .v (.mov (.t 3)), none⟩, ⟨(some 13), .v (.bin .lss (.t 12) (.c (.int .i64 0))), none⟩])
      (.cond (.t 13)
       (.seq
        (.reg [⟨(some 2), .v (.mov (.c (.bool true))), none⟩])
        .ret)
       .skip))
     (.seq
      (.reg [⟨(some 15), .v (.load true 7 (.t 1)), none⟩, ⟨(some 16), .call 26 [(.t 15)], none⟩, ⟨(some 17), .call 25 [(.t 16)], none⟩, ⟨(some 14), .v (.mov (.t 17)), none⟩, ⟨(some 18), .v (.ext (.t 14) 0), none⟩, ⟨(some 19), .v (.ext (.t 14) 1), none⟩, ⟨(some 4), .v (.mov (.t 18)), none⟩, ⟨(some 5), .v (.mov (.t 19)), none⟩])
      (.seq
       (.reg [⟨(some 20), .v (.load true 7 (.t 1)), none⟩, ⟨(some 21), .call 26 [(.t 20)], none⟩, ⟨(some 6), .m (.alloc [(.int .i64 0), (.int .i64 0), (.int .i64 0), (.int .i64 0), .nils, (.int .i64 0), .nils]), none⟩, ⟨none, .m (.store 7 (.t 6) (.t 21)), none⟩])
       (.seq
        (.reg [⟨(some 23), .v (.load true 7 (.t 6)), none⟩, ⟨(some 24), .call 27 [(.t 23)], none⟩, ⟨(some 22), .v (.mov (.t 24)), none⟩, ⟨(some 25), .v (.ext (.t 22) 0), none⟩, ⟨(some 26), .v (.ext (.t 22) 1), none⟩, ⟨(some 7), .v (.mov (.t 25)), none⟩, ⟨(some 8), .v (.mov (.t 26)), none⟩])
        (.seq
         (.seq
          (.reg [⟨(some 27), .v (.mov (.t 7)), none⟩, ⟨(some 28), .v (.mov (.t 4)), none⟩, ⟨(some 29), .v (.bin .neq (.t 27) (.t 28)), none⟩, ⟨(some 30), .v (.mov (.t 29)), none⟩, ⟨(some 31), .v (.mov (.t 8)), (some (30, false))⟩, ⟨(some 32), .v (.mov (.t 5)), (some (30, false))⟩, ⟨(some 33), .v (.beq true (.t 31) (.t 32)), (some (30, false))⟩, ⟨(some 34), .v (.pick (.t 30) (.c (.bool true)) (.t 33)), none⟩])
          (.cond (.t 34)
           (.seq
            (.reg [⟨(some 2), .v (.mov (.c (.bool false))), none⟩])
            .ret)
           .skip))
         (.seq
          (.seq
           (.dreg (.fl ⟨(some 35), .v (.load true 7 (.t 6)), none⟩ (.fl ⟨(some 36), .v (.load true 7 (.t 1)), none⟩ (.nx ⟨(some 37), .call 26 [(.t 36)], none⟩ (.nx ⟨(some 38), .call 28 [(.t 35), (.t 37)], none⟩ (.fl ⟨(some 39), .v (.un .not (.t 38)), none⟩ .done))))))
           (.cond (.t 39)
            (.seq
             (.reg [⟨(some 2), .v (.mov (.c (.bool false))), none⟩])
             .ret)
            .skip))
          (.seq
           (.reg [⟨(some 2), .v (.mov (.c (.bool true))), none⟩])
           .ret))))))))))⟩
theorem e6 : rFunc Tryd.prog Tryd.f6 = some r6 := by kernel_rfl
end Go.Proofs.YtoappkfndnggnaaDoor.M

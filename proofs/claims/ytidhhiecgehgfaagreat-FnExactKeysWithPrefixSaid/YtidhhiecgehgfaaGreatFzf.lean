/-
  The resolved text of the functions, each tied to the program's own by the kernel.
-/
import Derived.Test.YtidhhiecgehgfaaGreatProg
import Derived.Test.YtidhhiecgehgfaaGreatFy
namespace Go.Proofs.YtidhhiecgehgfaaGreat.M
open Go Go.RowKit
set_option maxRecDepth 100000

def r87 : RFunc := ⟨12, [.t 4],
 (.seq
  (.reg [⟨(some 4), .v (.mov (.c (.int .i64 0))), none⟩])
  (.seq
   (.reg [⟨(some 5), .v (.mov (.t 1)), none⟩, ⟨(some 6), .v (.mov (.t 0)), none⟩, ⟨(some 7), .v (.len (.t 6)), none⟩, ⟨(some 8), .v (.bin .sub (.t 5) (.t 7)), none⟩, ⟨(some 1), .v (.mov (.t 8)), none⟩])
   (.seq
    (.seq
     (.reg [⟨(some 9), .v (.mov (.t 1)), none⟩, ⟨(some 10), .v (.bin .lss (.t 9) (.c (.int .i64 0))), none⟩])
     (.cond (.t 10)
      (.seq
       (.reg [⟨(some 4), .v (.mov (.c (.int .i64 (-1)))), none⟩])
       .ret)
      .skip))
    (.seq
     (.reg [⟨(some 11), .v (.mov (.t 1)), none⟩, ⟨(some 4), .v (.mov (.t 11)), none⟩])
     .ret))))⟩
theorem e87 : rFunc Tryz.prog Tryz.f87 = some r87 := by kernel_rfl
def r52 : RFunc := ⟨12, [.t 4],
 (.seq
  (.reg [⟨(some 2), .m (.box (.t 0)), none⟩, ⟨(some 4), .v (.mov (.c (.int .i64 0))), none⟩])
  (.seq
   (.reg [⟨(some 5), .v (.faddr 1 (.t 2)), none⟩, ⟨(some 6), .v (.load false 1 (.t 5)), none⟩, ⟨(some 7), .v (.mov (.t 1)), none⟩, ⟨(some 8), .call 87 [(.t 6), (.t 7)], none⟩, ⟨(some 1), .v (.mov (.t 8)), none⟩])
   (.seq
    (.seq
     (.reg [⟨(some 9), .v (.mov (.t 1)), none⟩, ⟨(some 10), .v (.bin .lss (.t 9) (.c (.int .i64 0))), none⟩])
     (.cond (.t 10)
      (.seq
       (.reg [⟨(some 4), .v (.mov (.c (.int .i64 (-1)))), none⟩])
       .ret)
      .skip))
    (.seq
     (.reg [⟨(some 11), .v (.mov (.t 1)), none⟩, ⟨(some 4), .v (.mov (.t 11)), none⟩])
     .ret))))⟩
theorem e52 : rFunc Tryz.prog Tryz.f52 = some r52 := by kernel_rfl
def r12 : RFunc := ⟨25, [.t 4],
 (.seq
  (.reg [⟨(some 2), .m (.box (.t 0)), none⟩, ⟨(some 4), .v (.mov (.c (.int .i64 0))), none⟩])
  (.seq
   (.reg [⟨(some 5), .v (.faddr 0 (.t 2)), none⟩, ⟨(some 6), .v (.load true 2 (.t 5)), none⟩, ⟨(some 7), .v (.mov (.t 1)), none⟩, ⟨(some 8), .call 52 [(.t 6), (.t 7)], none⟩, ⟨(some 1), .v (.mov (.t 8)), none⟩])
   (.seq
    (.seq
     (.reg [⟨(some 9), .v (.mov (.t 1)), none⟩, ⟨(some 10), .v (.bin .lss (.t 9) (.c (.int .i64 0))), none⟩])
     (.cond (.t 10)
      (.seq
       (.reg [⟨(some 4), .v (.mov (.c (.int .i64 (-1)))), none⟩])
       .ret)
      .skip))
    (.seq
     (.reg [⟨(some 11), .v (.faddr 2 (.t 2)), none⟩, ⟨(some 12), .v (.load true 2 (.t 11)), none⟩, ⟨(some 13), .v (.mov (.t 1)), none⟩, ⟨(some 14), .call 52 [(.t 12), (.t 13)], none⟩, ⟨(some 1), .v (.mov (.t 14)), none⟩])
     (.seq
      (.seq
       (.reg [⟨(some 15), .v (.mov (.t 1)), none⟩, ⟨(some 16), .v (.bin .lss (.t 15) (.c (.int .i64 0))), none⟩])
       (.cond (.t 16)
        (.seq
         (.reg [⟨(some 4), .v (.mov (.c (.int .i64 (-1)))), none⟩])
         .ret)
        .skip))
      (.seq
       (.reg [⟨(some 17), .v (.mov (.t 1)), none⟩, ⟨(some 18), .v (.faddr 4 (.t 2)), none⟩, ⟨(some 19), .v (.load false 1 (.t 18)), none⟩, ⟨(some 20), .v (.lens (.t 19)), none⟩, ⟨(some 21), .v (.bin .sub (.t 17) (.t 20)), none⟩, ⟨(some 1), .v (.mov (.t 21)), none⟩])
       (.seq
        (.seq
         (.reg [⟨(some 22), .v (.mov (.t 1)), none⟩, ⟨(some 23), .v (.bin .lss (.t 22) (.c (.int .i64 0))), none⟩])
         (.cond (.t 23)
          (.seq
           (.reg [⟨(some 4), .v (.mov (.c (.int .i64 (-1)))), none⟩])
           .ret)
          .skip))
        (.seq
         (.reg [⟨(some 24), .v (.mov (.t 1)), none⟩, ⟨(some 4), .v (.mov (.t 24)), none⟩])
         .ret))))))))⟩
theorem e12 : rFunc Tryz.prog Tryz.f12 = some r12 := by kernel_rfl
def r89 : RFunc := ⟨22, [.t 2],
 (.seq
  (.reg [⟨(some 2), .v (.mov (.c .nils)), none⟩])
  (.seq
   (.reg [⟨(some 5), .v (.mov (.t 0)), none⟩, ⟨(some 6), .v (.len (.t 5)), none⟩, ⟨(some 7), .m (.mks 1 8 [(.int .i64 0)] (.t 6) (.t 6)), none⟩, ⟨(some 3), .v (.mov (.t 7)), none⟩])
   (.seq
    (.seq
     (.reg [⟨(some 4), .v (.mov (.c (.int .i64 0))), none⟩])
     (.block 0
      (.loop
       (.seq
        (.seq
         (.reg [⟨(some 8), .v (.mov (.t 4)), none⟩, ⟨(some 9), .v (.mov (.t 0)), none⟩, ⟨(some 10), .v (.len (.t 9)), none⟩, ⟨(some 11), .v (.bin .lss (.t 8) (.t 10)), none⟩])
         (.cond (.t 11)
          .skip
          (.exit 0)))
        (.seq
         (.block 1
          (.reg [⟨(some 14), .v (.mov (.t 3)), none⟩, ⟨(some 15), .v (.mov (.t 4)), none⟩, ⟨(some 16), .v (.mov (.t 0)), none⟩, ⟨(some 17), .v (.mov (.t 4)), none⟩, ⟨(some 18), .v (.iaddr 1 (.t 16) (.t 17)), none⟩, ⟨(some 19), .v (.load false 1 (.t 18)), none⟩, ⟨(some 20), .v (.iaddr 1 (.t 14) (.t 15)), none⟩, ⟨none, .m (.store 1 (.t 20) (.t 19)), none⟩]))
         (.reg [⟨(some 12), .v (.mov (.t 4)), none⟩, ⟨(some 13), .v (.bin .add (.t 12) (.c (.int .i64 1))), none⟩, ⟨(some 4), .v (.mov (.t 13)), none⟩]))))))
    (.seq
     (.reg [⟨(some 21), .v (.mov (.t 3)), none⟩, ⟨(some 2), .v (.mov (.t 21)), none⟩])
     .ret))))⟩
theorem e89 : rFunc Tryz.prog Tryz.f89 = some r89 := by kernel_rfl
def r56 : RFunc := ⟨12, [.cell true 2 2],
 (.seq
  (.reg [⟨(some 1), .m (.box (.t 0)), none⟩, ⟨(some 2), .m (.alloc [(.int .i64 0), .nils]), none⟩])
  (.seq
   (.reg [⟨(some 3), .m (.alloc [(.int .i64 0), .nils]), none⟩])
   (.seq
    (.reg [⟨(some 4), .v (.faddr 0 (.t 1)), none⟩, ⟨(some 5), .v (.load false 1 (.t 4)), none⟩, ⟨(some 6), .v (.faddr 0 (.t 3)), none⟩, ⟨none, .m (.store 1 (.t 6) (.t 5)), none⟩])
    (.seq
     (.reg [⟨(some 7), .v (.faddr 1 (.t 1)), none⟩, ⟨(some 8), .v (.load false 1 (.t 7)), none⟩, ⟨(some 9), .call 89 [(.t 8)], none⟩, ⟨(some 10), .v (.faddr 1 (.t 3)), none⟩, ⟨none, .m (.store 1 (.t 10) (.t 9)), none⟩])
     (.seq
      (.reg [⟨(some 11), .v (.load true 2 (.t 3)), none⟩, ⟨none, .m (.store 2 (.t 2) (.t 11)), none⟩])
      .ret)))))⟩
theorem e56 : rFunc Tryz.prog Tryz.f56 = some r56 := by kernel_rfl
def r14 : RFunc := ⟨16, [.cell true 5 2],
 (.seq
  (.reg [⟨(some 1), .m (.box (.t 0)), none⟩, ⟨(some 2), .m (.alloc [(.int .i64 0), .nils, (.int .i64 0), .nils, (.str [])]), none⟩])
  (.seq
   (.reg [⟨(some 3), .m (.alloc [(.int .i64 0), .nils, (.int .i64 0), .nils, (.str [])]), none⟩])
   (.seq
    (.reg [⟨(some 4), .v (.faddr 0 (.t 1)), none⟩, ⟨(some 5), .v (.load true 2 (.t 4)), none⟩, ⟨(some 6), .call 56 [(.t 5)], none⟩, ⟨(some 7), .v (.faddr 0 (.t 3)), none⟩, ⟨none, .m (.store 2 (.t 7) (.t 6)), none⟩])
    (.seq
     (.reg [⟨(some 8), .v (.faddr 2 (.t 1)), none⟩, ⟨(some 9), .v (.load true 2 (.t 8)), none⟩, ⟨(some 10), .call 56 [(.t 9)], none⟩, ⟨(some 11), .v (.faddr 2 (.t 3)), none⟩, ⟨none, .m (.store 2 (.t 11) (.t 10)), none⟩])
     (.seq
      (.reg [⟨(some 12), .v (.faddr 4 (.t 1)), none⟩, ⟨(some 13), .v (.load false 1 (.t 12)), none⟩, ⟨(some 14), .v (.faddr 4 (.t 3)), none⟩, ⟨none, .m (.store 1 (.t 14) (.t 13)), none⟩])
      (.seq
       (.reg [⟨(some 15), .v (.load true 5 (.t 3)), none⟩, ⟨none, .m (.store 5 (.t 2) (.t 15)), none⟩])
       .ret))))))⟩
theorem e14 : rFunc Tryz.prog Tryz.f14 = some r14 := by kernel_rfl
def r29 : RFunc := ⟨33, [.t 4, .t 5],
 (.seq
  (.reg [⟨(some 2), .m (.box (.t 0)), none⟩, ⟨(some 4), .v (.mov (.c .nils)), none⟩, ⟨(some 5), .v (.mov (.c (.bool false))), none⟩])
  (.seq
   (.reg [⟨(some 12), .v (.load true 5 (.t 2)), none⟩, ⟨(some 13), .call 61 [(.t 12)], none⟩, ⟨(some 11), .v (.mov (.t 13)), none⟩, ⟨(some 14), .v (.ext (.t 11) 0), none⟩, ⟨(some 15), .v (.ext (.t 11) 1), none⟩, ⟨(some 6), .v (.mov (.t 14)), none⟩, ⟨(some 7), .v (.mov (.t 15)), none⟩])
   (.seq
    (.seq
     (.reg [⟨(some 16), .v (.mov (.t 7)), none⟩, ⟨(some 17), .v (.un .not (.t 16)), none⟩])
     (.cond (.t 17)
      (.seq
       (.reg [⟨(some 4), .v (.mov (.c .nils)), none⟩, ⟨(some 5), .v (.mov (.c (.bool false))), none⟩])
       .ret)
      .skip))
    (.seq
     (.reg [⟨(some 8), .v (.mov (.c .nils)), none⟩])
     (.seq
      (.seq
       (.reg [⟨(some 18), .v (.mov (.t 6)), none⟩, ⟨(some 19), .v (.len (.t 18)), none⟩, ⟨(some 20), .v (.mov (.c (.int .i64 0))), none⟩])
       (.block 0
        (.loop
         (.seq
          (.reg [⟨(some 21), .v (.bin .lss (.t 20) (.t 19)), none⟩])
          (.seq
           (.cond (.t 21)
            .skip
            (.exit 0))
           (.seq
            (.block 1
             (.seq
              (.reg [⟨(some 22), .v (.iaddr 1 (.t 18) (.t 20)), none⟩, ⟨(some 23), .v (.load false 1 (.t 22)), none⟩, ⟨(some 10), .v (.mov (.t 23)), none⟩])
              (.seq
               (.reg [⟨(some 24), .v (.mov (.t 10)), none⟩, ⟨(some 25), .v (.mov (.t 1)), none⟩, ⟨(some 26), .call 71 [(.t 24), (.t 25)], none⟩])
               (.cond (.t 26)
                (.reg [⟨(some 27), .v (.mov (.t 8)), none⟩, ⟨(some 28), .v (.mov (.t 10)), none⟩, ⟨(some 29), .m (.bsl 1 1 [(.str [])] [(0, 1, (.t 28))]), none⟩, ⟨(some 30), .m (.app false 1 16 (.t 27) (.t 29)), none⟩, ⟨(some 8), .v (.mov (.t 30)), none⟩])
                .skip))))
            (.reg [⟨(some 31), .v (.bin .add (.t 20) (.c (.int .i64 1))), none⟩, ⟨(some 20), .v (.mov (.t 31)), none⟩])))))))
      (.seq
       (.reg [⟨(some 32), .v (.mov (.t 8)), none⟩, ⟨(some 4), .v (.mov (.t 32)), none⟩, ⟨(some 5), .v (.mov (.c (.bool true))), none⟩])
       .ret))))))⟩
theorem e29 : rFunc Tryz.prog Tryz.f29 = some r29 := by kernel_rfl
def r67 : RFunc := ⟨12, [.t 2, .t 3],
 (.seq
  (.reg [⟨(some 2), .v (.mov (.c .nils)), none⟩, ⟨(some 3), .v (.mov (.c (.bool false))), none⟩])
  (.seq
   (.reg [⟨(some 5), .v (.mov (.t 0)), none⟩, ⟨(some 6), .call 75 [(.t 5)], none⟩, ⟨(some 4), .v (.mov (.t 6)), none⟩])
   (.seq
    (.seq
     (.reg [⟨(some 7), .v (.mov (.t 4)), none⟩, ⟨(some 8), .v (.seq false (.t 7) (.c .nils)), none⟩])
     (.cond (.t 8)
      (.seq
       (.reg [⟨(some 2), .v (.mov (.c .nils)), none⟩, ⟨(some 3), .v (.mov (.c (.bool false))), none⟩])
       .ret)
      .skip))
    (.seq
     (.reg [⟨(some 9), .v (.mov (.t 0)), none⟩, ⟨(some 10), .v (.mov (.t 4)), none⟩, ⟨(some 11), .call 99 [(.t 9), (.t 10)], none⟩, ⟨(some 2), .v (.mov (.t 11)), none⟩, ⟨(some 3), .v (.mov (.c (.bool true))), none⟩])
     .ret))))⟩
theorem e67 : rFunc Tryz.prog Tryz.f67 = some r67 := by kernel_rfl
def r72 : RFunc := ⟨24, [.t 4],
 (.seq
  (.reg [⟨(some 4), .v (.mov (.c .nils)), none⟩])
  (.seq
   (.reg [⟨(some 8), .m (.bsl 1 0 [(.str [])] []), none⟩, ⟨(some 5), .v (.mov (.t 8)), none⟩])
   (.seq
    (.seq
     (.reg [⟨(some 9), .v (.mov (.t 0)), none⟩, ⟨(some 10), .v (.len (.t 9)), none⟩, ⟨(some 11), .v (.mov (.c (.int .i64 0))), none⟩])
     (.block 0
      (.loop
       (.seq
        (.reg [⟨(some 12), .v (.bin .lss (.t 11) (.t 10)), none⟩])
        (.seq
         (.cond (.t 12)
          .skip
          (.exit 0))
         (.seq
          (.block 1
           (.seq
            (.reg [⟨(some 13), .v (.iaddr 1 (.t 9) (.t 11)), none⟩, ⟨(some 14), .v (.load false 1 (.t 13)), none⟩, ⟨(some 7), .v (.mov (.t 14)), none⟩])
            (.seq
             (.reg [⟨(some 15), .v (.mov (.t 7)), none⟩, ⟨(some 16), .v (.mov (.t 1)), none⟩, ⟨(some 17), .call 76 [(.t 15), (.t 16)], none⟩])
             (.cond (.t 17)
              (.reg [⟨(some 18), .v (.mov (.t 5)), none⟩, ⟨(some 19), .v (.mov (.t 7)), none⟩, ⟨(some 20), .m (.bsl 1 1 [(.str [])] [(0, 1, (.t 19))]), none⟩, ⟨(some 21), .m (.app false 1 16 (.t 18) (.t 20)), none⟩, ⟨(some 5), .v (.mov (.t 21)), none⟩])
              .skip))))
          (.reg [⟨(some 22), .v (.bin .add (.t 11) (.c (.int .i64 1))), none⟩, ⟨(some 11), .v (.mov (.t 22)), none⟩])))))))
    (.seq
     (.reg [⟨(some 23), .v (.mov (.t 5)), none⟩, ⟨(some 4), .v (.mov (.t 23)), none⟩])
     .ret))))⟩
theorem e72 : rFunc Tryz.prog Tryz.f72 = some r72 := by kernel_rfl
def r30 : RFunc := ⟨17, [.t 4, .t 5],
 (.seq
  (.reg [⟨(some 2), .m (.box (.t 0)), none⟩, ⟨(some 4), .v (.mov (.c .nils)), none⟩, ⟨(some 5), .v (.mov (.c (.bool false))), none⟩])
  (.seq
   (.reg [⟨(some 9), .call 67 [(.t 2)], none⟩, ⟨(some 8), .v (.mov (.t 9)), none⟩, ⟨(some 10), .v (.ext (.t 8) 0), none⟩, ⟨(some 11), .v (.ext (.t 8) 1), none⟩, ⟨(some 6), .v (.mov (.t 10)), none⟩, ⟨(some 7), .v (.mov (.t 11)), none⟩])
   (.seq
    (.seq
     (.reg [⟨(some 12), .v (.mov (.t 7)), none⟩, ⟨(some 13), .v (.un .not (.t 12)), none⟩])
     (.cond (.t 13)
      (.seq
       (.reg [⟨(some 4), .v (.mov (.c .nils)), none⟩, ⟨(some 5), .v (.mov (.c (.bool false))), none⟩])
       .ret)
      .skip))
    (.seq
     (.reg [⟨(some 14), .v (.mov (.t 6)), none⟩, ⟨(some 15), .v (.mov (.t 1)), none⟩, ⟨(some 16), .call 72 [(.t 14), (.t 15)], none⟩, ⟨(some 4), .v (.mov (.t 16)), none⟩, ⟨(some 5), .v (.mov (.c (.bool true))), none⟩])
     .ret))))⟩
theorem e30 : rFunc Tryz.prog Tryz.f30 = some r30 := by kernel_rfl
def r25 : RFunc := ⟨26, [.t 4],
 (.seq
  (.reg [⟨(some 4), .v (.mov (.c (.bool false))), none⟩])
  (.seq
   (.seq
    (.reg [⟨(some 6), .v (.mov (.t 0)), none⟩, ⟨(some 7), .v (.len (.t 6)), none⟩, ⟨(some 8), .v (.mov (.t 1)), none⟩, ⟨(some 9), .v (.len (.t 8)), none⟩, ⟨(some 10), .v (.bin .neq (.t 7) (.t 9)), none⟩])
    (.cond (.t 10)
     (.seq
      (.reg [⟨(some 4), .v (.mov (.c (.bool false))), none⟩])
      .ret)
     .skip))
   (.seq
    (.seq
     (.reg [⟨(some 5), .v (.mov (.c (.int .i64 0))), none⟩])
     (.block 0
      (.loop
       (.seq
        (.seq
         (.reg [⟨(some 11), .v (.mov (.t 5)), none⟩, ⟨(some 12), .v (.mov (.t 0)), none⟩, ⟨(some 13), .v (.len (.t 12)), none⟩, ⟨(some 14), .v (.bin .lss (.t 11) (.t 13)), none⟩])
         (.cond (.t 14)
          .skip
          (.exit 0)))
        (.seq
         (.block 1
          (.seq
           (.dreg (.fl ⟨(some 17), .v (.mov (.t 0)), none⟩ (.fl ⟨(some 18), .v (.mov (.t 5)), none⟩ (.fl ⟨(some 19), .v (.iaddr 1 (.t 17) (.t 18)), none⟩ (.fl ⟨(some 20), .v (.load false 1 (.t 19)), none⟩ (.fl ⟨(some 21), .v (.mov (.t 1)), none⟩ (.fl ⟨(some 22), .v (.mov (.t 5)), none⟩ (.fl ⟨(some 23), .v (.iaddr 1 (.t 21) (.t 22)), none⟩ (.fl ⟨(some 24), .v (.load false 1 (.t 23)), none⟩ (.fl ⟨(some 25), .v (.bin .neq (.t 20) (.t 24)), none⟩ .done))))))))))
           (.cond (.t 25)
            (.seq
             (.reg [⟨(some 4), .v (.mov (.c (.bool false))), none⟩])
             .ret)
            .skip)))
         (.reg [⟨(some 15), .v (.mov (.t 5)), none⟩, ⟨(some 16), .v (.bin .add (.t 15) (.c (.int .i64 1))), none⟩, ⟨(some 5), .v (.mov (.t 16)), none⟩]))))))
    (.seq
     (.reg [⟨(some 4), .v (.mov (.c (.bool true))), none⟩])
     .ret))))⟩
theorem e25 : rFunc Tryz.prog Tryz.f25 = some r25 := by kernel_rfl
def r91 : RFunc := ⟨26, [.t 4],
 (.seq
  (.reg [⟨(some 4), .v (.mov (.c (.bool false))), none⟩])
  (.seq
   (.seq
    (.reg [⟨(some 6), .v (.mov (.t 0)), none⟩, ⟨(some 7), .v (.len (.t 6)), none⟩, ⟨(some 8), .v (.mov (.t 1)), none⟩, ⟨(some 9), .v (.len (.t 8)), none⟩, ⟨(some 10), .v (.bin .neq (.t 7) (.t 9)), none⟩])
    (.cond (.t 10)
     (.seq
      (.reg [⟨(some 4), .v (.mov (.c (.bool false))), none⟩])
      .ret)
     .skip))
   (.seq
    (.seq
     (.reg [⟨(some 5), .v (.mov (.c (.int .i64 0))), none⟩])
     (.block 0
      (.loop
       (.seq
        (.seq
         (.reg [⟨(some 11), .v (.mov (.t 5)), none⟩, ⟨(some 12), .v (.mov (.t 0)), none⟩, ⟨(some 13), .v (.len (.t 12)), none⟩, ⟨(some 14), .v (.bin .lss (.t 11) (.t 13)), none⟩])
         (.cond (.t 14)
          .skip
          (.exit 0)))
        (.seq
         (.block 1
          (.seq
           (.dreg (.fl ⟨(some 17), .v (.mov (.t 0)), none⟩ (.fl ⟨(some 18), .v (.mov (.t 5)), none⟩ (.fl ⟨(some 19), .v (.iaddr 1 (.t 17) (.t 18)), none⟩ (.fl ⟨(some 20), .v (.load false 1 (.t 19)), none⟩ (.fl ⟨(some 21), .v (.mov (.t 1)), none⟩ (.fl ⟨(some 22), .v (.mov (.t 5)), none⟩ (.fl ⟨(some 23), .v (.iaddr 1 (.t 21) (.t 22)), none⟩ (.fl ⟨(some 24), .v (.load false 1 (.t 23)), none⟩ (.fl ⟨(some 25), .v (.bin .neq (.t 20) (.t 24)), none⟩ .done))))))))))
           (.cond (.t 25)
            (.seq
             (.reg [⟨(some 4), .v (.mov (.c (.bool false))), none⟩])
             .ret)
            .skip)))
         (.reg [⟨(some 15), .v (.mov (.t 5)), none⟩, ⟨(some 16), .v (.bin .add (.t 15) (.c (.int .i64 1))), none⟩, ⟨(some 5), .v (.mov (.t 16)), none⟩]))))))
    (.seq
     (.reg [⟨(some 4), .v (.mov (.c (.bool true))), none⟩])
     .ret))))⟩
theorem e91 : rFunc Tryz.prog Tryz.f91 = some r91 := by kernel_rfl
def r59 : RFunc := ⟨16, [.t 4],
 (.seq
  (.reg [⟨(some 2), .m (.box (.t 0)), none⟩, ⟨(some 3), .m (.box (.t 1)), none⟩, ⟨(some 4), .v (.mov (.c (.bool false))), none⟩])
  (.seq
   (.seq
    (.reg [⟨(some 5), .v (.faddr 0 (.t 2)), none⟩, ⟨(some 6), .v (.load false 1 (.t 5)), none⟩, ⟨(some 7), .v (.faddr 0 (.t 3)), none⟩, ⟨(some 8), .v (.load false 1 (.t 7)), none⟩, ⟨(some 9), .v (.bin .neq (.t 6) (.t 8)), none⟩])
    (.cond (.t 9)
     (.seq
      (.reg [⟨(some 4), .v (.mov (.c (.bool false))), none⟩])
      .ret)
     .skip))
   (.seq
    (.seq
     (.reg [⟨(some 10), .v (.faddr 1 (.t 2)), none⟩, ⟨(some 11), .v (.load false 1 (.t 10)), none⟩, ⟨(some 12), .v (.faddr 1 (.t 3)), none⟩, ⟨(some 13), .v (.load false 1 (.t 12)), none⟩, ⟨(some 14), .call 91 [(.t 11), (.t 13)], none⟩, ⟨(some 15), .v (.un .not (.t 14)), none⟩])
     (.cond (.t 15)
      (.seq
       (.reg [⟨(some 4), .v (.mov (.c (.bool false))), none⟩])
       .ret)
      .skip))
    (.seq
     (.reg [⟨(some 4), .v (.mov (.c (.bool true))), none⟩])
     .ret))))⟩
theorem e59 : rFunc Tryz.prog Tryz.f59 = some r59 := by kernel_rfl
def r16 : RFunc := ⟨22, [.t 4],
 (.seq
  (.reg [⟨(some 2), .m (.box (.t 0)), none⟩, ⟨(some 3), .m (.box (.t 1)), none⟩, ⟨(some 4), .v (.mov (.c (.bool false))), none⟩])
  (.seq
   (.seq
    (.reg [⟨(some 5), .v (.faddr 0 (.t 2)), none⟩, ⟨(some 6), .v (.load true 2 (.t 5)), none⟩, ⟨(some 7), .v (.faddr 0 (.t 3)), none⟩, ⟨(some 8), .v (.load true 2 (.t 7)), none⟩, ⟨(some 9), .call 59 [(.t 6), (.t 8)], none⟩, ⟨(some 10), .v (.un .not (.t 9)), none⟩])
    (.cond (.t 10)
     (.seq
      (.reg [⟨(some 4), .v (.mov (.c (.bool false))), none⟩])
      .ret)
     .skip))
   (.seq
    (.seq
     (.reg [⟨(some 11), .v (.faddr 2 (.t 2)), none⟩, ⟨(some 12), .v (.load true 2 (.t 11)), none⟩, ⟨(some 13), .v (.faddr 2 (.t 3)), none⟩, ⟨(some 14), .v (.load true 2 (.t 13)), none⟩, ⟨(some 15), .call 59 [(.t 12), (.t 14)], none⟩, ⟨(some 16), .v (.un .not (.t 15)), none⟩])
     (.cond (.t 16)
      (.seq
       (.reg [⟨(some 4), .v (.mov (.c (.bool false))), none⟩])
       .ret)
      .skip))
    (.seq
     (.seq
      (.reg [⟨(some 17), .v (.faddr 4 (.t 2)), none⟩, ⟨(some 18), .v (.load false 1 (.t 17)), none⟩, ⟨(some 19), .v (.faddr 4 (.t 3)), none⟩, ⟨(some 20), .v (.load false 1 (.t 19)), none⟩, ⟨(some 21), .v (.bin .neq (.t 18) (.t 20)), none⟩])
      (.cond (.t 21)
       (.seq
        (.reg [⟨(some 4), .v (.mov (.c (.bool false))), none⟩])
        .ret)
       .skip))
     (.seq
      (.reg [⟨(some 4), .v (.mov (.c (.bool true))), none⟩])
      .ret)))))⟩
theorem e16 : rFunc Tryz.prog Tryz.f16 = some r16 := by kernel_rfl
def r102 : RFunc := ⟨19, [.t 4],
 (.seq
  (.reg [⟨(some 4), .v (.mov (.c (.int .i64 0))), none⟩])
  (.seq
   (.seq
    (.reg [⟨(some 5), .v (.mov (.c (.int .i64 0))), none⟩])
    (.block 0
     (.loop
      (.seq
       (.seq
        (.reg [⟨(some 6), .v (.mov (.t 5)), none⟩, ⟨(some 7), .v (.mov (.t 0)), none⟩, ⟨(some 8), .v (.len (.t 7)), none⟩, ⟨(some 9), .v (.bin .lss (.t 6) (.t 8)), none⟩])
        (.cond (.t 9)
         .skip
         (.exit 0)))
       (.seq
        (.block 1
         (.seq
          (.reg [⟨(some 12), .v (.mov (.t 0)), none⟩, ⟨(some 13), .v (.mov (.t 5)), none⟩, ⟨(some 14), .v (.mov (.t 1)), none⟩, ⟨(some 15), .v (.iaddr 1 (.t 12) (.t 13)), none⟩, ⟨none, .m (.store 1 (.t 15) (.t 14)), none⟩])
          (.reg [⟨(some 16), .v (.mov (.t 1)), none⟩, ⟨(some 17), .v (.bin .add (.t 16) (.c (.int .i64 1))), none⟩, ⟨(some 1), .v (.mov (.t 17)), none⟩])))
        (.reg [⟨(some 10), .v (.mov (.t 5)), none⟩, ⟨(some 11), .v (.bin .add (.t 10) (.c (.int .i64 1))), none⟩, ⟨(some 5), .v (.mov (.t 11)), none⟩]))))))
   (.seq
    (.reg [⟨(some 18), .v (.mov (.t 1)), none⟩, ⟨(some 4), .v (.mov (.t 18)), none⟩])
    .ret)))⟩
theorem e102 : rFunc Tryz.prog Tryz.f102 = some r102 := by kernel_rfl
def r69 : RFunc := ⟨10, [.t 4],
 (.seq
  (.reg [⟨(some 2), .m (.box (.t 0)), none⟩, ⟨(some 4), .v (.mov (.c (.int .i64 0))), none⟩])
  (.seq
   (.reg [⟨(some 5), .v (.faddr 1 (.t 2)), none⟩, ⟨(some 6), .v (.load false 1 (.t 5)), none⟩, ⟨(some 7), .v (.mov (.t 1)), none⟩, ⟨(some 8), .call 102 [(.t 6), (.t 7)], none⟩, ⟨(some 1), .v (.mov (.t 8)), none⟩])
   (.seq
    (.reg [⟨(some 9), .v (.mov (.t 1)), none⟩, ⟨(some 4), .v (.mov (.t 9)), none⟩])
    .ret)))⟩
theorem e69 : rFunc Tryz.prog Tryz.f69 = some r69 := by kernel_rfl
def r26 : RFunc := ⟨14, [.t 4],
 (.seq
  (.reg [⟨(some 2), .m (.box (.t 0)), none⟩, ⟨(some 4), .v (.mov (.c (.int .i64 0))), none⟩])
  (.seq
   (.reg [⟨(some 5), .v (.faddr 0 (.t 2)), none⟩, ⟨(some 6), .v (.load true 2 (.t 5)), none⟩, ⟨(some 7), .v (.mov (.t 1)), none⟩, ⟨(some 8), .call 69 [(.t 6), (.t 7)], none⟩, ⟨(some 1), .v (.mov (.t 8)), none⟩])
   (.seq
    (.reg [⟨(some 9), .v (.faddr 2 (.t 2)), none⟩, ⟨(some 10), .v (.load true 2 (.t 9)), none⟩, ⟨(some 11), .v (.mov (.t 1)), none⟩, ⟨(some 12), .call 69 [(.t 10), (.t 11)], none⟩, ⟨(some 1), .v (.mov (.t 12)), none⟩])
    (.seq
     (.reg [⟨(some 13), .v (.mov (.t 1)), none⟩, ⟨(some 4), .v (.mov (.t 13)), none⟩])
     .ret))))⟩
theorem e26 : rFunc Tryz.prog Tryz.f26 = some r26 := by kernel_rfl
def r70 : RFunc := ⟨20, [.t 2],
 (.seq
  (.reg [⟨(some 2), .v (.mov (.c (.str []))), none⟩])
  (.seq
   (.seq
    (.reg [⟨(some 4), .v (.mov (.t 0)), none⟩, ⟨(some 5), .v (.bin .leq (.t 4) (.c (.int .i64 0))), none⟩])
    (.cond (.t 5)
     (.seq
      (.reg [⟨(some 2), .v (.mov (.c (.str [109, 48]))), none⟩])
      .ret)
     .skip))
   (.seq
    (.reg [⟨(some 3), .v (.mov (.c (.str []))), none⟩])
    (.seq
     (.block 0
      (.loop
       (.seq
        (.seq
         (.reg [⟨(some 6), .v (.mov (.t 0)), none⟩, ⟨(some 7), .v (.bin .gtr (.t 6) (.c (.int .i64 0))), none⟩])
         (.cond (.t 7)
          .skip
          (.exit 0)))
        (.block 1
         (.seq
          (.reg [⟨(some 8), .v (.mov (.t 0)), none⟩, ⟨(some 9), .v (.bin .rem (.t 8) (.c (.int .i64 10))), none⟩, ⟨(some 10), .v (.bin .add (.c (.int .i64 48)) (.t 9)), none⟩, ⟨(some 11), .v (.conv .u8 (.t 10)), none⟩, ⟨(some 12), .m (.bsl 1 1 [(.int .u8 0)] [(0, 1, (.t 11))]), none⟩, ⟨(some 13), .v (.cbs (.t 12)), none⟩, ⟨(some 14), .v (.mov (.t 3)), none⟩, ⟨(some 15), .v (.bin .add (.t 13) (.t 14)), none⟩, ⟨(some 3), .v (.mov (.t 15)), none⟩])
          (.reg [⟨(some 16), .v (.mov (.t 0)), none⟩, ⟨(some 17), .v (.bin .quo (.t 16) (.c (.int .i64 10))), none⟩, ⟨(some 0), .v (.mov (.t 17)), none⟩]))))))
     (.seq
      (.reg [⟨(some 18), .v (.mov (.t 3)), none⟩, ⟨(some 19), .v (.bin .add (.c (.str [109])) (.t 18)), none⟩, ⟨(some 2), .v (.mov (.t 19)), none⟩])
      .ret)))))⟩
theorem e70 : rFunc Tryz.prog Tryz.f70 = some r70 := by kernel_rfl
def r27 : RFunc := ⟨20, [.t 4],
 (.seq
  (.reg [⟨(some 4), .v (.mov (.c (.int .i64 0))), none⟩])
  (.seq
   (.seq
    (.reg [⟨(some 5), .v (.mov (.c (.int .i64 0))), none⟩])
    (.block 0
     (.loop
      (.seq
       (.seq
        (.reg [⟨(some 6), .v (.mov (.t 5)), none⟩, ⟨(some 7), .v (.mov (.t 0)), none⟩, ⟨(some 8), .v (.len (.t 7)), none⟩, ⟨(some 9), .v (.bin .lss (.t 6) (.t 8)), none⟩])
        (.cond (.t 9)
         .skip
         (.exit 0)))
       (.seq
        (.block 1
         (.seq
          (.reg [⟨(some 12), .v (.mov (.t 0)), none⟩, ⟨(some 13), .v (.mov (.t 5)), none⟩, ⟨(some 14), .v (.mov (.t 1)), none⟩, ⟨(some 15), .call 70 [(.t 14)], none⟩, ⟨(some 16), .v (.iaddr 1 (.t 12) (.t 13)), none⟩, ⟨none, .m (.store 1 (.t 16) (.t 15)), none⟩])
          (.reg [⟨(some 17), .v (.mov (.t 1)), none⟩, ⟨(some 18), .v (.bin .add (.t 17) (.c (.int .i64 1))), none⟩, ⟨(some 1), .v (.mov (.t 18)), none⟩])))
        (.reg [⟨(some 10), .v (.mov (.t 5)), none⟩, ⟨(some 11), .v (.bin .add (.t 10) (.c (.int .i64 1))), none⟩, ⟨(some 5), .v (.mov (.t 11)), none⟩]))))))
   (.seq
    (.reg [⟨(some 19), .v (.mov (.t 1)), none⟩, ⟨(some 4), .v (.mov (.t 19)), none⟩])
    .ret)))⟩
theorem e27 : rFunc Tryz.prog Tryz.f27 = some r27 := by kernel_rfl
def r28 : RFunc := ⟨22, [.t 4],
 (.seq
  (.reg [⟨(some 4), .v (.mov (.c (.int .i64 0))), none⟩])
  (.seq
   (.seq
    (.reg [⟨(some 5), .v (.mov (.c (.int .i64 0))), none⟩])
    (.block 0
     (.loop
      (.seq
       (.seq
        (.reg [⟨(some 6), .v (.mov (.t 5)), none⟩, ⟨(some 7), .v (.mov (.t 0)), none⟩, ⟨(some 8), .v (.len (.t 7)), none⟩, ⟨(some 9), .v (.bin .lss (.t 6) (.t 8)), none⟩])
        (.cond (.t 9)
         .skip
         (.exit 0)))
       (.seq
        (.block 1
         (.seq
          (.seq
           (.dreg (.fl ⟨(some 12), .v (.mov (.t 0)), none⟩ (.fl ⟨(some 13), .v (.mov (.t 5)), none⟩ (.fl ⟨(some 14), .v (.iaddr 1 (.t 12) (.t 13)), none⟩ (.fl ⟨(some 15), .v (.load false 1 (.t 14)), none⟩ (.fl ⟨(some 16), .v (.mov (.t 1)), none⟩ (.nx ⟨(some 17), .call 70 [(.t 16)], none⟩ (.fl ⟨(some 18), .v (.bin .neq (.t 15) (.t 17)), none⟩ .done))))))))
           (.cond (.t 18)
            (.seq
             (.reg [⟨(some 4), .v (.mov (.c (.int .i64 (-1)))), none⟩])
             .ret)
            .skip))
          (.reg [⟨(some 19), .v (.mov (.t 1)), none⟩, ⟨(some 20), .v (.bin .add (.t 19) (.c (.int .i64 1))), none⟩, ⟨(some 1), .v (.mov (.t 20)), none⟩])))
        (.reg [⟨(some 10), .v (.mov (.t 5)), none⟩, ⟨(some 11), .v (.bin .add (.t 10) (.c (.int .i64 1))), none⟩, ⟨(some 5), .v (.mov (.t 11)), none⟩]))))))
   (.seq
    (.reg [⟨(some 21), .v (.mov (.t 1)), none⟩, ⟨(some 4), .v (.mov (.t 21)), none⟩])
    .ret)))⟩
theorem e28 : rFunc Tryz.prog Tryz.f28 = some r28 := by kernel_rfl
def r8 : RFunc := ⟨104, [.t 4],
 (.seq
  (.reg [⟨(some 2), .m (.box (.t 0)), none⟩, ⟨(some 4), .v (.mov (.c (.bool false))), none⟩])
  (.seq
   (.seq
    (.reg [⟨(some 16), .v (.mov (.t 1)), none⟩, ⟨(some 17), .v (.lens (.t 16)), none⟩, ⟨(some 18), .v (.bin .gtr (.t 17) (.c (.int .i64 1048576))), none⟩])
    (.cond (.t 18)
     (.seq
      (.reg [⟨(some 4), .v (.mov (.c (.bool true))), none⟩])
      .ret)
     .skip))
   (.seq
    (.reg [⟨(some 5), .v (.mov (.c (.int .i64 1048576))), none⟩])
    (.seq
     (.reg [⟨(some 19), .v (.load true 5 (.t 2)), none⟩, ⟨(some 20), .v (.mov (.t 5)), none⟩, ⟨(some 21), .call 12 [(.t 19), (.t 20)], none⟩, ⟨(some 5), .v (.mov (.t 21)), none⟩])
     (.seq
      (.seq
       (.reg [⟨(some 22), .v (.mov (.t 5)), none⟩, ⟨(some 23), .v (.bin .lss (.t 22) (.c (.int .i64 0))), none⟩])
       (.cond (.t 23)
        (.seq
         (.reg [⟨(some 4), .v (.mov (.c (.bool true))), none⟩])
         .ret)
        .skip))
      (.seq
       (.reg [⟨(some 25), .v (.load true 5 (.t 2)), none⟩, ⟨(some 26), .call 14 [(.t 25)], none⟩, ⟨(some 27), .v (.mov (.t 1)), none⟩, ⟨(some 28), .call 29 [(.t 26), (.t 27)], none⟩, ⟨(some 24), .v (.mov (.t 28)), none⟩, ⟨(some 29), .v (.ext (.t 24) 0), none⟩, ⟨(some 30), .v (.ext (.t 24) 1), none⟩, ⟨(some 6), .v (.mov (.t 29)), none⟩, ⟨(some 7), .v (.mov (.t 30)), none⟩])
       (.seq
        (.reg [⟨(some 31), .v (.load true 5 (.t 2)), none⟩, ⟨(some 32), .call 14 [(.t 31)], none⟩, ⟨(some 8), .m (.alloc [(.int .i64 0), .nils, (.int .i64 0), .nils, (.str [])]), none⟩, ⟨none, .m (.store 5 (.t 8) (.t 32)), none⟩])
        (.seq
         (.reg [⟨(some 34), .v (.load true 5 (.t 8)), none⟩, ⟨(some 35), .v (.mov (.t 1)), none⟩, ⟨(some 36), .call 30 [(.t 34), (.t 35)], none⟩, ⟨(some 33), .v (.mov (.t 36)), none⟩, ⟨(some 37), .v (.ext (.t 33) 0), none⟩, ⟨(some 38), .v (.ext (.t 33) 1), none⟩, ⟨(some 9), .v (.mov (.t 37)), none⟩, ⟨(some 10), .v (.mov (.t 38)), none⟩])
         (.seq
          (.seq
           (.reg [⟨(some 39), .v (.mov (.t 9)), none⟩, ⟨(some 40), .v (.mov (.t 6)), none⟩, ⟨(some 41), .call 25 [(.t 39), (.t 40)], none⟩, ⟨(some 42), .v (.un .not (.t 41)), none⟩, ⟨(some 43), .v (.mov (.t 42)), none⟩, ⟨(some 44), .v (.mov (.t 10)), (some (43, false))⟩, ⟨(some 45), .v (.mov (.t 7)), (some (43, false))⟩, ⟨(some 46), .v (.beq true (.t 44) (.t 45)), (some (43, false))⟩, ⟨(some 47), .v (.pick (.t 43) (.c (.bool true)) (.t 46)), none⟩])
           (.cond (.t 47)
            (.seq
             (.reg [⟨(some 4), .v (.mov (.c (.bool false))), none⟩])
             .ret)
            .skip))
          (.seq
           (.seq
            (.dreg (.fl ⟨(some 48), .v (.load true 5 (.t 8)), none⟩ (.fl ⟨(some 49), .v (.load true 5 (.t 2)), none⟩ (.nx ⟨(some 50), .call 14 [(.t 49)], none⟩ (.nx ⟨(some 51), .call 16 [(.t 48), (.t 50)], none⟩ (.fl ⟨(some 52), .v (.un .not (.t 51)), none⟩ .done))))))
            (.cond (.t 52)
             (.seq
              (.reg [⟨(some 4), .v (.mov (.c (.bool false))), none⟩])
              .ret)
             .skip))
           (.seq
            (.reg [⟨(some 11), .v (.mov (.c (.int .i64 1))), none⟩])
            (.seq
             (.reg [⟨(some 53), .v (.load true 5 (.t 8)), none⟩, ⟨(some 54), .v (.mov (.t 11)), none⟩, ⟨(some 55), .call 26 [(.t 53), (.t 54)], none⟩, ⟨(some 11), .v (.mov (.t 55)), none⟩])
             (.seq
              (.seq
               (.reg [⟨(some 56), .v (.mov (.t 11)), none⟩, ⟨(some 57), .v (.bin .lss (.t 56) (.c (.int .i64 0))), none⟩, ⟨(some 58), .v (.mov (.t 57)), none⟩, ⟨(some 59), .v (.mov (.t 9)), (some (58, false))⟩, ⟨(some 60), .v (.mov (.t 6)), (some (58, false))⟩, ⟨(some 61), .call 25 [(.t 59), (.t 60)], (some (58, false))⟩, ⟨(some 62), .v (.un .not (.t 61)), (some (58, false))⟩, ⟨(some 63), .v (.pick (.t 58) (.c (.bool true)) (.t 62)), none⟩, ⟨(some 64), .v (.mov (.t 63)), none⟩, ⟨(some 65), .v (.mov (.t 10)), (some (64, false))⟩, ⟨(some 66), .v (.mov (.t 7)), (some (64, false))⟩, ⟨(some 67), .v (.beq true (.t 65) (.t 66)), (some (64, false))⟩, ⟨(some 68), .v (.pick (.t 64) (.c (.bool true)) (.t 67)), none⟩])
               (.cond (.t 68)
                (.seq
                 (.reg [⟨(some 4), .v (.mov (.c (.bool false))), none⟩])
                 .ret)
                .skip))
              (.seq
               (.reg [⟨(some 12), .v (.mov (.c (.int .i64 1))), none⟩])
               (.seq
                (.reg [⟨(some 69), .v (.mov (.t 9)), none⟩, ⟨(some 70), .v (.mov (.t 12)), none⟩, ⟨(some 71), .call 27 [(.t 69), (.t 70)], none⟩, ⟨(some 12), .v (.mov (.t 71)), none⟩])
                (.seq
                 (.reg [⟨(some 13), .v (.mov (.c (.int .i64 1))), none⟩])
                 (.seq
                  (.reg [⟨(some 72), .v (.mov (.t 9)), none⟩, ⟨(some 73), .v (.mov (.t 13)), none⟩, ⟨(some 74), .call 28 [(.t 72), (.t 73)], none⟩, ⟨(some 13), .v (.mov (.t 74)), none⟩])
                  (.seq
                   (.seq
                    (.reg [⟨(some 75), .v (.mov (.t 13)), none⟩, ⟨(some 76), .v (.bin .lss (.t 75) (.c (.int .i64 0))), none⟩])
                    (.cond (.t 76)
                     (.seq
                      (.reg [⟨(some 4), .v (.mov (.c (.bool false))), none⟩])
                      .ret)
                     .skip))
                   (.seq
                    (.seq
                     (.reg [⟨(some 77), .v (.mov (.t 13)), none⟩, ⟨(some 78), .v (.mov (.t 12)), none⟩, ⟨(some 79), .v (.bin .neq (.t 77) (.t 78)), none⟩])
                     (.cond (.t 79)
                      (.seq
                       (.reg [⟨(some 4), .v (.mov (.c (.bool false))), none⟩])
                       .ret)
                      .skip))
                    (.seq
                     (.reg [⟨(some 81), .v (.load true 5 (.t 2)), none⟩, ⟨(some 82), .call 14 [(.t 81)], none⟩, ⟨(some 83), .v (.mov (.t 1)), none⟩, ⟨(some 84), .call 30 [(.t 82), (.t 83)], none⟩, ⟨(some 80), .v (.mov (.t 84)), none⟩, ⟨(some 85), .v (.ext (.t 80) 0), none⟩, ⟨(some 86), .v (.ext (.t 80) 1), none⟩, ⟨(some 14), .v (.mov (.t 85)), none⟩, ⟨(some 15), .v (.mov (.t 86)), none⟩])
                     (.seq
                      (.seq
                       (.reg [⟨(some 87), .v (.mov (.t 14)), none⟩, ⟨(some 88), .v (.mov (.t 6)), none⟩, ⟨(some 89), .call 25 [(.t 87), (.t 88)], none⟩, ⟨(some 90), .v (.un .not (.t 89)), none⟩, ⟨(some 91), .v (.mov (.t 90)), none⟩, ⟨(some 92), .v (.mov (.t 15)), (some (91, false))⟩, ⟨(some 93), .v (.mov (.t 7)), (some (91, false))⟩, ⟨(some 94), .v (.beq true (.t 92) (.t 93)), (some (91, false))⟩, ⟨(some 95), .v (.pick (.t 91) (.c (.bool true)) (.t 94)), none⟩])
                       (.cond (.t 95)
                        (.seq
                         (.reg [⟨(some 4), .v (.mov (.c (.bool false))), none⟩])
                         .ret)
                        .skip))
                      (.seq
                       (.reg [⟨(some 13), .v (.mov (.c (.int .i64 1))), none⟩])
                       (.seq
                        (.reg [⟨(some 96), .v (.mov (.t 9)), none⟩, ⟨(some 97), .v (.mov (.t 13)), none⟩, ⟨(some 98), .call 28 [(.t 96), (.t 97)], none⟩, ⟨(some 13), .v (.mov (.t 98)), none⟩])
                        (.seq
                         (.seq
                          (.reg [⟨(some 99), .v (.mov (.t 13)), none⟩, ⟨(some 100), .v (.bin .lss (.t 99) (.c (.int .i64 0))), none⟩])
                          (.cond (.t 100)
                           (.seq
                            (.reg [⟨(some 4), .v (.mov (.c (.bool false))), none⟩])
                            .ret)
                           .skip))
                         (.seq
                          (.seq
                           (.reg [⟨(some 101), .v (.mov (.t 13)), none⟩, ⟨(some 102), .v (.mov (.t 12)), none⟩, ⟨(some 103), .v (.bin .neq (.t 101) (.t 102)), none⟩])
                           (.cond (.t 103)
                            (.seq
                             (.reg [⟨(some 4), .v (.mov (.c (.bool false))), none⟩])
                             .ret)
                            .skip))
                          (.seq
                           (.reg [⟨(some 4), .v (.mov (.c (.bool true))), none⟩])
                           .ret))))))))))))))))))))))))))⟩
theorem e8 : rFunc Tryz.prog Tryz.f8 = some r8 := by kernel_rfl
end Go.Proofs.YtidhhiecgehgfaaGreat.M

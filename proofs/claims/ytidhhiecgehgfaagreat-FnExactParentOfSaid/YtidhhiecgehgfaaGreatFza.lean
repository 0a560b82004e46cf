/-
  The resolved text of the functions, each tied to the program's own by the kernel.
-/
import Derived.Test.YtidhhiecgehgfaaGreatProg
import Derived.Test.YtidhhiecgehgfaaGreatFy
namespace Go.Proofs.YtidhhiecgehgfaaGreat.M
open Go Go.RowKit
set_option maxRecDepth 100000

def r87 : RFunc := ⟨12, [.t 4],
 (.seq
  (.reg [⟨(some 4), .v (.mov (.c (.int .i64 0))), none⟩])
  (.seq
   (.reg [⟨(some 5), .v (.mov (.t 1)), none⟩, ⟨(some 6), .v (.mov (.t 0)), none⟩, ⟨(some 7), .v (.len (.t 6)), none⟩, ⟨(some 8), .v (.bin .sub (.t 5) (.t 7)), none⟩, ⟨(some 1), .v (.mov (.t 8)), none⟩])
   (.seq
    (.seq
     (.reg [⟨(some 9), .v (.mov (.t 1)), none⟩, ⟨(some 10), .v (.bin .lss (.t 9) (.c (.int .i64 0))), none⟩])
     (.cond (.t 10)
      (.seq
       (.reg [⟨(some 4), .v (.mov (.c (.int .i64 (-1)))), none⟩])
       .ret)
      .skip))
    (.seq
     (.reg [⟨(some 11), .v (.mov (.t 1)), none⟩, ⟨(some 4), .v (.mov (.t 11)), none⟩])
     .ret))))⟩
theorem e87 : rFunc Tryz.prog Tryz.f87 = some r87 := by kernel_rfl
def r52 : RFunc := ⟨12, [.t 4],
 (.seq
  (.reg [⟨(some 2), .m (.box (.t 0)), none⟩, ⟨(some 4), .v (.mov (.c (.int .i64 0))), none⟩])
  (.seq
   (.reg [⟨(some 5), .v (.faddr 1 (.t 2)), none⟩, ⟨(some 6), .v (.load false 1 (.t 5)), none⟩, ⟨(some 7), .v (.mov (.t 1)), none⟩, ⟨(some 8), .call 87 [(.t 6), (.t 7)], none⟩, ⟨(some 1), .v (.mov (.t 8)), none⟩])
   (.seq
    (.seq
     (.reg [⟨(some 9), .v (.mov (.t 1)), none⟩, ⟨(some 10), .v (.bin .lss (.t 9) (.c (.int .i64 0))), none⟩])
     (.cond (.t 10)
      (.seq
       (.reg [⟨(some 4), .v (.mov (.c (.int .i64 (-1)))), none⟩])
       .ret)
      .skip))
    (.seq
     (.reg [⟨(some 11), .v (.mov (.t 1)), none⟩, ⟨(some 4), .v (.mov (.t 11)), none⟩])
     .ret))))⟩
theorem e52 : rFunc Tryz.prog Tryz.f52 = some r52 := by kernel_rfl
def r12 : RFunc := ⟨25, [.t 4],
 (.seq
  (.reg [⟨(some 2), .m (.box (.t 0)), none⟩, ⟨(some 4), .v (.mov (.c (.int .i64 0))), none⟩])
  (.seq
   (.reg [⟨(some 5), .v (.faddr 0 (.t 2)), none⟩, ⟨(some 6), .v (.load true 2 (.t 5)), none⟩, ⟨(some 7), .v (.mov (.t 1)), none⟩, ⟨(some 8), .call 52 [(.t 6), (.t 7)], none⟩, ⟨(some 1), .v (.mov (.t 8)), none⟩])
   (.seq
    (.seq
     (.reg [⟨(some 9), .v (.mov (.t 1)), none⟩, ⟨(some 10), .v (.bin .lss (.t 9) (.c (.int .i64 0))), none⟩])
     (.cond (.t 10)
      (.seq
       (.reg [⟨(some 4), .v (.mov (.c (.int .i64 (-1)))), none⟩])
       .ret)
      .skip))
    (.seq
     (.reg [⟨(some 11), .v (.faddr 2 (.t 2)), none⟩, ⟨(some 12), .v (.load true 2 (.t 11)), none⟩, ⟨(some 13), .v (.mov (.t 1)), none⟩, ⟨(some 14), .call 52 [(.t 12), (.t 13)], none⟩, ⟨(some 1), .v (.mov (.t 14)), none⟩])
     (.seq
      (.seq
       (.reg [⟨(some 15), .v (.mov (.t 1)), none⟩, ⟨(some 16), .v (.bin .lss (.t 15) (.c (.int .i64 0))), none⟩])
       (.cond (.t 16)
        (.seq
         (.reg [⟨(some 4), .v (.mov (.c (.int .i64 (-1)))), none⟩])
         .ret)
        .skip))
      (.seq
       (.reg [⟨(some 17), .v (.mov (.t 1)), none⟩, ⟨(some 18), .v (.faddr 4 (.t 2)), none⟩, ⟨(some 19), .v (.load false 1 (.t 18)), none⟩, ⟨(some 20), .v (.lens (.t 19)), none⟩, ⟨(some 21), .v (.bin .sub (.t 17) (.t 20)), none⟩, ⟨(some 1), .v (.mov (.t 21)), none⟩])
       (.seq
        (.seq
         (.reg [⟨(some 22), .v (.mov (.t 1)), none⟩, ⟨(some 23), .v (.bin .lss (.t 22) (.c (.int .i64 0))), none⟩])
         (.cond (.t 23)
          (.seq
           (.reg [⟨(some 4), .v (.mov (.c (.int .i64 (-1)))), none⟩])
           .ret)
          .skip))
        (.seq
         (.reg [⟨(some 24), .v (.mov (.t 1)), none⟩, ⟨(some 4), .v (.mov (.t 24)), none⟩])
         .ret))))))))⟩
theorem e12 : rFunc Tryz.prog Tryz.f12 = some r12 := by kernel_rfl
def r89 : RFunc := ⟨22, [.t 2],
 (.seq
  (.reg [⟨(some 2), .v (.mov (.c .nils)), none⟩])
  (.seq
   (.reg [⟨(some 5), .v (.mov (.t 0)), none⟩, ⟨(some 6), .v (.len (.t 5)), none⟩, ⟨(some 7), .m (.mks 1 8 [(.int .i64 0)] (.t 6) (.t 6)), none⟩, ⟨(some 3), .v (.mov (.t 7)), none⟩])
   (.seq
    (.seq
     (.reg [⟨(some 4), .v (.mov (.c (.int .i64 0))), none⟩])
     (.block 0
      (.loop
       (.seq
        (.seq
         (.reg [⟨(some 8), .v (.mov (.t 4)), none⟩, ⟨(some 9), .v (.mov (.t 0)), none⟩, ⟨(some 10), .v (.len (.t 9)), none⟩, ⟨(some 11), .v (.bin .lss (.t 8) (.t 10)), none⟩])
         (.cond (.t 11)
          .skip
          (.exit 0)))
        (.seq
         (.block 1
          (.reg [⟨(some 14), .v (.mov (.t 3)), none⟩, ⟨(some 15), .v (.mov (.t 4)), none⟩, ⟨(some 16), .v (.mov (.t 0)), none⟩, ⟨(some 17), .v (.mov (.t 4)), none⟩, ⟨(some 18), .v (.iaddr 1 (.t 16) (.t 17)), none⟩, ⟨(some 19), .v (.load false 1 (.t 18)), none⟩, ⟨(some 20), .v (.iaddr 1 (.t 14) (.t 15)), none⟩, ⟨none, .m (.store 1 (.t 20) (.t 19)), none⟩]))
         (.reg [⟨(some 12), .v (.mov (.t 4)), none⟩, ⟨(some 13), .v (.bin .add (.t 12) (.c (.int .i64 1))), none⟩, ⟨(some 4), .v (.mov (.t 13)), none⟩]))))))
    (.seq
     (.reg [⟨(some 21), .v (.mov (.t 3)), none⟩, ⟨(some 2), .v (.mov (.t 21)), none⟩])
     .ret))))⟩
theorem e89 : rFunc Tryz.prog Tryz.f89 = some r89 := by kernel_rfl
def r56 : RFunc := ⟨12, [.cell true 2 2],
 (.seq
  (.reg [⟨(some 1), .m (.box (.t 0)), none⟩, ⟨(some 2), .m (.alloc [(.int .i64 0), .nils]), none⟩])
  (.seq
   (.reg [⟨(some 3), .m (.alloc [(.int .i64 0), .nils]), none⟩])
   (.seq
    (.reg [⟨(some 4), .v (.faddr 0 (.t 1)), none⟩, ⟨(some 5), .v (.load false 1 (.t 4)), none⟩, ⟨(some 6), .v (.faddr 0 (.t 3)), none⟩, ⟨none, .m (.store 1 (.t 6) (.t 5)), none⟩])
    (.seq
     (.reg [⟨(some 7), .v (.faddr 1 (.t 1)), none⟩, ⟨(some 8), .v (.load false 1 (.t 7)), none⟩, ⟨(some 9), .call 89 [(.t 8)], none⟩, ⟨(some 10), .v (.faddr 1 (.t 3)), none⟩, ⟨none, .m (.store 1 (.t 10) (.t 9)), none⟩])
     (.seq
      (.reg [⟨(some 11), .v (.load true 2 (.t 3)), none⟩, ⟨none, .m (.store 2 (.t 2) (.t 11)), none⟩])
      .ret)))))⟩
theorem e56 : rFunc Tryz.prog Tryz.f56 = some r56 := by kernel_rfl
def r14 : RFunc := ⟨16, [.cell true 5 2],
 (.seq
  (.reg [⟨(some 1), .m (.box (.t 0)), none⟩, ⟨(some 2), .m (.alloc [(.int .i64 0), .nils, (.int .i64 0), .nils, (.str [])]), none⟩])
  (.seq
   (.reg [⟨(some 3), .m (.alloc [(.int .i64 0), .nils, (.int .i64 0), .nils, (.str [])]), none⟩])
   (.seq
    (.reg [⟨(some 4), .v (.faddr 0 (.t 1)), none⟩, ⟨(some 5), .v (.load true 2 (.t 4)), none⟩, ⟨(some 6), .call 56 [(.t 5)], none⟩, ⟨(some 7), .v (.faddr 0 (.t 3)), none⟩, ⟨none, .m (.store 2 (.t 7) (.t 6)), none⟩])
    (.seq
     (.reg [⟨(some 8), .v (.faddr 2 (.t 1)), none⟩, ⟨(some 9), .v (.load true 2 (.t 8)), none⟩, ⟨(some 10), .call 56 [(.t 9)], none⟩, ⟨(some 11), .v (.faddr 2 (.t 3)), none⟩, ⟨none, .m (.store 2 (.t 11) (.t 10)), none⟩])
     (.seq
      (.reg [⟨(some 12), .v (.faddr 4 (.t 1)), none⟩, ⟨(some 13), .v (.load false 1 (.t 12)), none⟩, ⟨(some 14), .v (.faddr 4 (.t 3)), none⟩, ⟨none, .m (.store 1 (.t 14) (.t 13)), none⟩])
      (.seq
       (.reg [⟨(some 15), .v (.load true 5 (.t 3)), none⟩, ⟨none, .m (.store 5 (.t 2) (.t 15)), none⟩])
       .ret))))))⟩
theorem e14 : rFunc Tryz.prog Tryz.f14 = some r14 := by kernel_rfl
def r53 : RFunc := ⟨15, [.t 2, .t 3],
 (.seq
  (.reg [⟨(some 1), .m (.box (.t 0)), none⟩, ⟨(some 2), .v (.mov (.c .nils)), none⟩, ⟨(some 3), .v (.mov (.c (.bool false))), none⟩])
  (.seq
   (.reg [⟨(some 7), .v (.load true 5 (.t 1)), none⟩, ⟨(some 8), .call 61 [(.t 7)], none⟩, ⟨(some 6), .v (.mov (.t 8)), none⟩, ⟨(some 9), .v (.ext (.t 6) 0), none⟩, ⟨(some 10), .v (.ext (.t 6) 1), none⟩, ⟨(some 4), .v (.mov (.t 9)), none⟩, ⟨(some 5), .v (.mov (.t 10)), none⟩])
   (.seq
    (.seq
     (.reg [⟨(some 11), .v (.mov (.t 5)), none⟩, ⟨(some 12), .v (.un .not (.t 11)), none⟩])
     (.cond (.t 12)
      (.seq
       (.reg [⟨(some 2), .v (.mov (.c .nils)), none⟩, ⟨(some 3), .v (.mov (.c (.bool false))), none⟩])
       .ret)
      .skip))
    (.seq
     (.reg [⟨(some 13), .v (.mov (.t 4)), none⟩, ⟨(some 14), .call 88 [(.t 13)], none⟩, ⟨(some 2), .v (.mov (.t 14)), none⟩, ⟨(some 3), .v (.mov (.c (.bool true))), none⟩])
     .ret))))⟩
theorem e53 : rFunc Tryz.prog Tryz.f53 = some r53 := by kernel_rfl
def r55 : RFunc := ⟨19, [.t 4],
 (.seq
  (.reg [⟨(some 4), .v (.mov (.c (.int .i64 0))), none⟩])
  (.seq
   (.seq
    (.reg [⟨(some 7), .v (.mov (.t 0)), none⟩, ⟨(some 8), .v (.len (.t 7)), none⟩, ⟨(some 9), .v (.mov (.c (.int .i64 0))), none⟩])
    (.block 0
     (.loop
      (.seq
       (.reg [⟨(some 10), .v (.bin .lss (.t 9) (.t 8)), none⟩])
       (.seq
        (.cond (.t 10)
         .skip
         (.exit 0))
        (.seq
         (.block 1
          (.seq
           (.reg [⟨(some 11), .v (.mov (.t 9)), none⟩, ⟨(some 12), .v (.iaddr 1 (.t 7) (.t 9)), none⟩, ⟨(some 13), .v (.load false 1 (.t 12)), none⟩, ⟨(some 5), .v (.mov (.t 11)), none⟩, ⟨(some 6), .v (.mov (.t 13)), none⟩])
           (.seq
            (.reg [⟨(some 14), .v (.mov (.t 6)), none⟩, ⟨(some 15), .v (.mov (.t 1)), none⟩, ⟨(some 16), .v (.bin .eql (.t 14) (.t 15)), none⟩])
            (.cond (.t 16)
             (.seq
              (.reg [⟨(some 17), .v (.mov (.t 5)), none⟩, ⟨(some 4), .v (.mov (.t 17)), none⟩])
              .ret)
             .skip))))
         (.reg [⟨(some 18), .v (.bin .add (.t 9) (.c (.int .i64 1))), none⟩, ⟨(some 9), .v (.mov (.t 18)), none⟩])))))))
   (.seq
    (.reg [⟨(some 4), .v (.mov (.c (.int .i64 (-1)))), none⟩])
    .ret)))⟩
theorem e55 : rFunc Tryz.prog Tryz.f55 = some r55 := by kernel_rfl
def r13 : RFunc := ⟨36, [.t 4, .t 5],
 (.seq
  (.reg [⟨(some 2), .m (.box (.t 0)), none⟩, ⟨(some 4), .v (.mov (.c (.int .i64 0))), none⟩, ⟨(some 5), .v (.mov (.c (.bool false))), none⟩])
  (.seq
   (.reg [⟨(some 9), .v (.load true 5 (.t 2)), none⟩, ⟨(some 10), .call 53 [(.t 9)], none⟩, ⟨(some 8), .v (.mov (.t 10)), none⟩, ⟨(some 11), .v (.ext (.t 8) 0), none⟩, ⟨(some 12), .v (.ext (.t 8) 1), none⟩, ⟨(some 6), .v (.mov (.t 11)), none⟩, ⟨(some 7), .v (.mov (.t 12)), none⟩])
   (.seq
    (.seq
     (.reg [⟨(some 13), .v (.mov (.t 7)), none⟩, ⟨(some 14), .v (.un .not (.t 13)), none⟩, ⟨(some 15), .v (.mov (.t 14)), none⟩, ⟨(some 16), .v (.mov (.t 1)), (some (15, false))⟩, ⟨(some 17), .v (.mov (.t 6)), (some (15, false))⟩, ⟨(some 18), .v (.len (.t 17)), (some (15, false))⟩, ⟨(some 19), .v (.bin .sub (.t 18) (.c (.int .i64 1))), (some (15, false))⟩, ⟨(some 20), .call 54 [(.t 16), (.c (.int .i64 1)), (.t 19)], (some (15, false))⟩, ⟨(some 21), .v (.un .not (.t 20)), (some (15, false))⟩, ⟨(some 22), .v (.pick (.t 15) (.c (.bool true)) (.t 21)), none⟩])
     (.cond (.t 22)
      (.seq
       (.reg [⟨(some 4), .v (.mov (.c (.int .i64 0))), none⟩, ⟨(some 5), .v (.mov (.c (.bool false))), none⟩])
       .ret)
      .skip))
    (.seq
     (.dreg (.fl ⟨(some 23), .v (.mov (.t 6)), none⟩ (.fl ⟨(some 24), .v (.mov (.t 6)), none⟩ (.fl ⟨(some 25), .v (.mov (.t 1)), none⟩ (.fl ⟨(some 26), .v (.iaddr 1 (.t 24) (.t 25)), none⟩ (.fl ⟨(some 27), .v (.load false 1 (.t 26)), none⟩ (.fl ⟨(some 28), .v (.mov (.t 6)), none⟩ (.fl ⟨(some 29), .v (.mov (.t 1)), none⟩ (.fl ⟨(some 30), .v (.iaddr 1 (.t 28) (.t 29)), none⟩ (.fl ⟨(some 31), .v (.load false 1 (.t 30)), none⟩ (.fl ⟨(some 32), .v (.lens (.t 31)), none⟩ (.fl ⟨(some 33), .v (.bin .sub (.t 32) (.c (.int .i64 1))), none⟩ (.fl ⟨(some 34), .v (.sstr (.t 27) none (some (.t 33))), none⟩ (.nx ⟨(some 35), .call 55 [(.t 23), (.t 34)], none⟩ (.fl ⟨(some 4), .v (.mov (.t 35)), none⟩ (.fl ⟨(some 5), .v (.mov (.c (.bool true))), none⟩ .done))))))))))))))))
     .ret))))⟩
theorem e13 : rFunc Tryz.prog Tryz.f13 = some r13 := by kernel_rfl
def r57 : RFunc := ⟨21, [.t 4, .t 5, .t 6],
 (.seq
  (.reg [⟨(some 4), .v (.mov (.c (.str []))), none⟩, ⟨(some 5), .v (.mov (.c .nils)), none⟩, ⟨(some 6), .v (.mov (.c (.bool false))), none⟩])
  (.seq
   (.reg [⟨(some 8), .v (.mov (.t 0)), none⟩, ⟨(some 9), .call 75 [(.t 8)], none⟩, ⟨(some 7), .v (.mov (.t 9)), none⟩])
   (.seq
    (.seq
     (.reg [⟨(some 10), .v (.mov (.t 1)), none⟩, ⟨(some 11), .v (.mov (.t 7)), none⟩, ⟨(some 12), .v (.len (.t 11)), none⟩, ⟨(some 13), .v (.bin .sub (.t 12) (.c (.int .i64 1))), none⟩, ⟨(some 14), .call 60 [(.t 10), (.c (.int .i64 0)), (.t 13)], none⟩, ⟨(some 15), .v (.un .not (.t 14)), none⟩])
     (.cond (.t 15)
      (.seq
       (.reg [⟨(some 4), .v (.mov (.c (.str []))), none⟩, ⟨(some 5), .v (.mov (.c .nils)), none⟩, ⟨(some 6), .v (.mov (.c (.bool false))), none⟩])
       .ret)
      .skip))
    (.seq
     (.reg [⟨(some 16), .v (.mov (.t 7)), none⟩, ⟨(some 17), .v (.mov (.t 1)), none⟩, ⟨(some 18), .v (.iaddr 1 (.t 16) (.t 17)), none⟩, ⟨(some 19), .v (.load false 1 (.t 18)), none⟩, ⟨(some 20), .v (.mov (.t 7)), none⟩, ⟨(some 4), .v (.mov (.t 19)), none⟩, ⟨(some 5), .v (.mov (.t 20)), none⟩, ⟨(some 6), .v (.mov (.c (.bool true))), none⟩])
     .ret))))⟩
theorem e57 : rFunc Tryz.prog Tryz.f57 = some r57 := by kernel_rfl
def r58 : RFunc := ⟨14, [.t 4, .t 5],
 (.seq
  (.reg [⟨(some 4), .v (.mov (.c (.int .i64 0))), none⟩, ⟨(some 5), .v (.mov (.c (.bool false))), none⟩])
  (.seq
   (.reg [⟨(some 7), .v (.mov (.t 0)), none⟩, ⟨(some 8), .v (.mov (.t 1)), none⟩, ⟨(some 9), .call 90 [(.t 7), (.t 8)], none⟩, ⟨(some 6), .v (.mov (.t 9)), none⟩])
   (.seq
    (.reg [⟨(some 10), .v (.mov (.t 6)), none⟩, ⟨(some 11), .v (.mx [(.t 10), (.c (.int .i64 0))]), none⟩, ⟨(some 12), .v (.mov (.t 6)), none⟩, ⟨(some 13), .v (.bin .geq (.t 12) (.c (.int .i64 0))), none⟩, ⟨(some 4), .v (.mov (.t 11)), none⟩, ⟨(some 5), .v (.mov (.t 13)), none⟩])
    .ret)))⟩
theorem e58 : rFunc Tryz.prog Tryz.f58 = some r58 := by kernel_rfl
def r15 : RFunc := ⟨30, [.t 4, .t 5],
 (.seq
  (.reg [⟨(some 2), .m (.box (.t 0)), none⟩, ⟨(some 4), .v (.mov (.c (.int .i64 0))), none⟩, ⟨(some 5), .v (.mov (.c (.bool false))), none⟩])
  (.seq
   (.reg [⟨(some 10), .v (.mov (.t 1)), none⟩, ⟨(some 11), .call 57 [(.t 2), (.t 10)], none⟩, ⟨(some 9), .v (.mov (.t 11)), none⟩, ⟨(some 12), .v (.ext (.t 9) 0), none⟩, ⟨(some 13), .v (.ext (.t 9) 1), none⟩, ⟨(some 14), .v (.ext (.t 9) 2), none⟩, ⟨(some 6), .v (.mov (.t 12)), none⟩, ⟨(some 7), .v (.mov (.t 13)), none⟩, ⟨(some 8), .v (.mov (.t 14)), none⟩])
   (.seq
    (.seq
     (.reg [⟨(some 15), .v (.mov (.t 8)), none⟩, ⟨(some 16), .v (.un .not (.t 15)), none⟩, ⟨(some 17), .v (.mov (.t 16)), none⟩, ⟨(some 18), .v (.mov (.t 1)), (some (17, false))⟩, ⟨(some 19), .v (.bin .eql (.t 18) (.c (.int .i64 0))), (some (17, false))⟩, ⟨(some 20), .v (.pick (.t 17) (.c (.bool true)) (.t 19)), none⟩])
     (.cond (.t 20)
      (.seq
       (.reg [⟨(some 4), .v (.mov (.c (.int .i64 0))), none⟩, ⟨(some 5), .v (.mov (.c (.bool false))), none⟩])
       .ret)
      .skip))
    (.seq
     (.reg [⟨(some 21), .v (.mov (.t 7)), none⟩, ⟨(some 22), .v (.mov (.t 6)), none⟩, ⟨(some 23), .v (.mov (.t 6)), none⟩, ⟨(some 24), .v (.lens (.t 23)), none⟩, ⟨(some 25), .v (.bin .sub (.t 24) (.c (.int .i64 1))), none⟩, ⟨(some 26), .v (.sstr (.t 22) none (some (.t 25))), none⟩, ⟨(some 27), .call 58 [(.t 21), (.t 26)], none⟩, ⟨(some 28), .v (.ext (.t 27) 0), none⟩, ⟨(some 29), .v (.ext (.t 27) 1), none⟩, ⟨(some 4), .v (.mov (.t 28)), none⟩, ⟨(some 5), .v (.mov (.t 29)), none⟩])
     .ret))))⟩
theorem e15 : rFunc Tryz.prog Tryz.f15 = some r15 := by kernel_rfl
def r91 : RFunc := ⟨26, [.t 4],
 (.seq
  (.reg [⟨(some 4), .v (.mov (.c (.bool false))), none⟩])
  (.seq
   (.seq
    (.reg [⟨(some 6), .v (.mov (.t 0)), none⟩, ⟨(some 7), .v (.len (.t 6)), none⟩, ⟨(some 8), .v (.mov (.t 1)), none⟩, ⟨(some 9), .v (.len (.t 8)), none⟩, ⟨(some 10), .v (.bin .neq (.t 7) (.t 9)), none⟩])
    (.cond (.t 10)
     (.seq
      (.reg [⟨(some 4), .v (.mov (.c (.bool false))), none⟩])
      .ret)
     .skip))
   (.seq
    (.seq
     (.reg [⟨(some 5), .v (.mov (.c (.int .i64 0))), none⟩])
     (.block 0
      (.loop
       (.seq
        (.seq
         (.reg [⟨(some 11), .v (.mov (.t 5)), none⟩, ⟨(some 12), .v (.mov (.t 0)), none⟩, ⟨(some 13), .v (.len (.t 12)), none⟩, ⟨(some 14), .v (.bin .lss (.t 11) (.t 13)), none⟩])
         (.cond (.t 14)
          .skip
          (.exit 0)))
        (.seq
         (.block 1
          (.seq
           (.dreg (.fl ⟨(some 17), .v (.mov (.t 0)), none⟩ (.fl ⟨(some 18), .v (.mov (.t 5)), none⟩ (.fl ⟨(some 19), .v (.iaddr 1 (.t 17) (.t 18)), none⟩ (.fl ⟨(some 20), .v (.load false 1 (.t 19)), none⟩ (.fl ⟨(some 21), .v (.mov (.t 1)), none⟩ (.fl ⟨(some 22), .v (.mov (.t 5)), none⟩ (.fl ⟨(some 23), .v (.iaddr 1 (.t 21) (.t 22)), none⟩ (.fl ⟨(some 24), .v (.load false 1 (.t 23)), none⟩ (.fl ⟨(some 25), .v (.bin .neq (.t 20) (.t 24)), none⟩ .done))))))))))
           (.cond (.t 25)
            (.seq
             (.reg [⟨(some 4), .v (.mov (.c (.bool false))), none⟩])
             .ret)
            .skip)))
         (.reg [⟨(some 15), .v (.mov (.t 5)), none⟩, ⟨(some 16), .v (.bin .add (.t 15) (.c (.int .i64 1))), none⟩, ⟨(some 5), .v (.mov (.t 16)), none⟩]))))))
    (.seq
     (.reg [⟨(some 4), .v (.mov (.c (.bool true))), none⟩])
     .ret))))⟩
theorem e91 : rFunc Tryz.prog Tryz.f91 = some r91 := by kernel_rfl
def r59 : RFunc := ⟨16, [.t 4],
 (.seq
  (.reg [⟨(some 2), .m (.box (.t 0)), none⟩, ⟨(some 3), .m (.box (.t 1)), none⟩, ⟨(some 4), .v (.mov (.c (.bool false))), none⟩])
  (.seq
   (.seq
    (.reg [⟨(some 5), .v (.faddr 0 (.t 2)), none⟩, ⟨(some 6), .v (.load false 1 (.t 5)), none⟩, ⟨(some 7), .v (.faddr 0 (.t 3)), none⟩, ⟨(some 8), .v (.load false 1 (.t 7)), none⟩, ⟨(some 9), .v (.bin .neq (.t 6) (.t 8)), none⟩])
    (.cond (.t 9)
     (.seq
      (.reg [⟨(some 4), .v (.mov (.c (.bool false))), none⟩])
      .ret)
     .skip))
   (.seq
    (.seq
     (.reg [⟨(some 10), .v (.faddr 1 (.t 2)), none⟩, ⟨(some 11), .v (.load false 1 (.t 10)), none⟩, ⟨(some 12), .v (.faddr 1 (.t 3)), none⟩, ⟨(some 13), .v (.load false 1 (.t 12)), none⟩, ⟨(some 14), .call 91 [(.t 11), (.t 13)], none⟩, ⟨(some 15), .v (.un .not (.t 14)), none⟩])
     (.cond (.t 15)
      (.seq
       (.reg [⟨(some 4), .v (.mov (.c (.bool false))), none⟩])
       .ret)
      .skip))
    (.seq
     (.reg [⟨(some 4), .v (.mov (.c (.bool true))), none⟩])
     .ret))))⟩
theorem e59 : rFunc Tryz.prog Tryz.f59 = some r59 := by kernel_rfl
def r16 : RFunc := ⟨22, [.t 4],
 (.seq
  (.reg [⟨(some 2), .m (.box (.t 0)), none⟩, ⟨(some 3), .m (.box (.t 1)), none⟩, ⟨(some 4), .v (.mov (.c (.bool false))), none⟩])
  (.seq
   (.seq
    (.reg [⟨(some 5), .v (.faddr 0 (.t 2)), none⟩, ⟨(some 6), .v (.load true 2 (.t 5)), none⟩, ⟨(some 7), .v (.faddr 0 (.t 3)), none⟩, ⟨(some 8), .v (.load true 2 (.t 7)), none⟩, ⟨(some 9), .call 59 [(.t 6), (.t 8)], none⟩, ⟨(some 10), .v (.un .not (.t 9)), none⟩])
    (.cond (.t 10)
     (.seq
      (.reg [⟨(some 4), .v (.mov (.c (.bool false))), none⟩])
      .ret)
     .skip))
   (.seq
    (.seq
     (.reg [⟨(some 11), .v (.faddr 2 (.t 2)), none⟩, ⟨(some 12), .v (.load true 2 (.t 11)), none⟩, ⟨(some 13), .v (.faddr 2 (.t 3)), none⟩, ⟨(some 14), .v (.load true 2 (.t 13)), none⟩, ⟨(some 15), .call 59 [(.t 12), (.t 14)], none⟩, ⟨(some 16), .v (.un .not (.t 15)), none⟩])
     (.cond (.t 16)
      (.seq
       (.reg [⟨(some 4), .v (.mov (.c (.bool false))), none⟩])
       .ret)
      .skip))
    (.seq
     (.seq
      (.reg [⟨(some 17), .v (.faddr 4 (.t 2)), none⟩, ⟨(some 18), .v (.load false 1 (.t 17)), none⟩, ⟨(some 19), .v (.faddr 4 (.t 3)), none⟩, ⟨(some 20), .v (.load false 1 (.t 19)), none⟩, ⟨(some 21), .v (.bin .neq (.t 18) (.t 20)), none⟩])
      (.cond (.t 21)
       (.seq
        (.reg [⟨(some 4), .v (.mov (.c (.bool false))), none⟩])
        .ret)
       .skip))
     (.seq
      (.reg [⟨(some 4), .v (.mov (.c (.bool true))), none⟩])
      .ret)))))⟩
theorem e16 : rFunc Tryz.prog Tryz.f16 = some r16 := by kernel_rfl
def r3 : RFunc := ⟨44, [.t 4],
 (.seq
  (.reg [⟨(some 2), .m (.box (.t 0)), none⟩, ⟨(some 4), .v (.mov (.c (.bool false))), none⟩])
  (.seq
   (.reg [⟨(some 5), .v (.mov (.c (.int .i64 1048576))), none⟩])
   (.seq
    (.reg [⟨(some 11), .v (.load true 5 (.t 2)), none⟩, ⟨(some 12), .v (.mov (.t 5)), none⟩, ⟨(some 13), .call 12 [(.t 11), (.t 12)], none⟩, ⟨(some 5), .v (.mov (.t 13)), none⟩])
    (.seq
     (.seq
      (.reg [⟨(some 14), .v (.mov (.t 5)), none⟩, ⟨(some 15), .v (.bin .lss (.t 14) (.c (.int .i64 0))), none⟩])
      (.cond (.t 15)
       (.seq
        (.reg [⟨(some 4), .v (.mov (.c (.bool true))), none⟩])
        .ret)
       .skip))
     (.seq
      (.reg [⟨(some 17), .v (.load true 5 (.t 2)), none⟩, ⟨(some 18), .call 14 [(.t 17)], none⟩, ⟨(some 19), .v (.mov (.t 1)), none⟩, ⟨(some 20), .call 13 [(.t 18), (.t 19)], none⟩, ⟨(some 16), .v (.mov (.t 20)), none⟩, ⟨(some 21), .v (.ext (.t 16) 0), none⟩, ⟨(some 22), .v (.ext (.t 16) 1), none⟩, ⟨(some 6), .v (.mov (.t 21)), none⟩, ⟨(some 7), .v (.mov (.t 22)), none⟩])
      (.seq
       (.reg [⟨(some 23), .v (.load true 5 (.t 2)), none⟩, ⟨(some 24), .call 14 [(.t 23)], none⟩, ⟨(some 8), .m (.alloc [(.int .i64 0), .nils, (.int .i64 0), .nils, (.str [])]), none⟩, ⟨none, .m (.store 5 (.t 8) (.t 24)), none⟩])
       (.seq
        (.reg [⟨(some 26), .v (.load true 5 (.t 8)), none⟩, ⟨(some 27), .v (.mov (.t 1)), none⟩, ⟨(some 28), .call 15 [(.t 26), (.t 27)], none⟩, ⟨(some 25), .v (.mov (.t 28)), none⟩, ⟨(some 29), .v (.ext (.t 25) 0), none⟩, ⟨(some 30), .v (.ext (.t 25) 1), none⟩, ⟨(some 9), .v (.mov (.t 29)), none⟩, ⟨(some 10), .v (.mov (.t 30)), none⟩])
        (.seq
         (.seq
          (.reg [⟨(some 31), .v (.mov (.t 9)), none⟩, ⟨(some 32), .v (.mov (.t 6)), none⟩, ⟨(some 33), .v (.bin .neq (.t 31) (.t 32)), none⟩, ⟨(some 34), .v (.mov (.t 33)), none⟩, ⟨(some 35), .v (.mov (.t 10)), (some (34, false))⟩, ⟨(some 36), .v (.mov (.t 7)), (some (34, false))⟩, ⟨(some 37), .v (.beq true (.t 35) (.t 36)), (some (34, false))⟩, ⟨(some 38), .v (.pick (.t 34) (.c (.bool true)) (.t 37)), none⟩])
          (.cond (.t 38)
           (.seq
            (.reg [⟨(some 4), .v (.mov (.c (.bool false))), none⟩])
            .ret)
           .skip))
         (.seq
          (.seq
           (.dreg (.fl ⟨(some 39), .v (.load true 5 (.t 8)), none⟩ (.fl ⟨(some 40), .v (.load true 5 (.t 2)), none⟩ (.nx ⟨(some 41), .call 14 [(.t 40)], none⟩ (.nx ⟨(some 42), .call 16 [(.t 39), (.t 41)], none⟩ (.fl ⟨(some 43), .v (.un .not (.t 42)), none⟩ .done))))))
           (.cond (.t 43)
            (.seq
             (.reg [⟨(some 4), .v (.mov (.c (.bool false))), none⟩])
             .ret)
            .skip))
          (.seq
           (.reg [⟨(some 4), .v (.mov (.c (.bool true))), none⟩])
           .ret))))))))))⟩
theorem e3 : rFunc Tryz.prog Tryz.f3 = some r3 := by kernel_rfl
end Go.Proofs.YtidhhiecgehgfaaGreat.M

/-
  The resolved text of the functions, each tied to the program's own by the kernel.
-/
import Derived.Test.YtidhhiecgehgfaaGreatProg
import Derived.Test.YtidhhiecgehgfaaGreatFy
namespace Go.Proofs.YtidhhiecgehgfaaGreat.M
open Go Go.RowKit
set_option maxRecDepth 100000

def r87 : RFunc := ⟨12, [.t 4],
 (.seq
  (.reg [⟨(some 4), .v (.mov (.c (.int .i64 0))), none⟩])
  (.seq
   (.reg [⟨(some 5), .v (.mov (.t 1)), none⟩, ⟨(some 6), .v (.mov (.t 0)), none⟩, ⟨(some 7), .v (.len (.t 6)), none⟩, ⟨(some 8), .v (.bin .sub (.t 5) (.t 7)), none⟩, ⟨(some 1), .v (.mov (.t 8)), none⟩])
   (.seq
    (.seq
     (.reg [⟨(some 9), .v (.mov (.t 1)), none⟩, ⟨(some 10), .v (.bin .lss (.t 9) (.c (.int .i64 0))), none⟩])
     (.cond (.t 10)
      (.seq
       (.reg [⟨(some 4), .v (.mov (.c (.int .i64 (-1)))), none⟩])
       .ret)
      .skip))
    (.seq
     (.reg [⟨(some 11), .v (.mov (.t 1)), none⟩, ⟨(some 4), .v (.mov (.t 11)), none⟩])
     .ret))))⟩
theorem e87 : rFunc Tryz.prog Tryz.f87 = some r87 := by kernel_rfl
def r52 : RFunc := ⟨12, [.t 4],
 (.seq
  (.reg [⟨(some 2), .m (.box (.t 0)), none⟩, ⟨(some 4), .v (.mov (.c (.int .i64 0))), none⟩])
  (.seq
   (.reg [⟨(some 5), .v (.faddr 1 (.t 2)), none⟩, ⟨(some 6), .v (.load false 1 (.t 5)), none⟩, ⟨(some 7), .v (.mov (.t 1)), none⟩, ⟨(some 8), .call 87 [(.t 6), (.t 7)], none⟩, ⟨(some 1), .v (.mov (.t 8)), none⟩])
   (.seq
    (.seq
     (.reg [⟨(some 9), .v (.mov (.t 1)), none⟩, ⟨(some 10), .v (.bin .lss (.t 9) (.c (.int .i64 0))), none⟩])
     (.cond (.t 10)
      (.seq
       (.reg [⟨(some 4), .v (.mov (.c (.int .i64 (-1)))), none⟩])
       .ret)
      .skip))
    (.seq
     (.reg [⟨(some 11), .v (.mov (.t 1)), none⟩, ⟨(some 4), .v (.mov (.t 11)), none⟩])
     .ret))))⟩
theorem e52 : rFunc Tryz.prog Tryz.f52 = some r52 := by kernel_rfl
def r12 : RFunc := ⟨25, [.t 4],
 (.seq
  (.reg [⟨(some 2), .m (.box (.t 0)), none⟩, ⟨(some 4), .v (.mov (.c (.int .i64 0))), none⟩])
  (.seq
   (.reg [⟨(some 5), .v (.faddr 0 (.t 2)), none⟩, ⟨(some 6), .v (.load true 2 (.t 5)), none⟩, ⟨(some 7), .v (.mov (.t 1)), none⟩, ⟨(some 8), .call 52 [(.t 6), (.t 7)], none⟩, ⟨(some 1), .v (.mov (.t 8)), none⟩])
   (.seq
    (.seq
     (.reg [⟨(some 9), .v (.mov (.t 1)), none⟩, ⟨(some 10), .v (.bin .lss (.t 9) (.c (.int .i64 0))), none⟩])
     (.cond (.t 10)
      (.seq
       (.reg [⟨(some 4), .v (.mov (.c (.int .i64 (-1)))), none⟩])
       .ret)
      .skip))
    (.seq
     (.reg [⟨(some 11), .v (.faddr 2 (.t 2)), none⟩, ⟨(some 12), .v (.load true 2 (.t 11)), none⟩, ⟨(some 13), .v (.mov (.t 1)), none⟩, ⟨(some 14), .call 52 [(.t 12), (.t 13)], none⟩, ⟨(some 1), .v (.mov (.t 14)), none⟩])
     (.seq
      (.seq
       (.reg [⟨(some 15), .v (.mov (.t 1)), none⟩, ⟨(some 16), .v (.bin .lss (.t 15) (.c (.int .i64 0))), none⟩])
       (.cond (.t 16)
        (.seq
         (.reg [⟨(some 4), .v (.mov (.c (.int .i64 (-1)))), none⟩])
         .ret)
        .skip))
      (.seq
       (.reg [⟨(some 17), .v (.mov (.t 1)), none⟩, ⟨(some 18), .v (.faddr 4 (.t 2)), none⟩, ⟨(some 19), .v (.load false 1 (.t 18)), none⟩, ⟨(some 20), .v (.lens (.t 19)), none⟩, ⟨(some 21), .v (.bin .sub (.t 17) (.t 20)), none⟩, ⟨(some 1), .v (.mov (.t 21)), none⟩])
       (.seq
        (.seq
         (.reg [⟨(some 22), .v (.mov (.t 1)), none⟩, ⟨(some 23), .v (.bin .lss (.t 22) (.c (.int .i64 0))), none⟩])
         (.cond (.t 23)
          (.seq
           (.reg [⟨(some 4), .v (.mov (.c (.int .i64 (-1)))), none⟩])
           .ret)
          .skip))
        (.seq
         (.reg [⟨(some 24), .v (.mov (.t 1)), none⟩, ⟨(some 4), .v (.mov (.t 24)), none⟩])
         .ret))))))))⟩
theorem e12 : rFunc Tryz.prog Tryz.f12 = some r12 := by kernel_rfl
def r89 : RFunc := ⟨22, [.t 2],
 (.seq
  (.reg [⟨(some 2), .v (.mov (.c .nils)), none⟩])
  (.seq
   (.reg [⟨(some 5), .v (.mov (.t 0)), none⟩, ⟨(some 6), .v (.len (.t 5)), none⟩, ⟨(some 7), .m (.mks 1 8 [(.int .i64 0)] (.t 6) (.t 6)), none⟩, ⟨(some 3), .v (.mov (.t 7)), none⟩])
   (.seq
    (.seq
     (.reg [⟨(some 4), .v (.mov (.c (.int .i64 0))), none⟩])
     (.block 0
      (.loop
       (.seq
        (.seq
         (.reg [⟨(some 8), .v (.mov (.t 4)), none⟩, ⟨(some 9), .v (.mov (.t 0)), none⟩, ⟨(some 10), .v (.len (.t 9)), none⟩, ⟨(some 11), .v (.bin .lss (.t 8) (.t 10)), none⟩])
         (.cond (.t 11)
          .skip
          (.exit 0)))
        (.seq
         (.block 1
          (.reg [⟨(some 14), .v (.mov (.t 3)), none⟩, ⟨(some 15), .v (.mov (.t 4)), none⟩, ⟨(some 16), .v (.mov (.t 0)), none⟩, ⟨(some 17), .v (.mov (.t 4)), none⟩, ⟨(some 18), .v (.iaddr 1 (.t 16) (.t 17)), none⟩, ⟨(some 19), .v (.load false 1 (.t 18)), none⟩, ⟨(some 20), .v (.iaddr 1 (.t 14) (.t 15)), none⟩, ⟨none, .m (.store 1 (.t 20) (.t 19)), none⟩]))
         (.reg [⟨(some 12), .v (.mov (.t 4)), none⟩, ⟨(some 13), .v (.bin .add (.t 12) (.c (.int .i64 1))), none⟩, ⟨(some 4), .v (.mov (.t 13)), none⟩]))))))
    (.seq
     (.reg [⟨(some 21), .v (.mov (.t 3)), none⟩, ⟨(some 2), .v (.mov (.t 21)), none⟩])
     .ret))))⟩
theorem e89 : rFunc Tryz.prog Tryz.f89 = some r89 := by kernel_rfl
def r56 : RFunc := ⟨12, [.cell true 2 2],
 (.seq
  (.reg [⟨(some 1), .m (.box (.t 0)), none⟩, ⟨(some 2), .m (.alloc [(.int .i64 0), .nils]), none⟩])
  (.seq
   (.reg [⟨(some 3), .m (.alloc [(.int .i64 0), .nils]), none⟩])
   (.seq
    (.reg [⟨(some 4), .v (.faddr 0 (.t 1)), none⟩, ⟨(some 5), .v (.load false 1 (.t 4)), none⟩, ⟨(some 6), .v (.faddr 0 (.t 3)), none⟩, ⟨none, .m (.store 1 (.t 6) (.t 5)), none⟩])
    (.seq
     (.reg [⟨(some 7), .v (.faddr 1 (.t 1)), none⟩, ⟨(some 8), .v (.load false 1 (.t 7)), none⟩, ⟨(some 9), .call 89 [(.t 8)], none⟩, ⟨(some 10), .v (.faddr 1 (.t 3)), none⟩, ⟨none, .m (.store 1 (.t 10) (.t 9)), none⟩])
     (.seq
      (.reg [⟨(some 11), .v (.load true 2 (.t 3)), none⟩, ⟨none, .m (.store 2 (.t 2) (.t 11)), none⟩])
      .ret)))))⟩
theorem e56 : rFunc Tryz.prog Tryz.f56 = some r56 := by kernel_rfl
def r14 : RFunc := ⟨16, [.cell true 5 2],
 (.seq
  (.reg [⟨(some 1), .m (.box (.t 0)), none⟩, ⟨(some 2), .m (.alloc [(.int .i64 0), .nils, (.int .i64 0), .nils, (.str [])]), none⟩])
  (.seq
   (.reg [⟨(some 3), .m (.alloc [(.int .i64 0), .nils, (.int .i64 0), .nils, (.str [])]), none⟩])
   (.seq
    (.reg [⟨(some 4), .v (.faddr 0 (.t 1)), none⟩, ⟨(some 5), .v (.load true 2 (.t 4)), none⟩, ⟨(some 6), .call 56 [(.t 5)], none⟩, ⟨(some 7), .v (.faddr 0 (.t 3)), none⟩, ⟨none, .m (.store 2 (.t 7) (.t 6)), none⟩])
    (.seq
     (.reg [⟨(some 8), .v (.faddr 2 (.t 1)), none⟩, ⟨(some 9), .v (.load true 2 (.t 8)), none⟩, ⟨(some 10), .call 56 [(.t 9)], none⟩, ⟨(some 11), .v (.faddr 2 (.t 3)), none⟩, ⟨none, .m (.store 2 (.t 11) (.t 10)), none⟩])
     (.seq
      (.reg [⟨(some 12), .v (.faddr 4 (.t 1)), none⟩, ⟨(some 13), .v (.load false 1 (.t 12)), none⟩, ⟨(some 14), .v (.faddr 4 (.t 3)), none⟩, ⟨none, .m (.store 1 (.t 14) (.t 13)), none⟩])
      (.seq
       (.reg [⟨(some 15), .v (.load true 5 (.t 3)), none⟩, ⟨none, .m (.store 5 (.t 2) (.t 15)), none⟩])
       .ret))))))⟩
theorem e14 : rFunc Tryz.prog Tryz.f14 = some r14 := by kernel_rfl
def r66 : RFunc := ⟨21, [.t 4],
 (.seq
  (.reg [⟨(some 4), .v (.mov (.c (.int .i64 0))), none⟩])
  (.seq
   (.reg [⟨(some 5), .v (.mov (.c (.int .i64 0))), none⟩])
   (.seq
    (.seq
     (.reg [⟨(some 8), .v (.mov (.t 0)), none⟩, ⟨(some 9), .v (.len (.t 8)), none⟩, ⟨(some 10), .v (.mov (.c (.int .i64 0))), none⟩])
     (.block 0
      (.loop
       (.seq
        (.reg [⟨(some 11), .v (.bin .lss (.t 10) (.t 9)), none⟩])
        (.seq
         (.cond (.t 11)
          .skip
          (.exit 0))
         (.seq
          (.block 1
           (.seq
            (.reg [⟨(some 12), .v (.iaddr 1 (.t 8) (.t 10)), none⟩, ⟨(some 13), .v (.load false 1 (.t 12)), none⟩, ⟨(some 7), .v (.mov (.t 13)), none⟩])
            (.seq
             (.reg [⟨(some 14), .v (.mov (.t 7)), none⟩, ⟨(some 15), .v (.mov (.t 1)), none⟩, ⟨(some 16), .v (.bin .lss (.t 14) (.t 15)), none⟩])
             (.cond (.t 16)
              (.reg [⟨(some 17), .v (.mov (.t 5)), none⟩, ⟨(some 18), .v (.bin .add (.t 17) (.c (.int .i64 1))), none⟩, ⟨(some 5), .v (.mov (.t 18)), none⟩])
              .skip))))
          (.reg [⟨(some 19), .v (.bin .add (.t 10) (.c (.int .i64 1))), none⟩, ⟨(some 10), .v (.mov (.t 19)), none⟩])))))))
    (.seq
     (.reg [⟨(some 20), .v (.mov (.t 5)), none⟩, ⟨(some 4), .v (.mov (.t 20)), none⟩])
     .ret))))⟩
theorem e66 : rFunc Tryz.prog Tryz.f66 = some r66 := by kernel_rfl
def r21 : RFunc := ⟨18, [.t 4, .t 5],
 (.seq
  (.reg [⟨(some 2), .m (.box (.t 0)), none⟩, ⟨(some 4), .v (.mov (.c (.int .i64 0))), none⟩, ⟨(some 5), .v (.mov (.c (.bool false))), none⟩])
  (.seq
   (.reg [⟨(some 9), .v (.load true 5 (.t 2)), none⟩, ⟨(some 10), .call 61 [(.t 9)], none⟩, ⟨(some 8), .v (.mov (.t 10)), none⟩, ⟨(some 11), .v (.ext (.t 8) 0), none⟩, ⟨(some 12), .v (.ext (.t 8) 1), none⟩, ⟨(some 6), .v (.mov (.t 11)), none⟩, ⟨(some 7), .v (.mov (.t 12)), none⟩])
   (.seq
    (.seq
     (.reg [⟨(some 13), .v (.mov (.t 7)), none⟩, ⟨(some 14), .v (.un .not (.t 13)), none⟩])
     (.cond (.t 14)
      (.seq
       (.reg [⟨(some 4), .v (.mov (.c (.int .i64 0))), none⟩, ⟨(some 5), .v (.mov (.c (.bool false))), none⟩])
       .ret)
      .skip))
    (.seq
     (.reg [⟨(some 15), .v (.mov (.t 6)), none⟩, ⟨(some 16), .v (.mov (.t 1)), none⟩, ⟨(some 17), .call 66 [(.t 15), (.t 16)], none⟩, ⟨(some 4), .v (.mov (.t 17)), none⟩, ⟨(some 5), .v (.mov (.c (.bool true))), none⟩])
     .ret))))⟩
theorem e21 : rFunc Tryz.prog Tryz.f21 = some r21 := by kernel_rfl
def r67 : RFunc := ⟨12, [.t 2, .t 3],
 (.seq
  (.reg [⟨(some 2), .v (.mov (.c .nils)), none⟩, ⟨(some 3), .v (.mov (.c (.bool false))), none⟩])
  (.seq
   (.reg [⟨(some 5), .v (.mov (.t 0)), none⟩, ⟨(some 6), .call 75 [(.t 5)], none⟩, ⟨(some 4), .v (.mov (.t 6)), none⟩])
   (.seq
    (.seq
     (.reg [⟨(some 7), .v (.mov (.t 4)), none⟩, ⟨(some 8), .v (.seq false (.t 7) (.c .nils)), none⟩])
     (.cond (.t 8)
      (.seq
       (.reg [⟨(some 2), .v (.mov (.c .nils)), none⟩, ⟨(some 3), .v (.mov (.c (.bool false))), none⟩])
       .ret)
      .skip))
    (.seq
     (.reg [⟨(some 9), .v (.mov (.t 0)), none⟩, ⟨(some 10), .v (.mov (.t 4)), none⟩, ⟨(some 11), .call 99 [(.t 9), (.t 10)], none⟩, ⟨(some 2), .v (.mov (.t 11)), none⟩, ⟨(some 3), .v (.mov (.c (.bool true))), none⟩])
     .ret))))⟩
theorem e67 : rFunc Tryz.prog Tryz.f67 = some r67 := by kernel_rfl
def r129 : RFunc := ⟨6, [.t 2],
 (.seq
  (.reg [⟨(some 2), .v (.mov (.c (.bool false))), none⟩])
  (.seq
   (.reg [⟨(some 3), .v (.mov (.t 0)), none⟩, ⟨(some 4), .v (.mov (.t 0)), none⟩, ⟨(some 5), .v (.bin .neq (.t 3) (.t 4)), none⟩, ⟨(some 2), .v (.mov (.t 5)), none⟩])
   .ret))⟩
theorem e129 : rFunc Tryz.prog Tryz.f129 = some r129 := by kernel_rfl
def r100 : RFunc := ⟨17, [.t 4],
 (.seq
  (.reg [⟨(some 4), .v (.mov (.c (.bool false))), none⟩])
  (.seq
   (.reg [⟨(some 5), .v (.mov (.t 0)), none⟩, ⟨(some 6), .call 129 [(.t 5)], none⟩, ⟨(some 7), .v (.mov (.t 6)), none⟩, ⟨(some 8), .v (.mov (.t 1)), (some (7, true))⟩, ⟨(some 9), .call 129 [(.t 8)], (some (7, true))⟩, ⟨(some 10), .v (.un .not (.t 9)), (some (7, true))⟩, ⟨(some 11), .v (.pick (.t 7) (.t 10) (.c (.bool false))), none⟩, ⟨(some 12), .v (.mov (.t 11)), none⟩, ⟨(some 13), .v (.mov (.t 0)), (some (12, false))⟩, ⟨(some 14), .v (.mov (.t 1)), (some (12, false))⟩, ⟨(some 15), .v (.bin .lss (.t 13) (.t 14)), (some (12, false))⟩, ⟨(some 16), .v (.pick (.t 12) (.c (.bool true)) (.t 15)), none⟩, ⟨(some 4), .v (.mov (.t 16)), none⟩])
   .ret))⟩
theorem e100 : rFunc Tryz.prog Tryz.f100 = some r100 := by kernel_rfl
def r101 : RFunc := ⟨6, [.t 2],
 (.seq
  (.reg [⟨(some 2), .v (.mov (.c (.bool false))), none⟩])
  (.seq
   (.reg [⟨(some 3), .v (.mov (.t 0)), none⟩, ⟨(some 4), .v (.mov (.t 0)), none⟩, ⟨(some 5), .v (.bin .neq (.t 3) (.t 4)), none⟩, ⟨(some 2), .v (.mov (.t 5)), none⟩])
   .ret))⟩
theorem e101 : rFunc Tryz.prog Tryz.f101 = some r101 := by kernel_rfl
def r68 : RFunc := ⟨54, [.t 4, .t 5],
 (.seq
  (.reg [⟨(some 4), .v (.mov (.c (.int .i64 0))), none⟩, ⟨(some 5), .v (.mov (.c (.bool false))), none⟩])
  (.seq
   (.reg [⟨(some 10), .v (.mov (.t 0)), none⟩, ⟨(some 11), .v (.len (.t 10)), none⟩, ⟨(some 6), .v (.mov (.t 11)), none⟩])
   (.seq
    (.reg [⟨(some 12), .v (.mov (.t 6)), none⟩, ⟨(some 7), .v (.mov (.c (.int .i64 0))), none⟩, ⟨(some 8), .v (.mov (.t 12)), none⟩])
    (.seq
     (.block 0
      (.loop
       (.seq
        (.seq
         (.reg [⟨(some 13), .v (.mov (.t 7)), none⟩, ⟨(some 14), .v (.mov (.t 8)), none⟩, ⟨(some 15), .v (.bin .lss (.t 13) (.t 14)), none⟩])
         (.cond (.t 15)
          .skip
          (.exit 0)))
        (.block 1
         (.seq
          (.reg [⟨(some 16), .v (.mov (.t 7)), none⟩, ⟨(some 17), .v (.mov (.t 8)), none⟩, ⟨(some 18), .v (.bin .add (.t 16) (.t 17)), none⟩, ⟨(some 19), .v (.conv .u64 (.t 18)), none⟩, ⟨(some 20), .v (.bin .shr (.t 19) (.c (.int .u64 1))), none⟩, ⟨(some 21), .v (.conv .i64 (.t 20)), none⟩, ⟨(some 9), .v (.mov (.t 21)), none⟩])
          (.seq
           (.reg [⟨(some 22), .v (.mov (.t 0)), none⟩, ⟨(some 23), .v (.mov (.t 9)), none⟩, ⟨(some 24), .v (.iaddr 1 (.t 22) (.t 23)), none⟩, ⟨(some 25), .v (.load false 1 (.t 24)), none⟩, ⟨(some 26), .v (.mov (.t 1)), none⟩, ⟨(some 27), .call 100 [(.t 25), (.t 26)], none⟩])
           (.cond (.t 27)
            (.reg [⟨(some 28), .v (.mov (.t 9)), none⟩, ⟨(some 29), .v (.bin .add (.t 28) (.c (.int .i64 1))), none⟩, ⟨(some 7), .v (.mov (.t 29)), none⟩])
            (.reg [⟨(some 30), .v (.mov (.t 9)), none⟩, ⟨(some 8), .v (.mov (.t 30)), none⟩]))))))))
     (.seq
      (.reg [⟨(some 31), .v (.mov (.t 7)), none⟩, ⟨(some 32), .v (.mov (.t 7)), none⟩, ⟨(some 33), .v (.mov (.t 6)), none⟩, ⟨(some 34), .v (.bin .lss (.t 32) (.t 33)), none⟩, ⟨(some 35), .v (.mov (.t 34)), none⟩, ⟨(some 36), .v (.mov (.t 0)), (some (35, true))⟩, ⟨(some 37), .v (.mov (.t 7)), (some (35, true))⟩, ⟨(some 38), .v (.iaddr 1 (.t 36) (.t 37)), (some (35, true))⟩, ⟨(some 39), .v (.load false 1 (.t 38)), (some (35, true))⟩, ⟨(some 40), .v (.mov (.t 1)), (some (35, true))⟩, ⟨(some 41), .v (.bin .eql (.t 39) (.t 40)), (some (35, true))⟩, ⟨(some 42), .v (.mov (.t 41)), (some (35, true))⟩, ⟨(some 43), .v (.mov (.t 0)), (some (42, false))⟩, ⟨(some 44), .v (.mov (.t 7)), (some (42, false))⟩, ⟨(some 45), .v (.iaddr 1 (.t 43) (.t 44)), (some (42, false))⟩, ⟨(some 46), .v (.load false 1 (.t 45)), (some (42, false))⟩, ⟨(some 47), .call 101 [(.t 46)], (some (42, false))⟩, ⟨(some 48), .v (.mov (.t 47)), (some (42, false))⟩, ⟨(some 49), .v (.mov (.t 1)), (some (48, true))⟩, ⟨(some 50), .call 101 [(.t 49)], (some (48, true))⟩, ⟨(some 51), .v (.pick (.t 48) (.t 50) (.c (.bool false))), (some (42, false))⟩, ⟨(some 52), .v (.pick (.t 42) (.c (.bool true)) (.t 51)), (some (35, true))⟩, ⟨(some 53), .v (.pick (.t 35) (.t 52) (.c (.bool false))), none⟩, ⟨(some 4), .v (.mov (.t 31)), none⟩, ⟨(some 5), .v (.mov (.t 53)), none⟩])
      .ret)))))⟩
theorem e68 : rFunc Tryz.prog Tryz.f68 = some r68 := by kernel_rfl
def r22 : RFunc := ⟨22, [.t 4, .t 5],
 (.seq
  (.reg [⟨(some 2), .m (.box (.t 0)), none⟩, ⟨(some 4), .v (.mov (.c (.int .i64 0))), none⟩, ⟨(some 5), .v (.mov (.c (.bool false))), none⟩])
  (.seq
   (.reg [⟨(some 11), .call 67 [(.t 2)], none⟩, ⟨(some 10), .v (.mov (.t 11)), none⟩, ⟨(some 12), .v (.ext (.t 10) 0), none⟩, ⟨(some 13), .v (.ext (.t 10) 1), none⟩, ⟨(some 6), .v (.mov (.t 12)), none⟩, ⟨(some 7), .v (.mov (.t 13)), none⟩])
   (.seq
    (.reg [⟨(some 15), .v (.mov (.t 6)), none⟩, ⟨(some 16), .v (.mov (.t 1)), none⟩, ⟨(some 17), .call 68 [(.t 15), (.t 16)], none⟩, ⟨(some 14), .v (.mov (.t 17)), none⟩, ⟨(some 18), .v (.ext (.t 14) 0), none⟩, ⟨(some 19), .v (.ext (.t 14) 1), none⟩, ⟨(some 8), .v (.mov (.t 18)), none⟩, ⟨(some 9), .v (.mov (.t 19)), none⟩])
    (.seq
     (.reg [⟨(some 20), .v (.mov (.t 8)), none⟩, ⟨(some 21), .v (.mov (.t 7)), none⟩, ⟨(some 4), .v (.mov (.t 20)), none⟩, ⟨(some 5), .v (.mov (.t 21)), none⟩])
     .ret))))⟩
theorem e22 : rFunc Tryz.prog Tryz.f22 = some r22 := by kernel_rfl
def r91 : RFunc := ⟨26, [.t 4],
 (.seq
  (.reg [⟨(some 4), .v (.mov (.c (.bool false))), none⟩])
  (.seq
   (.seq
    (.reg [⟨(some 6), .v (.mov (.t 0)), none⟩, ⟨(some 7), .v (.len (.t 6)), none⟩, ⟨(some 8), .v (.mov (.t 1)), none⟩, ⟨(some 9), .v (.len (.t 8)), none⟩, ⟨(some 10), .v (.bin .neq (.t 7) (.t 9)), none⟩])
    (.cond (.t 10)
     (.seq
      (.reg [⟨(some 4), .v (.mov (.c (.bool false))), none⟩])
      .ret)
     .skip))
   (.seq
    (.seq
     (.reg [⟨(some 5), .v (.mov (.c (.int .i64 0))), none⟩])
     (.block 0
      (.loop
       (.seq
        (.seq
         (.reg [⟨(some 11), .v (.mov (.t 5)), none⟩, ⟨(some 12), .v (.mov (.t 0)), none⟩, ⟨(some 13), .v (.len (.t 12)), none⟩, ⟨(some 14), .v (.bin .lss (.t 11) (.t 13)), none⟩])
         (.cond (.t 14)
          .skip
          (.exit 0)))
        (.seq
         (.block 1
          (.seq
           (.dreg (.fl ⟨(some 17), .v (.mov (.t 0)), none⟩ (.fl ⟨(some 18), .v (.mov (.t 5)), none⟩ (.fl ⟨(some 19), .v (.iaddr 1 (.t 17) (.t 18)), none⟩ (.fl ⟨(some 20), .v (.load false 1 (.t 19)), none⟩ (.fl ⟨(some 21), .v (.mov (.t 1)), none⟩ (.fl ⟨(some 22), .v (.mov (.t 5)), none⟩ (.fl ⟨(some 23), .v (.iaddr 1 (.t 21) (.t 22)), none⟩ (.fl ⟨(some 24), .v (.load false 1 (.t 23)), none⟩ (.fl ⟨(some 25), .v (.bin .neq (.t 20) (.t 24)), none⟩ .done))))))))))
           (.cond (.t 25)
            (.seq
             (.reg [⟨(some 4), .v (.mov (.c (.bool false))), none⟩])
             .ret)
            .skip)))
         (.reg [⟨(some 15), .v (.mov (.t 5)), none⟩, ⟨(some 16), .v (.bin .add (.t 15) (.c (.int .i64 1))), none⟩, ⟨(some 5), .v (.mov (.t 16)), none⟩]))))))
    (.seq
     (.reg [⟨(some 4), .v (.mov (.c (.bool true))), none⟩])
     .ret))))⟩
theorem e91 : rFunc Tryz.prog Tryz.f91 = some r91 := by kernel_rfl
def r59 : RFunc := ⟨16, [.t 4],
 (.seq
  (.reg [⟨(some 2), .m (.box (.t 0)), none⟩, ⟨(some 3), .m (.box (.t 1)), none⟩, ⟨(some 4), .v (.mov (.c (.bool false))), none⟩])
  (.seq
   (.seq
    (.reg [⟨(some 5), .v (.faddr 0 (.t 2)), none⟩, ⟨(some 6), .v (.load false 1 (.t 5)), none⟩, ⟨(some 7), .v (.faddr 0 (.t 3)), none⟩, ⟨(some 8), .v (.load false 1 (.t 7)), none⟩, ⟨(some 9), .v (.bin .neq (.t 6) (.t 8)), none⟩])
    (.cond (.t 9)
     (.seq
      (.reg [⟨(some 4), .v (.mov (.c (.bool false))), none⟩])
      .ret)
     .skip))
   (.seq
    (.seq
     (.reg [⟨(some 10), .v (.faddr 1 (.t 2)), none⟩, ⟨(some 11), .v (.load false 1 (.t 10)), none⟩, ⟨(some 12), .v (.faddr 1 (.t 3)), none⟩, ⟨(some 13), .v (.load false 1 (.t 12)), none⟩, ⟨(some 14), .call 91 [(.t 11), (.t 13)], none⟩, ⟨(some 15), .v (.un .not (.t 14)), none⟩])
     (.cond (.t 15)
      (.seq
       (.reg [⟨(some 4), .v (.mov (.c (.bool false))), none⟩])
       .ret)
      .skip))
    (.seq
     (.reg [⟨(some 4), .v (.mov (.c (.bool true))), none⟩])
     .ret))))⟩
theorem e59 : rFunc Tryz.prog Tryz.f59 = some r59 := by kernel_rfl
def r16 : RFunc := ⟨22, [.t 4],
 (.seq
  (.reg [⟨(some 2), .m (.box (.t 0)), none⟩, ⟨(some 3), .m (.box (.t 1)), none⟩, ⟨(some 4), .v (.mov (.c (.bool false))), none⟩])
  (.seq
   (.seq
    (.reg [⟨(some 5), .v (.faddr 0 (.t 2)), none⟩, ⟨(some 6), .v (.load true 2 (.t 5)), none⟩, ⟨(some 7), .v (.faddr 0 (.t 3)), none⟩, ⟨(some 8), .v (.load true 2 (.t 7)), none⟩, ⟨(some 9), .call 59 [(.t 6), (.t 8)], none⟩, ⟨(some 10), .v (.un .not (.t 9)), none⟩])
    (.cond (.t 10)
     (.seq
      (.reg [⟨(some 4), .v (.mov (.c (.bool false))), none⟩])
      .ret)
     .skip))
   (.seq
    (.seq
     (.reg [⟨(some 11), .v (.faddr 2 (.t 2)), none⟩, ⟨(some 12), .v (.load true 2 (.t 11)), none⟩, ⟨(some 13), .v (.faddr 2 (.t 3)), none⟩, ⟨(some 14), .v (.load true 2 (.t 13)), none⟩, ⟨(some 15), .call 59 [(.t 12), (.t 14)], none⟩, ⟨(some 16), .v (.un .not (.t 15)), none⟩])
     (.cond (.t 16)
      (.seq
       (.reg [⟨(some 4), .v (.mov (.c (.bool false))), none⟩])
       .ret)
      .skip))
    (.seq
     (.seq
      (.reg [⟨(some 17), .v (.faddr 4 (.t 2)), none⟩, ⟨(some 18), .v (.load false 1 (.t 17)), none⟩, ⟨(some 19), .v (.faddr 4 (.t 3)), none⟩, ⟨(some 20), .v (.load false 1 (.t 19)), none⟩, ⟨(some 21), .v (.bin .neq (.t 18) (.t 20)), none⟩])
      (.cond (.t 21)
       (.seq
        (.reg [⟨(some 4), .v (.mov (.c (.bool false))), none⟩])
        .ret)
       .skip))
     (.seq
      (.reg [⟨(some 4), .v (.mov (.c (.bool true))), none⟩])
      .ret)))))⟩
theorem e16 : rFunc Tryz.prog Tryz.f16 = some r16 := by kernel_rfl
def r6 : RFunc := ⟨47, [.t 4],
 (.seq
  (.reg [⟨(some 2), .m (.box (.t 0)), none⟩, ⟨(some 4), .v (.mov (.c (.bool false))), none⟩])
  (.seq
   (.seq
    (.reg [⟨(some 11), .v (.mov (.t 1)), none⟩, ⟨(some 12), .v (.lens (.t 11)), none⟩, ⟨(some 13), .v (.bin .gtr (.t 12) (.c (.int .i64 1048576))), none⟩])
    (.cond (.t 13)
     (.seq
      (.reg [⟨(some 4), .v (.mov (.c (.bool true))), none⟩])
      .ret)
     .skip))
   (.seq
    (.reg [⟨(some 5), .v (.mov (.c (.int .i64 1048576))), none⟩])
    (.seq
     (.reg [⟨(some 14), .v (.load true 5 (.t 2)), none⟩, ⟨(some 15), .v (.mov (.t 5)), none⟩, ⟨(some 16), .call 12 [(.t 14), (.t 15)], none⟩, ⟨(some 5), .v (.mov (.t 16)), none⟩])
     (.seq
      (.seq
       (.reg [⟨(some 17), .v (.mov (.t 5)), none⟩, ⟨(some 18), .v (.bin .lss (.t 17) (.c (.int .i64 0))), none⟩])
       (.cond (.t 18)
        (.seq
         (.reg [⟨(some 4), .v (.mov (.c (.bool true))), none⟩])
         .ret)
        .skip))
      (.seq
       (.reg [⟨(some 20), .v (.load true 5 (.t 2)), none⟩, ⟨(some 21), .call 14 [(.t 20)], none⟩, ⟨(some 22), .v (.mov (.t 1)), none⟩, ⟨(some 23), .call 21 [(.t 21), (.t 22)], none⟩, ⟨(some 19), .v (.mov (.t 23)), none⟩, ⟨(some 24), .v (.ext (.t 19) 0), none⟩, ⟨(some 25), .v (.ext (.t 19) 1), none⟩, ⟨(some 6), .v (.mov (.t 24)), none⟩, ⟨(some 7), .v (.mov (.t 25)), none⟩])
       (.seq
        (.reg [⟨(some 26), .v (.load true 5 (.t 2)), none⟩, ⟨(some 27), .call 14 [(.t 26)], none⟩, ⟨(some 8), .m (.alloc [(.int .i64 0), .nils, (.int .i64 0), .nils, (.str [])]), none⟩, ⟨none, .m (.store 5 (.t 8) (.t 27)), none⟩])
        (.seq
         (.reg [⟨(some 29), .v (.load true 5 (.t 8)), none⟩, ⟨(some 30), .v (.mov (.t 1)), none⟩, ⟨(some 31), .call 22 [(.t 29), (.t 30)], none⟩, ⟨(some 28), .v (.mov (.t 31)), none⟩, ⟨(some 32), .v (.ext (.t 28) 0), none⟩, ⟨(some 33), .v (.ext (.t 28) 1), none⟩, ⟨(some 9), .v (.mov (.t 32)), none⟩, ⟨(some 10), .v (.mov (.t 33)), none⟩])
         (.seq
          (.seq
           (.reg [⟨(some 34), .v (.mov (.t 9)), none⟩, ⟨(some 35), .v (.mov (.t 6)), none⟩, ⟨(some 36), .v (.bin .neq (.t 34) (.t 35)), none⟩, ⟨(some 37), .v (.mov (.t 36)), none⟩, ⟨(some 38), .v (.mov (.t 10)), (some (37, false))⟩, ⟨(some 39), .v (.mov (.t 7)), (some (37, false))⟩, ⟨(some 40), .v (.beq true (.t 38) (.t 39)), (some (37, false))⟩, ⟨(some 41), .v (.pick (.t 37) (.c (.bool true)) (.t 40)), none⟩])
           (.cond (.t 41)
            (.seq
             (.reg [⟨(some 4), .v (.mov (.c (.bool false))), none⟩])
             .ret)
            .skip))
          (.seq
           (.seq
            (.dreg (.fl ⟨(some 42), .v (.load true 5 (.t 8)), none⟩ (.fl ⟨(some 43), .v (.load true 5 (.t 2)), none⟩ (.nx ⟨(some 44), .call 14 [(.t 43)], none⟩ (.nx ⟨(some 45), .call 16 [(.t 42), (.t 44)], none⟩ (.fl ⟨(some 46), .v (.un .not (.t 45)), none⟩ .done))))))
            (.cond (.t 46)
             (.seq
              (.reg [⟨(some 4), .v (.mov (.c (.bool false))), none⟩])
              .ret)
             .skip))
           (.seq
            (.reg [⟨(some 4), .v (.mov (.c (.bool true))), none⟩])
            .ret)))))))))))⟩
theorem e6 : rFunc Tryz.prog Tryz.f6 = some r6 := by kernel_rfl
end Go.Proofs.YtidhhiecgehgfaaGreat.M

/-
  The resolved text of the functions, each tied to the program's own by the kernel.
-/
import Derived.Test.YtidhhiecgehgfaaGreatProg
import Derived.Test.YtidhhiecgehgfaaGreatFy
namespace Go.Proofs.YtidhhiecgehgfaaGreat.M
open Go Go.RowKit
set_option maxRecDepth 100000

def r87 : RFunc := ⟨12, [.t 4],
 (.seq
  (.reg [⟨(some 4), .v (.mov (.c (.int .i64 0))), none⟩])
  (.seq
   (.reg [⟨(some 5), .v (.mov (.t 1)), none⟩, ⟨(some 6), .v (.mov (.t 0)), none⟩, ⟨(some 7), .v (.len (.t 6)), none⟩, ⟨(some 8), .v (.bin .sub (.t 5) (.t 7)), none⟩, ⟨(some 1), .v (.mov (.t 8)), none⟩])
   (.seq
    (.seq
     (.reg [⟨(some 9), .v (.mov (.t 1)), none⟩, ⟨(some 10), .v (.bin .lss (.t 9) (.c (.int .i64 0))), none⟩])
     (.cond (.t 10)
      (.seq
       (.reg [⟨(some 4), .v (.mov (.c (.int .i64 (-1)))), none⟩])
       .ret)
      .skip))
    (.seq
     (.reg [⟨(some 11), .v (.mov (.t 1)), none⟩, ⟨(some 4), .v (.mov (.t 11)), none⟩])
     .ret))))⟩
theorem e87 : rFunc Tryz.prog Tryz.f87 = some r87 := by kernel_rfl
def r52 : RFunc := ⟨12, [.t 4],
 (.seq
  (.reg [⟨(some 2), .m (.box (.t 0)), none⟩, ⟨(some 4), .v (.mov (.c (.int .i64 0))), none⟩])
  (.seq
   (.reg [⟨(some 5), .v (.faddr 1 (.t 2)), none⟩, ⟨(some 6), .v (.load false 1 (.t 5)), none⟩, ⟨(some 7), .v (.mov (.t 1)), none⟩, ⟨(some 8), .call 87 [(.t 6), (.t 7)], none⟩, ⟨(some 1), .v (.mov (.t 8)), none⟩])
   (.seq
    (.seq
     (.reg [⟨(some 9), .v (.mov (.t 1)), none⟩, ⟨(some 10), .v (.bin .lss (.t 9) (.c (.int .i64 0))), none⟩])
     (.cond (.t 10)
      (.seq
       (.reg [⟨(some 4), .v (.mov (.c (.int .i64 (-1)))), none⟩])
       .ret)
      .skip))
    (.seq
     (.reg [⟨(some 11), .v (.mov (.t 1)), none⟩, ⟨(some 4), .v (.mov (.t 11)), none⟩])
     .ret))))⟩
theorem e52 : rFunc Tryz.prog Tryz.f52 = some r52 := by kernel_rfl
def r12 : RFunc := ⟨25, [.t 4],
 (.seq
  (.reg [⟨(some 2), .m (.box (.t 0)), none⟩, ⟨(some 4), .v (.mov (.c (.int .i64 0))), none⟩])
  (.seq
   (.reg [⟨(some 5), .v (.faddr 0 (.t 2)), none⟩, ⟨(some 6), .v (.load true 2 (.t 5)), none⟩, ⟨(some 7), .v (.mov (.t 1)), none⟩, ⟨(some 8), .call 52 [(.t 6), (.t 7)], none⟩, ⟨(some 1), .v (.mov (.t 8)), none⟩])
   (.seq
    (.seq
     (.reg [⟨(some 9), .v (.mov (.t 1)), none⟩, ⟨(some 10), .v (.bin .lss (.t 9) (.c (.int .i64 0))), none⟩])
     (.cond (.t 10)
      (.seq
       (.reg [⟨(some 4), .v (.mov (.c (.int .i64 (-1)))), none⟩])
       .ret)
      .skip))
    (.seq
     (.reg [⟨(some 11), .v (.faddr 2 (.t 2)), none⟩, ⟨(some 12), .v (.load true 2 (.t 11)), none⟩, ⟨(some 13), .v (.mov (.t 1)), none⟩, ⟨(some 14), .call 52 [(.t 12), (.t 13)], none⟩, ⟨(some 1), .v (.mov (.t 14)), none⟩])
     (.seq
      (.seq
       (.reg [⟨(some 15), .v (.mov (.t 1)), none⟩, ⟨(some 16), .v (.bin .lss (.t 15) (.c (.int .i64 0))), none⟩])
       (.cond (.t 16)
        (.seq
         (.reg [⟨(some 4), .v (.mov (.c (.int .i64 (-1)))), none⟩])
         .ret)
        .skip))
      (.seq
       (.reg [⟨(some 17), .v (.mov (.t 1)), none⟩, ⟨(some 18), .v (.faddr 4 (.t 2)), none⟩, ⟨(some 19), .v (.load false 1 (.t 18)), none⟩, ⟨(some 20), .v (.lens (.t 19)), none⟩, ⟨(some 21), .v (.bin .sub (.t 17) (.t 20)), none⟩, ⟨(some 1), .v (.mov (.t 21)), none⟩])
       (.seq
        (.seq
         (.reg [⟨(some 22), .v (.mov (.t 1)), none⟩, ⟨(some 23), .v (.bin .lss (.t 22) (.c (.int .i64 0))), none⟩])
         (.cond (.t 23)
          (.seq
           (.reg [⟨(some 4), .v (.mov (.c (.int .i64 (-1)))), none⟩])
           .ret)
          .skip))
        (.seq
         (.reg [⟨(some 24), .v (.mov (.t 1)), none⟩, ⟨(some 4), .v (.mov (.t 24)), none⟩])
         .ret))))))))⟩
theorem e12 : rFunc Tryz.prog Tryz.f12 = some r12 := by kernel_rfl
def r89 : RFunc := ⟨22, [.t 2],
 (.seq
  (.reg [⟨(some 2), .v (.mov (.c .nils)), none⟩])
  (.seq
   (.reg [⟨(some 5), .v (.mov (.t 0)), none⟩, ⟨(some 6), .v (.len (.t 5)), none⟩, ⟨(some 7), .m (.mks 1 8 [(.int .i64 0)] (.t 6) (.t 6)), none⟩, ⟨(some 3), .v (.mov (.t 7)), none⟩])
   (.seq
    (.seq
     (.reg [⟨(some 4), .v (.mov (.c (.int .i64 0))), none⟩])
     (.block 0
      (.loop
       (.seq
        (.seq
         (.reg [⟨(some 8), .v (.mov (.t 4)), none⟩, ⟨(some 9), .v (.mov (.t 0)), none⟩, ⟨(some 10), .v (.len (.t 9)), none⟩, ⟨(some 11), .v (.bin .lss (.t 8) (.t 10)), none⟩])
         (.cond (.t 11)
          .skip
          (.exit 0)))
        (.seq
         (.block 1
          (.reg [⟨(some 14), .v (.mov (.t 3)), none⟩, ⟨(some 15), .v (.mov (.t 4)), none⟩, ⟨(some 16), .v (.mov (.t 0)), none⟩, ⟨(some 17), .v (.mov (.t 4)), none⟩, ⟨(some 18), .v (.iaddr 1 (.t 16) (.t 17)), none⟩, ⟨(some 19), .v (.load false 1 (.t 18)), none⟩, ⟨(some 20), .v (.iaddr 1 (.t 14) (.t 15)), none⟩, ⟨none, .m (.store 1 (.t 20) (.t 19)), none⟩]))
         (.reg [⟨(some 12), .v (.mov (.t 4)), none⟩, ⟨(some 13), .v (.bin .add (.t 12) (.c (.int .i64 1))), none⟩, ⟨(some 4), .v (.mov (.t 13)), none⟩]))))))
    (.seq
     (.reg [⟨(some 21), .v (.mov (.t 3)), none⟩, ⟨(some 2), .v (.mov (.t 21)), none⟩])
     .ret))))⟩
theorem e89 : rFunc Tryz.prog Tryz.f89 = some r89 := by kernel_rfl
def r56 : RFunc := ⟨12, [.cell true 2 2],
 (.seq
  (.reg [⟨(some 1), .m (.box (.t 0)), none⟩, ⟨(some 2), .m (.alloc [(.int .i64 0), .nils]), none⟩])
  (.seq
   (.reg [⟨(some 3), .m (.alloc [(.int .i64 0), .nils]), none⟩])
   (.seq
    (.reg [⟨(some 4), .v (.faddr 0 (.t 1)), none⟩, ⟨(some 5), .v (.load false 1 (.t 4)), none⟩, ⟨(some 6), .v (.faddr 0 (.t 3)), none⟩, ⟨none, .m (.store 1 (.t 6) (.t 5)), none⟩])
    (.seq
     (.reg [⟨(some 7), .v (.faddr 1 (.t 1)), none⟩, ⟨(some 8), .v (.load false 1 (.t 7)), none⟩, ⟨(some 9), .call 89 [(.t 8)], none⟩, ⟨(some 10), .v (.faddr 1 (.t 3)), none⟩, ⟨none, .m (.store 1 (.t 10) (.t 9)), none⟩])
     (.seq
      (.reg [⟨(some 11), .v (.load true 2 (.t 3)), none⟩, ⟨none, .m (.store 2 (.t 2) (.t 11)), none⟩])
      .ret)))))⟩
theorem e56 : rFunc Tryz.prog Tryz.f56 = some r56 := by kernel_rfl
def r14 : RFunc := ⟨16, [.cell true 5 2],
 (.seq
  (.reg [⟨(some 1), .m (.box (.t 0)), none⟩, ⟨(some 2), .m (.alloc [(.int .i64 0), .nils, (.int .i64 0), .nils, (.str [])]), none⟩])
  (.seq
   (.reg [⟨(some 3), .m (.alloc [(.int .i64 0), .nils, (.int .i64 0), .nils, (.str [])]), none⟩])
   (.seq
    (.reg [⟨(some 4), .v (.faddr 0 (.t 1)), none⟩, ⟨(some 5), .v (.load true 2 (.t 4)), none⟩, ⟨(some 6), .call 56 [(.t 5)], none⟩, ⟨(some 7), .v (.faddr 0 (.t 3)), none⟩, ⟨none, .m (.store 2 (.t 7) (.t 6)), none⟩])
    (.seq
     (.reg [⟨(some 8), .v (.faddr 2 (.t 1)), none⟩, ⟨(some 9), .v (.load true 2 (.t 8)), none⟩, ⟨(some 10), .call 56 [(.t 9)], none⟩, ⟨(some 11), .v (.faddr 2 (.t 3)), none⟩, ⟨none, .m (.store 2 (.t 11) (.t 10)), none⟩])
     (.seq
      (.reg [⟨(some 12), .v (.faddr 4 (.t 1)), none⟩, ⟨(some 13), .v (.load false 1 (.t 12)), none⟩, ⟨(some 14), .v (.faddr 4 (.t 3)), none⟩, ⟨none, .m (.store 1 (.t 14) (.t 13)), none⟩])
      (.seq
       (.reg [⟨(some 15), .v (.load true 5 (.t 3)), none⟩, ⟨none, .m (.store 5 (.t 2) (.t 15)), none⟩])
       .ret))))))⟩
theorem e14 : rFunc Tryz.prog Tryz.f14 = some r14 := by kernel_rfl
def r53 : RFunc := ⟨15, [.t 2, .t 3],
 (.seq
  (.reg [⟨(some 1), .m (.box (.t 0)), none⟩, ⟨(some 2), .v (.mov (.c .nils)), none⟩, ⟨(some 3), .v (.mov (.c (.bool false))), none⟩])
  (.seq
   (.reg [⟨(some 7), .v (.load true 5 (.t 1)), none⟩, ⟨(some 8), .call 61 [(.t 7)], none⟩, ⟨(some 6), .v (.mov (.t 8)), none⟩, ⟨(some 9), .v (.ext (.t 6) 0), none⟩, ⟨(some 10), .v (.ext (.t 6) 1), none⟩, ⟨(some 4), .v (.mov (.t 9)), none⟩, ⟨(some 5), .v (.mov (.t 10)), none⟩])
   (.seq
    (.seq
     (.reg [⟨(some 11), .v (.mov (.t 5)), none⟩, ⟨(some 12), .v (.un .not (.t 11)), none⟩])
     (.cond (.t 12)
      (.seq
       (.reg [⟨(some 2), .v (.mov (.c .nils)), none⟩, ⟨(some 3), .v (.mov (.c (.bool false))), none⟩])
       .ret)
      .skip))
    (.seq
     (.reg [⟨(some 13), .v (.mov (.t 4)), none⟩, ⟨(some 14), .call 88 [(.t 13)], none⟩, ⟨(some 2), .v (.mov (.t 14)), none⟩, ⟨(some 3), .v (.mov (.c (.bool true))), none⟩])
     .ret))))⟩
theorem e53 : rFunc Tryz.prog Tryz.f53 = some r53 := by kernel_rfl
def r55 : RFunc := ⟨19, [.t 4],
 (.seq
  (.reg [⟨(some 4), .v (.mov (.c (.int .i64 0))), none⟩])
  (.seq
   (.seq
    (.reg [⟨(some 7), .v (.mov (.t 0)), none⟩, ⟨(some 8), .v (.len (.t 7)), none⟩, ⟨(some 9), .v (.mov (.c (.int .i64 0))), none⟩])
    (.block 0
     (.loop
      (.seq
       (.reg [⟨(some 10), .v (.bin .lss (.t 9) (.t 8)), none⟩])
       (.seq
        (.cond (.t 10)
         .skip
         (.exit 0))
        (.seq
         (.block 1
          (.seq
           (.reg [⟨(some 11), .v (.mov (.t 9)), none⟩, ⟨(some 12), .v (.iaddr 1 (.t 7) (.t 9)), none⟩, ⟨(some 13), .v (.load false 1 (.t 12)), none⟩, ⟨(some 5), .v (.mov (.t 11)), none⟩, ⟨(some 6), .v (.mov (.t 13)), none⟩])
           (.seq
            (.reg [⟨(some 14), .v (.mov (.t 6)), none⟩, ⟨(some 15), .v (.mov (.t 1)), none⟩, ⟨(some 16), .v (.bin .eql (.t 14) (.t 15)), none⟩])
            (.cond (.t 16)
             (.seq
              (.reg [⟨(some 17), .v (.mov (.t 5)), none⟩, ⟨(some 4), .v (.mov (.t 17)), none⟩])
              .ret)
             .skip))))
         (.reg [⟨(some 18), .v (.bin .add (.t 9) (.c (.int .i64 1))), none⟩, ⟨(some 9), .v (.mov (.t 18)), none⟩])))))))
   (.seq
    (.reg [⟨(some 4), .v (.mov (.c (.int .i64 (-1)))), none⟩])
    .ret)))⟩
theorem e55 : rFunc Tryz.prog Tryz.f55 = some r55 := by kernel_rfl
def r17 : RFunc := ⟨45, [.t 6, .t 7],
 (.seq
  (.reg [⟨(some 3), .m (.box (.t 0)), none⟩, ⟨(some 6), .v (.mov (.c (.int .i64 0))), none⟩, ⟨(some 7), .v (.mov (.c (.bool false))), none⟩])
  (.seq
   (.reg [⟨(some 12), .v (.load true 5 (.t 3)), none⟩, ⟨(some 13), .call 53 [(.t 12)], none⟩, ⟨(some 11), .v (.mov (.t 13)), none⟩, ⟨(some 14), .v (.ext (.t 11) 0), none⟩, ⟨(some 15), .v (.ext (.t 11) 1), none⟩, ⟨(some 8), .v (.mov (.t 14)), none⟩, ⟨(some 9), .v (.mov (.t 15)), none⟩])
   (.seq
    (.seq
     (.reg [⟨(some 16), .v (.mov (.t 9)), none⟩, ⟨(some 17), .v (.un .not (.t 16)), none⟩, ⟨(some 18), .v (.mov (.t 17)), none⟩, ⟨(some 19), .v (.mov (.t 1)), (some (18, false))⟩, ⟨(some 20), .v (.mov (.t 8)), (some (18, false))⟩, ⟨(some 21), .v (.len (.t 20)), (some (18, false))⟩, ⟨(some 22), .v (.bin .sub (.t 21) (.c (.int .i64 1))), (some (18, false))⟩, ⟨(some 23), .call 54 [(.t 19), (.c (.int .i64 0)), (.t 22)], (some (18, false))⟩, ⟨(some 24), .v (.un .not (.t 23)), (some (18, false))⟩, ⟨(some 25), .v (.pick (.t 18) (.c (.bool true)) (.t 24)), none⟩, ⟨(some 26), .v (.mov (.t 25)), none⟩, ⟨(some 27), .v (.mov (.t 2)), (some (26, false))⟩, ⟨(some 28), .call 54 [(.t 27), (.c (.int .i64 0)), (.c (.int .i64 255))], (some (26, false))⟩, ⟨(some 29), .v (.un .not (.t 28)), (some (26, false))⟩, ⟨(some 30), .v (.pick (.t 26) (.c (.bool true)) (.t 29)), none⟩])
     (.cond (.t 30)
      (.seq
       (.reg [⟨(some 6), .v (.mov (.c (.int .i64 0))), none⟩, ⟨(some 7), .v (.mov (.c (.bool false))), none⟩])
       .ret)
      .skip))
    (.seq
     (.dreg (.fl ⟨(some 31), .v (.mov (.t 8)), none⟩ (.fl ⟨(some 32), .v (.mov (.t 8)), none⟩ (.fl ⟨(some 33), .v (.mov (.t 1)), none⟩ (.fl ⟨(some 34), .v (.iaddr 1 (.t 32) (.t 33)), none⟩ (.fl ⟨(some 35), .v (.load false 1 (.t 34)), none⟩ (.fl ⟨(some 36), .v (.mov (.t 2)), none⟩ (.fl ⟨(some 37), .v (.conv .u8 (.t 36)), none⟩ (.nx ⟨(some 38), .m (.bsl 1 1 [(.int .u8 0)] [(0, 1, (.t 37))]), none⟩ (.fl ⟨(some 39), .v (.cbs (.t 38)), none⟩ (.fl ⟨(some 40), .v (.bin .add (.t 35) (.t 39)), none⟩ (.nx ⟨(some 41), .call 55 [(.t 31), (.t 40)], none⟩ (.fl ⟨(some 10), .v (.mov (.t 41)), none⟩ .done)))))))))))))
     (.seq
      (.seq
       (.reg [⟨(some 42), .v (.mov (.t 10)), none⟩, ⟨(some 43), .v (.bin .lss (.t 42) (.c (.int .i64 0))), none⟩])
       (.cond (.t 43)
        (.seq
         (.reg [⟨(some 6), .v (.mov (.c (.int .i64 0))), none⟩, ⟨(some 7), .v (.mov (.c (.bool false))), none⟩])
         .ret)
        .skip))
      (.seq
       (.reg [⟨(some 44), .v (.mov (.t 10)), none⟩, ⟨(some 6), .v (.mov (.t 44)), none⟩, ⟨(some 7), .v (.mov (.c (.bool true))), none⟩])
       .ret))))))⟩
theorem e17 : rFunc Tryz.prog Tryz.f17 = some r17 := by kernel_rfl
def r57 : RFunc := ⟨21, [.t 4, .t 5, .t 6],
 (.seq
  (.reg [⟨(some 4), .v (.mov (.c (.str []))), none⟩, ⟨(some 5), .v (.mov (.c .nils)), none⟩, ⟨(some 6), .v (.mov (.c (.bool false))), none⟩])
  (.seq
   (.reg [⟨(some 8), .v (.mov (.t 0)), none⟩, ⟨(some 9), .call 75 [(.t 8)], none⟩, ⟨(some 7), .v (.mov (.t 9)), none⟩])
   (.seq
    (.seq
     (.reg [⟨(some 10), .v (.mov (.t 1)), none⟩, ⟨(some 11), .v (.mov (.t 7)), none⟩, ⟨(some 12), .v (.len (.t 11)), none⟩, ⟨(some 13), .v (.bin .sub (.t 12) (.c (.int .i64 1))), none⟩, ⟨(some 14), .call 60 [(.t 10), (.c (.int .i64 0)), (.t 13)], none⟩, ⟨(some 15), .v (.un .not (.t 14)), none⟩])
     (.cond (.t 15)
      (.seq
       (.reg [⟨(some 4), .v (.mov (.c (.str []))), none⟩, ⟨(some 5), .v (.mov (.c .nils)), none⟩, ⟨(some 6), .v (.mov (.c (.bool false))), none⟩])
       .ret)
      .skip))
    (.seq
     (.reg [⟨(some 16), .v (.mov (.t 7)), none⟩, ⟨(some 17), .v (.mov (.t 1)), none⟩, ⟨(some 18), .v (.iaddr 1 (.t 16) (.t 17)), none⟩, ⟨(some 19), .v (.load false 1 (.t 18)), none⟩, ⟨(some 20), .v (.mov (.t 7)), none⟩, ⟨(some 4), .v (.mov (.t 19)), none⟩, ⟨(some 5), .v (.mov (.t 20)), none⟩, ⟨(some 6), .v (.mov (.c (.bool true))), none⟩])
     .ret))))⟩
theorem e57 : rFunc Tryz.prog Tryz.f57 = some r57 := by kernel_rfl
def r58 : RFunc := ⟨14, [.t 4, .t 5],
 (.seq
  (.reg [⟨(some 4), .v (.mov (.c (.int .i64 0))), none⟩, ⟨(some 5), .v (.mov (.c (.bool false))), none⟩])
  (.seq
   (.reg [⟨(some 7), .v (.mov (.t 0)), none⟩, ⟨(some 8), .v (.mov (.t 1)), none⟩, ⟨(some 9), .call 90 [(.t 7), (.t 8)], none⟩, ⟨(some 6), .v (.mov (.t 9)), none⟩])
   (.seq
    (.reg [⟨(some 10), .v (.mov (.t 6)), none⟩, ⟨(some 11), .v (.mx [(.t 10), (.c (.int .i64 0))]), none⟩, ⟨(some 12), .v (.mov (.t 6)), none⟩, ⟨(some 13), .v (.bin .geq (.t 12) (.c (.int .i64 0))), none⟩, ⟨(some 4), .v (.mov (.t 11)), none⟩, ⟨(some 5), .v (.mov (.t 13)), none⟩])
    .ret)))⟩
theorem e58 : rFunc Tryz.prog Tryz.f58 = some r58 := by kernel_rfl
def r18 : RFunc := ⟨34, [.t 6, .t 7],
 (.seq
  (.reg [⟨(some 3), .m (.box (.t 0)), none⟩, ⟨(some 6), .v (.mov (.c (.int .i64 0))), none⟩, ⟨(some 7), .v (.mov (.c (.bool false))), none⟩])
  (.seq
   (.reg [⟨(some 12), .v (.mov (.t 1)), none⟩, ⟨(some 13), .call 57 [(.t 3), (.t 12)], none⟩, ⟨(some 11), .v (.mov (.t 13)), none⟩, ⟨(some 14), .v (.ext (.t 11) 0), none⟩, ⟨(some 15), .v (.ext (.t 11) 1), none⟩, ⟨(some 16), .v (.ext (.t 11) 2), none⟩, ⟨(some 8), .v (.mov (.t 14)), none⟩, ⟨(some 9), .v (.mov (.t 15)), none⟩, ⟨(some 10), .v (.mov (.t 16)), none⟩])
   (.seq
    (.seq
     (.reg [⟨(some 17), .v (.mov (.t 10)), none⟩, ⟨(some 18), .v (.un .not (.t 17)), none⟩, ⟨(some 19), .v (.mov (.t 18)), none⟩, ⟨(some 20), .v (.mov (.t 2)), (some (19, false))⟩, ⟨(some 21), .call 60 [(.t 20), (.c (.int .i64 0)), (.c (.int .i64 255))], (some (19, false))⟩, ⟨(some 22), .v (.un .not (.t 21)), (some (19, false))⟩, ⟨(some 23), .v (.pick (.t 19) (.c (.bool true)) (.t 22)), none⟩])
     (.cond (.t 23)
      (.seq
       (.reg [⟨(some 6), .v (.mov (.c (.int .i64 0))), none⟩, ⟨(some 7), .v (.mov (.c (.bool false))), none⟩])
       .ret)
      .skip))
    (.seq
     (.reg [⟨(some 24), .v (.mov (.t 9)), none⟩, ⟨(some 25), .v (.mov (.t 8)), none⟩, ⟨(some 26), .v (.mov (.t 2)), none⟩, ⟨(some 27), .v (.conv .u8 (.t 26)), none⟩, ⟨(some 28), .m (.bsl 1 1 [(.int .u8 0)] [(0, 1, (.t 27))]), none⟩, ⟨(some 29), .v (.cbs (.t 28)), none⟩, ⟨(some 30), .v (.bin .add (.t 25) (.t 29)), none⟩, ⟨(some 31), .call 58 [(.t 24), (.t 30)], none⟩, ⟨(some 32), .v (.ext (.t 31) 0), none⟩, ⟨(some 33), .v (.ext (.t 31) 1), none⟩, ⟨(some 6), .v (.mov (.t 32)), none⟩, ⟨(some 7), .v (.mov (.t 33)), none⟩])
     .ret))))⟩
theorem e18 : rFunc Tryz.prog Tryz.f18 = some r18 := by kernel_rfl
def r91 : RFunc := ⟨26, [.t 4],
 (.seq
  (.reg [⟨(some 4), .v (.mov (.c (.bool false))), none⟩])
  (.seq
   (.seq
    (.reg [⟨(some 6), .v (.mov (.t 0)), none⟩, ⟨(some 7), .v (.len (.t 6)), none⟩, ⟨(some 8), .v (.mov (.t 1)), none⟩, ⟨(some 9), .v (.len (.t 8)), none⟩, ⟨(some 10), .v (.bin .neq (.t 7) (.t 9)), none⟩])
    (.cond (.t 10)
     (.seq
      (.reg [⟨(some 4), .v (.mov (.c (.bool false))), none⟩])
      .ret)
     .skip))
   (.seq
    (.seq
     (.reg [⟨(some 5), .v (.mov (.c (.int .i64 0))), none⟩])
     (.block 0
      (.loop
       (.seq
        (.seq
         (.reg [⟨(some 11), .v (.mov (.t 5)), none⟩, ⟨(some 12), .v (.mov (.t 0)), none⟩, ⟨(some 13), .v (.len (.t 12)), none⟩, ⟨(some 14), .v (.bin .lss (.t 11) (.t 13)), none⟩])
         (.cond (.t 14)
          .skip
          (.exit 0)))
        (.seq
         (.block 1
          (.seq
           (.dreg (.fl ⟨(some 17), .v (.mov (.t 0)), none⟩ (.fl ⟨(some 18), .v (.mov (.t 5)), none⟩ (.fl ⟨(some 19), .v (.iaddr 1 (.t 17) (.t 18)), none⟩ (.fl ⟨(some 20), .v (.load false 1 (.t 19)), none⟩ (.fl ⟨(some 21), .v (.mov (.t 1)), none⟩ (.fl ⟨(some 22), .v (.mov (.t 5)), none⟩ (.fl ⟨(some 23), .v (.iaddr 1 (.t 21) (.t 22)), none⟩ (.fl ⟨(some 24), .v (.load false 1 (.t 23)), none⟩ (.fl ⟨(some 25), .v (.bin .neq (.t 20) (.t 24)), none⟩ .done))))))))))
           (.cond (.t 25)
            (.seq
             (.reg [⟨(some 4), .v (.mov (.c (.bool false))), none⟩])
             .ret)
            .skip)))
         (.reg [⟨(some 15), .v (.mov (.t 5)), none⟩, ⟨(some 16), .v (.bin .add (.t 15) (.c (.int .i64 1))), none⟩, ⟨(some 5), .v (.mov (.t 16)), none⟩]))))))
    (.seq
     (.reg [⟨(some 4), .v (.mov (.c (.bool true))), none⟩])
     .ret))))⟩
theorem e91 : rFunc Tryz.prog Tryz.f91 = some r91 := by kernel_rfl
def r59 : RFunc := ⟨16, [.t 4],
 (.seq
  (.reg [⟨(some 2), .m (.box (.t 0)), none⟩, ⟨(some 3), .m (.box (.t 1)), none⟩, ⟨(some 4), .v (.mov (.c (.bool false))), none⟩])
  (.seq
   (.seq
    (.reg [⟨(some 5), .v (.faddr 0 (.t 2)), none⟩, ⟨(some 6), .v (.load false 1 (.t 5)), none⟩, ⟨(some 7), .v (.faddr 0 (.t 3)), none⟩, ⟨(some 8), .v (.load false 1 (.t 7)), none⟩, ⟨(some 9), .v (.bin .neq (.t 6) (.t 8)), none⟩])
    (.cond (.t 9)
     (.seq
      (.reg [⟨(some 4), .v (.mov (.c (.bool false))), none⟩])
      .ret)
     .skip))
   (.seq
    (.seq
     (.reg [⟨(some 10), .v (.faddr 1 (.t 2)), none⟩, ⟨(some 11), .v (.load false 1 (.t 10)), none⟩, ⟨(some 12), .v (.faddr 1 (.t 3)), none⟩, ⟨(some 13), .v (.load false 1 (.t 12)), none⟩, ⟨(some 14), .call 91 [(.t 11), (.t 13)], none⟩, ⟨(some 15), .v (.un .not (.t 14)), none⟩])
     (.cond (.t 15)
      (.seq
       (.reg [⟨(some 4), .v (.mov (.c (.bool false))), none⟩])
       .ret)
      .skip))
    (.seq
     (.reg [⟨(some 4), .v (.mov (.c (.bool true))), none⟩])
     .ret))))⟩
theorem e59 : rFunc Tryz.prog Tryz.f59 = some r59 := by kernel_rfl
def r16 : RFunc := ⟨22, [.t 4],
 (.seq
  (.reg [⟨(some 2), .m (.box (.t 0)), none⟩, ⟨(some 3), .m (.box (.t 1)), none⟩, ⟨(some 4), .v (.mov (.c (.bool false))), none⟩])
  (.seq
   (.seq
    (.reg [⟨(some 5), .v (.faddr 0 (.t 2)), none⟩, ⟨(some 6), .v (.load true 2 (.t 5)), none⟩, ⟨(some 7), .v (.faddr 0 (.t 3)), none⟩, ⟨(some 8), .v (.load true 2 (.t 7)), none⟩, ⟨(some 9), .call 59 [(.t 6), (.t 8)], none⟩, ⟨(some 10), .v (.un .not (.t 9)), none⟩])
    (.cond (.t 10)
     (.seq
      (.reg [⟨(some 4), .v (.mov (.c (.bool false))), none⟩])
      .ret)
     .skip))
   (.seq
    (.seq
     (.reg [⟨(some 11), .v (.faddr 2 (.t 2)), none⟩, ⟨(some 12), .v (.load true 2 (.t 11)), none⟩, ⟨(some 13), .v (.faddr 2 (.t 3)), none⟩, ⟨(some 14), .v (.load true 2 (.t 13)), none⟩, ⟨(some 15), .call 59 [(.t 12), (.t 14)], none⟩, ⟨(some 16), .v (.un .not (.t 15)), none⟩])
     (.cond (.t 16)
      (.seq
       (.reg [⟨(some 4), .v (.mov (.c (.bool false))), none⟩])
       .ret)
      .skip))
    (.seq
     (.seq
      (.reg [⟨(some 17), .v (.faddr 4 (.t 2)), none⟩, ⟨(some 18), .v (.load false 1 (.t 17)), none⟩, ⟨(some 19), .v (.faddr 4 (.t 3)), none⟩, ⟨(some 20), .v (.load false 1 (.t 19)), none⟩, ⟨(some 21), .v (.bin .neq (.t 18) (.t 20)), none⟩])
      (.cond (.t 21)
       (.seq
        (.reg [⟨(some 4), .v (.mov (.c (.bool false))), none⟩])
        .ret)
       .skip))
     (.seq
      (.reg [⟨(some 4), .v (.mov (.c (.bool true))), none⟩])
      .ret)))))⟩
theorem e16 : rFunc Tryz.prog Tryz.f16 = some r16 := by kernel_rfl
def r4 : RFunc := ⟨48, [.t 6],
 (.seq
  (.reg [⟨(some 3), .m (.box (.t 0)), none⟩, ⟨(some 6), .v (.mov (.c (.bool false))), none⟩])
  (.seq
   (.reg [⟨(some 7), .v (.mov (.c (.int .i64 1048576))), none⟩])
   (.seq
    (.reg [⟨(some 13), .v (.load true 5 (.t 3)), none⟩, ⟨(some 14), .v (.mov (.t 7)), none⟩, ⟨(some 15), .call 12 [(.t 13), (.t 14)], none⟩, ⟨(some 7), .v (.mov (.t 15)), none⟩])
    (.seq
     (.seq
      (.reg [⟨(some 16), .v (.mov (.t 7)), none⟩, ⟨(some 17), .v (.bin .lss (.t 16) (.c (.int .i64 0))), none⟩])
      (.cond (.t 17)
       (.seq
        (.reg [⟨(some 6), .v (.mov (.c (.bool true))), none⟩])
        .ret)
       .skip))
     (.seq
      (.reg [⟨(some 19), .v (.load true 5 (.t 3)), none⟩, ⟨(some 20), .call 14 [(.t 19)], none⟩, ⟨(some 21), .v (.mov (.t 1)), none⟩, ⟨(some 22), .v (.mov (.t 2)), none⟩, ⟨(some 23), .call 17 [(.t 20), (.t 21), (.t 22)], none⟩, ⟨(some 18), .v (.mov (.t 23)), none⟩, ⟨(some 24), .v (.ext (.t 18) 0), none⟩, ⟨(some 25), .v (.ext (.t 18) 1), none⟩, ⟨(some 8), .v (.mov (.t 24)), none⟩, ⟨(some 9), .v (.mov (.t 25)), none⟩])
      (.seq
       (.reg [⟨(some 26), .v (.load true 5 (.t 3)), none⟩, ⟨(some 27), .call 14 [(.t 26)], none⟩, ⟨(some 10), .m (.alloc [(.int .i64 0), .nils, (.int .i64 0), .nils, (.str [])]), none⟩, ⟨none, .m (.store 5 (.t 10) (.t 27)), none⟩])
       (.seq
        (.reg [⟨(some 29), .v (.load true 5 (.t 10)), none⟩, ⟨(some 30), .v (.mov (.t 1)), none⟩, ⟨(some 31), .v (.mov (.t 2)), none⟩, ⟨(some 32), .call 18 [(.t 29), (.t 30), (.t 31)], none⟩, ⟨(some 28), .v (.mov (.t 32)), none⟩, ⟨(some 33), .v (.ext (.t 28) 0), none⟩, ⟨(some 34), .v (.ext (.t 28) 1), none⟩, ⟨(some 11), .v (.mov (.t 33)), none⟩, ⟨(some 12), .v (.mov (.t 34)), none⟩])
        (.seq
         (.seq
          (.reg [⟨(some 35), .v (.mov (.t 11)), none⟩, ⟨(some 36), .v (.mov (.t 8)), none⟩, ⟨(some 37), .v (.bin .neq (.t 35) (.t 36)), none⟩, ⟨(some 38), .v (.mov (.t 37)), none⟩, ⟨(some 39), .v (.mov (.t 12)), (some (38, false))⟩, ⟨(some 40), .v (.mov (.t 9)), (some (38, false))⟩, ⟨(some 41), .v (.beq true (.t 39) (.t 40)), (some (38, false))⟩, ⟨(some 42), .v (.pick (.t 38) (.c (.bool true)) (.t 41)), none⟩])
          (.cond (.t 42)
           (.seq
            (.reg [⟨(some 6), .v (.mov (.c (.bool false))), none⟩])
            .ret)
           .skip))
         (.seq
          (.seq
           (.dreg (.fl ⟨(some 43), .v (.load true 5 (.t 10)), none⟩ (.fl ⟨(some 44), .v (.load true 5 (.t 3)), none⟩ (.nx ⟨(some 45), .call 14 [(.t 44)], none⟩ (.nx ⟨(some 46), .call 16 [(.t 43), (.t 45)], none⟩ (.fl ⟨(some 47), .v (.un .not (.t 46)), none⟩ .done))))))
           (.cond (.t 47)
            (.seq
             (.reg [⟨(some 6), .v (.mov (.c (.bool false))), none⟩])
             .ret)
            .skip))
          (.seq
           (.reg [⟨(some 6), .v (.mov (.c (.bool true))), none⟩])
           .ret))))))))))⟩
theorem e4 : rFunc Tryz.prog Tryz.f4 = some r4 := by kernel_rfl
end Go.Proofs.YtidhhiecgehgfaaGreat.M

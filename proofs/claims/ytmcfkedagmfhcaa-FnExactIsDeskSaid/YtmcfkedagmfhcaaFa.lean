/-
  The resolved text of the functions, each tied to the program's own by the kernel.
-/
import Derived.Test.YtmcfkedagmfhcaaProg
import Derived.Test.YtmcfkedagmfhcaaM11
namespace Go.Proofs.Ytmcfkedagmfhcaa.M
open Go Go.RowKit
set_option maxRecDepth 100000

def r11 : RFunc := ⟨28, [.t 4],
 (.seq
  (.reg [⟨(some 4), .v (.mov (.c (.int .i64 0))), none⟩])
  (.seq
   (.reg [⟨(some 6), .v (.mov (.t 1)), none⟩, ⟨(some 7), .v (.mov (.t 0)), none⟩, ⟨(some 8), .v (.len (.t 7)), none⟩, ⟨(some 9), .v (.bin .sub (.t 6) (.t 8)), none⟩, ⟨(some 1), .v (.mov (.t 9)), none⟩])
   (.seq
    (.seq
     (.reg [⟨(some 10), .v (.mov (.t 1)), none⟩, ⟨(some 11), .v (.bin .lss (.t 10) (.c (.int .i64 0))), none⟩])
     (.cond (.t 11)
      (.seq
       (.reg [⟨(some 4), .v (.mov (.c (.int .i64 (-1)))), none⟩])
       .ret)
      .skip))
    (.seq
     (.seq
      (.reg [⟨(some 5), .v (.mov (.c (.int .i64 0))), none⟩])
      (.block 0
       (.loop
        (.seq
         (.seq
          (.reg [⟨(some 12), .v (.mov (.t 5)), none⟩, ⟨(some 13), .v (.mov (.t 0)), none⟩, ⟨(some 14), .v (.len (.t 13)), none⟩, ⟨(some 15), .v (.bin .lss (.t 12) (.t 14)), none⟩])
          (.cond (.t 15)
           .skip
           (.exit 0)))
         (.seq
          (.block 1
           (.seq
            (.reg [⟨(some 18), .v (.mov (.t 1)), none⟩, ⟨(some 19), .v (.mov (.t 0)), none⟩, ⟨(some 20), .v (.mov (.t 5)), none⟩, ⟨(some 21), .v (.iaddr 1 (.t 19) (.t 20)), none⟩, ⟨(some 22), .v (.load false 1 (.t 21)), none⟩, ⟨(some 23), .v (.lens (.t 22)), none⟩, ⟨(some 24), .v (.bin .sub (.t 18) (.t 23)), none⟩, ⟨(some 1), .v (.mov (.t 24)), none⟩])
            (.seq
             (.reg [⟨(some 25), .v (.mov (.t 1)), none⟩, ⟨(some 26), .v (.bin .lss (.t 25) (.c (.int .i64 0))), none⟩])
             (.cond (.t 26)
              (.seq
               (.reg [⟨(some 4), .v (.mov (.c (.int .i64 (-1)))), none⟩])
               .ret)
              .skip))))
          (.reg [⟨(some 16), .v (.mov (.t 5)), none⟩, ⟨(some 17), .v (.bin .add (.t 16) (.c (.int .i64 1))), none⟩, ⟨(some 5), .v (.mov (.t 17)), none⟩]))))))
     (.seq
      (.reg [⟨(some 27), .v (.mov (.t 1)), none⟩, ⟨(some 4), .v (.mov (.t 27)), none⟩])
      .ret)))))⟩
theorem e11 : rFunc Try.prog Try.f11 = some r11 := by kernel_rfl
def r41 : RFunc := ⟨12, [.t 4],
 (.seq
  (.reg [⟨(some 2), .m (.box (.t 0)), none⟩, ⟨(some 4), .v (.mov (.c (.int .i64 0))), none⟩])
  (.seq
   (.reg [⟨(some 5), .v (.faddr 2 (.t 2)), none⟩, ⟨(some 6), .v (.load false 1 (.t 5)), none⟩, ⟨(some 7), .v (.mov (.t 1)), none⟩, ⟨(some 8), .call 11 [(.t 6), (.t 7)], none⟩, ⟨(some 1), .v (.mov (.t 8)), none⟩])
   (.seq
    (.seq
     (.reg [⟨(some 9), .v (.mov (.t 1)), none⟩, ⟨(some 10), .v (.bin .lss (.t 9) (.c (.int .i64 0))), none⟩])
     (.cond (.t 10)
      (.seq
       (.reg [⟨(some 4), .v (.mov (.c (.int .i64 (-1)))), none⟩])
       .ret)
      .skip))
    (.seq
     (.reg [⟨(some 11), .v (.mov (.t 1)), none⟩, ⟨(some 4), .v (.mov (.t 11)), none⟩])
     .ret))))⟩
theorem e41 : rFunc Try.prog Try.f41 = some r41 := by kernel_rfl
def r13 : RFunc := ⟨22, [.t 2],
 (.seq
  (.reg [⟨(some 2), .v (.mov (.c .nils)), none⟩])
  (.seq
   (.reg [⟨(some 5), .v (.mov (.t 0)), none⟩, ⟨(some 6), .v (.len (.t 5)), none⟩, ⟨(some 7), .m (.mks 1 16 [(.str [])] (.t 6) (.t 6)), none⟩, ⟨(some 3), .v (.mov (.t 7)), none⟩])
   (.seq
    (.seq
     (.reg [⟨(some 4), .v (.mov (.c (.int .i64 0))), none⟩])
     (.block 0
      (.loop
       (.seq
        (.seq
         (.reg [⟨(some 8), .v (.mov (.t 4)), none⟩, ⟨(some 9), .v (.mov (.t 0)), none⟩, ⟨(some 10), .v (.len (.t 9)), none⟩, ⟨(some 11), .v (.bin .lss (.t 8) (.t 10)), none⟩])
         (.cond (.t 11)
          .skip
          (.exit 0)))
        (.seq
         (.block 1
          (.reg [⟨(some 14), .v (.mov (.t 3)), none⟩, ⟨(some 15), .v (.mov (.t 4)), none⟩, ⟨(some 16), .v (.mov (.t 0)), none⟩, ⟨(some 17), .v (.mov (.t 4)), none⟩, ⟨(some 18), .v (.iaddr 1 (.t 16) (.t 17)), none⟩, ⟨(some 19), .v (.load false 1 (.t 18)), none⟩, ⟨(some 20), .v (.iaddr 1 (.t 14) (.t 15)), none⟩, ⟨none, .m (.store 1 (.t 20) (.t 19)), none⟩]))
         (.reg [⟨(some 12), .v (.mov (.t 4)), none⟩, ⟨(some 13), .v (.bin .add (.t 12) (.c (.int .i64 1))), none⟩, ⟨(some 4), .v (.mov (.t 13)), none⟩]))))))
    (.seq
     (.reg [⟨(some 21), .v (.mov (.t 3)), none⟩, ⟨(some 2), .v (.mov (.t 21)), none⟩])
     .ret))))⟩
theorem e13 : rFunc Try.prog Try.f13 = some r13 := by kernel_rfl
def r43 : RFunc := ⟨15, [.cell true 3 2],
 (.seq
  (.reg [⟨(some 1), .m (.box (.t 0)), none⟩, ⟨(some 2), .m (.alloc [(.int .i64 0), (.int .i64 0), .nils]), none⟩])
  (.seq
   (.reg [⟨(some 3), .m (.alloc [(.int .i64 0), (.int .i64 0), .nils]), none⟩])
   (.seq
    (.reg [⟨(some 4), .v (.faddr 0 (.t 1)), none⟩, ⟨(some 5), .v (.load false 1 (.t 4)), none⟩, ⟨(some 6), .v (.faddr 0 (.t 3)), none⟩, ⟨none, .m (.store 1 (.t 6) (.t 5)), none⟩])
    (.seq
     (.reg [⟨(some 7), .v (.faddr 1 (.t 1)), none⟩, ⟨(some 8), .v (.load false 1 (.t 7)), none⟩, ⟨(some 9), .v (.faddr 1 (.t 3)), none⟩, ⟨none, .m (.store 1 (.t 9) (.t 8)), none⟩])
     (.seq
      (.reg [⟨(some 10), .v (.faddr 2 (.t 1)), none⟩, ⟨(some 11), .v (.load false 1 (.t 10)), none⟩, ⟨(some 12), .call 13 [(.t 11)], none⟩, ⟨(some 13), .v (.faddr 2 (.t 3)), none⟩, ⟨none, .m (.store 1 (.t 13) (.t 12)), none⟩])
      (.seq
       (.reg [⟨(some 14), .v (.load true 3 (.t 3)), none⟩, ⟨none, .m (.store 3 (.t 2) (.t 14)), none⟩])
       .ret))))))⟩
theorem e43 : rFunc Try.prog Try.f43 = some r43 := by kernel_rfl
def r46 : RFunc := ⟨15, [.t 6],
 (.seq
  (.reg [⟨(some 6), .v (.mov (.c (.bool false))), none⟩])
  (.seq
   (.reg [⟨(some 7), .v (.mov (.t 0)), none⟩, ⟨(some 8), .v (.mov (.t 1)), none⟩, ⟨(some 9), .v (.bin .geq (.t 7) (.t 8)), none⟩, ⟨(some 10), .v (.mov (.t 9)), none⟩, ⟨(some 11), .v (.mov (.t 0)), (some (10, true))⟩, ⟨(some 12), .v (.mov (.t 2)), (some (10, true))⟩, ⟨(some 13), .v (.bin .leq (.t 11) (.t 12)), (some (10, true))⟩, ⟨(some 14), .v (.pick (.t 10) (.t 13) (.c (.bool false))), none⟩, ⟨(some 6), .v (.mov (.t 14)), none⟩])
   .ret))⟩
theorem e46 : rFunc Try.prog Try.f46 = some r46 := by kernel_rfl
def r65 : RFunc := ⟨23, [.t 2],
 (.seq
  (.reg [⟨(some 2), .v (.mov (.c (.bool false))), none⟩])
  (.seq
   (.seq
    (.reg [⟨(some 3), .v (.mov (.c (.int .i64 0))), none⟩])
    (.block 0
     (.loop
      (.seq
       (.seq
        (.reg [⟨(some 4), .v (.mov (.t 3)), none⟩, ⟨(some 5), .v (.mov (.t 0)), none⟩, ⟨(some 6), .v (.lens (.t 5)), none⟩, ⟨(some 7), .v (.bin .lss (.t 4) (.t 6)), none⟩])
        (.cond (.t 7)
         .skip
         (.exit 0)))
       (.seq
        (.block 1
         (.seq
          (.reg [⟨(some 10), .v (.mov (.t 0)), none⟩, ⟨(some 11), .v (.mov (.t 3)), none⟩, ⟨(some 12), .v (.sidx (.t 10) (.t 11)), none⟩, ⟨(some 13), .v (.bin .lss (.t 12) (.c (.int .u8 33))), none⟩, ⟨(some 14), .v (.mov (.t 13)), none⟩, ⟨(some 15), .v (.mov (.t 0)), (some (14, false))⟩, ⟨(some 16), .v (.mov (.t 3)), (some (14, false))⟩, ⟨(some 17), .v (.sidx (.t 15) (.t 16)), (some (14, false))⟩, ⟨(some 18), .v (.bin .gtr (.t 17) (.c (.int .u8 125))), (some (14, false))⟩, ⟨(some 19), .v (.pick (.t 14) (.c (.bool true)) (.t 18)), none⟩])
          (.cond (.t 19)
           (.seq
            (.reg [⟨(some 2), .v (.mov (.c (.bool false))), none⟩])
            .ret)
           .skip)))
        (.reg [⟨(some 8), .v (.mov (.t 3)), none⟩, ⟨(some 9), .v (.bin .add (.t 8) (.c (.int .i64 1))), none⟩, ⟨(some 3), .v (.mov (.t 9)), none⟩]))))))
   (.seq
    (.reg [⟨(some 20), .v (.mov (.t 0)), none⟩, ⟨(some 21), .v (.lens (.t 20)), none⟩, ⟨(some 22), .call 46 [(.t 21), (.c (.int .i64 1)), (.c (.int .i64 12))], none⟩, ⟨(some 2), .v (.mov (.t 22)), none⟩])
    .ret)))⟩
theorem e65 : rFunc Try.prog Try.f65 = some r65 := by kernel_rfl
def r47 : RFunc := ⟨32, [.t 2],
 (.seq
  (.reg [⟨(some 2), .v (.mov (.c (.bool false))), none⟩])
  (.seq
   (.seq
    (.reg [⟨(some 5), .v (.mov (.t 0)), none⟩, ⟨(some 6), .v (.len (.t 5)), none⟩, ⟨(some 7), .v (.mov (.c (.int .i64 0))), none⟩])
    (.block 0
     (.loop
      (.seq
       (.reg [⟨(some 8), .v (.bin .lss (.t 7) (.t 6)), none⟩])
       (.seq
        (.cond (.t 8)
         .skip
         (.exit 0))
        (.seq
         (.block 1
          (.seq
           (.reg [⟨(some 9), .v (.mov (.t 7)), none⟩, ⟨(some 10), .v (.iaddr 1 (.t 5) (.t 7)), none⟩, ⟨(some 11), .v (.load false 1 (.t 10)), none⟩, ⟨(some 3), .v (.mov (.t 9)), none⟩, ⟨(some 4), .v (.mov (.t 11)), none⟩])
           (.seq
            (.reg [⟨(some 12), .v (.mov (.t 4)), none⟩, ⟨(some 13), .call 65 [(.t 12)], none⟩, ⟨(some 14), .v (.un .not (.t 13)), none⟩, ⟨(some 15), .v (.mov (.t 14)), none⟩, ⟨(some 16), .v (.mov (.t 3)), (some (15, false))⟩, ⟨(some 17), .v (.bin .gtr (.t 16) (.c (.int .i64 0))), (some (15, false))⟩, ⟨(some 18), .v (.mov (.t 17)), (some (15, false))⟩, ⟨(some 19), .v (.mov (.t 0)), (some (18, true))⟩, ⟨(some 20), .v (.mov (.t 3)), (some (18, true))⟩, ⟨(some 21), .v (.bin .sub (.t 20) (.c (.int .i64 1))), (some (18, true))⟩, ⟨(some 22), .v (.iaddr 1 (.t 19) (.t 21)), (some (18, true))⟩, ⟨(some 23), .v (.load false 1 (.t 22)), (some (18, true))⟩, ⟨(some 24), .v (.mov (.t 4)), (some (18, true))⟩, ⟨(some 25), .v (.bin .geq (.t 23) (.t 24)), (some (18, true))⟩, ⟨(some 26), .v (.pick (.t 18) (.t 25) (.c (.bool false))), (some (15, false))⟩, ⟨(some 27), .v (.pick (.t 15) (.c (.bool true)) (.t 26)), none⟩])
            (.cond (.t 27)
             (.seq
              (.reg [⟨(some 2), .v (.mov (.c (.bool false))), none⟩])
              .ret)
             .skip))))
         (.reg [⟨(some 28), .v (.bin .add (.t 7) (.c (.int .i64 1))), none⟩, ⟨(some 7), .v (.mov (.t 28)), none⟩])))))))
   (.seq
    (.reg [⟨(some 29), .v (.mov (.t 0)), none⟩, ⟨(some 30), .v (.len (.t 29)), none⟩, ⟨(some 31), .v (.bin .leq (.t 30) (.c (.int .i64 40))), none⟩, ⟨(some 2), .v (.mov (.t 31)), none⟩])
    .ret)))⟩
theorem e47 : rFunc Try.prog Try.f47 = some r47 := by kernel_rfl
def r87 : RFunc := ⟨17, [.t 6],
 (.seq
  (.reg [⟨(some 6), .v (.mov (.c (.bool false))), none⟩])
  (.seq
   (.reg [⟨(some 7), .v (.mov (.t 0)), none⟩, ⟨(some 8), .call 46 [(.t 7), (.c (.int .i64 0)), (.c (.int .i64 9999))], none⟩, ⟨(some 9), .v (.mov (.t 8)), none⟩, ⟨(some 10), .v (.mov (.t 1)), (some (9, true))⟩, ⟨(some 11), .call 47 [(.t 10)], (some (9, true))⟩, ⟨(some 12), .v (.pick (.t 9) (.t 11) (.c (.bool false))), none⟩, ⟨(some 13), .v (.mov (.t 12)), none⟩, ⟨(some 14), .v (.mov (.t 2)), (some (13, true))⟩, ⟨(some 15), .call 46 [(.t 14), (.c (.int .i64 1)), (.c (.int .i64 24))], (some (13, true))⟩, ⟨(some 16), .v (.pick (.t 13) (.t 15) (.c (.bool false))), none⟩, ⟨(some 6), .v (.mov (.t 16)), none⟩])
   .ret))⟩
theorem e87 : rFunc Try.prog Try.f87 = some r87 := by kernel_rfl
def r42 : RFunc := ⟨10, [.t 2],
 (.seq
  (.reg [⟨(some 1), .m (.box (.t 0)), none⟩, ⟨(some 2), .v (.mov (.c (.bool false))), none⟩])
  (.seq
   (.reg [⟨(some 3), .v (.faddr 0 (.t 1)), none⟩, ⟨(some 4), .v (.load false 1 (.t 3)), none⟩, ⟨(some 5), .v (.faddr 2 (.t 1)), none⟩, ⟨(some 6), .v (.load false 1 (.t 5)), none⟩, ⟨(some 7), .v (.faddr 1 (.t 1)), none⟩, ⟨(some 8), .v (.load false 1 (.t 7)), none⟩, ⟨(some 9), .call 87 [(.t 4), (.t 6), (.t 8)], none⟩, ⟨(some 2), .v (.mov (.t 9)), none⟩])
   .ret))⟩
theorem e42 : rFunc Try.prog Try.f42 = some r42 := by kernel_rfl
def r52 : RFunc := ⟨15, [.t 6],
 (.seq
  (.reg [⟨(some 6), .v (.mov (.c (.bool false))), none⟩])
  (.seq
   (.reg [⟨(some 7), .v (.mov (.t 0)), none⟩, ⟨(some 8), .v (.mov (.t 1)), none⟩, ⟨(some 9), .v (.bin .geq (.t 7) (.t 8)), none⟩, ⟨(some 10), .v (.mov (.t 9)), none⟩, ⟨(some 11), .v (.mov (.t 0)), (some (10, true))⟩, ⟨(some 12), .v (.mov (.t 2)), (some (10, true))⟩, ⟨(some 13), .v (.bin .leq (.t 11) (.t 12)), (some (10, true))⟩, ⟨(some 14), .v (.pick (.t 10) (.t 13) (.c (.bool false))), none⟩, ⟨(some 6), .v (.mov (.t 14)), none⟩])
   .ret))⟩
theorem e52 : rFunc Try.prog Try.f52 = some r52 := by kernel_rfl
def r50 : RFunc := ⟨5, [.t 2],
 (.seq
  (.reg [⟨(some 2), .v (.mov (.c (.bool false))), none⟩])
  (.seq
   (.reg [⟨(some 3), .v (.mov (.t 0)), none⟩, ⟨(some 4), .call 52 [(.t 3), (.c (.int .i64 0)), (.c (.int .i64 9999))], none⟩, ⟨(some 2), .v (.mov (.t 4)), none⟩])
   .ret))⟩
theorem e50 : rFunc Try.prog Try.f50 = some r50 := by kernel_rfl
def r88 : RFunc := ⟨5, [.t 2],
 (.seq
  (.reg [⟨(some 2), .v (.mov (.c (.bool false))), none⟩])
  (.seq
   (.reg [⟨(some 3), .v (.mov (.t 0)), none⟩, ⟨(some 4), .call 52 [(.t 3), (.c (.int .i64 1)), (.c (.int .i64 24))], none⟩, ⟨(some 2), .v (.mov (.t 4)), none⟩])
   .ret))⟩
theorem e88 : rFunc Try.prog Try.f88 = some r88 := by kernel_rfl
def r67 : RFunc := ⟨23, [.t 2],
 (.seq
  (.reg [⟨(some 2), .v (.mov (.c (.bool false))), none⟩])
  (.seq
   (.seq
    (.reg [⟨(some 4), .v (.mov (.t 0)), none⟩, ⟨(some 5), .v (.lens (.t 4)), none⟩, ⟨(some 6), .v (.mov (.c (.int .i64 0))), none⟩])
    (.block 0
     (.loop
      (.seq
       (.reg [⟨(some 7), .v (.bin .lss (.t 6) (.t 5)), none⟩])
       (.seq
        (.cond (.t 7)
         .skip
         (.exit 0))
        (.seq
         (.block 1
          (.seq
           (.reg [⟨(some 8), .v (.mov (.t 6)), none⟩, ⟨(some 3), .v (.mov (.t 8)), none⟩])
           (.seq
            (.reg [⟨(some 9), .v (.mov (.t 0)), none⟩, ⟨(some 10), .v (.mov (.t 3)), none⟩, ⟨(some 11), .v (.sidx (.t 9) (.t 10)), none⟩, ⟨(some 12), .v (.bin .lss (.t 11) (.c (.int .u8 33))), none⟩, ⟨(some 13), .v (.mov (.t 12)), none⟩, ⟨(some 14), .v (.mov (.t 0)), (some (13, false))⟩, ⟨(some 15), .v (.mov (.t 3)), (some (13, false))⟩, ⟨(some 16), .v (.sidx (.t 14) (.t 15)), (some (13, false))⟩, ⟨(some 17), .v (.bin .gtr (.t 16) (.c (.int .u8 125))), (some (13, false))⟩, ⟨(some 18), .v (.pick (.t 13) (.c (.bool true)) (.t 17)), none⟩])
            (.cond (.t 18)
             (.seq
              (.reg [⟨(some 2), .v (.mov (.c (.bool false))), none⟩])
              .ret)
             .skip))))
         (.reg [⟨(some 19), .v (.bin .add (.t 6) (.c (.int .i64 1))), none⟩, ⟨(some 6), .v (.mov (.t 19)), none⟩])))))))
   (.seq
    (.reg [⟨(some 20), .v (.mov (.t 0)), none⟩, ⟨(some 21), .v (.lens (.t 20)), none⟩, ⟨(some 22), .call 52 [(.t 21), (.c (.int .i64 1)), (.c (.int .i64 12))], none⟩, ⟨(some 2), .v (.mov (.t 22)), none⟩])
    .ret)))⟩
theorem e67 : rFunc Try.prog Try.f67 = some r67 := by kernel_rfl
def r51 : RFunc := ⟨32, [.t 2],
 (.seq
  (.reg [⟨(some 2), .v (.mov (.c (.bool false))), none⟩])
  (.seq
   (.seq
    (.reg [⟨(some 5), .v (.mov (.t 0)), none⟩, ⟨(some 6), .v (.len (.t 5)), none⟩, ⟨(some 7), .v (.mov (.c (.int .i64 0))), none⟩])
    (.block 0
     (.loop
      (.seq
       (.reg [⟨(some 8), .v (.bin .lss (.t 7) (.t 6)), none⟩])
       (.seq
        (.cond (.t 8)
         .skip
         (.exit 0))
        (.seq
         (.block 1
          (.seq
           (.reg [⟨(some 9), .v (.mov (.t 7)), none⟩, ⟨(some 10), .v (.iaddr 1 (.t 5) (.t 7)), none⟩, ⟨(some 11), .v (.load false 1 (.t 10)), none⟩, ⟨(some 3), .v (.mov (.t 9)), none⟩, ⟨(some 4), .v (.mov (.t 11)), none⟩])
           (.seq
            (.reg [⟨(some 12), .v (.mov (.t 4)), none⟩, ⟨(some 13), .call 67 [(.t 12)], none⟩, ⟨(some 14), .v (.un .not (.t 13)), none⟩, ⟨(some 15), .v (.mov (.t 14)), none⟩, ⟨(some 16), .v (.mov (.t 3)), (some (15, false))⟩, ⟨(some 17), .v (.bin .gtr (.t 16) (.c (.int .i64 0))), (some (15, false))⟩, ⟨(some 18), .v (.mov (.t 17)), (some (15, false))⟩, ⟨(some 19), .v (.mov (.t 0)), (some (18, true))⟩, ⟨(some 20), .v (.mov (.t 3)), (some (18, true))⟩, ⟨(some 21), .v (.bin .sub (.t 20) (.c (.int .i64 1))), (some (18, true))⟩, ⟨(some 22), .v (.iaddr 1 (.t 19) (.t 21)), (some (18, true))⟩, ⟨(some 23), .v (.load false 1 (.t 22)), (some (18, true))⟩, ⟨(some 24), .v (.mov (.t 4)), (some (18, true))⟩, ⟨(some 25), .v (.bin .geq (.t 23) (.t 24)), (some (18, true))⟩, ⟨(some 26), .v (.pick (.t 18) (.t 25) (.c (.bool false))), (some (15, false))⟩, ⟨(some 27), .v (.pick (.t 15) (.c (.bool true)) (.t 26)), none⟩])
            (.cond (.t 27)
             (.seq
              (.reg [⟨(some 2), .v (.mov (.c (.bool false))), none⟩])
              .ret)
             .skip))))
         (.reg [⟨(some 28), .v (.bin .add (.t 7) (.c (.int .i64 1))), none⟩, ⟨(some 7), .v (.mov (.t 28)), none⟩])))))))
   (.seq
    (.reg [⟨(some 29), .v (.mov (.t 0)), none⟩, ⟨(some 30), .v (.len (.t 29)), none⟩, ⟨(some 31), .v (.bin .leq (.t 30) (.c (.int .i64 40))), none⟩, ⟨(some 2), .v (.mov (.t 31)), none⟩])
    .ret)))⟩
theorem e51 : rFunc Try.prog Try.f51 = some r51 := by kernel_rfl
def r44 : RFunc := ⟨16, [.t 2],
 (.seq
  (.reg [⟨(some 1), .m (.box (.t 0)), none⟩, ⟨(some 2), .v (.mov (.c (.bool false))), none⟩])
  (.seq
   (.reg [⟨(some 3), .v (.faddr 0 (.t 1)), none⟩, ⟨(some 4), .v (.load false 1 (.t 3)), none⟩, ⟨(some 5), .call 50 [(.t 4)], none⟩, ⟨(some 6), .v (.mov (.t 5)), none⟩, ⟨(some 7), .v (.faddr 1 (.t 1)), (some (6, true))⟩, ⟨(some 8), .v (.load false 1 (.t 7)), (some (6, true))⟩, ⟨(some 9), .call 88 [(.t 8)], (some (6, true))⟩, ⟨(some 10), .v (.pick (.t 6) (.t 9) (.c (.bool false))), none⟩, ⟨(some 11), .v (.mov (.t 10)), none⟩, ⟨(some 12), .v (.faddr 2 (.t 1)), (some (11, true))⟩, ⟨(some 13), .v (.load false 1 (.t 12)), (some (11, true))⟩, ⟨(some 14), .call 51 [(.t 13)], (some (11, true))⟩, ⟨(some 15), .v (.pick (.t 11) (.t 14) (.c (.bool false))), none⟩, ⟨(some 2), .v (.mov (.t 15)), none⟩])
   .ret))⟩
theorem e44 : rFunc Try.prog Try.f44 = some r44 := by kernel_rfl
def r16 : RFunc := ⟨26, [.t 4],
 (.seq
  (.reg [⟨(some 4), .v (.mov (.c (.bool false))), none⟩])
  (.seq
   (.seq
    (.reg [⟨(some 6), .v (.mov (.t 0)), none⟩, ⟨(some 7), .v (.len (.t 6)), none⟩, ⟨(some 8), .v (.mov (.t 1)), none⟩, ⟨(some 9), .v (.len (.t 8)), none⟩, ⟨(some 10), .v (.bin .neq (.t 7) (.t 9)), none⟩])
    (.cond (.t 10)
     (.seq
      (.reg [⟨(some 4), .v (.mov (.c (.bool false))), none⟩])
      .ret)
     .skip))
   (.seq
    (.seq
     (.reg [⟨(some 5), .v (.mov (.c (.int .i64 0))), none⟩])
     (.block 0
      (.loop
       (.seq
        (.seq
         (.reg [⟨(some 11), .v (.mov (.t 5)), none⟩, ⟨(some 12), .v (.mov (.t 0)), none⟩, ⟨(some 13), .v (.len (.t 12)), none⟩, ⟨(some 14), .v (.bin .lss (.t 11) (.t 13)), none⟩])
         (.cond (.t 14)
          .skip
          (.exit 0)))
        (.seq
         (.block 1
          (.seq
           (.dreg (.fl ⟨(some 17), .v (.mov (.t 0)), none⟩ (.fl ⟨(some 18), .v (.mov (.t 5)), none⟩ (.fl ⟨(some 19), .v (.iaddr 1 (.t 17) (.t 18)), none⟩ (.fl ⟨(some 20), .v (.load false 1 (.t 19)), none⟩ (.fl ⟨(some 21), .v (.mov (.t 1)), none⟩ (.fl ⟨(some 22), .v (.mov (.t 5)), none⟩ (.fl ⟨(some 23), .v (.iaddr 1 (.t 21) (.t 22)), none⟩ (.fl ⟨(some 24), .v (.load false 1 (.t 23)), none⟩ (.fl ⟨(some 25), .v (.bin .neq (.t 20) (.t 24)), none⟩ .done))))))))))
           (.cond (.t 25)
            (.seq
             (.reg [⟨(some 4), .v (.mov (.c (.bool false))), none⟩])
             .ret)
            .skip)))
         (.reg [⟨(some 15), .v (.mov (.t 5)), none⟩, ⟨(some 16), .v (.bin .add (.t 15) (.c (.int .i64 1))), none⟩, ⟨(some 5), .v (.mov (.t 16)), none⟩]))))))
    (.seq
     (.reg [⟨(some 4), .v (.mov (.c (.bool true))), none⟩])
     .ret))))⟩
theorem e16 : rFunc Try.prog Try.f16 = some r16 := by kernel_rfl
def r45 : RFunc := ⟨21, [.t 4],
 (.seq
  (.reg [⟨(some 2), .m (.box (.t 0)), none⟩, ⟨(some 3), .m (.box (.t 1)), none⟩, ⟨(some 4), .v (.mov (.c (.bool false))), none⟩])
  (.seq
   (.seq
    (.reg [⟨(some 5), .v (.faddr 0 (.t 2)), none⟩, ⟨(some 6), .v (.load false 1 (.t 5)), none⟩, ⟨(some 7), .v (.faddr 0 (.t 3)), none⟩, ⟨(some 8), .v (.load false 1 (.t 7)), none⟩, ⟨(some 9), .v (.bin .neq (.t 6) (.t 8)), none⟩])
    (.cond (.t 9)
     (.seq
      (.reg [⟨(some 4), .v (.mov (.c (.bool false))), none⟩])
      .ret)
     .skip))
   (.seq
    (.seq
     (.reg [⟨(some 10), .v (.faddr 1 (.t 2)), none⟩, ⟨(some 11), .v (.load false 1 (.t 10)), none⟩, ⟨(some 12), .v (.faddr 1 (.t 3)), none⟩, ⟨(some 13), .v (.load false 1 (.t 12)), none⟩, ⟨(some 14), .v (.bin .neq (.t 11) (.t 13)), none⟩])
     (.cond (.t 14)
      (.seq
       (.reg [⟨(some 4), .v (.mov (.c (.bool false))), none⟩])
       .ret)
      .skip))
    (.seq
     (.seq
      (.reg [⟨(some 15), .v (.faddr 2 (.t 2)), none⟩, ⟨(some 16), .v (.load false 1 (.t 15)), none⟩, ⟨(some 17), .v (.faddr 2 (.t 3)), none⟩, ⟨(some 18), .v (.load false 1 (.t 17)), none⟩, ⟨(some 19), .call 16 [(.t 16), (.t 18)], none⟩, ⟨(some 20), .v (.un .not (.t 19)), none⟩])
      (.cond (.t 20)
       (.seq
        (.reg [⟨(some 4), .v (.mov (.c (.bool false))), none⟩])
        .ret)
       .skip))
     (.seq
      (.reg [⟨(some 4), .v (.mov (.c (.bool true))), none⟩])
      .ret)))))⟩
theorem e45 : rFunc Try.prog Try.f45 = some r45 := by kernel_rfl
def r10 : RFunc := ⟨27, [.t 2],
 (.seq
  (.reg [⟨(some 1), .m (.box (.t 0)), none⟩, ⟨(some 2), .v (.mov (.c (.bool false))), none⟩])
  (.seq
   (.reg [⟨(some 3), .v (.mov (.c (.int .i64 1048576))), none⟩])
   (.seq
    (.reg [⟨(some 7), .v (.load true 3 (.t 1)), none⟩, ⟨(some 8), .v (.mov (.t 3)), none⟩, ⟨(some 9), .call 41 [(.t 7), (.t 8)], none⟩, ⟨(some 3), .v (.mov (.t 9)), none⟩])
    (.seq
     (.seq
      (.reg [⟨(some 10), .v (.mov (.t 3)), none⟩, ⟨(some 11), .v (.bin .lss (.t 10) (.c (.int .i64 0))), none⟩])
      (.cond (.t 11)
       (.seq
        (.reg [⟨(some 2), .v (.mov (.c (.bool true))), none⟩])
        .ret)
       .skip))
     (.seq
      (.reg [⟨(some 12), .v (.load true 3 (.t 1)), none⟩, ⟨(some 13), .call 43 [(.t 12)], none⟩, ⟨(some 14), .call 42 [(.t 13)], none⟩, ⟨(some 4), .v (.mov (.t 14)), none⟩])
      (.seq
       (.reg [⟨(some 15), .v (.load true 3 (.t 1)), none⟩, ⟨(some 16), .call 43 [(.t 15)], none⟩, ⟨(some 5), .m (.alloc [(.int .i64 0), (.int .i64 0), .nils]), none⟩, ⟨none, .m (.store 3 (.t 5) (.t 16)), none⟩])
       (.seq
        (.reg [⟨(some 17), .v (.load true 3 (.t 5)), none⟩, ⟨(some 18), .call 44 [(.t 17)], none⟩, ⟨(some 6), .v (.mov (.t 18)), none⟩])
        (.seq
         (.seq
          (.reg [⟨(some 19), .v (.mov (.t 6)), none⟩, ⟨(some 20), .v (.mov (.t 4)), none⟩, ⟨(some 21), .v (.beq true (.t 19) (.t 20)), none⟩])
          (.cond (.t 21)
           (.seq
            (.reg [⟨(some 2), .v (.mov (.c (.bool false))), none⟩])
            .ret)
           .skip))
         (.seq
          (.seq
           (.dreg (.fl ⟨(some 22), .v (.load true 3 (.t 5)), none⟩ (.fl ⟨(some 23), .v (.load true 3 (.t 1)), none⟩ (.nx ⟨(some 24), .call 43 [(.t 23)], none⟩ (.nx ⟨(some 25), .call 45 [(.t 22), (.t 24)], none⟩ (.fl ⟨(some 26), .v (.un .not (.t 25)), none⟩ .done))))))
           (.cond (.t 26)
            (.seq
             (.reg [⟨(some 2), .v (.mov (.c (.bool false))), none⟩])
             .ret)
            .skip))
          (.seq
           (.reg [⟨(some 2), .v (.mov (.c (.bool true))), none⟩])
           .ret))))))))))⟩
theorem e10 : rFunc Try.prog Try.f10 = some r10 := by kernel_rfl
end Go.Proofs.Ytmcfkedagmfhcaa.M

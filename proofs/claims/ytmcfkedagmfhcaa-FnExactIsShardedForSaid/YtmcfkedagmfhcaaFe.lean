/-
  The resolved text of the functions, each tied to the program's own by the kernel.
-/
import Derived.Test.YtmcfkedagmfhcaaProg
import Derived.Test.YtmcfkedagmfhcaaM13
namespace Go.Proofs.Ytmcfkedagmfhcaa.M
open Go Go.RowKit
set_option maxRecDepth 100000

def r57 : RFunc := ⟨12, [.t 4],
 (.seq
  (.reg [⟨(some 4), .v (.mov (.c (.int .i64 0))), none⟩])
  (.seq
   (.reg [⟨(some 5), .v (.mov (.t 1)), none⟩, ⟨(some 6), .v (.mov (.t 0)), none⟩, ⟨(some 7), .v (.len (.t 6)), none⟩, ⟨(some 8), .v (.bin .sub (.t 5) (.t 7)), none⟩, ⟨(some 1), .v (.mov (.t 8)), none⟩])
   (.seq
    (.seq
     (.reg [⟨(some 9), .v (.mov (.t 1)), none⟩, ⟨(some 10), .v (.bin .lss (.t 9) (.c (.int .i64 0))), none⟩])
     (.cond (.t 10)
      (.seq
       (.reg [⟨(some 4), .v (.mov (.c (.int .i64 (-1)))), none⟩])
       .ret)
      .skip))
    (.seq
     (.reg [⟨(some 11), .v (.mov (.t 1)), none⟩, ⟨(some 4), .v (.mov (.t 11)), none⟩])
     .ret))))⟩
theorem e57 : rFunc Try.prog Try.f57 = some r57 := by kernel_rfl
def r90 : RFunc := ⟨12, [.t 4],
 (.seq
  (.reg [⟨(some 2), .m (.box (.t 0)), none⟩, ⟨(some 4), .v (.mov (.c (.int .i64 0))), none⟩])
  (.seq
   (.reg [⟨(some 5), .v (.faddr 2 (.t 2)), none⟩, ⟨(some 6), .v (.load false 1 (.t 5)), none⟩, ⟨(some 7), .v (.mov (.t 1)), none⟩, ⟨(some 8), .call 57 [(.t 6), (.t 7)], none⟩, ⟨(some 1), .v (.mov (.t 8)), none⟩])
   (.seq
    (.seq
     (.reg [⟨(some 9), .v (.mov (.t 1)), none⟩, ⟨(some 10), .v (.bin .lss (.t 9) (.c (.int .i64 0))), none⟩])
     (.cond (.t 10)
      (.seq
       (.reg [⟨(some 4), .v (.mov (.c (.int .i64 (-1)))), none⟩])
       .ret)
      .skip))
    (.seq
     (.reg [⟨(some 11), .v (.mov (.t 1)), none⟩, ⟨(some 4), .v (.mov (.t 11)), none⟩])
     .ret))))⟩
theorem e90 : rFunc Try.prog Try.f90 = some r90 := by kernel_rfl
def r56 : RFunc := ⟨27, [.t 4],
 (.seq
  (.reg [⟨(some 4), .v (.mov (.c (.int .i64 0))), none⟩])
  (.seq
   (.reg [⟨(some 6), .v (.mov (.t 1)), none⟩, ⟨(some 7), .v (.mov (.t 0)), none⟩, ⟨(some 8), .v (.len (.t 7)), none⟩, ⟨(some 9), .v (.bin .sub (.t 6) (.t 8)), none⟩, ⟨(some 1), .v (.mov (.t 9)), none⟩])
   (.seq
    (.seq
     (.reg [⟨(some 10), .v (.mov (.t 1)), none⟩, ⟨(some 11), .v (.bin .lss (.t 10) (.c (.int .i64 0))), none⟩])
     (.cond (.t 11)
      (.seq
       (.reg [⟨(some 4), .v (.mov (.c (.int .i64 (-1)))), none⟩])
       .ret)
      .skip))
    (.seq
     (.seq
      (.reg [⟨(some 5), .v (.mov (.c (.int .i64 0))), none⟩])
      (.block 0
       (.loop
        (.seq
         (.seq
          (.reg [⟨(some 12), .v (.mov (.t 5)), none⟩, ⟨(some 13), .v (.mov (.t 0)), none⟩, ⟨(some 14), .v (.len (.t 13)), none⟩, ⟨(some 15), .v (.bin .lss (.t 12) (.t 14)), none⟩])
          (.cond (.t 15)
           .skip
           (.exit 0)))
         (.seq
          (.block 1
           (.seq
            (.reg [⟨(some 18), .v (.mov (.t 0)), none⟩, ⟨(some 19), .v (.mov (.t 5)), none⟩, ⟨(some 20), .v (.iaddr 3 (.t 18) (.t 19)), none⟩, ⟨(some 21), .v (.load true 3 (.t 20)), none⟩, ⟨(some 22), .v (.mov (.t 1)), none⟩, ⟨(some 23), .call 90 [(.t 21), (.t 22)], none⟩, ⟨(some 1), .v (.mov (.t 23)), none⟩])
            (.seq
             (.reg [⟨(some 24), .v (.mov (.t 1)), none⟩, ⟨(some 25), .v (.bin .lss (.t 24) (.c (.int .i64 0))), none⟩])
             (.cond (.t 25)
              (.seq
               (.reg [⟨(some 4), .v (.mov (.c (.int .i64 (-1)))), none⟩])
               .ret)
              .skip))))
          (.reg [⟨(some 16), .v (.mov (.t 5)), none⟩, ⟨(some 17), .v (.bin .add (.t 16) (.c (.int .i64 1))), none⟩, ⟨(some 5), .v (.mov (.t 17)), none⟩]))))))
     (.seq
      (.reg [⟨(some 26), .v (.mov (.t 1)), none⟩, ⟨(some 4), .v (.mov (.t 26)), none⟩])
      .ret)))))⟩
theorem e56 : rFunc Try.prog Try.f56 = some r56 := by kernel_rfl
def r20 : RFunc := ⟨18, [.t 4],
 (.seq
  (.reg [⟨(some 2), .m (.box (.t 0)), none⟩, ⟨(some 4), .v (.mov (.c (.int .i64 0))), none⟩])
  (.seq
   (.reg [⟨(some 5), .v (.faddr 1 (.t 2)), none⟩, ⟨(some 6), .v (.load false 1 (.t 5)), none⟩, ⟨(some 7), .v (.mov (.t 1)), none⟩, ⟨(some 8), .call 56 [(.t 6), (.t 7)], none⟩, ⟨(some 1), .v (.mov (.t 8)), none⟩])
   (.seq
    (.seq
     (.reg [⟨(some 9), .v (.mov (.t 1)), none⟩, ⟨(some 10), .v (.bin .lss (.t 9) (.c (.int .i64 0))), none⟩])
     (.cond (.t 10)
      (.seq
       (.reg [⟨(some 4), .v (.mov (.c (.int .i64 (-1)))), none⟩])
       .ret)
      .skip))
    (.seq
     (.reg [⟨(some 11), .v (.faddr 2 (.t 2)), none⟩, ⟨(some 12), .v (.load false 1 (.t 11)), none⟩, ⟨(some 13), .v (.mov (.t 1)), none⟩, ⟨(some 14), .call 57 [(.t 12), (.t 13)], none⟩, ⟨(some 1), .v (.mov (.t 14)), none⟩])
     (.seq
      (.seq
       (.reg [⟨(some 15), .v (.mov (.t 1)), none⟩, ⟨(some 16), .v (.bin .lss (.t 15) (.c (.int .i64 0))), none⟩])
       (.cond (.t 16)
        (.seq
         (.reg [⟨(some 4), .v (.mov (.c (.int .i64 (-1)))), none⟩])
         .ret)
        .skip))
      (.seq
       (.reg [⟨(some 17), .v (.mov (.t 1)), none⟩, ⟨(some 4), .v (.mov (.t 17)), none⟩])
       .ret))))))⟩
theorem e20 : rFunc Try.prog Try.f20 = some r20 := by kernel_rfl
def r11 : RFunc := ⟨28, [.t 4],
 (.seq
  (.reg [⟨(some 4), .v (.mov (.c (.int .i64 0))), none⟩])
  (.seq
   (.reg [⟨(some 6), .v (.mov (.t 1)), none⟩, ⟨(some 7), .v (.mov (.t 0)), none⟩, ⟨(some 8), .v (.len (.t 7)), none⟩, ⟨(some 9), .v (.bin .sub (.t 6) (.t 8)), none⟩, ⟨(some 1), .v (.mov (.t 9)), none⟩])
   (.seq
    (.seq
     (.reg [⟨(some 10), .v (.mov (.t 1)), none⟩, ⟨(some 11), .v (.bin .lss (.t 10) (.c (.int .i64 0))), none⟩])
     (.cond (.t 11)
      (.seq
       (.reg [⟨(some 4), .v (.mov (.c (.int .i64 (-1)))), none⟩])
       .ret)
      .skip))
    (.seq
     (.seq
      (.reg [⟨(some 5), .v (.mov (.c (.int .i64 0))), none⟩])
      (.block 0
       (.loop
        (.seq
         (.seq
          (.reg [⟨(some 12), .v (.mov (.t 5)), none⟩, ⟨(some 13), .v (.mov (.t 0)), none⟩, ⟨(some 14), .v (.len (.t 13)), none⟩, ⟨(some 15), .v (.bin .lss (.t 12) (.t 14)), none⟩])
          (.cond (.t 15)
           .skip
           (.exit 0)))
         (.seq
          (.block 1
           (.seq
            (.reg [⟨(some 18), .v (.mov (.t 1)), none⟩, ⟨(some 19), .v (.mov (.t 0)), none⟩, ⟨(some 20), .v (.mov (.t 5)), none⟩, ⟨(some 21), .v (.iaddr 1 (.t 19) (.t 20)), none⟩, ⟨(some 22), .v (.load false 1 (.t 21)), none⟩, ⟨(some 23), .v (.lens (.t 22)), none⟩, ⟨(some 24), .v (.bin .sub (.t 18) (.t 23)), none⟩, ⟨(some 1), .v (.mov (.t 24)), none⟩])
            (.seq
             (.reg [⟨(some 25), .v (.mov (.t 1)), none⟩, ⟨(some 26), .v (.bin .lss (.t 25) (.c (.int .i64 0))), none⟩])
             (.cond (.t 26)
              (.seq
               (.reg [⟨(some 4), .v (.mov (.c (.int .i64 (-1)))), none⟩])
               .ret)
              .skip))))
          (.reg [⟨(some 16), .v (.mov (.t 5)), none⟩, ⟨(some 17), .v (.bin .add (.t 16) (.c (.int .i64 1))), none⟩, ⟨(some 5), .v (.mov (.t 17)), none⟩]))))))
     (.seq
      (.reg [⟨(some 27), .v (.mov (.t 1)), none⟩, ⟨(some 4), .v (.mov (.t 27)), none⟩])
      .ret)))))⟩
theorem e11 : rFunc Try.prog Try.f11 = some r11 := by kernel_rfl
def r60 : RFunc := ⟨22, [.t 2],
 (.seq
  (.reg [⟨(some 2), .v (.mov (.c .nils)), none⟩])
  (.seq
   (.reg [⟨(some 5), .v (.mov (.t 0)), none⟩, ⟨(some 6), .v (.len (.t 5)), none⟩, ⟨(some 7), .m (.mks 1 8 [(.int .i64 0)] (.t 6) (.t 6)), none⟩, ⟨(some 3), .v (.mov (.t 7)), none⟩])
   (.seq
    (.seq
     (.reg [⟨(some 4), .v (.mov (.c (.int .i64 0))), none⟩])
     (.block 0
      (.loop
       (.seq
        (.seq
         (.reg [⟨(some 8), .v (.mov (.t 4)), none⟩, ⟨(some 9), .v (.mov (.t 0)), none⟩, ⟨(some 10), .v (.len (.t 9)), none⟩, ⟨(some 11), .v (.bin .lss (.t 8) (.t 10)), none⟩])
         (.cond (.t 11)
          .skip
          (.exit 0)))
        (.seq
         (.block 1
          (.reg [⟨(some 14), .v (.mov (.t 3)), none⟩, ⟨(some 15), .v (.mov (.t 4)), none⟩, ⟨(some 16), .v (.mov (.t 0)), none⟩, ⟨(some 17), .v (.mov (.t 4)), none⟩, ⟨(some 18), .v (.iaddr 1 (.t 16) (.t 17)), none⟩, ⟨(some 19), .v (.load false 1 (.t 18)), none⟩, ⟨(some 20), .v (.iaddr 1 (.t 14) (.t 15)), none⟩, ⟨none, .m (.store 1 (.t 20) (.t 19)), none⟩]))
         (.reg [⟨(some 12), .v (.mov (.t 4)), none⟩, ⟨(some 13), .v (.bin .add (.t 12) (.c (.int .i64 1))), none⟩, ⟨(some 4), .v (.mov (.t 13)), none⟩]))))))
    (.seq
     (.reg [⟨(some 21), .v (.mov (.t 3)), none⟩, ⟨(some 2), .v (.mov (.t 21)), none⟩])
     .ret))))⟩
theorem e60 : rFunc Try.prog Try.f60 = some r60 := by kernel_rfl
def r93 : RFunc := ⟨15, [.cell true 3 2],
 (.seq
  (.reg [⟨(some 1), .m (.box (.t 0)), none⟩, ⟨(some 2), .m (.alloc [(.int .i64 0), (.int .i64 0), .nils]), none⟩])
  (.seq
   (.reg [⟨(some 3), .m (.alloc [(.int .i64 0), (.int .i64 0), .nils]), none⟩])
   (.seq
    (.reg [⟨(some 4), .v (.faddr 0 (.t 1)), none⟩, ⟨(some 5), .v (.load false 1 (.t 4)), none⟩, ⟨(some 6), .v (.faddr 0 (.t 3)), none⟩, ⟨none, .m (.store 1 (.t 6) (.t 5)), none⟩])
    (.seq
     (.reg [⟨(some 7), .v (.faddr 1 (.t 1)), none⟩, ⟨(some 8), .v (.load false 1 (.t 7)), none⟩, ⟨(some 9), .v (.faddr 1 (.t 3)), none⟩, ⟨none, .m (.store 1 (.t 9) (.t 8)), none⟩])
     (.seq
      (.reg [⟨(some 10), .v (.faddr 2 (.t 1)), none⟩, ⟨(some 11), .v (.load false 1 (.t 10)), none⟩, ⟨(some 12), .call 60 [(.t 11)], none⟩, ⟨(some 13), .v (.faddr 2 (.t 3)), none⟩, ⟨none, .m (.store 1 (.t 13) (.t 12)), none⟩])
      (.seq
       (.reg [⟨(some 14), .v (.load true 3 (.t 3)), none⟩, ⟨none, .m (.store 3 (.t 2) (.t 14)), none⟩])
       .ret))))))⟩
theorem e93 : rFunc Try.prog Try.f93 = some r93 := by kernel_rfl
def r59 : RFunc := ⟨23, [.t 2],
 (.seq
  (.reg [⟨(some 2), .v (.mov (.c .nils)), none⟩])
  (.seq
   (.reg [⟨(some 5), .v (.mov (.t 0)), none⟩, ⟨(some 6), .v (.len (.t 5)), none⟩, ⟨(some 7), .m (.mks 3 40 [(.int .i64 0), (.int .i64 0), .nils] (.t 6) (.t 6)), none⟩, ⟨(some 3), .v (.mov (.t 7)), none⟩])
   (.seq
    (.seq
     (.reg [⟨(some 4), .v (.mov (.c (.int .i64 0))), none⟩])
     (.block 0
      (.loop
       (.seq
        (.seq
         (.reg [⟨(some 8), .v (.mov (.t 4)), none⟩, ⟨(some 9), .v (.mov (.t 0)), none⟩, ⟨(some 10), .v (.len (.t 9)), none⟩, ⟨(some 11), .v (.bin .lss (.t 8) (.t 10)), none⟩])
         (.cond (.t 11)
          .skip
          (.exit 0)))
        (.seq
         (.block 1
          (.reg [⟨(some 14), .v (.mov (.t 3)), none⟩, ⟨(some 15), .v (.mov (.t 4)), none⟩, ⟨(some 16), .v (.mov (.t 0)), none⟩, ⟨(some 17), .v (.mov (.t 4)), none⟩, ⟨(some 18), .v (.iaddr 3 (.t 16) (.t 17)), none⟩, ⟨(some 19), .v (.load true 3 (.t 18)), none⟩, ⟨(some 20), .call 93 [(.t 19)], none⟩, ⟨(some 21), .v (.iaddr 3 (.t 14) (.t 15)), none⟩, ⟨none, .m (.store 3 (.t 21) (.t 20)), none⟩]))
         (.reg [⟨(some 12), .v (.mov (.t 4)), none⟩, ⟨(some 13), .v (.bin .add (.t 12) (.c (.int .i64 1))), none⟩, ⟨(some 4), .v (.mov (.t 13)), none⟩]))))))
    (.seq
     (.reg [⟨(some 22), .v (.mov (.t 3)), none⟩, ⟨(some 2), .v (.mov (.t 22)), none⟩])
     .ret))))⟩
theorem e59 : rFunc Try.prog Try.f59 = some r59 := by kernel_rfl
def r22 : RFunc := ⟨16, [.cell true 3 2],
 (.seq
  (.reg [⟨(some 1), .m (.box (.t 0)), none⟩, ⟨(some 2), .m (.alloc [(.int .i64 0), .nils, .nils]), none⟩])
  (.seq
   (.reg [⟨(some 3), .m (.alloc [(.int .i64 0), .nils, .nils]), none⟩])
   (.seq
    (.reg [⟨(some 4), .v (.faddr 0 (.t 1)), none⟩, ⟨(some 5), .v (.load false 1 (.t 4)), none⟩, ⟨(some 6), .v (.faddr 0 (.t 3)), none⟩, ⟨none, .m (.store 1 (.t 6) (.t 5)), none⟩])
    (.seq
     (.reg [⟨(some 7), .v (.faddr 1 (.t 1)), none⟩, ⟨(some 8), .v (.load false 1 (.t 7)), none⟩, ⟨(some 9), .call 59 [(.t 8)], none⟩, ⟨(some 10), .v (.faddr 1 (.t 3)), none⟩, ⟨none, .m (.store 1 (.t 10) (.t 9)), none⟩])
     (.seq
      (.reg [⟨(some 11), .v (.faddr 2 (.t 1)), none⟩, ⟨(some 12), .v (.load false 1 (.t 11)), none⟩, ⟨(some 13), .call 60 [(.t 12)], none⟩, ⟨(some 14), .v (.faddr 2 (.t 3)), none⟩, ⟨none, .m (.store 1 (.t 14) (.t 13)), none⟩])
      (.seq
       (.reg [⟨(some 15), .v (.load true 3 (.t 3)), none⟩, ⟨none, .m (.store 3 (.t 2) (.t 15)), none⟩])
       .ret))))))⟩
theorem e22 : rFunc Try.prog Try.f22 = some r22 := by kernel_rfl
def r13 : RFunc := ⟨22, [.t 2],
 (.seq
  (.reg [⟨(some 2), .v (.mov (.c .nils)), none⟩])
  (.seq
   (.reg [⟨(some 5), .v (.mov (.t 0)), none⟩, ⟨(some 6), .v (.len (.t 5)), none⟩, ⟨(some 7), .m (.mks 1 16 [(.str [])] (.t 6) (.t 6)), none⟩, ⟨(some 3), .v (.mov (.t 7)), none⟩])
   (.seq
    (.seq
     (.reg [⟨(some 4), .v (.mov (.c (.int .i64 0))), none⟩])
     (.block 0
      (.loop
       (.seq
        (.seq
         (.reg [⟨(some 8), .v (.mov (.t 4)), none⟩, ⟨(some 9), .v (.mov (.t 0)), none⟩, ⟨(some 10), .v (.len (.t 9)), none⟩, ⟨(some 11), .v (.bin .lss (.t 8) (.t 10)), none⟩])
         (.cond (.t 11)
          .skip
          (.exit 0)))
        (.seq
         (.block 1
          (.reg [⟨(some 14), .v (.mov (.t 3)), none⟩, ⟨(some 15), .v (.mov (.t 4)), none⟩, ⟨(some 16), .v (.mov (.t 0)), none⟩, ⟨(some 17), .v (.mov (.t 4)), none⟩, ⟨(some 18), .v (.iaddr 1 (.t 16) (.t 17)), none⟩, ⟨(some 19), .v (.load false 1 (.t 18)), none⟩, ⟨(some 20), .v (.iaddr 1 (.t 14) (.t 15)), none⟩, ⟨none, .m (.store 1 (.t 20) (.t 19)), none⟩]))
         (.reg [⟨(some 12), .v (.mov (.t 4)), none⟩, ⟨(some 13), .v (.bin .add (.t 12) (.c (.int .i64 1))), none⟩, ⟨(some 4), .v (.mov (.t 13)), none⟩]))))))
    (.seq
     (.reg [⟨(some 21), .v (.mov (.t 3)), none⟩, ⟨(some 2), .v (.mov (.t 21)), none⟩])
     .ret))))⟩
theorem e13 : rFunc Try.prog Try.f13 = some r13 := by kernel_rfl
def r46 : RFunc := ⟨15, [.t 6],
 (.seq
  (.reg [⟨(some 6), .v (.mov (.c (.bool false))), none⟩])
  (.seq
   (.reg [⟨(some 7), .v (.mov (.t 0)), none⟩, ⟨(some 8), .v (.mov (.t 1)), none⟩, ⟨(some 9), .v (.bin .geq (.t 7) (.t 8)), none⟩, ⟨(some 10), .v (.mov (.t 9)), none⟩, ⟨(some 11), .v (.mov (.t 0)), (some (10, true))⟩, ⟨(some 12), .v (.mov (.t 2)), (some (10, true))⟩, ⟨(some 13), .v (.bin .leq (.t 11) (.t 12)), (some (10, true))⟩, ⟨(some 14), .v (.pick (.t 10) (.t 13) (.c (.bool false))), none⟩, ⟨(some 6), .v (.mov (.t 14)), none⟩])
   .ret))⟩
theorem e46 : rFunc Try.prog Try.f46 = some r46 := by kernel_rfl
def r48 : RFunc := ⟨5, [.t 2],
 (.seq
  (.reg [⟨(some 2), .v (.mov (.c (.bool false))), none⟩])
  (.seq
   (.reg [⟨(some 3), .v (.mov (.t 0)), none⟩, ⟨(some 4), .call 46 [(.t 3), (.c (.int .i64 1)), (.c (.int .i64 8))], none⟩, ⟨(some 2), .v (.mov (.t 4)), none⟩])
   .ret))⟩
theorem e48 : rFunc Try.prog Try.f48 = some r48 := by kernel_rfl
def r125 : RFunc := ⟨21, [.t 6],
 (.seq
  (.reg [⟨(some 6), .v (.mov (.c (.bool false))), none⟩])
  (.seq
   (.seq
    (.reg [⟨(some 9), .v (.mov (.t 0)), none⟩, ⟨(some 10), .v (.len (.t 9)), none⟩, ⟨(some 11), .v (.mov (.c (.int .i64 0))), none⟩])
    (.block 0
     (.loop
      (.seq
       (.reg [⟨(some 12), .v (.bin .lss (.t 11) (.t 10)), none⟩])
       (.seq
        (.cond (.t 12)
         .skip
         (.exit 0))
        (.seq
         (.block 1
          (.seq
           (.reg [⟨(some 13), .v (.iaddr 1 (.t 9) (.t 11)), none⟩, ⟨(some 14), .v (.load false 1 (.t 13)), none⟩, ⟨(some 8), .v (.mov (.t 14)), none⟩])
           (.seq
            (.reg [⟨(some 15), .v (.mov (.t 8)), none⟩, ⟨(some 16), .v (.mov (.t 1)), none⟩, ⟨(some 17), .v (.mov (.t 2)), none⟩, ⟨(some 18), .call 46 [(.t 15), (.t 16), (.t 17)], none⟩, ⟨(some 19), .v (.un .not (.t 18)), none⟩])
            (.cond (.t 19)
             (.seq
              (.reg [⟨(some 6), .v (.mov (.c (.bool false))), none⟩])
              .ret)
             .skip))))
         (.reg [⟨(some 20), .v (.bin .add (.t 11) (.c (.int .i64 1))), none⟩, ⟨(some 11), .v (.mov (.t 20)), none⟩])))))))
   (.seq
    (.reg [⟨(some 6), .v (.mov (.c (.bool true))), none⟩])
    .ret)))⟩
theorem e125 : rFunc Try.prog Try.f125 = some r125 := by kernel_rfl
def r91 : RFunc := ⟨25, [.t 2],
 (.seq
  (.reg [⟨(some 1), .m (.box (.t 0)), none⟩, ⟨(some 2), .v (.mov (.c (.bool false))), none⟩])
  (.seq
   (.reg [⟨(some 3), .v (.faddr 0 (.t 1)), none⟩, ⟨(some 4), .v (.load false 1 (.t 3)), none⟩, ⟨(some 5), .call 46 [(.t 4), (.c (.int .i64 0)), (.c (.int .i64 9999))], none⟩, ⟨(some 6), .v (.mov (.t 5)), none⟩, ⟨(some 7), .v (.faddr 1 (.t 1)), (some (6, true))⟩, ⟨(some 8), .v (.load false 1 (.t 7)), (some (6, true))⟩, ⟨(some 9), .call 46 [(.t 8), (.c (.int .i64 1)), (.c (.int .i64 24))], (some (6, true))⟩, ⟨(some 10), .v (.pick (.t 6) (.t 9) (.c (.bool false))), none⟩, ⟨(some 11), .v (.mov (.t 10)), none⟩, ⟨(some 12), .v (.faddr 2 (.t 1)), (some (11, true))⟩, ⟨(some 13), .v (.load false 1 (.t 12)), (some (11, true))⟩, ⟨(some 14), .v (.len (.t 13)), (some (11, true))⟩, ⟨(some 15), .v (.faddr 1 (.t 1)), (some (11, true))⟩, ⟨(some 16), .v (.load false 1 (.t 15)), (some (11, true))⟩, ⟨(some 17), .v (.bin .mul (.c (.int .i64 3)) (.t 16)), (some (11, true))⟩, ⟨(some 18), .v (.bin .eql (.t 14) (.t 17)), (some (11, true))⟩, ⟨(some 19), .v (.pick (.t 11) (.t 18) (.c (.bool false))), none⟩, ⟨(some 20), .v (.mov (.t 19)), none⟩, ⟨(some 21), .v (.faddr 2 (.t 1)), (some (20, true))⟩, ⟨(some 22), .v (.load false 1 (.t 21)), (some (20, true))⟩, ⟨(some 23), .call 125 [(.t 22), (.c (.int .i64 0)), (.c (.int .i64 3))], (some (20, true))⟩, ⟨(some 24), .v (.pick (.t 20) (.t 23) (.c (.bool false))), none⟩, ⟨(some 2), .v (.mov (.t 24)), none⟩])
   .ret))⟩
theorem e91 : rFunc Try.prog Try.f91 = some r91 := by kernel_rfl
def r99 : RFunc := ⟨23, [.t 4],
 (.seq
  (.reg [⟨(some 2), .m (.box (.t 0)), none⟩, ⟨(some 4), .v (.mov (.c (.int .i64 0))), none⟩])
  (.seq
   (.reg [⟨(some 5), .v (.mov (.c (.int .i64 0))), none⟩])
   (.seq
    (.seq
     (.reg [⟨(some 8), .v (.faddr 2 (.t 2)), none⟩, ⟨(some 9), .v (.load false 1 (.t 8)), none⟩, ⟨(some 10), .v (.mov (.t 1)), none⟩, ⟨(some 11), .v (.slc 1 (.t 9) none (some (.t 10))), none⟩, ⟨(some 12), .v (.len (.t 11)), none⟩, ⟨(some 13), .v (.mov (.c (.int .i64 0))), none⟩])
     (.block 0
      (.loop
       (.seq
        (.reg [⟨(some 14), .v (.bin .lss (.t 13) (.t 12)), none⟩])
        (.seq
         (.cond (.t 14)
          .skip
          (.exit 0))
         (.seq
          (.block 1
           (.seq
            (.reg [⟨(some 15), .v (.iaddr 1 (.t 11) (.t 13)), none⟩, ⟨(some 16), .v (.load false 1 (.t 15)), none⟩, ⟨(some 7), .v (.mov (.t 16)), none⟩])
            (.seq
             (.reg [⟨(some 17), .v (.mov (.t 7)), none⟩, ⟨(some 18), .v (.bin .neq (.t 17) (.c (.int .i64 3))), none⟩])
             (.cond (.t 18)
              (.reg [⟨(some 19), .v (.mov (.t 5)), none⟩, ⟨(some 20), .v (.bin .add (.t 19) (.c (.int .i64 1))), none⟩, ⟨(some 5), .v (.mov (.t 20)), none⟩])
              .skip))))
          (.reg [⟨(some 21), .v (.bin .add (.t 13) (.c (.int .i64 1))), none⟩, ⟨(some 13), .v (.mov (.t 21)), none⟩])))))))
    (.seq
     (.reg [⟨(some 22), .v (.mov (.t 5)), none⟩, ⟨(some 4), .v (.mov (.t 22)), none⟩])
     .ret))))⟩
theorem e99 : rFunc Try.prog Try.f99 = some r99 := by kernel_rfl
def r76 : RFunc := ⟨26, [.t 2],
 (.seq
  (.reg [⟨(some 2), .v (.mov (.c .nils)), none⟩])
  (.seq
   (.reg [⟨(some 3), .v (.mov (.c .nils)), none⟩])
   (.seq
    (.reg [⟨(some 4), .v (.mov (.c (.int .i64 0))), none⟩])
    (.seq
     (.seq
      (.reg [⟨(some 7), .v (.mov (.t 0)), none⟩, ⟨(some 8), .v (.len (.t 7)), none⟩, ⟨(some 9), .v (.mov (.c (.int .i64 0))), none⟩])
      (.block 0
       (.loop
        (.seq
         (.reg [⟨(some 10), .v (.bin .lss (.t 9) (.t 8)), none⟩])
         (.seq
          (.cond (.t 10)
           .skip
           (.exit 0))
          (.seq
           (.block 1
            (.seq
             (.reg [⟨(some 11), .v (.iaddr 3 (.t 7) (.t 9)), none⟩, ⟨(some 12), .v (.load true 3 (.t 11)), none⟩, ⟨(some 6), .m (.alloc [(.int .i64 0), (.int .i64 0), .nils]), none⟩, ⟨none, .m (.store 3 (.t 6) (.t 12)), none⟩])
             (.seq
              (.reg [⟨(some 13), .v (.mov (.t 3)), none⟩, ⟨(some 14), .v (.mov (.t 4)), none⟩, ⟨(some 15), .m (.bsl 1 1 [(.int .i64 0)] [(0, 1, (.t 14))]), none⟩, ⟨(some 16), .m (.app false 1 8 (.t 13) (.t 15)), none⟩, ⟨(some 3), .v (.mov (.t 16)), none⟩])
              (.reg [⟨(some 17), .v (.mov (.t 4)), none⟩, ⟨(some 18), .v (.load true 3 (.t 6)), none⟩, ⟨(some 19), .v (.faddr 2 (.t 6)), none⟩, ⟨(some 20), .v (.load false 1 (.t 19)), none⟩, ⟨(some 21), .v (.len (.t 20)), none⟩, ⟨(some 22), .call 99 [(.t 18), (.t 21)], none⟩, ⟨(some 23), .v (.bin .add (.t 17) (.t 22)), none⟩, ⟨(some 4), .v (.mov (.t 23)), none⟩]))))
           (.reg [⟨(some 24), .v (.bin .add (.t 9) (.c (.int .i64 1))), none⟩, ⟨(some 9), .v (.mov (.t 24)), none⟩])))))))
     (.seq
      (.reg [⟨(some 25), .v (.mov (.t 3)), none⟩, ⟨(some 2), .v (.mov (.t 25)), none⟩])
      .ret)))))⟩
theorem e76 : rFunc Try.prog Try.f76 = some r76 := by kernel_rfl
def r92 : RFunc := ⟨26, [.t 4],
 (.seq
  (.reg [⟨(some 4), .v (.mov (.c (.bool false))), none⟩])
  (.seq
   (.seq
    (.reg [⟨(some 6), .v (.mov (.t 0)), none⟩, ⟨(some 7), .v (.len (.t 6)), none⟩, ⟨(some 8), .v (.mov (.t 1)), none⟩, ⟨(some 9), .v (.len (.t 8)), none⟩, ⟨(some 10), .v (.bin .neq (.t 7) (.t 9)), none⟩])
    (.cond (.t 10)
     (.seq
      (.reg [⟨(some 4), .v (.mov (.c (.bool false))), none⟩])
      .ret)
     .skip))
   (.seq
    (.seq
     (.reg [⟨(some 11), .v (.mov (.t 0)), none⟩, ⟨(some 12), .v (.len (.t 11)), none⟩, ⟨(some 13), .v (.mov (.c (.int .i64 0))), none⟩])
     (.block 0
      (.loop
       (.seq
        (.reg [⟨(some 14), .v (.bin .lss (.t 13) (.t 12)), none⟩])
        (.seq
         (.cond (.t 14)
          .skip
          (.exit 0))
         (.seq
          (.block 1
           (.seq
            (.reg [⟨(some 15), .v (.mov (.t 13)), none⟩, ⟨(some 5), .v (.mov (.t 15)), none⟩])
            (.seq
             (.dreg (.fl ⟨(some 16), .v (.mov (.t 0)), none⟩ (.fl ⟨(some 17), .v (.mov (.t 5)), none⟩ (.fl ⟨(some 18), .v (.iaddr 1 (.t 16) (.t 17)), none⟩ (.fl ⟨(some 19), .v (.load false 1 (.t 18)), none⟩ (.fl ⟨(some 20), .v (.mov (.t 1)), none⟩ (.fl ⟨(some 21), .v (.mov (.t 5)), none⟩ (.fl ⟨(some 22), .v (.iaddr 1 (.t 20) (.t 21)), none⟩ (.fl ⟨(some 23), .v (.load false 1 (.t 22)), none⟩ (.fl ⟨(some 24), .v (.bin .neq (.t 19) (.t 23)), none⟩ .done))))))))))
             (.cond (.t 24)
              (.seq
               (.reg [⟨(some 4), .v (.mov (.c (.bool false))), none⟩])
               .ret)
              .skip))))
          (.reg [⟨(some 25), .v (.bin .add (.t 13) (.c (.int .i64 1))), none⟩, ⟨(some 13), .v (.mov (.t 25)), none⟩])))))))
    (.seq
     (.reg [⟨(some 4), .v (.mov (.c (.bool true))), none⟩])
     .ret))))⟩
theorem e92 : rFunc Try.prog Try.f92 = some r92 := by kernel_rfl
def r58 : RFunc := ⟨33, [.t 2],
 (.seq
  (.reg [⟨(some 1), .m (.box (.t 0)), none⟩, ⟨(some 2), .v (.mov (.c (.bool false))), none⟩])
  (.seq
   (.seq
    (.reg [⟨(some 5), .v (.faddr 0 (.t 1)), none⟩, ⟨(some 6), .v (.load false 1 (.t 5)), none⟩, ⟨(some 7), .call 46 [(.t 6), (.c (.int .i64 0)), (.c (.int .i64 9999))], none⟩, ⟨(some 8), .v (.un .not (.t 7)), none⟩, ⟨(some 9), .v (.mov (.t 8)), none⟩, ⟨(some 10), .v (.faddr 1 (.t 1)), (some (9, false))⟩, ⟨(some 11), .v (.load false 1 (.t 10)), (some (9, false))⟩, ⟨(some 12), .v (.len (.t 11)), (some (9, false))⟩, ⟨(some 13), .call 48 [(.t 12)], (some (9, false))⟩, ⟨(some 14), .v (.un .not (.t 13)), (some (9, false))⟩, ⟨(some 15), .v (.pick (.t 9) (.c (.bool true)) (.t 14)), none⟩])
    (.cond (.t 15)
     (.seq
      (.reg [⟨(some 2), .v (.mov (.c (.bool false))), none⟩])
      .ret)
     .skip))
   (.seq
    (.seq
     (.reg [⟨(some 16), .v (.faddr 1 (.t 1)), none⟩, ⟨(some 17), .v (.load false 1 (.t 16)), none⟩, ⟨(some 18), .v (.len (.t 17)), none⟩, ⟨(some 19), .v (.mov (.c (.int .i64 0))), none⟩])
     (.block 0
      (.loop
       (.seq
        (.reg [⟨(some 20), .v (.bin .lss (.t 19) (.t 18)), none⟩])
        (.seq
         (.cond (.t 20)
          .skip
          (.exit 0))
         (.seq
          (.block 1
           (.seq
            (.reg [⟨(some 21), .v (.iaddr 3 (.t 17) (.t 19)), none⟩, ⟨(some 22), .v (.load true 3 (.t 21)), none⟩, ⟨(some 4), .m (.alloc [(.int .i64 0), (.int .i64 0), .nils]), none⟩, ⟨none, .m (.store 3 (.t 4) (.t 22)), none⟩])
            (.seq
             (.reg [⟨(some 23), .v (.load true 3 (.t 4)), none⟩, ⟨(some 24), .call 91 [(.t 23)], none⟩, ⟨(some 25), .v (.un .not (.t 24)), none⟩])
             (.cond (.t 25)
              (.seq
               (.reg [⟨(some 2), .v (.mov (.c (.bool false))), none⟩])
               .ret)
              .skip))))
          (.reg [⟨(some 26), .v (.bin .add (.t 19) (.c (.int .i64 1))), none⟩, ⟨(some 19), .v (.mov (.t 26)), none⟩])))))))
    (.seq
     (.dreg (.fl ⟨(some 27), .v (.faddr 2 (.t 1)), none⟩ (.fl ⟨(some 28), .v (.load false 1 (.t 27)), none⟩ (.fl ⟨(some 29), .v (.faddr 1 (.t 1)), none⟩ (.fl ⟨(some 30), .v (.load false 1 (.t 29)), none⟩ (.nx ⟨(some 31), .call 76 [(.t 30)], none⟩ (.nx ⟨(some 32), .call 92 [(.t 28), (.t 31)], none⟩ (.fl ⟨(some 2), .v (.mov (.t 32)), none⟩ .done))))))))
     .ret))))⟩
theorem e58 : rFunc Try.prog Try.f58 = some r58 := by kernel_rfl
def r65 : RFunc := ⟨23, [.t 2],
 (.seq
  (.reg [⟨(some 2), .v (.mov (.c (.bool false))), none⟩])
  (.seq
   (.seq
    (.reg [⟨(some 3), .v (.mov (.c (.int .i64 0))), none⟩])
    (.block 0
     (.loop
      (.seq
       (.seq
        (.reg [⟨(some 4), .v (.mov (.t 3)), none⟩, ⟨(some 5), .v (.mov (.t 0)), none⟩, ⟨(some 6), .v (.lens (.t 5)), none⟩, ⟨(some 7), .v (.bin .lss (.t 4) (.t 6)), none⟩])
        (.cond (.t 7)
         .skip
         (.exit 0)))
       (.seq
        (.block 1
         (.seq
          (.reg [⟨(some 10), .v (.mov (.t 0)), none⟩, ⟨(some 11), .v (.mov (.t 3)), none⟩, ⟨(some 12), .v (.sidx (.t 10) (.t 11)), none⟩, ⟨(some 13), .v (.bin .lss (.t 12) (.c (.int .u8 33))), none⟩, ⟨(some 14), .v (.mov (.t 13)), none⟩, ⟨(some 15), .v (.mov (.t 0)), (some (14, false))⟩, ⟨(some 16), .v (.mov (.t 3)), (some (14, false))⟩, ⟨(some 17), .v (.sidx (.t 15) (.t 16)), (some (14, false))⟩, ⟨(some 18), .v (.bin .gtr (.t 17) (.c (.int .u8 125))), (some (14, false))⟩, ⟨(some 19), .v (.pick (.t 14) (.c (.bool true)) (.t 18)), none⟩])
          (.cond (.t 19)
           (.seq
            (.reg [⟨(some 2), .v (.mov (.c (.bool false))), none⟩])
            .ret)
           .skip)))
        (.reg [⟨(some 8), .v (.mov (.t 3)), none⟩, ⟨(some 9), .v (.bin .add (.t 8) (.c (.int .i64 1))), none⟩, ⟨(some 3), .v (.mov (.t 9)), none⟩]))))))
   (.seq
    (.reg [⟨(some 20), .v (.mov (.t 0)), none⟩, ⟨(some 21), .v (.lens (.t 20)), none⟩, ⟨(some 22), .call 46 [(.t 21), (.c (.int .i64 1)), (.c (.int .i64 12))], none⟩, ⟨(some 2), .v (.mov (.t 22)), none⟩])
    .ret)))⟩
theorem e65 : rFunc Try.prog Try.f65 = some r65 := by kernel_rfl
def r47 : RFunc := ⟨32, [.t 2],
 (.seq
  (.reg [⟨(some 2), .v (.mov (.c (.bool false))), none⟩])
  (.seq
   (.seq
    (.reg [⟨(some 5), .v (.mov (.t 0)), none⟩, ⟨(some 6), .v (.len (.t 5)), none⟩, ⟨(some 7), .v (.mov (.c (.int .i64 0))), none⟩])
    (.block 0
     (.loop
      (.seq
       (.reg [⟨(some 8), .v (.bin .lss (.t 7) (.t 6)), none⟩])
       (.seq
        (.cond (.t 8)
         .skip
         (.exit 0))
        (.seq
         (.block 1
          (.seq
           (.reg [⟨(some 9), .v (.mov (.t 7)), none⟩, ⟨(some 10), .v (.iaddr 1 (.t 5) (.t 7)), none⟩, ⟨(some 11), .v (.load false 1 (.t 10)), none⟩, ⟨(some 3), .v (.mov (.t 9)), none⟩, ⟨(some 4), .v (.mov (.t 11)), none⟩])
           (.seq
            (.reg [⟨(some 12), .v (.mov (.t 4)), none⟩, ⟨(some 13), .call 65 [(.t 12)], none⟩, ⟨(some 14), .v (.un .not (.t 13)), none⟩, ⟨(some 15), .v (.mov (.t 14)), none⟩, ⟨(some 16), .v (.mov (.t 3)), (some (15, false))⟩, ⟨(some 17), .v (.bin .gtr (.t 16) (.c (.int .i64 0))), (some (15, false))⟩, ⟨(some 18), .v (.mov (.t 17)), (some (15, false))⟩, ⟨(some 19), .v (.mov (.t 0)), (some (18, true))⟩, ⟨(some 20), .v (.mov (.t 3)), (some (18, true))⟩, ⟨(some 21), .v (.bin .sub (.t 20) (.c (.int .i64 1))), (some (18, true))⟩, ⟨(some 22), .v (.iaddr 1 (.t 19) (.t 21)), (some (18, true))⟩, ⟨(some 23), .v (.load false 1 (.t 22)), (some (18, true))⟩, ⟨(some 24), .v (.mov (.t 4)), (some (18, true))⟩, ⟨(some 25), .v (.bin .geq (.t 23) (.t 24)), (some (18, true))⟩, ⟨(some 26), .v (.pick (.t 18) (.t 25) (.c (.bool false))), (some (15, false))⟩, ⟨(some 27), .v (.pick (.t 15) (.c (.bool true)) (.t 26)), none⟩])
            (.cond (.t 27)
             (.seq
              (.reg [⟨(some 2), .v (.mov (.c (.bool false))), none⟩])
              .ret)
             .skip))))
         (.reg [⟨(some 28), .v (.bin .add (.t 7) (.c (.int .i64 1))), none⟩, ⟨(some 7), .v (.mov (.t 28)), none⟩])))))))
   (.seq
    (.reg [⟨(some 29), .v (.mov (.t 0)), none⟩, ⟨(some 30), .v (.len (.t 29)), none⟩, ⟨(some 31), .v (.bin .leq (.t 30) (.c (.int .i64 40))), none⟩, ⟨(some 2), .v (.mov (.t 31)), none⟩])
    .ret)))⟩
theorem e47 : rFunc Try.prog Try.f47 = some r47 := by kernel_rfl
def r124 : RFunc := ⟨50, [.t 6],
 (.seq
  (.reg [⟨(some 6), .v (.mov (.c (.int .i64 0))), none⟩])
  (.seq
   (.reg [⟨(some 11), .v (.mov (.t 0)), none⟩, ⟨(some 12), .v (.bin .mul (.c (.int .i64 31)) (.t 11)), none⟩, ⟨(some 13), .v (.mov (.t 1)), none⟩, ⟨(some 14), .v (.bin .mul (.c (.int .i64 977)) (.t 13)), none⟩, ⟨(some 15), .v (.bin .add (.t 12) (.t 14)), none⟩, ⟨(some 16), .v (.bin .add (.t 15) (.c (.int .i64 7))), none⟩, ⟨(some 17), .v (.bin .rem (.t 16) (.c (.int .i64 65521))), none⟩, ⟨(some 7), .v (.mov (.t 17)), none⟩])
   (.seq
    (.seq
     (.reg [⟨(some 8), .v (.mov (.c (.int .i64 0))), none⟩])
     (.block 0
      (.loop
       (.seq
        (.seq
         (.reg [⟨(some 18), .v (.mov (.t 8)), none⟩, ⟨(some 19), .v (.mov (.t 2)), none⟩, ⟨(some 20), .v (.lens (.t 19)), none⟩, ⟨(some 21), .v (.bin .lss (.t 18) (.t 20)), none⟩])
         (.cond (.t 21)
          .skip
          (.exit 0)))
        (.seq
         (.block 1
          (.reg [⟨(some 24), .v (.mov (.t 7)), none⟩, ⟨(some 25), .v (.bin .mul (.c (.int .i64 263)) (.t 24)), none⟩, ⟨(some 26), .v (.mov (.t 2)), none⟩, ⟨(some 27), .v (.mov (.t 8)), none⟩, ⟨(some 28), .v (.sidx (.t 26) (.t 27)), none⟩, ⟨(some 29), .v (.conv .i64 (.t 28)), none⟩, ⟨(some 30), .v (.bin .add (.t 25) (.t 29)), none⟩, ⟨(some 31), .v (.bin .rem (.t 30) (.c (.int .i64 65521))), none⟩, ⟨(some 7), .v (.mov (.t 31)), none⟩]))
         (.reg [⟨(some 22), .v (.mov (.t 8)), none⟩, ⟨(some 23), .v (.bin .add (.t 22) (.c (.int .i64 1))), none⟩, ⟨(some 8), .v (.mov (.t 23)), none⟩]))))))
    (.seq
     (.reg [⟨(some 32), .v (.mov (.t 7)), none⟩, ⟨(some 33), .v (.mov (.t 7)), none⟩, ⟨(some 34), .v (.bin .mul (.t 32) (.t 33)), none⟩, ⟨(some 35), .v (.bin .rem (.t 34) (.c (.int .i64 65521))), none⟩, ⟨(some 9), .v (.mov (.t 35)), none⟩])
     (.seq
      (.reg [⟨(some 36), .v (.mov (.t 9)), none⟩, ⟨(some 37), .v (.mov (.t 9)), none⟩, ⟨(some 38), .v (.bin .mul (.t 36) (.t 37)), none⟩, ⟨(some 39), .v (.bin .rem (.t 38) (.c (.int .i64 65521))), none⟩, ⟨(some 40), .v (.mov (.t 7)), none⟩, ⟨(some 41), .v (.bin .mul (.t 39) (.t 40)), none⟩, ⟨(some 42), .v (.bin .rem (.t 41) (.c (.int .i64 65521))), none⟩, ⟨(some 10), .v (.mov (.t 42)), none⟩])
      (.seq
       (.reg [⟨(some 43), .v (.mov (.t 10)), none⟩, ⟨(some 44), .v (.mov (.t 10)), none⟩, ⟨(some 45), .v (.bin .mul (.t 43) (.t 44)), none⟩, ⟨(some 46), .v (.bin .rem (.t 45) (.c (.int .i64 65521))), none⟩, ⟨(some 47), .v (.mov (.t 7)), none⟩, ⟨(some 48), .v (.bin .mul (.t 46) (.t 47)), none⟩, ⟨(some 49), .v (.bin .rem (.t 48) (.c (.int .i64 65521))), none⟩, ⟨(some 6), .v (.mov (.t 49)), none⟩])
       .ret))))))⟩
theorem e124 : rFunc Try.prog Try.f124 = some r124 := by kernel_rfl
def r89 : RFunc := ⟨16, [.t 8],
 (.seq
  (.reg [⟨(some 8), .v (.mov (.c (.int .i64 0))), none⟩])
  (.seq
   (.reg [⟨(some 9), .v (.mov (.t 0)), none⟩, ⟨(some 10), .v (.mov (.t 1)), none⟩, ⟨(some 11), .v (.mov (.t 2)), none⟩, ⟨(some 12), .call 124 [(.t 9), (.t 10), (.t 11)], none⟩, ⟨(some 13), .v (.mov (.t 3)), none⟩, ⟨(some 14), .v (.bin .mul (.t 12) (.t 13)), none⟩, ⟨(some 15), .v (.bin .quo (.t 14) (.c (.int .i64 65521))), none⟩, ⟨(some 8), .v (.mov (.t 15)), none⟩])
   .ret))⟩
theorem e89 : rFunc Try.prog Try.f89 = some r89 := by kernel_rfl
def r49 : RFunc := ⟨39, [.t 6],
 (.seq
  (.reg [⟨(some 6), .v (.mov (.c .nils)), none⟩])
  (.seq
   (.reg [⟨(some 7), .v (.mov (.c .nils)), none⟩])
   (.seq
    (.seq
     (.reg [⟨(some 8), .v (.mov (.c (.int .i64 0))), none⟩])
     (.block 0
      (.loop
       (.seq
        (.seq
         (.reg [⟨(some 12), .v (.mov (.t 8)), none⟩, ⟨(some 13), .v (.mov (.t 2)), none⟩, ⟨(some 14), .v (.bin .lss (.t 12) (.t 13)), none⟩])
         (.cond (.t 14)
          .skip
          (.exit 0)))
        (.seq
         (.block 1
          (.seq
           (.reg [⟨(some 9), .v (.mov (.c .nils)), none⟩])
           (.seq
            (.seq
             (.reg [⟨(some 17), .v (.mov (.t 1)), none⟩, ⟨(some 18), .v (.len (.t 17)), none⟩, ⟨(some 19), .v (.mov (.c (.int .i64 0))), none⟩])
             (.block 2
              (.loop
               (.seq
                (.reg [⟨(some 20), .v (.bin .lss (.t 19) (.t 18)), none⟩])
                (.seq
                 (.cond (.t 20)
                  .skip
                  (.exit 2))
                 (.seq
                  (.block 3
                   (.seq
                    (.reg [⟨(some 21), .v (.iaddr 1 (.t 17) (.t 19)), none⟩, ⟨(some 22), .v (.load false 1 (.t 21)), none⟩, ⟨(some 11), .v (.mov (.t 22)), none⟩])
                    (.seq
                     (.reg [⟨(some 23), .v (.mov (.t 0)), none⟩, ⟨(some 24), .v (.mov (.t 11)), none⟩, ⟨(some 25), .v (.mov (.t 2)), none⟩, ⟨(some 26), .call 89 [(.t 23), (.c (.int .i64 9)), (.t 24), (.t 25)], none⟩, ⟨(some 27), .v (.mov (.t 8)), none⟩, ⟨(some 28), .v (.bin .eql (.t 26) (.t 27)), none⟩])
                     (.cond (.t 28)
                      (.reg [⟨(some 29), .v (.mov (.t 9)), none⟩, ⟨(some 30), .v (.mov (.t 11)), none⟩, ⟨(some 31), .m (.bsl 1 1 [(.str [])] [(0, 1, (.t 30))]), none⟩, ⟨(some 32), .m (.app false 1 16 (.t 29) (.t 31)), none⟩, ⟨(some 9), .v (.mov (.t 32)), none⟩])
                      .skip))))
                  (.reg [⟨(some 33), .v (.bin .add (.t 19) (.c (.int .i64 1))), none⟩, ⟨(some 19), .v (.mov (.t 33)), none⟩])))))))
            (.reg [⟨(some 34), .v (.mov (.t 7)), none⟩, ⟨(some 35), .v (.mov (.t 9)), none⟩, ⟨(some 36), .m (.bsl 1 1 [.nils] [(0, 1, (.t 35))]), none⟩, ⟨(some 37), .m (.app false 1 24 (.t 34) (.t 36)), none⟩, ⟨(some 7), .v (.mov (.t 37)), none⟩]))))
         (.reg [⟨(some 15), .v (.mov (.t 8)), none⟩, ⟨(some 16), .v (.bin .add (.t 15) (.c (.int .i64 1))), none⟩, ⟨(some 8), .v (.mov (.t 16)), none⟩]))))))
    (.seq
     (.reg [⟨(some 38), .v (.mov (.t 7)), none⟩, ⟨(some 6), .v (.mov (.t 38)), none⟩])
     .ret))))⟩
theorem e49 : rFunc Try.prog Try.f49 = some r49 := by kernel_rfl
def r127 : RFunc := ⟨26, [.t 6],
 (.seq
  (.reg [⟨(some 6), .v (.mov (.c .nils)), none⟩])
  (.seq
   (.reg [⟨(some 7), .v (.mov (.c .nils)), none⟩])
   (.seq
    (.seq
     (.reg [⟨(some 8), .v (.mov (.c (.int .i64 0))), none⟩])
     (.block 0
      (.loop
       (.seq
        (.seq
         (.reg [⟨(some 9), .v (.mov (.t 8)), none⟩, ⟨(some 10), .v (.bin .lss (.t 9) (.c (.int .i64 3))), none⟩])
         (.cond (.t 10)
          .skip
          (.exit 0)))
        (.seq
         (.block 1
          (.reg [⟨(some 13), .v (.mov (.t 7)), none⟩, ⟨(some 14), .v (.mov (.t 0)), none⟩, ⟨(some 15), .v (.mov (.t 8)), none⟩, ⟨(some 16), .v (.mov (.t 1)), none⟩, ⟨(some 17), .v (.mov (.t 2)), none⟩, ⟨(some 18), .call 89 [(.t 14), (.t 15), (.t 16), (.t 17)], none⟩, ⟨(some 19), .v (.mov (.t 8)), none⟩, ⟨(some 20), .v (.mov (.t 2)), none⟩, ⟨(some 21), .v (.bin .mul (.t 19) (.t 20)), none⟩, ⟨(some 22), .v (.bin .add (.t 18) (.t 21)), none⟩, ⟨(some 23), .m (.bsl 1 1 [(.int .i64 0)] [(0, 1, (.t 22))]), none⟩, ⟨(some 24), .m (.app false 1 8 (.t 13) (.t 23)), none⟩, ⟨(some 7), .v (.mov (.t 24)), none⟩]))
         (.reg [⟨(some 11), .v (.mov (.t 8)), none⟩, ⟨(some 12), .v (.bin .add (.t 11) (.c (.int .i64 1))), none⟩, ⟨(some 8), .v (.mov (.t 12)), none⟩]))))))
    (.seq
     (.reg [⟨(some 25), .v (.mov (.t 7)), none⟩, ⟨(some 6), .v (.mov (.t 25)), none⟩])
     .ret))))⟩
theorem e127 : rFunc Try.prog Try.f127 = some r127 := by kernel_rfl
def r108 : RFunc := ⟨22, [.t 4],
 (.seq
  (.reg [⟨(some 4), .v (.mov (.c (.int .i64 0))), none⟩])
  (.seq
   (.reg [⟨(some 5), .v (.mov (.c (.int .i64 0))), none⟩])
   (.seq
    (.seq
     (.reg [⟨(some 8), .v (.mov (.t 1)), none⟩, ⟨(some 9), .v (.len (.t 8)), none⟩, ⟨(some 10), .v (.mov (.c (.int .i64 0))), none⟩])
     (.block 0
      (.loop
       (.seq
        (.reg [⟨(some 11), .v (.bin .lss (.t 10) (.t 9)), none⟩])
        (.seq
         (.cond (.t 11)
          .skip
          (.exit 0))
         (.seq
          (.block 1
           (.seq
            (.reg [⟨(some 12), .v (.iaddr 1 (.t 8) (.t 10)), none⟩, ⟨(some 13), .v (.load false 1 (.t 12)), none⟩, ⟨(some 7), .v (.mov (.t 13)), none⟩])
            (.reg [⟨(some 14), .v (.mov (.t 5)), none⟩, ⟨(some 15), .v (.mov (.t 0)), none⟩, ⟨(some 16), .v (.mov (.t 7)), none⟩, ⟨(some 17), .v (.iaddr 1 (.t 15) (.t 16)), none⟩, ⟨(some 18), .v (.load false 1 (.t 17)), none⟩, ⟨(some 19), .v (.bin .add (.t 14) (.t 18)), none⟩, ⟨(some 5), .v (.mov (.t 19)), none⟩])))
          (.reg [⟨(some 20), .v (.bin .add (.t 10) (.c (.int .i64 1))), none⟩, ⟨(some 10), .v (.mov (.t 20)), none⟩])))))))
    (.seq
     (.reg [⟨(some 21), .v (.mov (.t 5)), none⟩, ⟨(some 4), .v (.mov (.t 21)), none⟩])
     .ret))))⟩
theorem e108 : rFunc Try.prog Try.f108 = some r108 := by kernel_rfl
def r98 : RFunc := ⟨20, [.t 4],
 (.seq
  (.reg [⟨(some 2), .m (.box (.t 0)), none⟩, ⟨(some 4), .v (.mov (.c (.int .i64 0))), none⟩])
  (.seq
   (.reg [⟨(some 6), .v (.faddr 0 (.t 2)), none⟩, ⟨(some 7), .v (.load false 1 (.t 6)), none⟩, ⟨(some 8), .v (.mov (.t 1)), none⟩, ⟨(some 9), .v (.faddr 1 (.t 2)), none⟩, ⟨(some 10), .v (.load false 1 (.t 9)), none⟩, ⟨(some 11), .call 127 [(.t 7), (.t 8), (.t 10)], none⟩, ⟨(some 5), .v (.mov (.t 11)), none⟩])
   (.seq
    (.reg [⟨(some 12), .v (.mov (.t 5)), none⟩, ⟨(some 13), .v (.faddr 2 (.t 2)), none⟩, ⟨(some 14), .v (.load false 1 (.t 13)), none⟩, ⟨(some 15), .v (.mov (.t 5)), none⟩, ⟨(some 16), .call 108 [(.t 14), (.t 15)], none⟩, ⟨(some 17), .v (.bin .rem (.t 16) (.c (.int .i64 3))), none⟩, ⟨(some 18), .v (.iaddr 1 (.t 12) (.t 17)), none⟩, ⟨(some 19), .v (.load false 1 (.t 18)), none⟩, ⟨(some 4), .v (.mov (.t 19)), none⟩])
    .ret)))⟩
theorem e98 : rFunc Try.prog Try.f98 = some r98 := by kernel_rfl
def r101 : RFunc := ⟨17, [.t 4],
 (.seq
  (.reg [⟨(some 4), .v (.mov (.c (.bool false))), none⟩])
  (.seq
   (.seq
    (.reg [⟨(some 7), .v (.mov (.t 0)), none⟩, ⟨(some 8), .v (.len (.t 7)), none⟩, ⟨(some 9), .v (.mov (.c (.int .i64 0))), none⟩])
    (.block 0
     (.loop
      (.seq
       (.reg [⟨(some 10), .v (.bin .lss (.t 9) (.t 8)), none⟩])
       (.seq
        (.cond (.t 10)
         .skip
         (.exit 0))
        (.seq
         (.block 1
          (.seq
           (.reg [⟨(some 11), .v (.iaddr 1 (.t 7) (.t 9)), none⟩, ⟨(some 12), .v (.load false 1 (.t 11)), none⟩, ⟨(some 6), .v (.mov (.t 12)), none⟩])
           (.seq
            (.reg [⟨(some 13), .v (.mov (.t 6)), none⟩, ⟨(some 14), .v (.mov (.t 1)), none⟩, ⟨(some 15), .v (.bin .eql (.t 13) (.t 14)), none⟩])
            (.cond (.t 15)
             (.seq
              (.reg [⟨(some 4), .v (.mov (.c (.bool true))), none⟩])
              .ret)
             .skip))))
         (.reg [⟨(some 16), .v (.bin .add (.t 9) (.c (.int .i64 1))), none⟩, ⟨(some 9), .v (.mov (.t 16)), none⟩])))))))
   (.seq
    (.reg [⟨(some 4), .v (.mov (.c (.bool false))), none⟩])
    .ret)))⟩
theorem e101 : rFunc Try.prog Try.f101 = some r101 := by kernel_rfl
def r71 : RFunc := ⟨42, [.t 4],
 (.seq
  (.reg [⟨(some 2), .m (.box (.t 0)), none⟩, ⟨(some 4), .v (.mov (.c (.bool false))), none⟩])
  (.seq
   (.reg [⟨(some 5), .v (.mov (.c .nils)), none⟩])
   (.seq
    (.seq
     (.reg [⟨(some 9), .v (.mov (.t 1)), none⟩, ⟨(some 10), .v (.len (.t 9)), none⟩, ⟨(some 11), .v (.mov (.c (.int .i64 0))), none⟩])
     (.block 0
      (.loop
       (.seq
        (.reg [⟨(some 12), .v (.bin .lss (.t 11) (.t 10)), none⟩])
        (.seq
         (.cond (.t 12)
          .skip
          (.exit 0))
         (.seq
          (.block 1
           (.seq
            (.reg [⟨(some 13), .v (.iaddr 1 (.t 9) (.t 11)), none⟩, ⟨(some 14), .v (.load false 1 (.t 13)), none⟩, ⟨(some 7), .v (.mov (.t 14)), none⟩])
            (.seq
             (.reg [⟨(some 15), .v (.load true 3 (.t 2)), none⟩, ⟨(some 16), .v (.mov (.t 7)), none⟩, ⟨(some 17), .call 98 [(.t 15), (.t 16)], none⟩, ⟨(some 8), .v (.mov (.t 17)), none⟩])
             (.seq
              (.seq
               (.reg [⟨(some 18), .v (.faddr 2 (.t 2)), none⟩, ⟨(some 19), .v (.load false 1 (.t 18)), none⟩, ⟨(some 20), .v (.mov (.t 8)), none⟩, ⟨(some 21), .v (.iaddr 1 (.t 19) (.t 20)), none⟩, ⟨(some 22), .v (.load false 1 (.t 21)), none⟩, ⟨(some 23), .v (.bin .eql (.t 22) (.c (.int .i64 3))), none⟩, ⟨(some 24), .v (.mov (.t 23)), none⟩, ⟨(some 25), .v (.mov (.t 5)), (some (24, false))⟩, ⟨(some 26), .v (.mov (.t 8)), (some (24, false))⟩, ⟨(some 27), .call 101 [(.t 25), (.t 26)], (some (24, false))⟩, ⟨(some 28), .v (.pick (.t 24) (.c (.bool true)) (.t 27)), none⟩])
               (.cond (.t 28)
                (.seq
                 (.reg [⟨(some 4), .v (.mov (.c (.bool false))), none⟩])
                 .ret)
                .skip))
              (.reg [⟨(some 29), .v (.mov (.t 5)), none⟩, ⟨(some 30), .v (.mov (.t 8)), none⟩, ⟨(some 31), .m (.bsl 1 1 [(.int .i64 0)] [(0, 1, (.t 30))]), none⟩, ⟨(some 32), .m (.app false 1 8 (.t 29) (.t 31)), none⟩, ⟨(some 5), .v (.mov (.t 32)), none⟩])))))
          (.reg [⟨(some 33), .v (.bin .add (.t 11) (.c (.int .i64 1))), none⟩, ⟨(some 11), .v (.mov (.t 33)), none⟩])))))))
    (.seq
     (.reg [⟨(some 34), .v (.load true 3 (.t 2)), none⟩, ⟨(some 35), .v (.faddr 2 (.t 2)), none⟩, ⟨(some 36), .v (.load false 1 (.t 35)), none⟩, ⟨(some 37), .v (.len (.t 36)), none⟩, ⟨(some 38), .call 99 [(.t 34), (.t 37)], none⟩, ⟨(some 39), .v (.mov (.t 1)), none⟩, ⟨(some 40), .v (.len (.t 39)), none⟩, ⟨(some 41), .v (.bin .eql (.t 38) (.t 40)), none⟩, ⟨(some 4), .v (.mov (.t 41)), none⟩])
     .ret))))⟩
theorem e71 : rFunc Try.prog Try.f71 = some r71 := by kernel_rfl
def r29 : RFunc := ⟨38, [.t 4, .t 5],
 (.seq
  (.reg [⟨(some 2), .m (.box (.t 0)), none⟩, ⟨(some 4), .v (.mov (.c (.bool false))), none⟩, ⟨(some 5), .v (.mov (.c (.bool false))), none⟩])
  (.seq
   (.seq
    (.reg [⟨(some 8), .v (.load true 3 (.t 2)), none⟩, ⟨(some 9), .call 58 [(.t 8)], none⟩, ⟨(some 10), .v (.un .not (.t 9)), none⟩, ⟨(some 11), .v (.mov (.t 10)), none⟩, ⟨(some 12), .v (.mov (.t 1)), (some (11, false))⟩, ⟨(some 13), .call 47 [(.t 12)], (some (11, false))⟩, ⟨(some 14), .v (.un .not (.t 13)), (some (11, false))⟩, ⟨(some 15), .v (.pick (.t 11) (.c (.bool true)) (.t 14)), none⟩])
    (.cond (.t 15)
     (.seq
      (.reg [⟨(some 4), .v (.mov (.c (.bool false))), none⟩, ⟨(some 5), .v (.mov (.c (.bool false))), none⟩])
      .ret)
     .skip))
   (.seq
    (.seq
     (.reg [⟨(some 16), .v (.faddr 0 (.t 2)), none⟩, ⟨(some 17), .v (.load false 1 (.t 16)), none⟩, ⟨(some 18), .v (.mov (.t 1)), none⟩, ⟨(some 19), .v (.faddr 1 (.t 2)), none⟩, ⟨(some 20), .v (.load false 1 (.t 19)), none⟩, ⟨(some 21), .v (.len (.t 20)), none⟩, ⟨(some 22), .call 49 [(.t 17), (.t 18), (.t 21)], none⟩, ⟨(some 23), .v (.len (.t 22)), none⟩, ⟨(some 24), .v (.mov (.c (.int .i64 0))), none⟩])
     (.block 0
      (.loop
       (.seq
        (.reg [⟨(some 25), .v (.bin .lss (.t 24) (.t 23)), none⟩])
        (.seq
         (.cond (.t 25)
          .skip
          (.exit 0))
         (.seq
          (.block 1
           (.seq
            (.reg [⟨(some 26), .v (.mov (.t 24)), none⟩, ⟨(some 27), .v (.iaddr 1 (.t 22) (.t 24)), none⟩, ⟨(some 28), .v (.load false 1 (.t 27)), none⟩, ⟨(some 6), .v (.mov (.t 26)), none⟩, ⟨(some 7), .v (.mov (.t 28)), none⟩])
            (.seq
             (.reg [⟨(some 29), .v (.faddr 1 (.t 2)), none⟩, ⟨(some 30), .v (.load false 1 (.t 29)), none⟩, ⟨(some 31), .v (.mov (.t 6)), none⟩, ⟨(some 32), .v (.iaddr 3 (.t 30) (.t 31)), none⟩, ⟨(some 33), .v (.load true 3 (.t 32)), none⟩, ⟨(some 34), .v (.mov (.t 7)), none⟩, ⟨(some 35), .call 71 [(.t 33), (.t 34)], none⟩, ⟨(some 36), .v (.un .not (.t 35)), none⟩])
             (.cond (.t 36)
              (.seq
               (.reg [⟨(some 4), .v (.mov (.c (.bool false))), none⟩, ⟨(some 5), .v (.mov (.c (.bool true))), none⟩])
               .ret)
              .skip))))
          (.reg [⟨(some 37), .v (.bin .add (.t 24) (.c (.int .i64 1))), none⟩, ⟨(some 24), .v (.mov (.t 37)), none⟩])))))))
    (.seq
     (.reg [⟨(some 4), .v (.mov (.c (.bool true))), none⟩, ⟨(some 5), .v (.mov (.c (.bool true))), none⟩])
     .ret))))⟩
theorem e29 : rFunc Try.prog Try.f29 = some r29 := by kernel_rfl
def r52 : RFunc := ⟨15, [.t 6],
 (.seq
  (.reg [⟨(some 6), .v (.mov (.c (.bool false))), none⟩])
  (.seq
   (.reg [⟨(some 7), .v (.mov (.t 0)), none⟩, ⟨(some 8), .v (.mov (.t 1)), none⟩, ⟨(some 9), .v (.bin .geq (.t 7) (.t 8)), none⟩, ⟨(some 10), .v (.mov (.t 9)), none⟩, ⟨(some 11), .v (.mov (.t 0)), (some (10, true))⟩, ⟨(some 12), .v (.mov (.t 2)), (some (10, true))⟩, ⟨(some 13), .v (.bin .leq (.t 11) (.t 12)), (some (10, true))⟩, ⟨(some 14), .v (.pick (.t 10) (.t 13) (.c (.bool false))), none⟩, ⟨(some 6), .v (.mov (.t 14)), none⟩])
   .ret))⟩
theorem e52 : rFunc Try.prog Try.f52 = some r52 := by kernel_rfl
def r50 : RFunc := ⟨5, [.t 2],
 (.seq
  (.reg [⟨(some 2), .v (.mov (.c (.bool false))), none⟩])
  (.seq
   (.reg [⟨(some 3), .v (.mov (.t 0)), none⟩, ⟨(some 4), .call 52 [(.t 3), (.c (.int .i64 0)), (.c (.int .i64 9999))], none⟩, ⟨(some 2), .v (.mov (.t 4)), none⟩])
   .ret))⟩
theorem e50 : rFunc Try.prog Try.f50 = some r50 := by kernel_rfl
def r126 : RFunc := ⟨19, [.t 4],
 (.seq
  (.reg [⟨(some 4), .v (.mov (.c (.int .i64 0))), none⟩])
  (.seq
   (.seq
    (.reg [⟨(some 6), .v (.mov (.t 0)), none⟩, ⟨(some 7), .v (.len (.t 6)), none⟩, ⟨(some 8), .v (.mov (.c (.int .i64 0))), none⟩])
    (.block 0
     (.loop
      (.seq
       (.reg [⟨(some 9), .v (.bin .lss (.t 8) (.t 7)), none⟩])
       (.seq
        (.cond (.t 9)
         .skip
         (.exit 0))
        (.seq
         (.block 1
          (.seq
           (.reg [⟨(some 10), .v (.mov (.t 8)), none⟩, ⟨(some 5), .v (.mov (.t 10)), none⟩])
           (.seq
            (.reg [⟨(some 11), .v (.mov (.t 1)), none⟩, ⟨(some 12), .v (.mov (.t 0)), none⟩, ⟨(some 13), .v (.mov (.t 5)), none⟩, ⟨(some 14), .v (.iaddr 1 (.t 12) (.t 13)), none⟩, ⟨(some 15), .v (.load false 1 (.t 14)), none⟩, ⟨(some 16), .callv (.t 11) [(.t 15)], none⟩])
            (.cond (.t 16)
             (.seq
              (.reg [⟨(some 17), .v (.mov (.t 5)), none⟩, ⟨(some 4), .v (.mov (.t 17)), none⟩])
              .ret)
             .skip))))
         (.reg [⟨(some 18), .v (.bin .add (.t 8) (.c (.int .i64 1))), none⟩, ⟨(some 8), .v (.mov (.t 18)), none⟩])))))))
   (.seq
    (.reg [⟨(some 4), .v (.mov (.c (.int .i64 (-1)))), none⟩])
    .ret)))⟩
theorem e126 : rFunc Try.prog Try.f126 = some r126 := by kernel_rfl
def r94 : RFunc := ⟨9, [.t 4],
 (.seq
  (.reg [⟨(some 4), .v (.mov (.c (.bool false))), none⟩])
  (.seq
   (.reg [⟨(some 5), .v (.mov (.t 0)), none⟩, ⟨(some 6), .v (.mov (.t 1)), none⟩, ⟨(some 7), .call 126 [(.t 5), (.t 6)], none⟩, ⟨(some 8), .v (.bin .geq (.t 7) (.c (.int .i64 0))), none⟩, ⟨(some 4), .v (.mov (.t 8)), none⟩])
   .ret))⟩
theorem e94 : rFunc Try.prog Try.f94 = some r94 := by kernel_rfl
def r88 : RFunc := ⟨5, [.t 2],
 (.seq
  (.reg [⟨(some 2), .v (.mov (.c (.bool false))), none⟩])
  (.seq
   (.reg [⟨(some 3), .v (.mov (.t 0)), none⟩, ⟨(some 4), .call 52 [(.t 3), (.c (.int .i64 1)), (.c (.int .i64 24))], none⟩, ⟨(some 2), .v (.mov (.t 4)), none⟩])
   .ret))⟩
theorem e88 : rFunc Try.prog Try.f88 = some r88 := by kernel_rfl
def r95 : RFunc := ⟨6, [.t 2],
 (.seq
  (.reg [⟨(some 2), .v (.mov (.c (.bool false))), none⟩])
  (.seq
   (.reg [⟨(some 3), .v (.mov (.t 0)), none⟩, ⟨(some 4), .call 52 [(.t 3), (.c (.int .i64 0)), (.c (.int .i64 3))], none⟩, ⟨(some 5), .v (.un .not (.t 4)), none⟩, ⟨(some 2), .v (.mov (.t 5)), none⟩])
   .ret))⟩
theorem e95 : rFunc Try.prog Try.f95 = some r95 := by kernel_rfl
def r61 : RFunc := ⟨28, [.t 2],
 (.seq
  (.reg [⟨(some 1), .m (.box (.t 0)), none⟩, ⟨(some 2), .v (.mov (.c (.bool false))), none⟩])
  (.seq
   (.reg [⟨(some 4), .v (.faddr 2 (.t 1)), none⟩, ⟨(some 5), .v (.load false 1 (.t 4)), none⟩, ⟨(some 6), .call 94 [(.t 5), (.c (.fn 95 []))], none⟩, ⟨(some 3), .v (.mov (.t 6)), none⟩])
   (.seq
    (.reg [⟨(some 7), .v (.mov (.t 3)), none⟩, ⟨(some 8), .v (.un .not (.t 7)), none⟩, ⟨(some 9), .v (.mov (.t 8)), none⟩, ⟨(some 10), .v (.faddr 0 (.t 1)), (some (9, true))⟩, ⟨(some 11), .v (.load false 1 (.t 10)), (some (9, true))⟩, ⟨(some 12), .call 50 [(.t 11)], (some (9, true))⟩, ⟨(some 13), .v (.pick (.t 9) (.t 12) (.c (.bool false))), none⟩, ⟨(some 14), .v (.mov (.t 13)), none⟩, ⟨(some 15), .v (.faddr 1 (.t 1)), (some (14, true))⟩, ⟨(some 16), .v (.load false 1 (.t 15)), (some (14, true))⟩, ⟨(some 17), .call 88 [(.t 16)], (some (14, true))⟩, ⟨(some 18), .v (.pick (.t 14) (.t 17) (.c (.bool false))), none⟩, ⟨(some 19), .v (.mov (.t 18)), none⟩, ⟨(some 20), .v (.faddr 2 (.t 1)), (some (19, true))⟩, ⟨(some 21), .v (.load false 1 (.t 20)), (some (19, true))⟩, ⟨(some 22), .v (.len (.t 21)), (some (19, true))⟩, ⟨(some 23), .v (.faddr 1 (.t 1)), (some (19, true))⟩, ⟨(some 24), .v (.load false 1 (.t 23)), (some (19, true))⟩, ⟨(some 25), .v (.bin .mul (.c (.int .i64 3)) (.t 24)), (some (19, true))⟩, ⟨(some 26), .v (.bin .eql (.t 22) (.t 25)), (some (19, true))⟩, ⟨(some 27), .v (.pick (.t 19) (.t 26) (.c (.bool false))), none⟩, ⟨(some 2), .v (.mov (.t 27)), none⟩])
    .ret)))⟩
theorem e61 : rFunc Try.prog Try.f61 = some r61 := by kernel_rfl
def r62 : RFunc := ⟨25, [.t 4],
 (.seq
  (.reg [⟨(some 4), .v (.mov (.c (.int .i64 0))), none⟩])
  (.seq
   (.reg [⟨(some 5), .v (.mov (.c (.int .i64 0))), none⟩])
   (.seq
    (.seq
     (.reg [⟨(some 8), .v (.mov (.t 0)), none⟩, ⟨(some 9), .v (.nchk (.t 8)), none⟩, ⟨(some 10), .v (.faddr 2 (.t 9)), none⟩, ⟨(some 11), .v (.load false 1 (.t 10)), none⟩, ⟨(some 12), .v (.mov (.t 1)), none⟩, ⟨(some 13), .v (.slc 1 (.t 11) none (some (.t 12))), none⟩, ⟨(some 14), .v (.len (.t 13)), none⟩, ⟨(some 15), .v (.mov (.c (.int .i64 0))), none⟩])
     (.block 0
      (.loop
       (.seq
        (.reg [⟨(some 16), .v (.bin .lss (.t 15) (.t 14)), none⟩])
        (.seq
         (.cond (.t 16)
          .skip
          (.exit 0))
         (.seq
          (.block 1
           (.seq
            (.reg [⟨(some 17), .v (.iaddr 1 (.t 13) (.t 15)), none⟩, ⟨(some 18), .v (.load false 1 (.t 17)), none⟩, ⟨(some 7), .v (.mov (.t 18)), none⟩])
            (.seq
             (.reg [⟨(some 19), .v (.mov (.t 7)), none⟩, ⟨(some 20), .v (.bin .neq (.t 19) (.c (.int .i64 3))), none⟩])
             (.cond (.t 20)
              (.reg [⟨(some 21), .v (.mov (.t 5)), none⟩, ⟨(some 22), .v (.bin .add (.t 21) (.c (.int .i64 1))), none⟩, ⟨(some 5), .v (.mov (.t 22)), none⟩])
              .skip))))
          (.reg [⟨(some 23), .v (.bin .add (.t 15) (.c (.int .i64 1))), none⟩, ⟨(some 15), .v (.mov (.t 23)), none⟩])))))))
    (.seq
     (.reg [⟨(some 24), .v (.mov (.t 5)), none⟩, ⟨(some 4), .v (.mov (.t 24)), none⟩])
     .ret))))⟩
theorem e62 : rFunc Try.prog Try.f62 = some r62 := by kernel_rfl
def r23 : RFunc := ⟨53, [.t 2],
 (.seq
  (.reg [⟨(some 1), .m (.box (.t 0)), none⟩, ⟨(some 2), .v (.mov (.c (.bool false))), none⟩])
  (.seq
   (.seq
    (.reg [⟨(some 6), .v (.faddr 0 (.t 1)), none⟩, ⟨(some 7), .v (.load false 1 (.t 6)), none⟩, ⟨(some 8), .call 50 [(.t 7)], none⟩, ⟨(some 9), .v (.un .not (.t 8)), none⟩, ⟨(some 10), .v (.mov (.t 9)), none⟩, ⟨(some 11), .v (.faddr 1 (.t 1)), (some (10, false))⟩, ⟨(some 12), .v (.load false 1 (.t 11)), (some (10, false))⟩, ⟨(some 13), .v (.len (.t 12)), (some (10, false))⟩, ⟨(some 14), .call 52 [(.t 13), (.c (.int .i64 1)), (.c (.int .i64 8))], (some (10, false))⟩, ⟨(some 15), .v (.un .not (.t 14)), (some (10, false))⟩, ⟨(some 16), .v (.pick (.t 10) (.c (.bool true)) (.t 15)), none⟩, ⟨(some 17), .v (.mov (.t 16)), none⟩, ⟨(some 18), .v (.faddr 2 (.t 1)), (some (17, false))⟩, ⟨(some 19), .v (.load false 1 (.t 18)), (some (17, false))⟩, ⟨(some 20), .v (.len (.t 19)), (some (17, false))⟩, ⟨(some 21), .v (.faddr 1 (.t 1)), (some (17, false))⟩, ⟨(some 22), .v (.load false 1 (.t 21)), (some (17, false))⟩, ⟨(some 23), .v (.len (.t 22)), (some (17, false))⟩, ⟨(some 24), .v (.bin .neq (.t 20) (.t 23)), (some (17, false))⟩, ⟨(some 25), .v (.pick (.t 17) (.c (.bool true)) (.t 24)), none⟩])
    (.cond (.t 25)
     (.seq
      (.reg [⟨(some 2), .v (.mov (.c (.bool false))), none⟩])
      .ret)
     .skip))
   (.seq
    (.reg [⟨(some 3), .v (.mov (.c (.int .i64 0))), none⟩])
    (.seq
     (.seq
      (.reg [⟨(some 26), .v (.faddr 1 (.t 1)), none⟩, ⟨(some 27), .v (.load false 1 (.t 26)), none⟩, ⟨(some 28), .v (.len (.t 27)), none⟩, ⟨(some 29), .v (.mov (.c (.int .i64 0))), none⟩])
      (.block 0
       (.loop
        (.seq
         (.reg [⟨(some 30), .v (.bin .lss (.t 29) (.t 28)), none⟩])
         (.seq
          (.cond (.t 30)
           .skip
           (.exit 0))
          (.seq
           (.block 1
            (.seq
             (.reg [⟨(some 31), .v (.mov (.t 29)), none⟩, ⟨(some 32), .v (.iaddr 3 (.t 27) (.t 29)), none⟩, ⟨(some 33), .v (.load true 3 (.t 32)), none⟩, ⟨(some 5), .m (.alloc [(.int .i64 0), (.int .i64 0), .nils]), none⟩, ⟨(some 4), .v (.mov (.t 31)), none⟩, ⟨none, .m (.store 3 (.t 5) (.t 33)), none⟩])
             (.seq
              (.seq
               (.reg [⟨(some 34), .v (.load true 3 (.t 5)), none⟩, ⟨(some 35), .call 61 [(.t 34)], none⟩, ⟨(some 36), .v (.un .not (.t 35)), none⟩, ⟨(some 37), .v (.mov (.t 36)), none⟩, ⟨(some 38), .v (.faddr 2 (.t 1)), (some (37, false))⟩, ⟨(some 39), .v (.load false 1 (.t 38)), (some (37, false))⟩, ⟨(some 40), .v (.mov (.t 4)), (some (37, false))⟩, ⟨(some 41), .v (.iaddr 1 (.t 39) (.t 40)), (some (37, false))⟩, ⟨(some 42), .v (.load false 1 (.t 41)), (some (37, false))⟩, ⟨(some 43), .v (.mov (.t 3)), (some (37, false))⟩, ⟨(some 44), .v (.bin .neq (.t 42) (.t 43)), (some (37, false))⟩, ⟨(some 45), .v (.pick (.t 37) (.c (.bool true)) (.t 44)), none⟩])
               (.cond (.t 45)
                (.seq
                 (.reg [⟨(some 2), .v (.mov (.c (.bool false))), none⟩])
                 .ret)
                .skip))
              (.reg [⟨(some 46), .v (.mov (.t 3)), none⟩, ⟨(some 47), .v (.faddr 2 (.t 5)), none⟩, ⟨(some 48), .v (.load false 1 (.t 47)), none⟩, ⟨(some 49), .v (.len (.t 48)), none⟩, ⟨(some 50), .call 62 [(.t 5), (.t 49)], none⟩, ⟨(some 51), .v (.bin .add (.t 46) (.t 50)), none⟩, ⟨(some 3), .v (.mov (.t 51)), none⟩]))))
           (.reg [⟨(some 52), .v (.bin .add (.t 29) (.c (.int .i64 1))), none⟩, ⟨(some 29), .v (.mov (.t 52)), none⟩])))))))
     (.seq
      (.reg [⟨(some 2), .v (.mov (.c (.bool true))), none⟩])
      .ret)))))⟩
theorem e23 : rFunc Try.prog Try.f23 = some r23 := by kernel_rfl
def r67 : RFunc := ⟨23, [.t 2],
 (.seq
  (.reg [⟨(some 2), .v (.mov (.c (.bool false))), none⟩])
  (.seq
   (.seq
    (.reg [⟨(some 4), .v (.mov (.t 0)), none⟩, ⟨(some 5), .v (.lens (.t 4)), none⟩, ⟨(some 6), .v (.mov (.c (.int .i64 0))), none⟩])
    (.block 0
     (.loop
      (.seq
       (.reg [⟨(some 7), .v (.bin .lss (.t 6) (.t 5)), none⟩])
       (.seq
        (.cond (.t 7)
         .skip
         (.exit 0))
        (.seq
         (.block 1
          (.seq
           (.reg [⟨(some 8), .v (.mov (.t 6)), none⟩, ⟨(some 3), .v (.mov (.t 8)), none⟩])
           (.seq
            (.reg [⟨(some 9), .v (.mov (.t 0)), none⟩, ⟨(some 10), .v (.mov (.t 3)), none⟩, ⟨(some 11), .v (.sidx (.t 9) (.t 10)), none⟩, ⟨(some 12), .v (.bin .lss (.t 11) (.c (.int .u8 33))), none⟩, ⟨(some 13), .v (.mov (.t 12)), none⟩, ⟨(some 14), .v (.mov (.t 0)), (some (13, false))⟩, ⟨(some 15), .v (.mov (.t 3)), (some (13, false))⟩, ⟨(some 16), .v (.sidx (.t 14) (.t 15)), (some (13, false))⟩, ⟨(some 17), .v (.bin .gtr (.t 16) (.c (.int .u8 125))), (some (13, false))⟩, ⟨(some 18), .v (.pick (.t 13) (.c (.bool true)) (.t 17)), none⟩])
            (.cond (.t 18)
             (.seq
              (.reg [⟨(some 2), .v (.mov (.c (.bool false))), none⟩])
              .ret)
             .skip))))
         (.reg [⟨(some 19), .v (.bin .add (.t 6) (.c (.int .i64 1))), none⟩, ⟨(some 6), .v (.mov (.t 19)), none⟩])))))))
   (.seq
    (.reg [⟨(some 20), .v (.mov (.t 0)), none⟩, ⟨(some 21), .v (.lens (.t 20)), none⟩, ⟨(some 22), .call 52 [(.t 21), (.c (.int .i64 1)), (.c (.int .i64 12))], none⟩, ⟨(some 2), .v (.mov (.t 22)), none⟩])
    .ret)))⟩
theorem e67 : rFunc Try.prog Try.f67 = some r67 := by kernel_rfl
def r51 : RFunc := ⟨32, [.t 2],
 (.seq
  (.reg [⟨(some 2), .v (.mov (.c (.bool false))), none⟩])
  (.seq
   (.seq
    (.reg [⟨(some 5), .v (.mov (.t 0)), none⟩, ⟨(some 6), .v (.len (.t 5)), none⟩, ⟨(some 7), .v (.mov (.c (.int .i64 0))), none⟩])
    (.block 0
     (.loop
      (.seq
       (.reg [⟨(some 8), .v (.bin .lss (.t 7) (.t 6)), none⟩])
       (.seq
        (.cond (.t 8)
         .skip
         (.exit 0))
        (.seq
         (.block 1
          (.seq
           (.reg [⟨(some 9), .v (.mov (.t 7)), none⟩, ⟨(some 10), .v (.iaddr 1 (.t 5) (.t 7)), none⟩, ⟨(some 11), .v (.load false 1 (.t 10)), none⟩, ⟨(some 3), .v (.mov (.t 9)), none⟩, ⟨(some 4), .v (.mov (.t 11)), none⟩])
           (.seq
            (.reg [⟨(some 12), .v (.mov (.t 4)), none⟩, ⟨(some 13), .call 67 [(.t 12)], none⟩, ⟨(some 14), .v (.un .not (.t 13)), none⟩, ⟨(some 15), .v (.mov (.t 14)), none⟩, ⟨(some 16), .v (.mov (.t 3)), (some (15, false))⟩, ⟨(some 17), .v (.bin .gtr (.t 16) (.c (.int .i64 0))), (some (15, false))⟩, ⟨(some 18), .v (.mov (.t 17)), (some (15, false))⟩, ⟨(some 19), .v (.mov (.t 0)), (some (18, true))⟩, ⟨(some 20), .v (.mov (.t 3)), (some (18, true))⟩, ⟨(some 21), .v (.bin .sub (.t 20) (.c (.int .i64 1))), (some (18, true))⟩, ⟨(some 22), .v (.iaddr 1 (.t 19) (.t 21)), (some (18, true))⟩, ⟨(some 23), .v (.load false 1 (.t 22)), (some (18, true))⟩, ⟨(some 24), .v (.mov (.t 4)), (some (18, true))⟩, ⟨(some 25), .v (.bin .geq (.t 23) (.t 24)), (some (18, true))⟩, ⟨(some 26), .v (.pick (.t 18) (.t 25) (.c (.bool false))), (some (15, false))⟩, ⟨(some 27), .v (.pick (.t 15) (.c (.bool true)) (.t 26)), none⟩])
            (.cond (.t 27)
             (.seq
              (.reg [⟨(some 2), .v (.mov (.c (.bool false))), none⟩])
              .ret)
             .skip))))
         (.reg [⟨(some 28), .v (.bin .add (.t 7) (.c (.int .i64 1))), none⟩, ⟨(some 7), .v (.mov (.t 28)), none⟩])))))))
   (.seq
    (.reg [⟨(some 29), .v (.mov (.t 0)), none⟩, ⟨(some 30), .v (.len (.t 29)), none⟩, ⟨(some 31), .v (.bin .leq (.t 30) (.c (.int .i64 40))), none⟩, ⟨(some 2), .v (.mov (.t 31)), none⟩])
    .ret)))⟩
theorem e51 : rFunc Try.prog Try.f51 = some r51 := by kernel_rfl
def r97 : RFunc := ⟨39, [.t 6],
 (.seq
  (.reg [⟨(some 6), .v (.mov (.c (.int .i64 0))), none⟩])
  (.seq
   (.reg [⟨(some 10), .v (.mov (.t 0)), none⟩, ⟨(some 11), .v (.bin .mul (.c (.int .i64 31)) (.t 10)), none⟩, ⟨(some 12), .v (.mov (.t 1)), none⟩, ⟨(some 13), .v (.bin .mul (.c (.int .i64 977)) (.t 12)), none⟩, ⟨(some 14), .v (.bin .add (.t 11) (.t 13)), none⟩, ⟨(some 15), .v (.bin .add (.t 14) (.c (.int .i64 7))), none⟩, ⟨(some 16), .v (.bin .rem (.t 15) (.c (.int .i64 65521))), none⟩, ⟨(some 7), .v (.mov (.t 16)), none⟩])
   (.seq
    (.seq
     (.reg [⟨(some 17), .v (.mov (.t 2)), none⟩, ⟨(some 18), .v (.lens (.t 17)), none⟩, ⟨(some 19), .v (.mov (.c (.int .i64 0))), none⟩])
     (.block 0
      (.loop
       (.seq
        (.reg [⟨(some 20), .v (.bin .lss (.t 19) (.t 18)), none⟩])
        (.seq
         (.cond (.t 20)
          .skip
          (.exit 0))
         (.seq
          (.block 1
           (.seq
            (.reg [⟨(some 21), .v (.mov (.t 19)), none⟩, ⟨(some 8), .v (.mov (.t 21)), none⟩])
            (.reg [⟨(some 22), .v (.mov (.t 7)), none⟩, ⟨(some 23), .v (.bin .mul (.c (.int .i64 263)) (.t 22)), none⟩, ⟨(some 24), .v (.mov (.t 2)), none⟩, ⟨(some 25), .v (.mov (.t 8)), none⟩, ⟨(some 26), .v (.sidx (.t 24) (.t 25)), none⟩, ⟨(some 27), .v (.conv .i64 (.t 26)), none⟩, ⟨(some 28), .v (.bin .add (.t 23) (.t 27)), none⟩, ⟨(some 29), .v (.bin .rem (.t 28) (.c (.int .i64 65521))), none⟩, ⟨(some 7), .v (.mov (.t 29)), none⟩])))
          (.reg [⟨(some 30), .v (.bin .add (.t 19) (.c (.int .i64 1))), none⟩, ⟨(some 19), .v (.mov (.t 30)), none⟩])))))))
    (.seq
     (.reg [⟨(some 9), .v (.mov (.c (.int .i64 1))), none⟩])
     (.seq
      (.seq
       (.reg [⟨(some 31), .v (.mov (.c (.int .i64 0))), none⟩])
       (.block 2
        (.loop
         (.seq
          (.reg [⟨(some 32), .v (.bin .lss (.t 31) (.c (.int .i64 11))), none⟩])
          (.seq
           (.cond (.t 32)
            .skip
            (.exit 2))
           (.seq
            (.block 3
             (.reg [⟨(some 33), .v (.mov (.t 9)), none⟩, ⟨(some 34), .v (.mov (.t 7)), none⟩, ⟨(some 35), .v (.bin .mul (.t 33) (.t 34)), none⟩, ⟨(some 36), .v (.bin .rem (.t 35) (.c (.int .i64 65521))), none⟩, ⟨(some 9), .v (.mov (.t 36)), none⟩]))
            (.reg [⟨(some 37), .v (.bin .add (.t 31) (.c (.int .i64 1))), none⟩, ⟨(some 31), .v (.mov (.t 37)), none⟩])))))))
      (.seq
       (.reg [⟨(some 38), .v (.mov (.t 9)), none⟩, ⟨(some 6), .v (.mov (.t 38)), none⟩])
       .ret))))))⟩
theorem e97 : rFunc Try.prog Try.f97 = some r97 := by kernel_rfl
def r68 : RFunc := ⟨16, [.t 8],
 (.seq
  (.reg [⟨(some 8), .v (.mov (.c (.int .i64 0))), none⟩])
  (.seq
   (.reg [⟨(some 9), .v (.mov (.t 0)), none⟩, ⟨(some 10), .v (.mov (.t 1)), none⟩, ⟨(some 11), .v (.mov (.t 2)), none⟩, ⟨(some 12), .call 97 [(.t 9), (.t 10), (.t 11)], none⟩, ⟨(some 13), .v (.mov (.t 3)), none⟩, ⟨(some 14), .v (.bin .mul (.t 12) (.t 13)), none⟩, ⟨(some 15), .v (.bin .quo (.t 14) (.c (.int .i64 65521))), none⟩, ⟨(some 8), .v (.mov (.t 15)), none⟩])
   .ret))⟩
theorem e68 : rFunc Try.prog Try.f68 = some r68 := by kernel_rfl
def r53 : RFunc := ⟨35, [.t 6],
 (.seq
  (.reg [⟨(some 6), .v (.mov (.c .nils)), none⟩])
  (.seq
   (.reg [⟨(some 11), .v (.mov (.t 2)), none⟩, ⟨(some 12), .m (.mks 1 24 [.nils] (.t 11) (.t 11)), none⟩, ⟨(some 7), .v (.mov (.t 12)), none⟩])
   (.seq
    (.seq
     (.reg [⟨(some 13), .v (.mov (.t 1)), none⟩, ⟨(some 14), .v (.len (.t 13)), none⟩, ⟨(some 15), .v (.mov (.c (.int .i64 0))), none⟩])
     (.block 0
      (.loop
       (.seq
        (.reg [⟨(some 16), .v (.bin .lss (.t 15) (.t 14)), none⟩])
        (.seq
         (.cond (.t 16)
          .skip
          (.exit 0))
         (.seq
          (.block 1
           (.seq
            (.reg [⟨(some 17), .v (.iaddr 1 (.t 13) (.t 15)), none⟩, ⟨(some 18), .v (.load false 1 (.t 17)), none⟩, ⟨(some 9), .v (.mov (.t 18)), none⟩])
            (.seq
             (.reg [⟨(some 19), .v (.mov (.t 0)), none⟩, ⟨(some 20), .v (.mov (.t 9)), none⟩, ⟨(some 21), .v (.mov (.t 2)), none⟩, ⟨(some 22), .call 68 [(.t 19), (.c (.int .i64 9)), (.t 20), (.t 21)], none⟩, ⟨(some 10), .v (.mov (.t 22)), none⟩])
             (.reg [⟨(some 23), .v (.mov (.t 7)), none⟩, ⟨(some 24), .v (.mov (.t 10)), none⟩, ⟨(some 25), .v (.mov (.t 7)), none⟩, ⟨(some 26), .v (.mov (.t 10)), none⟩, ⟨(some 27), .v (.iaddr 1 (.t 25) (.t 26)), none⟩, ⟨(some 28), .v (.load false 1 (.t 27)), none⟩, ⟨(some 29), .v (.mov (.t 9)), none⟩, ⟨(some 30), .m (.bsl 1 1 [(.str [])] [(0, 1, (.t 29))]), none⟩, ⟨(some 31), .m (.app false 1 16 (.t 28) (.t 30)), none⟩, ⟨(some 32), .v (.iaddr 1 (.t 23) (.t 24)), none⟩, ⟨none, .m (.store 1 (.t 32) (.t 31)), none⟩]))))
          (.reg [⟨(some 33), .v (.bin .add (.t 15) (.c (.int .i64 1))), none⟩, ⟨(some 15), .v (.mov (.t 33)), none⟩])))))))
    (.seq
     (.reg [⟨(some 34), .v (.mov (.t 7)), none⟩, ⟨(some 6), .v (.mov (.t 34)), none⟩])
     .ret))))⟩
theorem e53 : rFunc Try.prog Try.f53 = some r53 := by kernel_rfl
def r128 : RFunc := ⟨27, [.t 6],
 (.seq
  (.reg [⟨(some 6), .v (.mov (.c .nils)), none⟩])
  (.seq
   (.reg [⟨(some 9), .m (.bsl 1 0 [(.int .i64 0)] []), none⟩, ⟨(some 7), .v (.mov (.t 9)), none⟩])
   (.seq
    (.seq
     (.reg [⟨(some 10), .v (.mov (.c (.int .i64 0))), none⟩])
     (.block 0
      (.loop
       (.seq
        (.reg [⟨(some 11), .v (.bin .lss (.t 10) (.c (.int .i64 3))), none⟩])
        (.seq
         (.cond (.t 11)
          .skip
          (.exit 0))
         (.seq
          (.block 1
           (.seq
            (.reg [⟨(some 12), .v (.mov (.t 10)), none⟩, ⟨(some 8), .v (.mov (.t 12)), none⟩])
            (.reg [⟨(some 13), .v (.mov (.t 7)), none⟩, ⟨(some 14), .v (.mov (.t 0)), none⟩, ⟨(some 15), .v (.mov (.t 8)), none⟩, ⟨(some 16), .v (.mov (.t 1)), none⟩, ⟨(some 17), .v (.mov (.t 2)), none⟩, ⟨(some 18), .call 68 [(.t 14), (.t 15), (.t 16), (.t 17)], none⟩, ⟨(some 19), .v (.mov (.t 8)), none⟩, ⟨(some 20), .v (.mov (.t 2)), none⟩, ⟨(some 21), .v (.bin .mul (.t 19) (.t 20)), none⟩, ⟨(some 22), .v (.bin .add (.t 18) (.t 21)), none⟩, ⟨(some 23), .m (.bsl 1 1 [(.int .i64 0)] [(0, 1, (.t 22))]), none⟩, ⟨(some 24), .m (.app false 1 8 (.t 13) (.t 23)), none⟩, ⟨(some 7), .v (.mov (.t 24)), none⟩])))
          (.reg [⟨(some 25), .v (.bin .add (.t 10) (.c (.int .i64 1))), none⟩, ⟨(some 10), .v (.mov (.t 25)), none⟩])))))))
    (.seq
     (.reg [⟨(some 26), .v (.mov (.t 7)), none⟩, ⟨(some 6), .v (.mov (.t 26)), none⟩])
     .ret))))⟩
theorem e128 : rFunc Try.prog Try.f128 = some r128 := by kernel_rfl
def r117 : RFunc := ⟨26, [.t 4],
 (.seq
  (.reg [⟨(some 4), .v (.mov (.c (.int .i64 0))), none⟩])
  (.seq
   (.dreg (.fl ⟨(some 5), .v (.mov (.t 0)), none⟩ (.fl ⟨(some 6), .v (.mov (.t 1)), none⟩ (.fl ⟨(some 7), .v (.iaddr 1 (.t 6) (.c (.int .i64 0))), none⟩ (.fl ⟨(some 8), .v (.load false 1 (.t 7)), none⟩ (.fl ⟨(some 9), .v (.iaddr 1 (.t 5) (.t 8)), none⟩ (.fl ⟨(some 10), .v (.load false 1 (.t 9)), none⟩ (.fl ⟨(some 11), .v (.mov (.t 0)), none⟩ (.fl ⟨(some 12), .v (.mov (.t 1)), none⟩ (.fl ⟨(some 13), .v (.iaddr 1 (.t 12) (.c (.int .i64 1))), none⟩ (.fl ⟨(some 14), .v (.load false 1 (.t 13)), none⟩ (.fl ⟨(some 15), .v (.iaddr 1 (.t 11) (.t 14)), none⟩ (.fl ⟨(some 16), .v (.load false 1 (.t 15)), none⟩ (.fl ⟨(some 17), .v (.bin .add (.t 10) (.t 16)), none⟩ (.fl ⟨(some 18), .v (.mov (.t 0)), none⟩ (.fl ⟨(some 19), .v (.mov (.t 1)), none⟩ (.fl ⟨(some 20), .v (.iaddr 1 (.t 19) (.c (.int .i64 2))), none⟩ (.fl ⟨(some 21), .v (.load false 1 (.t 20)), none⟩ (.fl ⟨(some 22), .v (.iaddr 1 (.t 18) (.t 21)), none⟩ (.fl ⟨(some 23), .v (.load false 1 (.t 22)), none⟩ (.fl ⟨(some 24), .v (.bin .add (.t 17) (.t 23)), none⟩ (.fl ⟨(some 25), .v (.bin .rem (.t 24) (.c (.int .i64 3))), none⟩ (.fl ⟨(some 4), .v (.mov (.t 25)), none⟩ .done)))))))))))))))))))))))
   .ret))⟩
theorem e117 : rFunc Try.prog Try.f117 = some r117 := by kernel_rfl
def r100 : RFunc := ⟨25, [.t 4],
 (.seq
  (.reg [⟨(some 4), .v (.mov (.c (.int .i64 0))), none⟩])
  (.seq
   (.dreg (.fl ⟨(some 6), .v (.mov (.t 0)), none⟩ (.fl ⟨(some 7), .v (.nchk (.t 6)), none⟩ (.fl ⟨(some 8), .v (.faddr 0 (.t 7)), none⟩ (.fl ⟨(some 9), .v (.load false 1 (.t 8)), none⟩ (.fl ⟨(some 10), .v (.mov (.t 1)), none⟩ (.fl ⟨(some 11), .v (.mov (.t 0)), none⟩ (.fl ⟨(some 12), .v (.nchk (.t 11)), none⟩ (.fl ⟨(some 13), .v (.faddr 1 (.t 12)), none⟩ (.fl ⟨(some 14), .v (.load false 1 (.t 13)), none⟩ (.nx ⟨(some 15), .call 128 [(.t 9), (.t 10), (.t 14)], none⟩ (.fl ⟨(some 5), .v (.mov (.t 15)), none⟩ .done))))))))))))
   (.seq
    (.reg [⟨(some 16), .v (.mov (.t 5)), none⟩, ⟨(some 17), .v (.mov (.t 0)), none⟩, ⟨(some 18), .v (.nchk (.t 17)), none⟩, ⟨(some 19), .v (.faddr 2 (.t 18)), none⟩, ⟨(some 20), .v (.load false 1 (.t 19)), none⟩, ⟨(some 21), .v (.mov (.t 5)), none⟩, ⟨(some 22), .call 117 [(.t 20), (.t 21)], none⟩, ⟨(some 23), .v (.iaddr 1 (.t 16) (.t 22)), none⟩, ⟨(some 24), .v (.load false 1 (.t 23)), none⟩, ⟨(some 4), .v (.mov (.t 24)), none⟩])
    .ret)))⟩
theorem e100 : rFunc Try.prog Try.f100 = some r100 := by kernel_rfl
def r70 : RFunc := ⟨21, [.t 4, .t 5],
 (.seq
  (.reg [⟨(some 4), .v (.mov (.c (.int .i64 0))), none⟩, ⟨(some 5), .v (.mov (.c (.bool false))), none⟩])
  (.seq
   (.reg [⟨(some 7), .v (.mov (.t 0)), none⟩, ⟨(some 8), .v (.mov (.t 1)), none⟩, ⟨(some 9), .call 100 [(.t 7), (.t 8)], none⟩, ⟨(some 6), .v (.mov (.t 9)), none⟩])
   (.seq
    (.seq
     (.reg [⟨(some 10), .v (.mov (.t 0)), none⟩, ⟨(some 11), .v (.nchk (.t 10)), none⟩, ⟨(some 12), .v (.faddr 2 (.t 11)), none⟩, ⟨(some 13), .v (.load false 1 (.t 12)), none⟩, ⟨(some 14), .v (.mov (.t 6)), none⟩, ⟨(some 15), .v (.iaddr 1 (.t 13) (.t 14)), none⟩, ⟨(some 16), .v (.load false 1 (.t 15)), none⟩, ⟨(some 17), .v (.bin .eql (.t 16) (.c (.int .i64 3))), none⟩])
     (.cond (.t 17)
      (.seq
       (.reg [⟨(some 4), .v (.mov (.c (.int .i64 0))), none⟩, ⟨(some 5), .v (.mov (.c (.bool false))), none⟩])
       .ret)
      .skip))
    (.seq
     (.reg [⟨(some 18), .v (.mov (.t 0)), none⟩, ⟨(some 19), .v (.mov (.t 6)), none⟩, ⟨(some 20), .call 62 [(.t 18), (.t 19)], none⟩, ⟨(some 4), .v (.mov (.t 20)), none⟩, ⟨(some 5), .v (.mov (.c (.bool true))), none⟩])
     .ret))))⟩
theorem e70 : rFunc Try.prog Try.f70 = some r70 := by kernel_rfl
def r102 : RFunc := ⟨19, [.t 2],
 (.seq
  (.reg [⟨(some 2), .v (.mov (.c (.bool false))), none⟩])
  (.seq
   (.reg [⟨(some 6), .m (.mkm), none⟩, ⟨(some 3), .v (.mov (.t 6)), none⟩])
   (.seq
    (.seq
     (.reg [⟨(some 7), .v (.mov (.t 0)), none⟩, ⟨(some 8), .v (.len (.t 7)), none⟩, ⟨(some 9), .v (.mov (.c (.int .i64 0))), none⟩])
     (.block 0
      (.loop
       (.seq
        (.reg [⟨(some 10), .v (.bin .lss (.t 9) (.t 8)), none⟩])
        (.seq
         (.cond (.t 10)
          .skip
          (.exit 0))
         (.seq
          (.block 1
           (.seq
            (.reg [⟨(some 11), .v (.iaddr 1 (.t 7) (.t 9)), none⟩, ⟨(some 12), .v (.load false 1 (.t 11)), none⟩, ⟨(some 5), .v (.mov (.t 12)), none⟩])
            (.seq
             (.seq
              (.reg [⟨(some 13), .v (.mov (.t 3)), none⟩, ⟨(some 14), .v (.mov (.t 5)), none⟩, ⟨(some 15), .v (.look (.bool false) (.t 13) (.t 14) false), none⟩])
              (.cond (.t 15)
               (.seq
                (.reg [⟨(some 2), .v (.mov (.c (.bool false))), none⟩])
                .ret)
               .skip))
             (.reg [⟨(some 16), .v (.mov (.t 3)), none⟩, ⟨(some 17), .v (.mov (.t 5)), none⟩, ⟨none, .m (.mset (.t 16) (.t 17) (.c (.bool true))), none⟩]))))
          (.reg [⟨(some 18), .v (.bin .add (.t 9) (.c (.int .i64 1))), none⟩, ⟨(some 9), .v (.mov (.t 18)), none⟩])))))))
    (.seq
     (.reg [⟨(some 2), .v (.mov (.c (.bool true))), none⟩])
     .ret))))⟩
theorem e102 : rFunc Try.prog Try.f102 = some r102 := by kernel_rfl
def r72 : RFunc := ⟨44, [.t 4],
 (.seq
  (.reg [⟨(some 4), .v (.mov (.c (.bool false))), none⟩])
  (.seq
   (.reg [⟨(some 10), .m (.bsl 1 0 [(.int .i64 0)] []), none⟩, ⟨(some 5), .v (.mov (.t 10)), none⟩])
   (.seq
    (.seq
     (.reg [⟨(some 11), .v (.mov (.t 1)), none⟩, ⟨(some 12), .v (.len (.t 11)), none⟩, ⟨(some 13), .v (.mov (.c (.int .i64 0))), none⟩])
     (.block 0
      (.loop
       (.seq
        (.reg [⟨(some 14), .v (.bin .lss (.t 13) (.t 12)), none⟩])
        (.seq
         (.cond (.t 14)
          .skip
          (.exit 0))
         (.seq
          (.block 1
           (.seq
            (.reg [⟨(some 15), .v (.iaddr 1 (.t 11) (.t 13)), none⟩, ⟨(some 16), .v (.load false 1 (.t 15)), none⟩, ⟨(some 7), .v (.mov (.t 16)), none⟩])
            (.seq
             (.reg [⟨(some 18), .v (.mov (.t 0)), none⟩, ⟨(some 19), .v (.mov (.t 7)), none⟩, ⟨(some 20), .call 70 [(.t 18), (.t 19)], none⟩, ⟨(some 17), .v (.mov (.t 20)), none⟩, ⟨(some 21), .v (.ext (.t 17) 0), none⟩, ⟨(some 22), .v (.ext (.t 17) 1), none⟩, ⟨(some 8), .v (.mov (.t 21)), none⟩, ⟨(some 9), .v (.mov (.t 22)), none⟩])
             (.seq
              (.seq
               (.reg [⟨(some 23), .v (.mov (.t 9)), none⟩, ⟨(some 24), .v (.un .not (.t 23)), none⟩])
               (.cond (.t 24)
                (.seq
                 (.reg [⟨(some 4), .v (.mov (.c (.bool false))), none⟩])
                 .ret)
                .skip))
              (.reg [⟨(some 25), .v (.mov (.t 5)), none⟩, ⟨(some 26), .v (.mov (.t 8)), none⟩, ⟨(some 27), .m (.bsl 1 1 [(.int .i64 0)] [(0, 1, (.t 26))]), none⟩, ⟨(some 28), .m (.app false 1 8 (.t 25) (.t 27)), none⟩, ⟨(some 5), .v (.mov (.t 28)), none⟩])))))
          (.reg [⟨(some 29), .v (.bin .add (.t 13) (.c (.int .i64 1))), none⟩, ⟨(some 13), .v (.mov (.t 29)), none⟩])))))))
    (.seq
     (.reg [⟨(some 30), .v (.mov (.t 5)), none⟩, ⟨(some 31), .call 102 [(.t 30)], none⟩, ⟨(some 32), .v (.mov (.t 31)), none⟩, ⟨(some 33), .v (.mov (.t 0)), (some (32, true))⟩, ⟨(some 34), .v (.mov (.t 0)), (some (32, true))⟩, ⟨(some 35), .v (.nchk (.t 34)), (some (32, true))⟩, ⟨(some 36), .v (.faddr 2 (.t 35)), (some (32, true))⟩, ⟨(some 37), .v (.load false 1 (.t 36)), (some (32, true))⟩, ⟨(some 38), .v (.len (.t 37)), (some (32, true))⟩, ⟨(some 39), .call 62 [(.t 33), (.t 38)], (some (32, true))⟩, ⟨(some 40), .v (.mov (.t 1)), (some (32, true))⟩, ⟨(some 41), .v (.len (.t 40)), (some (32, true))⟩, ⟨(some 42), .v (.bin .eql (.t 39) (.t 41)), (some (32, true))⟩, ⟨(some 43), .v (.pick (.t 32) (.t 42) (.c (.bool false))), none⟩, ⟨(some 4), .v (.mov (.t 43)), none⟩])
     .ret))))⟩
theorem e72 : rFunc Try.prog Try.f72 = some r72 := by kernel_rfl
def r30 : RFunc := ⟨37, [.t 4, .t 5],
 (.seq
  (.reg [⟨(some 2), .m (.box (.t 0)), none⟩, ⟨(some 4), .v (.mov (.c (.bool false))), none⟩, ⟨(some 5), .v (.mov (.c (.bool false))), none⟩])
  (.seq
   (.seq
    (.reg [⟨(some 8), .v (.load true 3 (.t 2)), none⟩, ⟨(some 9), .call 23 [(.t 8)], none⟩, ⟨(some 10), .v (.un .not (.t 9)), none⟩, ⟨(some 11), .v (.mov (.t 10)), none⟩, ⟨(some 12), .v (.mov (.t 1)), (some (11, false))⟩, ⟨(some 13), .call 51 [(.t 12)], (some (11, false))⟩, ⟨(some 14), .v (.un .not (.t 13)), (some (11, false))⟩, ⟨(some 15), .v (.pick (.t 11) (.c (.bool true)) (.t 14)), none⟩])
    (.cond (.t 15)
     (.seq
      (.reg [⟨(some 4), .v (.mov (.c (.bool false))), none⟩, ⟨(some 5), .v (.mov (.c (.bool false))), none⟩])
      .ret)
     .skip))
   (.seq
    (.seq
     (.reg [⟨(some 16), .v (.faddr 0 (.t 2)), none⟩, ⟨(some 17), .v (.load false 1 (.t 16)), none⟩, ⟨(some 18), .v (.mov (.t 1)), none⟩, ⟨(some 19), .v (.faddr 1 (.t 2)), none⟩, ⟨(some 20), .v (.load false 1 (.t 19)), none⟩, ⟨(some 21), .v (.len (.t 20)), none⟩, ⟨(some 22), .call 53 [(.t 17), (.t 18), (.t 21)], none⟩, ⟨(some 23), .v (.len (.t 22)), none⟩, ⟨(some 24), .v (.mov (.c (.int .i64 0))), none⟩])
     (.block 0
      (.loop
       (.seq
        (.reg [⟨(some 25), .v (.bin .lss (.t 24) (.t 23)), none⟩])
        (.seq
         (.cond (.t 25)
          .skip
          (.exit 0))
         (.seq
          (.block 1
           (.seq
            (.reg [⟨(some 26), .v (.mov (.t 24)), none⟩, ⟨(some 27), .v (.iaddr 1 (.t 22) (.t 24)), none⟩, ⟨(some 28), .v (.load false 1 (.t 27)), none⟩, ⟨(some 6), .v (.mov (.t 26)), none⟩, ⟨(some 7), .v (.mov (.t 28)), none⟩])
            (.seq
             (.reg [⟨(some 29), .v (.faddr 1 (.t 2)), none⟩, ⟨(some 30), .v (.load false 1 (.t 29)), none⟩, ⟨(some 31), .v (.mov (.t 6)), none⟩, ⟨(some 32), .v (.iaddr 3 (.t 30) (.t 31)), none⟩, ⟨(some 33), .v (.mov (.t 7)), none⟩, ⟨(some 34), .call 72 [(.t 32), (.t 33)], none⟩, ⟨(some 35), .v (.un .not (.t 34)), none⟩])
             (.cond (.t 35)
              (.seq
               (.reg [⟨(some 4), .v (.mov (.c (.bool false))), none⟩, ⟨(some 5), .v (.mov (.c (.bool true))), none⟩])
               .ret)
              .skip))))
          (.reg [⟨(some 36), .v (.bin .add (.t 24) (.c (.int .i64 1))), none⟩, ⟨(some 24), .v (.mov (.t 36)), none⟩])))))))
    (.seq
     (.reg [⟨(some 4), .v (.mov (.c (.bool true))), none⟩, ⟨(some 5), .v (.mov (.c (.bool true))), none⟩])
     .ret))))⟩
theorem e30 : rFunc Try.prog Try.f30 = some r30 := by kernel_rfl
def r64 : RFunc := ⟨26, [.t 4],
 (.seq
  (.reg [⟨(some 4), .v (.mov (.c (.bool false))), none⟩])
  (.seq
   (.seq
    (.reg [⟨(some 6), .v (.mov (.t 0)), none⟩, ⟨(some 7), .v (.len (.t 6)), none⟩, ⟨(some 8), .v (.mov (.t 1)), none⟩, ⟨(some 9), .v (.len (.t 8)), none⟩, ⟨(some 10), .v (.bin .neq (.t 7) (.t 9)), none⟩])
    (.cond (.t 10)
     (.seq
      (.reg [⟨(some 4), .v (.mov (.c (.bool false))), none⟩])
      .ret)
     .skip))
   (.seq
    (.seq
     (.reg [⟨(some 5), .v (.mov (.c (.int .i64 0))), none⟩])
     (.block 0
      (.loop
       (.seq
        (.seq
         (.reg [⟨(some 11), .v (.mov (.t 5)), none⟩, ⟨(some 12), .v (.mov (.t 0)), none⟩, ⟨(some 13), .v (.len (.t 12)), none⟩, ⟨(some 14), .v (.bin .lss (.t 11) (.t 13)), none⟩])
         (.cond (.t 14)
          .skip
          (.exit 0)))
        (.seq
         (.block 1
          (.seq
           (.dreg (.fl ⟨(some 17), .v (.mov (.t 0)), none⟩ (.fl ⟨(some 18), .v (.mov (.t 5)), none⟩ (.fl ⟨(some 19), .v (.iaddr 1 (.t 17) (.t 18)), none⟩ (.fl ⟨(some 20), .v (.load false 1 (.t 19)), none⟩ (.fl ⟨(some 21), .v (.mov (.t 1)), none⟩ (.fl ⟨(some 22), .v (.mov (.t 5)), none⟩ (.fl ⟨(some 23), .v (.iaddr 1 (.t 21) (.t 22)), none⟩ (.fl ⟨(some 24), .v (.load false 1 (.t 23)), none⟩ (.fl ⟨(some 25), .v (.bin .neq (.t 20) (.t 24)), none⟩ .done))))))))))
           (.cond (.t 25)
            (.seq
             (.reg [⟨(some 4), .v (.mov (.c (.bool false))), none⟩])
             .ret)
            .skip)))
         (.reg [⟨(some 15), .v (.mov (.t 5)), none⟩, ⟨(some 16), .v (.bin .add (.t 15) (.c (.int .i64 1))), none⟩, ⟨(some 5), .v (.mov (.t 16)), none⟩]))))))
    (.seq
     (.reg [⟨(some 4), .v (.mov (.c (.bool true))), none⟩])
     .ret))))⟩
theorem e64 : rFunc Try.prog Try.f64 = some r64 := by kernel_rfl
def r96 : RFunc := ⟨21, [.t 4],
 (.seq
  (.reg [⟨(some 2), .m (.box (.t 0)), none⟩, ⟨(some 3), .m (.box (.t 1)), none⟩, ⟨(some 4), .v (.mov (.c (.bool false))), none⟩])
  (.seq
   (.seq
    (.reg [⟨(some 5), .v (.faddr 0 (.t 2)), none⟩, ⟨(some 6), .v (.load false 1 (.t 5)), none⟩, ⟨(some 7), .v (.faddr 0 (.t 3)), none⟩, ⟨(some 8), .v (.load false 1 (.t 7)), none⟩, ⟨(some 9), .v (.bin .neq (.t 6) (.t 8)), none⟩])
    (.cond (.t 9)
     (.seq
      (.reg [⟨(some 4), .v (.mov (.c (.bool false))), none⟩])
      .ret)
     .skip))
   (.seq
    (.seq
     (.reg [⟨(some 10), .v (.faddr 1 (.t 2)), none⟩, ⟨(some 11), .v (.load false 1 (.t 10)), none⟩, ⟨(some 12), .v (.faddr 1 (.t 3)), none⟩, ⟨(some 13), .v (.load false 1 (.t 12)), none⟩, ⟨(some 14), .v (.bin .neq (.t 11) (.t 13)), none⟩])
     (.cond (.t 14)
      (.seq
       (.reg [⟨(some 4), .v (.mov (.c (.bool false))), none⟩])
       .ret)
      .skip))
    (.seq
     (.seq
      (.reg [⟨(some 15), .v (.faddr 2 (.t 2)), none⟩, ⟨(some 16), .v (.load false 1 (.t 15)), none⟩, ⟨(some 17), .v (.faddr 2 (.t 3)), none⟩, ⟨(some 18), .v (.load false 1 (.t 17)), none⟩, ⟨(some 19), .call 64 [(.t 16), (.t 18)], none⟩, ⟨(some 20), .v (.un .not (.t 19)), none⟩])
      (.cond (.t 20)
       (.seq
        (.reg [⟨(some 4), .v (.mov (.c (.bool false))), none⟩])
        .ret)
       .skip))
     (.seq
      (.reg [⟨(some 4), .v (.mov (.c (.bool true))), none⟩])
      .ret)))))⟩
theorem e96 : rFunc Try.prog Try.f96 = some r96 := by kernel_rfl
def r63 : RFunc := ⟨27, [.t 4],
 (.seq
  (.reg [⟨(some 4), .v (.mov (.c (.bool false))), none⟩])
  (.seq
   (.seq
    (.reg [⟨(some 6), .v (.mov (.t 0)), none⟩, ⟨(some 7), .v (.len (.t 6)), none⟩, ⟨(some 8), .v (.mov (.t 1)), none⟩, ⟨(some 9), .v (.len (.t 8)), none⟩, ⟨(some 10), .v (.bin .neq (.t 7) (.t 9)), none⟩])
    (.cond (.t 10)
     (.seq
      (.reg [⟨(some 4), .v (.mov (.c (.bool false))), none⟩])
      .ret)
     .skip))
   (.seq
    (.seq
     (.reg [⟨(some 5), .v (.mov (.c (.int .i64 0))), none⟩])
     (.block 0
      (.loop
       (.seq
        (.seq
         (.reg [⟨(some 11), .v (.mov (.t 5)), none⟩, ⟨(some 12), .v (.mov (.t 0)), none⟩, ⟨(some 13), .v (.len (.t 12)), none⟩, ⟨(some 14), .v (.bin .lss (.t 11) (.t 13)), none⟩])
         (.cond (.t 14)
          .skip
          (.exit 0)))
        (.seq
         (.block 1
          (.seq
           (.dreg (.fl ⟨(some 17), .v (.mov (.t 0)), none⟩ (.fl ⟨(some 18), .v (.mov (.t 5)), none⟩ (.fl ⟨(some 19), .v (.iaddr 3 (.t 17) (.t 18)), none⟩ (.fl ⟨(some 20), .v (.load true 3 (.t 19)), none⟩ (.fl ⟨(some 21), .v (.mov (.t 1)), none⟩ (.fl ⟨(some 22), .v (.mov (.t 5)), none⟩ (.fl ⟨(some 23), .v (.iaddr 3 (.t 21) (.t 22)), none⟩ (.fl ⟨(some 24), .v (.load true 3 (.t 23)), none⟩ (.nx ⟨(some 25), .call 96 [(.t 20), (.t 24)], none⟩ (.fl ⟨(some 26), .v (.un .not (.t 25)), none⟩ .done)))))))))))
           (.cond (.t 26)
            (.seq
             (.reg [⟨(some 4), .v (.mov (.c (.bool false))), none⟩])
             .ret)
            .skip)))
         (.reg [⟨(some 15), .v (.mov (.t 5)), none⟩, ⟨(some 16), .v (.bin .add (.t 15) (.c (.int .i64 1))), none⟩, ⟨(some 5), .v (.mov (.t 16)), none⟩]))))))
    (.seq
     (.reg [⟨(some 4), .v (.mov (.c (.bool true))), none⟩])
     .ret))))⟩
theorem e63 : rFunc Try.prog Try.f63 = some r63 := by kernel_rfl
def r24 : RFunc := ⟨22, [.t 4],
 (.seq
  (.reg [⟨(some 2), .m (.box (.t 0)), none⟩, ⟨(some 3), .m (.box (.t 1)), none⟩, ⟨(some 4), .v (.mov (.c (.bool false))), none⟩])
  (.seq
   (.seq
    (.reg [⟨(some 5), .v (.faddr 0 (.t 2)), none⟩, ⟨(some 6), .v (.load false 1 (.t 5)), none⟩, ⟨(some 7), .v (.faddr 0 (.t 3)), none⟩, ⟨(some 8), .v (.load false 1 (.t 7)), none⟩, ⟨(some 9), .v (.bin .neq (.t 6) (.t 8)), none⟩])
    (.cond (.t 9)
     (.seq
      (.reg [⟨(some 4), .v (.mov (.c (.bool false))), none⟩])
      .ret)
     .skip))
   (.seq
    (.seq
     (.reg [⟨(some 10), .v (.faddr 1 (.t 2)), none⟩, ⟨(some 11), .v (.load false 1 (.t 10)), none⟩, ⟨(some 12), .v (.faddr 1 (.t 3)), none⟩, ⟨(some 13), .v (.load false 1 (.t 12)), none⟩, ⟨(some 14), .call 63 [(.t 11), (.t 13)], none⟩, ⟨(some 15), .v (.un .not (.t 14)), none⟩])
     (.cond (.t 15)
      (.seq
       (.reg [⟨(some 4), .v (.mov (.c (.bool false))), none⟩])
       .ret)
      .skip))
    (.seq
     (.seq
      (.reg [⟨(some 16), .v (.faddr 2 (.t 2)), none⟩, ⟨(some 17), .v (.load false 1 (.t 16)), none⟩, ⟨(some 18), .v (.faddr 2 (.t 3)), none⟩, ⟨(some 19), .v (.load false 1 (.t 18)), none⟩, ⟨(some 20), .call 64 [(.t 17), (.t 19)], none⟩, ⟨(some 21), .v (.un .not (.t 20)), none⟩])
      (.cond (.t 21)
       (.seq
        (.reg [⟨(some 4), .v (.mov (.c (.bool false))), none⟩])
        .ret)
       .skip))
     (.seq
      (.reg [⟨(some 4), .v (.mov (.c (.bool true))), none⟩])
      .ret)))))⟩
theorem e24 : rFunc Try.prog Try.f24 = some r24 := by kernel_rfl
def r16 : RFunc := ⟨26, [.t 4],
 (.seq
  (.reg [⟨(some 4), .v (.mov (.c (.bool false))), none⟩])
  (.seq
   (.seq
    (.reg [⟨(some 6), .v (.mov (.t 0)), none⟩, ⟨(some 7), .v (.len (.t 6)), none⟩, ⟨(some 8), .v (.mov (.t 1)), none⟩, ⟨(some 9), .v (.len (.t 8)), none⟩, ⟨(some 10), .v (.bin .neq (.t 7) (.t 9)), none⟩])
    (.cond (.t 10)
     (.seq
      (.reg [⟨(some 4), .v (.mov (.c (.bool false))), none⟩])
      .ret)
     .skip))
   (.seq
    (.seq
     (.reg [⟨(some 5), .v (.mov (.c (.int .i64 0))), none⟩])
     (.block 0
      (.loop
       (.seq
        (.seq
         (.reg [⟨(some 11), .v (.mov (.t 5)), none⟩, ⟨(some 12), .v (.mov (.t 0)), none⟩, ⟨(some 13), .v (.len (.t 12)), none⟩, ⟨(some 14), .v (.bin .lss (.t 11) (.t 13)), none⟩])
         (.cond (.t 14)
          .skip
          (.exit 0)))
        (.seq
         (.block 1
          (.seq
           (.dreg (.fl ⟨(some 17), .v (.mov (.t 0)), none⟩ (.fl ⟨(some 18), .v (.mov (.t 5)), none⟩ (.fl ⟨(some 19), .v (.iaddr 1 (.t 17) (.t 18)), none⟩ (.fl ⟨(some 20), .v (.load false 1 (.t 19)), none⟩ (.fl ⟨(some 21), .v (.mov (.t 1)), none⟩ (.fl ⟨(some 22), .v (.mov (.t 5)), none⟩ (.fl ⟨(some 23), .v (.iaddr 1 (.t 21) (.t 22)), none⟩ (.fl ⟨(some 24), .v (.load false 1 (.t 23)), none⟩ (.fl ⟨(some 25), .v (.bin .neq (.t 20) (.t 24)), none⟩ .done))))))))))
           (.cond (.t 25)
            (.seq
             (.reg [⟨(some 4), .v (.mov (.c (.bool false))), none⟩])
             .ret)
            .skip)))
         (.reg [⟨(some 15), .v (.mov (.t 5)), none⟩, ⟨(some 16), .v (.bin .add (.t 15) (.c (.int .i64 1))), none⟩, ⟨(some 5), .v (.mov (.t 16)), none⟩]))))))
    (.seq
     (.reg [⟨(some 4), .v (.mov (.c (.bool true))), none⟩])
     .ret))))⟩
theorem e16 : rFunc Try.prog Try.f16 = some r16 := by kernel_rfl
def r7 : RFunc := ⟨58, [.t 4],
 (.seq
  (.reg [⟨(some 2), .m (.box (.t 0)), none⟩, ⟨(some 4), .v (.mov (.c (.bool false))), none⟩])
  (.seq
   (.reg [⟨(some 5), .v (.mov (.c (.int .i64 1048576))), none⟩])
   (.seq
    (.reg [⟨(some 12), .v (.load true 3 (.t 2)), none⟩, ⟨(some 13), .v (.mov (.t 5)), none⟩, ⟨(some 14), .call 20 [(.t 12), (.t 13)], none⟩, ⟨(some 5), .v (.mov (.t 14)), none⟩])
    (.seq
     (.seq
      (.reg [⟨(some 15), .v (.mov (.t 5)), none⟩, ⟨(some 16), .v (.bin .lss (.t 15) (.c (.int .i64 0))), none⟩])
      (.cond (.t 16)
       (.seq
        (.reg [⟨(some 4), .v (.mov (.c (.bool true))), none⟩])
        .ret)
       .skip))
     (.seq
      (.reg [⟨(some 17), .v (.mov (.t 1)), none⟩, ⟨(some 18), .v (.mov (.t 5)), none⟩, ⟨(some 19), .call 11 [(.t 17), (.t 18)], none⟩, ⟨(some 5), .v (.mov (.t 19)), none⟩])
      (.seq
       (.seq
        (.reg [⟨(some 20), .v (.mov (.t 5)), none⟩, ⟨(some 21), .v (.bin .lss (.t 20) (.c (.int .i64 0))), none⟩])
        (.cond (.t 21)
         (.seq
          (.reg [⟨(some 4), .v (.mov (.c (.bool true))), none⟩])
          .ret)
         .skip))
       (.seq
        (.reg [⟨(some 23), .v (.load true 3 (.t 2)), none⟩, ⟨(some 24), .call 22 [(.t 23)], none⟩, ⟨(some 25), .v (.mov (.t 1)), none⟩, ⟨(some 26), .call 13 [(.t 25)], none⟩, ⟨(some 27), .call 29 [(.t 24), (.t 26)], none⟩, ⟨(some 22), .v (.mov (.t 27)), none⟩, ⟨(some 28), .v (.ext (.t 22) 0), none⟩, ⟨(some 29), .v (.ext (.t 22) 1), none⟩, ⟨(some 6), .v (.mov (.t 28)), none⟩, ⟨(some 7), .v (.mov (.t 29)), none⟩])
        (.seq
         (.reg [⟨(some 30), .v (.load true 3 (.t 2)), none⟩, ⟨(some 31), .call 22 [(.t 30)], none⟩, ⟨(some 8), .m (.alloc [(.int .i64 0), .nils, .nils]), none⟩, ⟨none, .m (.store 3 (.t 8) (.t 31)), none⟩])
         (.seq
          (.reg [⟨(some 32), .v (.mov (.t 1)), none⟩, ⟨(some 33), .call 13 [(.t 32)], none⟩, ⟨(some 9), .v (.mov (.t 33)), none⟩])
          (.seq
           (.reg [⟨(some 35), .v (.load true 3 (.t 8)), none⟩, ⟨(some 36), .v (.mov (.t 9)), none⟩, ⟨(some 37), .call 30 [(.t 35), (.t 36)], none⟩, ⟨(some 34), .v (.mov (.t 37)), none⟩, ⟨(some 38), .v (.ext (.t 34) 0), none⟩, ⟨(some 39), .v (.ext (.t 34) 1), none⟩, ⟨(some 10), .v (.mov (.t 38)), none⟩, ⟨(some 11), .v (.mov (.t 39)), none⟩])
           (.seq
            (.seq
             (.reg [⟨(some 40), .v (.mov (.t 10)), none⟩, ⟨(some 41), .v (.mov (.t 6)), none⟩, ⟨(some 42), .v (.beq true (.t 40) (.t 41)), none⟩, ⟨(some 43), .v (.mov (.t 42)), none⟩, ⟨(some 44), .v (.mov (.t 11)), (some (43, false))⟩, ⟨(some 45), .v (.mov (.t 7)), (some (43, false))⟩, ⟨(some 46), .v (.beq true (.t 44) (.t 45)), (some (43, false))⟩, ⟨(some 47), .v (.pick (.t 43) (.c (.bool true)) (.t 46)), none⟩])
             (.cond (.t 47)
              (.seq
               (.reg [⟨(some 4), .v (.mov (.c (.bool false))), none⟩])
               .ret)
              .skip))
            (.seq
             (.seq
              (.dreg (.fl ⟨(some 48), .v (.load true 3 (.t 8)), none⟩ (.fl ⟨(some 49), .v (.load true 3 (.t 2)), none⟩ (.nx ⟨(some 50), .call 22 [(.t 49)], none⟩ (.nx ⟨(some 51), .call 24 [(.t 48), (.t 50)], none⟩ (.fl ⟨(some 52), .v (.un .not (.t 51)), none⟩ .done))))))
              (.cond (.t 52)
               (.seq
                (.reg [⟨(some 4), .v (.mov (.c (.bool false))), none⟩])
                .ret)
               .skip))
             (.seq
              (.seq
               (.reg [⟨(some 53), .v (.mov (.t 9)), none⟩, ⟨(some 54), .v (.mov (.t 1)), none⟩, ⟨(some 55), .call 13 [(.t 54)], none⟩, ⟨(some 56), .call 16 [(.t 53), (.t 55)], none⟩, ⟨(some 57), .v (.un .not (.t 56)), none⟩])
               (.cond (.t 57)
                (.seq
                 (.reg [⟨(some 4), .v (.mov (.c (.bool false))), none⟩])
                 .ret)
                .skip))
              (.seq
               (.reg [⟨(some 4), .v (.mov (.c (.bool true))), none⟩])
               .ret))))))))))))))⟩
theorem e7 : rFunc Try.prog Try.f7 = some r7 := by kernel_rfl
end Go.Proofs.Ytmcfkedagmfhcaa.M

/-
  The resolved text of the functions, each tied to the program's own by the kernel.
-/
import Derived.Test.YtgkdnpigbpkehaaProg
import Derived.Test.YtgkdnpigbpkehaaM19
namespace Go.Proofs.Ytgkdnpigbpkehaa.M
open Go Go.RowKit
set_option maxRecDepth 100000

def r119 : RFunc := ⟨12, [.t 4],
 (.seq
  (.reg [⟨(some 4), .v (.mov (.c (.int .i64 0))), none⟩])
  (.seq
   (.reg [⟨(some 5), .v (.mov (.t 1)), none⟩, ⟨(some 6), .v (.mov (.t 0)), none⟩, ⟨(some 7), .v (.len (.t 6)), none⟩, ⟨(some 8), .v (.bin .sub (.t 5) (.t 7)), none⟩, ⟨(some 1), .v (.mov (.t 8)), none⟩])
   (.seq
    (.seq
     (.reg [⟨(some 9), .v (.mov (.t 1)), none⟩, ⟨(some 10), .v (.bin .lss (.t 9) (.c (.int .i64 0))), none⟩])
     (.cond (.t 10)
      (.seq
       (.reg [⟨(some 4), .v (.mov (.c (.int .i64 (-1)))), none⟩])
       .ret)
      .skip))
    (.seq
     (.reg [⟨(some 11), .v (.mov (.t 1)), none⟩, ⟨(some 4), .v (.mov (.t 11)), none⟩])
     .ret))))⟩
theorem e119 : rFunc Try.prog Try.f119 = some r119 := by kernel_rfl
def r97 : RFunc := ⟨12, [.t 4],
 (.seq
  (.reg [⟨(some 2), .m (.box (.t 0)), none⟩, ⟨(some 4), .v (.mov (.c (.int .i64 0))), none⟩])
  (.seq
   (.reg [⟨(some 5), .v (.faddr 1 (.t 2)), none⟩, ⟨(some 6), .v (.load false 1 (.t 5)), none⟩, ⟨(some 7), .v (.mov (.t 1)), none⟩, ⟨(some 8), .call 119 [(.t 6), (.t 7)], none⟩, ⟨(some 1), .v (.mov (.t 8)), none⟩])
   (.seq
    (.seq
     (.reg [⟨(some 9), .v (.mov (.t 1)), none⟩, ⟨(some 10), .v (.bin .lss (.t 9) (.c (.int .i64 0))), none⟩])
     (.cond (.t 10)
      (.seq
       (.reg [⟨(some 4), .v (.mov (.c (.int .i64 (-1)))), none⟩])
       .ret)
      .skip))
    (.seq
     (.reg [⟨(some 11), .v (.mov (.t 1)), none⟩, ⟨(some 4), .v (.mov (.t 11)), none⟩])
     .ret))))⟩
theorem e97 : rFunc Try.prog Try.f97 = some r97 := by kernel_rfl
def r57 : RFunc := ⟨27, [.t 4],
 (.seq
  (.reg [⟨(some 4), .v (.mov (.c (.int .i64 0))), none⟩])
  (.seq
   (.reg [⟨(some 6), .v (.mov (.t 1)), none⟩, ⟨(some 7), .v (.mov (.t 0)), none⟩, ⟨(some 8), .v (.len (.t 7)), none⟩, ⟨(some 9), .v (.bin .sub (.t 6) (.t 8)), none⟩, ⟨(some 1), .v (.mov (.t 9)), none⟩])
   (.seq
    (.seq
     (.reg [⟨(some 10), .v (.mov (.t 1)), none⟩, ⟨(some 11), .v (.bin .lss (.t 10) (.c (.int .i64 0))), none⟩])
     (.cond (.t 11)
      (.seq
       (.reg [⟨(some 4), .v (.mov (.c (.int .i64 (-1)))), none⟩])
       .ret)
      .skip))
    (.seq
     (.seq
      (.reg [⟨(some 5), .v (.mov (.c (.int .i64 0))), none⟩])
      (.block 0
       (.loop
        (.seq
         (.seq
          (.reg [⟨(some 12), .v (.mov (.t 5)), none⟩, ⟨(some 13), .v (.mov (.t 0)), none⟩, ⟨(some 14), .v (.len (.t 13)), none⟩, ⟨(some 15), .v (.bin .lss (.t 12) (.t 14)), none⟩])
          (.cond (.t 15)
           .skip
           (.exit 0)))
         (.seq
          (.block 1
           (.seq
            (.reg [⟨(some 18), .v (.mov (.t 0)), none⟩, ⟨(some 19), .v (.mov (.t 5)), none⟩, ⟨(some 20), .v (.iaddr 2 (.t 18) (.t 19)), none⟩, ⟨(some 21), .v (.load true 2 (.t 20)), none⟩, ⟨(some 22), .v (.mov (.t 1)), none⟩, ⟨(some 23), .call 97 [(.t 21), (.t 22)], none⟩, ⟨(some 1), .v (.mov (.t 23)), none⟩])
            (.seq
             (.reg [⟨(some 24), .v (.mov (.t 1)), none⟩, ⟨(some 25), .v (.bin .lss (.t 24) (.c (.int .i64 0))), none⟩])
             (.cond (.t 25)
              (.seq
               (.reg [⟨(some 4), .v (.mov (.c (.int .i64 (-1)))), none⟩])
               .ret)
              .skip))))
          (.reg [⟨(some 16), .v (.mov (.t 5)), none⟩, ⟨(some 17), .v (.bin .add (.t 16) (.c (.int .i64 1))), none⟩, ⟨(some 5), .v (.mov (.t 17)), none⟩]))))))
     (.seq
      (.reg [⟨(some 26), .v (.mov (.t 1)), none⟩, ⟨(some 4), .v (.mov (.t 26)), none⟩])
      .ret)))))⟩
theorem e57 : rFunc Try.prog Try.f57 = some r57 := by kernel_rfl
def r58 : RFunc := ⟨12, [.t 4],
 (.seq
  (.reg [⟨(some 4), .v (.mov (.c (.int .i64 0))), none⟩])
  (.seq
   (.reg [⟨(some 5), .v (.mov (.t 1)), none⟩, ⟨(some 6), .v (.mov (.t 0)), none⟩, ⟨(some 7), .v (.len (.t 6)), none⟩, ⟨(some 8), .v (.bin .sub (.t 5) (.t 7)), none⟩, ⟨(some 1), .v (.mov (.t 8)), none⟩])
   (.seq
    (.seq
     (.reg [⟨(some 9), .v (.mov (.t 1)), none⟩, ⟨(some 10), .v (.bin .lss (.t 9) (.c (.int .i64 0))), none⟩])
     (.cond (.t 10)
      (.seq
       (.reg [⟨(some 4), .v (.mov (.c (.int .i64 (-1)))), none⟩])
       .ret)
      .skip))
    (.seq
     (.reg [⟨(some 11), .v (.mov (.t 1)), none⟩, ⟨(some 4), .v (.mov (.t 11)), none⟩])
     .ret))))⟩
theorem e58 : rFunc Try.prog Try.f58 = some r58 := by kernel_rfl
def r17 : RFunc := ⟨18, [.t 4],
 (.seq
  (.reg [⟨(some 2), .m (.box (.t 0)), none⟩, ⟨(some 4), .v (.mov (.c (.int .i64 0))), none⟩])
  (.seq
   (.reg [⟨(some 5), .v (.faddr 1 (.t 2)), none⟩, ⟨(some 6), .v (.load false 1 (.t 5)), none⟩, ⟨(some 7), .v (.mov (.t 1)), none⟩, ⟨(some 8), .call 57 [(.t 6), (.t 7)], none⟩, ⟨(some 1), .v (.mov (.t 8)), none⟩])
   (.seq
    (.seq
     (.reg [⟨(some 9), .v (.mov (.t 1)), none⟩, ⟨(some 10), .v (.bin .lss (.t 9) (.c (.int .i64 0))), none⟩])
     (.cond (.t 10)
      (.seq
       (.reg [⟨(some 4), .v (.mov (.c (.int .i64 (-1)))), none⟩])
       .ret)
      .skip))
    (.seq
     (.reg [⟨(some 11), .v (.faddr 2 (.t 2)), none⟩, ⟨(some 12), .v (.load false 1 (.t 11)), none⟩, ⟨(some 13), .v (.mov (.t 1)), none⟩, ⟨(some 14), .call 58 [(.t 12), (.t 13)], none⟩, ⟨(some 1), .v (.mov (.t 14)), none⟩])
     (.seq
      (.seq
       (.reg [⟨(some 15), .v (.mov (.t 1)), none⟩, ⟨(some 16), .v (.bin .lss (.t 15) (.c (.int .i64 0))), none⟩])
       (.cond (.t 16)
        (.seq
         (.reg [⟨(some 4), .v (.mov (.c (.int .i64 (-1)))), none⟩])
         .ret)
        .skip))
      (.seq
       (.reg [⟨(some 17), .v (.mov (.t 1)), none⟩, ⟨(some 4), .v (.mov (.t 17)), none⟩])
       .ret))))))⟩
theorem e17 : rFunc Try.prog Try.f17 = some r17 := by kernel_rfl
def r20 : RFunc := ⟨22, [.t 2],
 (.seq
  (.reg [⟨(some 2), .v (.mov (.c .nils)), none⟩])
  (.seq
   (.reg [⟨(some 5), .v (.mov (.t 0)), none⟩, ⟨(some 6), .v (.len (.t 5)), none⟩, ⟨(some 7), .m (.mks 1 8 [(.int .i64 0)] (.t 6) (.t 6)), none⟩, ⟨(some 3), .v (.mov (.t 7)), none⟩])
   (.seq
    (.seq
     (.reg [⟨(some 4), .v (.mov (.c (.int .i64 0))), none⟩])
     (.block 0
      (.loop
       (.seq
        (.seq
         (.reg [⟨(some 8), .v (.mov (.t 4)), none⟩, ⟨(some 9), .v (.mov (.t 0)), none⟩, ⟨(some 10), .v (.len (.t 9)), none⟩, ⟨(some 11), .v (.bin .lss (.t 8) (.t 10)), none⟩])
         (.cond (.t 11)
          .skip
          (.exit 0)))
        (.seq
         (.block 1
          (.reg [⟨(some 14), .v (.mov (.t 3)), none⟩, ⟨(some 15), .v (.mov (.t 4)), none⟩, ⟨(some 16), .v (.mov (.t 0)), none⟩, ⟨(some 17), .v (.mov (.t 4)), none⟩, ⟨(some 18), .v (.iaddr 1 (.t 16) (.t 17)), none⟩, ⟨(some 19), .v (.load false 1 (.t 18)), none⟩, ⟨(some 20), .v (.iaddr 1 (.t 14) (.t 15)), none⟩, ⟨none, .m (.store 1 (.t 20) (.t 19)), none⟩]))
         (.reg [⟨(some 12), .v (.mov (.t 4)), none⟩, ⟨(some 13), .v (.bin .add (.t 12) (.c (.int .i64 1))), none⟩, ⟨(some 4), .v (.mov (.t 13)), none⟩]))))))
    (.seq
     (.reg [⟨(some 21), .v (.mov (.t 3)), none⟩, ⟨(some 2), .v (.mov (.t 21)), none⟩])
     .ret))))⟩
theorem e20 : rFunc Try.prog Try.f20 = some r20 := by kernel_rfl
def r103 : RFunc := ⟨12, [.cell true 2 2],
 (.seq
  (.reg [⟨(some 1), .m (.box (.t 0)), none⟩, ⟨(some 2), .m (.alloc [(.int .i64 0), .nils]), none⟩])
  (.seq
   (.reg [⟨(some 3), .m (.alloc [(.int .i64 0), .nils]), none⟩])
   (.seq
    (.reg [⟨(some 4), .v (.faddr 0 (.t 1)), none⟩, ⟨(some 5), .v (.load false 1 (.t 4)), none⟩, ⟨(some 6), .v (.faddr 0 (.t 3)), none⟩, ⟨none, .m (.store 1 (.t 6) (.t 5)), none⟩])
    (.seq
     (.reg [⟨(some 7), .v (.faddr 1 (.t 1)), none⟩, ⟨(some 8), .v (.load false 1 (.t 7)), none⟩, ⟨(some 9), .call 20 [(.t 8)], none⟩, ⟨(some 10), .v (.faddr 1 (.t 3)), none⟩, ⟨none, .m (.store 1 (.t 10) (.t 9)), none⟩])
     (.seq
      (.reg [⟨(some 11), .v (.load true 2 (.t 3)), none⟩, ⟨none, .m (.store 2 (.t 2) (.t 11)), none⟩])
      .ret)))))⟩
theorem e103 : rFunc Try.prog Try.f103 = some r103 := by kernel_rfl
def r64 : RFunc := ⟨23, [.t 2],
 (.seq
  (.reg [⟨(some 2), .v (.mov (.c .nils)), none⟩])
  (.seq
   (.reg [⟨(some 5), .v (.mov (.t 0)), none⟩, ⟨(some 6), .v (.len (.t 5)), none⟩, ⟨(some 7), .m (.mks 2 32 [(.int .i64 0), .nils] (.t 6) (.t 6)), none⟩, ⟨(some 3), .v (.mov (.t 7)), none⟩])
   (.seq
    (.seq
     (.reg [⟨(some 4), .v (.mov (.c (.int .i64 0))), none⟩])
     (.block 0
      (.loop
       (.seq
        (.seq
         (.reg [⟨(some 8), .v (.mov (.t 4)), none⟩, ⟨(some 9), .v (.mov (.t 0)), none⟩, ⟨(some 10), .v (.len (.t 9)), none⟩, ⟨(some 11), .v (.bin .lss (.t 8) (.t 10)), none⟩])
         (.cond (.t 11)
          .skip
          (.exit 0)))
        (.seq
         (.block 1
          (.reg [⟨(some 14), .v (.mov (.t 3)), none⟩, ⟨(some 15), .v (.mov (.t 4)), none⟩, ⟨(some 16), .v (.mov (.t 0)), none⟩, ⟨(some 17), .v (.mov (.t 4)), none⟩, ⟨(some 18), .v (.iaddr 2 (.t 16) (.t 17)), none⟩, ⟨(some 19), .v (.load true 2 (.t 18)), none⟩, ⟨(some 20), .call 103 [(.t 19)], none⟩, ⟨(some 21), .v (.iaddr 2 (.t 14) (.t 15)), none⟩, ⟨none, .m (.store 2 (.t 21) (.t 20)), none⟩]))
         (.reg [⟨(some 12), .v (.mov (.t 4)), none⟩, ⟨(some 13), .v (.bin .add (.t 12) (.c (.int .i64 1))), none⟩, ⟨(some 4), .v (.mov (.t 13)), none⟩]))))))
    (.seq
     (.reg [⟨(some 22), .v (.mov (.t 3)), none⟩, ⟨(some 2), .v (.mov (.t 22)), none⟩])
     .ret))))⟩
theorem e64 : rFunc Try.prog Try.f64 = some r64 := by kernel_rfl
def r65 : RFunc := ⟨22, [.t 2],
 (.seq
  (.reg [⟨(some 2), .v (.mov (.c .nils)), none⟩])
  (.seq
   (.reg [⟨(some 5), .v (.mov (.t 0)), none⟩, ⟨(some 6), .v (.len (.t 5)), none⟩, ⟨(some 7), .m (.mks 1 1 [(.bool false)] (.t 6) (.t 6)), none⟩, ⟨(some 3), .v (.mov (.t 7)), none⟩])
   (.seq
    (.seq
     (.reg [⟨(some 4), .v (.mov (.c (.int .i64 0))), none⟩])
     (.block 0
      (.loop
       (.seq
        (.seq
         (.reg [⟨(some 8), .v (.mov (.t 4)), none⟩, ⟨(some 9), .v (.mov (.t 0)), none⟩, ⟨(some 10), .v (.len (.t 9)), none⟩, ⟨(some 11), .v (.bin .lss (.t 8) (.t 10)), none⟩])
         (.cond (.t 11)
          .skip
          (.exit 0)))
        (.seq
         (.block 1
          (.reg [⟨(some 14), .v (.mov (.t 3)), none⟩, ⟨(some 15), .v (.mov (.t 4)), none⟩, ⟨(some 16), .v (.mov (.t 0)), none⟩, ⟨(some 17), .v (.mov (.t 4)), none⟩, ⟨(some 18), .v (.iaddr 1 (.t 16) (.t 17)), none⟩, ⟨(some 19), .v (.load false 1 (.t 18)), none⟩, ⟨(some 20), .v (.iaddr 1 (.t 14) (.t 15)), none⟩, ⟨none, .m (.store 1 (.t 20) (.t 19)), none⟩]))
         (.reg [⟨(some 12), .v (.mov (.t 4)), none⟩, ⟨(some 13), .v (.bin .add (.t 12) (.c (.int .i64 1))), none⟩, ⟨(some 4), .v (.mov (.t 13)), none⟩]))))))
    (.seq
     (.reg [⟨(some 21), .v (.mov (.t 3)), none⟩, ⟨(some 2), .v (.mov (.t 21)), none⟩])
     .ret))))⟩
theorem e65 : rFunc Try.prog Try.f65 = some r65 := by kernel_rfl
def r19 : RFunc := ⟨16, [.cell true 3 2],
 (.seq
  (.reg [⟨(some 1), .m (.box (.t 0)), none⟩, ⟨(some 2), .m (.alloc [(.int .i64 0), .nils, .nils]), none⟩])
  (.seq
   (.reg [⟨(some 3), .m (.alloc [(.int .i64 0), .nils, .nils]), none⟩])
   (.seq
    (.reg [⟨(some 4), .v (.faddr 0 (.t 1)), none⟩, ⟨(some 5), .v (.load false 1 (.t 4)), none⟩, ⟨(some 6), .v (.faddr 0 (.t 3)), none⟩, ⟨none, .m (.store 1 (.t 6) (.t 5)), none⟩])
    (.seq
     (.reg [⟨(some 7), .v (.faddr 1 (.t 1)), none⟩, ⟨(some 8), .v (.load false 1 (.t 7)), none⟩, ⟨(some 9), .call 64 [(.t 8)], none⟩, ⟨(some 10), .v (.faddr 1 (.t 3)), none⟩, ⟨none, .m (.store 1 (.t 10) (.t 9)), none⟩])
     (.seq
      (.reg [⟨(some 11), .v (.faddr 2 (.t 1)), none⟩, ⟨(some 12), .v (.load false 1 (.t 11)), none⟩, ⟨(some 13), .call 65 [(.t 12)], none⟩, ⟨(some 14), .v (.faddr 2 (.t 3)), none⟩, ⟨none, .m (.store 1 (.t 14) (.t 13)), none⟩])
      (.seq
       (.reg [⟨(some 15), .v (.load true 3 (.t 3)), none⟩, ⟨none, .m (.store 3 (.t 2) (.t 15)), none⟩])
       .ret))))))⟩
theorem e19 : rFunc Try.prog Try.f19 = some r19 := by kernel_rfl
def r23 : RFunc := ⟨26, [.t 4],
 (.seq
  (.reg [⟨(some 4), .v (.mov (.c (.bool false))), none⟩])
  (.seq
   (.seq
    (.reg [⟨(some 6), .v (.mov (.t 0)), none⟩, ⟨(some 7), .v (.len (.t 6)), none⟩, ⟨(some 8), .v (.mov (.t 1)), none⟩, ⟨(some 9), .v (.len (.t 8)), none⟩, ⟨(some 10), .v (.bin .neq (.t 7) (.t 9)), none⟩])
    (.cond (.t 10)
     (.seq
      (.reg [⟨(some 4), .v (.mov (.c (.bool false))), none⟩])
      .ret)
     .skip))
   (.seq
    (.seq
     (.reg [⟨(some 5), .v (.mov (.c (.int .i64 0))), none⟩])
     (.block 0
      (.loop
       (.seq
        (.seq
         (.reg [⟨(some 11), .v (.mov (.t 5)), none⟩, ⟨(some 12), .v (.mov (.t 0)), none⟩, ⟨(some 13), .v (.len (.t 12)), none⟩, ⟨(some 14), .v (.bin .lss (.t 11) (.t 13)), none⟩])
         (.cond (.t 14)
          .skip
          (.exit 0)))
        (.seq
         (.block 1
          (.seq
           (.dreg (.fl ⟨(some 17), .v (.mov (.t 0)), none⟩ (.fl ⟨(some 18), .v (.mov (.t 5)), none⟩ (.fl ⟨(some 19), .v (.iaddr 1 (.t 17) (.t 18)), none⟩ (.fl ⟨(some 20), .v (.load false 1 (.t 19)), none⟩ (.fl ⟨(some 21), .v (.mov (.t 1)), none⟩ (.fl ⟨(some 22), .v (.mov (.t 5)), none⟩ (.fl ⟨(some 23), .v (.iaddr 1 (.t 21) (.t 22)), none⟩ (.fl ⟨(some 24), .v (.load false 1 (.t 23)), none⟩ (.fl ⟨(some 25), .v (.bin .neq (.t 20) (.t 24)), none⟩ .done))))))))))
           (.cond (.t 25)
            (.seq
             (.reg [⟨(some 4), .v (.mov (.c (.bool false))), none⟩])
             .ret)
            .skip)))
         (.reg [⟨(some 15), .v (.mov (.t 5)), none⟩, ⟨(some 16), .v (.bin .add (.t 15) (.c (.int .i64 1))), none⟩, ⟨(some 5), .v (.mov (.t 16)), none⟩]))))))
    (.seq
     (.reg [⟨(some 4), .v (.mov (.c (.bool true))), none⟩])
     .ret))))⟩
theorem e23 : rFunc Try.prog Try.f23 = some r23 := by kernel_rfl
def r35 : RFunc := ⟨16, [.t 4],
 (.seq
  (.reg [⟨(some 2), .m (.box (.t 0)), none⟩, ⟨(some 3), .m (.box (.t 1)), none⟩, ⟨(some 4), .v (.mov (.c (.bool false))), none⟩])
  (.seq
   (.seq
    (.reg [⟨(some 5), .v (.faddr 0 (.t 2)), none⟩, ⟨(some 6), .v (.load false 1 (.t 5)), none⟩, ⟨(some 7), .v (.faddr 0 (.t 3)), none⟩, ⟨(some 8), .v (.load false 1 (.t 7)), none⟩, ⟨(some 9), .v (.bin .neq (.t 6) (.t 8)), none⟩])
    (.cond (.t 9)
     (.seq
      (.reg [⟨(some 4), .v (.mov (.c (.bool false))), none⟩])
      .ret)
     .skip))
   (.seq
    (.seq
     (.reg [⟨(some 10), .v (.faddr 1 (.t 2)), none⟩, ⟨(some 11), .v (.load false 1 (.t 10)), none⟩, ⟨(some 12), .v (.faddr 1 (.t 3)), none⟩, ⟨(some 13), .v (.load false 1 (.t 12)), none⟩, ⟨(some 14), .call 23 [(.t 11), (.t 13)], none⟩, ⟨(some 15), .v (.un .not (.t 14)), none⟩])
     (.cond (.t 15)
      (.seq
       (.reg [⟨(some 4), .v (.mov (.c (.bool false))), none⟩])
       .ret)
      .skip))
    (.seq
     (.reg [⟨(some 4), .v (.mov (.c (.bool true))), none⟩])
     .ret))))⟩
theorem e35 : rFunc Try.prog Try.f35 = some r35 := by kernel_rfl
def r40 : RFunc := ⟨27, [.t 4],
 (.seq
  (.reg [⟨(some 4), .v (.mov (.c (.bool false))), none⟩])
  (.seq
   (.seq
    (.reg [⟨(some 6), .v (.mov (.t 0)), none⟩, ⟨(some 7), .v (.len (.t 6)), none⟩, ⟨(some 8), .v (.mov (.t 1)), none⟩, ⟨(some 9), .v (.len (.t 8)), none⟩, ⟨(some 10), .v (.bin .neq (.t 7) (.t 9)), none⟩])
    (.cond (.t 10)
     (.seq
      (.reg [⟨(some 4), .v (.mov (.c (.bool false))), none⟩])
      .ret)
     .skip))
   (.seq
    (.seq
     (.reg [⟨(some 5), .v (.mov (.c (.int .i64 0))), none⟩])
     (.block 0
      (.loop
       (.seq
        (.seq
         (.reg [⟨(some 11), .v (.mov (.t 5)), none⟩, ⟨(some 12), .v (.mov (.t 0)), none⟩, ⟨(some 13), .v (.len (.t 12)), none⟩, ⟨(some 14), .v (.bin .lss (.t 11) (.t 13)), none⟩])
         (.cond (.t 14)
          .skip
          (.exit 0)))
        (.seq
         (.block 1
          (.seq
           (.dreg (.fl ⟨(some 17), .v (.mov (.t 0)), none⟩ (.fl ⟨(some 18), .v (.mov (.t 5)), none⟩ (.fl ⟨(some 19), .v (.iaddr 2 (.t 17) (.t 18)), none⟩ (.fl ⟨(some 20), .v (.load true 2 (.t 19)), none⟩ (.fl ⟨(some 21), .v (.mov (.t 1)), none⟩ (.fl ⟨(some 22), .v (.mov (.t 5)), none⟩ (.fl ⟨(some 23), .v (.iaddr 2 (.t 21) (.t 22)), none⟩ (.fl ⟨(some 24), .v (.load true 2 (.t 23)), none⟩ (.nx ⟨(some 25), .call 35 [(.t 20), (.t 24)], none⟩ (.fl ⟨(some 26), .v (.un .not (.t 25)), none⟩ .done)))))))))))
           (.cond (.t 26)
            (.seq
             (.reg [⟨(some 4), .v (.mov (.c (.bool false))), none⟩])
             .ret)
            .skip)))
         (.reg [⟨(some 15), .v (.mov (.t 5)), none⟩, ⟨(some 16), .v (.bin .add (.t 15) (.c (.int .i64 1))), none⟩, ⟨(some 5), .v (.mov (.t 16)), none⟩]))))))
    (.seq
     (.reg [⟨(some 4), .v (.mov (.c (.bool true))), none⟩])
     .ret))))⟩
theorem e40 : rFunc Try.prog Try.f40 = some r40 := by kernel_rfl
def r70 : RFunc := ⟨26, [.t 4],
 (.seq
  (.reg [⟨(some 4), .v (.mov (.c (.bool false))), none⟩])
  (.seq
   (.seq
    (.reg [⟨(some 6), .v (.mov (.t 0)), none⟩, ⟨(some 7), .v (.len (.t 6)), none⟩, ⟨(some 8), .v (.mov (.t 1)), none⟩, ⟨(some 9), .v (.len (.t 8)), none⟩, ⟨(some 10), .v (.bin .neq (.t 7) (.t 9)), none⟩])
    (.cond (.t 10)
     (.seq
      (.reg [⟨(some 4), .v (.mov (.c (.bool false))), none⟩])
      .ret)
     .skip))
   (.seq
    (.seq
     (.reg [⟨(some 5), .v (.mov (.c (.int .i64 0))), none⟩])
     (.block 0
      (.loop
       (.seq
        (.seq
         (.reg [⟨(some 11), .v (.mov (.t 5)), none⟩, ⟨(some 12), .v (.mov (.t 0)), none⟩, ⟨(some 13), .v (.len (.t 12)), none⟩, ⟨(some 14), .v (.bin .lss (.t 11) (.t 13)), none⟩])
         (.cond (.t 14)
          .skip
          (.exit 0)))
        (.seq
         (.block 1
          (.seq
           (.dreg (.fl ⟨(some 17), .v (.mov (.t 0)), none⟩ (.fl ⟨(some 18), .v (.mov (.t 5)), none⟩ (.fl ⟨(some 19), .v (.iaddr 1 (.t 17) (.t 18)), none⟩ (.fl ⟨(some 20), .v (.load false 1 (.t 19)), none⟩ (.fl ⟨(some 21), .v (.mov (.t 1)), none⟩ (.fl ⟨(some 22), .v (.mov (.t 5)), none⟩ (.fl ⟨(some 23), .v (.iaddr 1 (.t 21) (.t 22)), none⟩ (.fl ⟨(some 24), .v (.load false 1 (.t 23)), none⟩ (.fl ⟨(some 25), .v (.beq true (.t 20) (.t 24)), none⟩ .done))))))))))
           (.cond (.t 25)
            (.seq
             (.reg [⟨(some 4), .v (.mov (.c (.bool false))), none⟩])
             .ret)
            .skip)))
         (.reg [⟨(some 15), .v (.mov (.t 5)), none⟩, ⟨(some 16), .v (.bin .add (.t 15) (.c (.int .i64 1))), none⟩, ⟨(some 5), .v (.mov (.t 16)), none⟩]))))))
    (.seq
     (.reg [⟨(some 4), .v (.mov (.c (.bool true))), none⟩])
     .ret))))⟩
theorem e70 : rFunc Try.prog Try.f70 = some r70 := by kernel_rfl
def r22 : RFunc := ⟨22, [.t 4],
 (.seq
  (.reg [⟨(some 2), .m (.box (.t 0)), none⟩, ⟨(some 3), .m (.box (.t 1)), none⟩, ⟨(some 4), .v (.mov (.c (.bool false))), none⟩])
  (.seq
   (.seq
    (.reg [⟨(some 5), .v (.faddr 0 (.t 2)), none⟩, ⟨(some 6), .v (.load false 1 (.t 5)), none⟩, ⟨(some 7), .v (.faddr 0 (.t 3)), none⟩, ⟨(some 8), .v (.load false 1 (.t 7)), none⟩, ⟨(some 9), .v (.bin .neq (.t 6) (.t 8)), none⟩])
    (.cond (.t 9)
     (.seq
      (.reg [⟨(some 4), .v (.mov (.c (.bool false))), none⟩])
      .ret)
     .skip))
   (.seq
    (.seq
     (.reg [⟨(some 10), .v (.faddr 1 (.t 2)), none⟩, ⟨(some 11), .v (.load false 1 (.t 10)), none⟩, ⟨(some 12), .v (.faddr 1 (.t 3)), none⟩, ⟨(some 13), .v (.load false 1 (.t 12)), none⟩, ⟨(some 14), .call 40 [(.t 11), (.t 13)], none⟩, ⟨(some 15), .v (.un .not (.t 14)), none⟩])
     (.cond (.t 15)
      (.seq
       (.reg [⟨(some 4), .v (.mov (.c (.bool false))), none⟩])
       .ret)
      .skip))
    (.seq
     (.seq
      (.reg [⟨(some 16), .v (.faddr 2 (.t 2)), none⟩, ⟨(some 17), .v (.load false 1 (.t 16)), none⟩, ⟨(some 18), .v (.faddr 2 (.t 3)), none⟩, ⟨(some 19), .v (.load false 1 (.t 18)), none⟩, ⟨(some 20), .call 70 [(.t 17), (.t 19)], none⟩, ⟨(some 21), .v (.un .not (.t 20)), none⟩])
      (.cond (.t 21)
       (.seq
        (.reg [⟨(some 4), .v (.mov (.c (.bool false))), none⟩])
        .ret)
       .skip))
     (.seq
      (.reg [⟨(some 4), .v (.mov (.c (.bool true))), none⟩])
      .ret)))))⟩
theorem e22 : rFunc Try.prog Try.f22 = some r22 := by kernel_rfl
def r29 : RFunc := ⟨19, [.t 4],
 (.seq
  (.reg [⟨(some 4), .v (.mov (.c (.int .i64 0))), none⟩])
  (.seq
   (.seq
    (.reg [⟨(some 5), .v (.mov (.c (.int .i64 0))), none⟩])
    (.block 0
     (.loop
      (.seq
       (.seq
        (.reg [⟨(some 6), .v (.mov (.t 5)), none⟩, ⟨(some 7), .v (.mov (.t 0)), none⟩, ⟨(some 8), .v (.len (.t 7)), none⟩, ⟨(some 9), .v (.bin .lss (.t 6) (.t 8)), none⟩])
        (.cond (.t 9)
         .skip
         (.exit 0)))
       (.seq
        (.block 1
         (.seq
          (.reg [⟨(some 12), .v (.mov (.t 0)), none⟩, ⟨(some 13), .v (.mov (.t 5)), none⟩, ⟨(some 14), .v (.mov (.t 1)), none⟩, ⟨(some 15), .v (.iaddr 1 (.t 12) (.t 13)), none⟩, ⟨none, .m (.store 1 (.t 15) (.t 14)), none⟩])
          (.reg [⟨(some 16), .v (.mov (.t 1)), none⟩, ⟨(some 17), .v (.bin .add (.t 16) (.c (.int .i64 1))), none⟩, ⟨(some 1), .v (.mov (.t 17)), none⟩])))
        (.reg [⟨(some 10), .v (.mov (.t 5)), none⟩, ⟨(some 11), .v (.bin .add (.t 10) (.c (.int .i64 1))), none⟩, ⟨(some 5), .v (.mov (.t 11)), none⟩]))))))
   (.seq
    (.reg [⟨(some 18), .v (.mov (.t 1)), none⟩, ⟨(some 4), .v (.mov (.t 18)), none⟩])
    .ret)))⟩
theorem e29 : rFunc Try.prog Try.f29 = some r29 := by kernel_rfl
def r41 : RFunc := ⟨27, [.t 4],
 (.seq
  (.reg [⟨(some 4), .v (.mov (.c (.int .i64 0))), none⟩])
  (.seq
   (.seq
    (.reg [⟨(some 5), .v (.mov (.c (.int .i64 0))), none⟩])
    (.block 0
     (.loop
      (.seq
       (.seq
        (.reg [⟨(some 6), .v (.mov (.t 5)), none⟩, ⟨(some 7), .v (.mov (.t 0)), none⟩, ⟨(some 8), .v (.len (.t 7)), none⟩, ⟨(some 9), .v (.bin .lss (.t 6) (.t 8)), none⟩])
        (.cond (.t 9)
         .skip
         (.exit 0)))
       (.seq
        (.block 1
         (.seq
          (.reg [⟨(some 12), .v (.mov (.t 0)), none⟩, ⟨(some 13), .v (.mov (.t 5)), none⟩, ⟨(some 14), .v (.mov (.t 1)), none⟩, ⟨(some 15), .v (.iaddr 2 (.t 12) (.t 13)), none⟩, ⟨(some 16), .v (.faddr 0 (.t 15)), none⟩, ⟨none, .m (.store 1 (.t 16) (.t 14)), none⟩])
          (.seq
           (.reg [⟨(some 17), .v (.mov (.t 1)), none⟩, ⟨(some 18), .v (.bin .add (.t 17) (.c (.int .i64 1))), none⟩, ⟨(some 1), .v (.mov (.t 18)), none⟩])
           (.reg [⟨(some 19), .v (.mov (.t 0)), none⟩, ⟨(some 20), .v (.mov (.t 5)), none⟩, ⟨(some 21), .v (.iaddr 2 (.t 19) (.t 20)), none⟩, ⟨(some 22), .v (.faddr 1 (.t 21)), none⟩, ⟨(some 23), .v (.load false 1 (.t 22)), none⟩, ⟨(some 24), .v (.mov (.t 1)), none⟩, ⟨(some 25), .call 29 [(.t 23), (.t 24)], none⟩, ⟨(some 1), .v (.mov (.t 25)), none⟩]))))
        (.reg [⟨(some 10), .v (.mov (.t 5)), none⟩, ⟨(some 11), .v (.bin .add (.t 10) (.c (.int .i64 1))), none⟩, ⟨(some 5), .v (.mov (.t 11)), none⟩]))))))
   (.seq
    (.reg [⟨(some 26), .v (.mov (.t 1)), none⟩, ⟨(some 4), .v (.mov (.t 26)), none⟩])
    .ret)))⟩
theorem e41 : rFunc Try.prog Try.f41 = some r41 := by kernel_rfl
def r74 : RFunc := ⟨21, [.t 4],
 (.seq
  (.reg [⟨(some 4), .v (.mov (.c (.int .i64 0))), none⟩])
  (.seq
   (.seq
    (.reg [⟨(some 5), .v (.mov (.c (.int .i64 0))), none⟩])
    (.block 0
     (.loop
      (.seq
       (.seq
        (.reg [⟨(some 6), .v (.mov (.t 5)), none⟩, ⟨(some 7), .v (.mov (.t 0)), none⟩, ⟨(some 8), .v (.len (.t 7)), none⟩, ⟨(some 9), .v (.bin .lss (.t 6) (.t 8)), none⟩])
        (.cond (.t 9)
         .skip
         (.exit 0)))
       (.seq
        (.block 1
         (.seq
          (.reg [⟨(some 12), .v (.mov (.t 0)), none⟩, ⟨(some 13), .v (.mov (.t 5)), none⟩, ⟨(some 14), .v (.mov (.t 1)), none⟩, ⟨(some 15), .v (.bin .rem (.t 14) (.c (.int .i64 3))), none⟩, ⟨(some 16), .v (.bin .eql (.t 15) (.c (.int .i64 0))), none⟩, ⟨(some 17), .v (.iaddr 1 (.t 12) (.t 13)), none⟩, ⟨none, .m (.store 1 (.t 17) (.t 16)), none⟩])
          (.reg [⟨(some 18), .v (.mov (.t 1)), none⟩, ⟨(some 19), .v (.bin .add (.t 18) (.c (.int .i64 1))), none⟩, ⟨(some 1), .v (.mov (.t 19)), none⟩])))
        (.reg [⟨(some 10), .v (.mov (.t 5)), none⟩, ⟨(some 11), .v (.bin .add (.t 10) (.c (.int .i64 1))), none⟩, ⟨(some 5), .v (.mov (.t 11)), none⟩]))))))
   (.seq
    (.reg [⟨(some 20), .v (.mov (.t 1)), none⟩, ⟨(some 4), .v (.mov (.t 20)), none⟩])
    .ret)))⟩
theorem e74 : rFunc Try.prog Try.f74 = some r74 := by kernel_rfl
def r28 : RFunc := ⟨14, [.t 4],
 (.seq
  (.reg [⟨(some 2), .m (.box (.t 0)), none⟩, ⟨(some 4), .v (.mov (.c (.int .i64 0))), none⟩])
  (.seq
   (.reg [⟨(some 5), .v (.faddr 1 (.t 2)), none⟩, ⟨(some 6), .v (.load false 1 (.t 5)), none⟩, ⟨(some 7), .v (.mov (.t 1)), none⟩, ⟨(some 8), .call 41 [(.t 6), (.t 7)], none⟩, ⟨(some 1), .v (.mov (.t 8)), none⟩])
   (.seq
    (.reg [⟨(some 9), .v (.faddr 2 (.t 2)), none⟩, ⟨(some 10), .v (.load false 1 (.t 9)), none⟩, ⟨(some 11), .v (.mov (.t 1)), none⟩, ⟨(some 12), .call 74 [(.t 10), (.t 11)], none⟩, ⟨(some 1), .v (.mov (.t 12)), none⟩])
    (.seq
     (.reg [⟨(some 13), .v (.mov (.t 1)), none⟩, ⟨(some 4), .v (.mov (.t 13)), none⟩])
     .ret))))⟩
theorem e28 : rFunc Try.prog Try.f28 = some r28 := by kernel_rfl
def r30 : RFunc := ⟨21, [.t 4],
 (.seq
  (.reg [⟨(some 4), .v (.mov (.c (.int .i64 0))), none⟩])
  (.seq
   (.seq
    (.reg [⟨(some 5), .v (.mov (.c (.int .i64 0))), none⟩])
    (.block 0
     (.loop
      (.seq
       (.seq
        (.reg [⟨(some 6), .v (.mov (.t 5)), none⟩, ⟨(some 7), .v (.mov (.t 0)), none⟩, ⟨(some 8), .v (.len (.t 7)), none⟩, ⟨(some 9), .v (.bin .lss (.t 6) (.t 8)), none⟩])
        (.cond (.t 9)
         .skip
         (.exit 0)))
       (.seq
        (.block 1
         (.seq
          (.seq
           (.reg [⟨(some 12), .v (.mov (.t 0)), none⟩, ⟨(some 13), .v (.mov (.t 5)), none⟩, ⟨(some 14), .v (.iaddr 1 (.t 12) (.t 13)), none⟩, ⟨(some 15), .v (.load false 1 (.t 14)), none⟩, ⟨(some 16), .v (.mov (.t 1)), none⟩, ⟨(some 17), .v (.bin .neq (.t 15) (.t 16)), none⟩])
           (.cond (.t 17)
            (.seq
             (.reg [⟨(some 4), .v (.mov (.c (.int .i64 (-1)))), none⟩])
             .ret)
            .skip))
          (.reg [⟨(some 18), .v (.mov (.t 1)), none⟩, ⟨(some 19), .v (.bin .add (.t 18) (.c (.int .i64 1))), none⟩, ⟨(some 1), .v (.mov (.t 19)), none⟩])))
        (.reg [⟨(some 10), .v (.mov (.t 5)), none⟩, ⟨(some 11), .v (.bin .add (.t 10) (.c (.int .i64 1))), none⟩, ⟨(some 5), .v (.mov (.t 11)), none⟩]))))))
   (.seq
    (.reg [⟨(some 20), .v (.mov (.t 1)), none⟩, ⟨(some 4), .v (.mov (.t 20)), none⟩])
    .ret)))⟩
theorem e30 : rFunc Try.prog Try.f30 = some r30 := by kernel_rfl
def r36 : RFunc := ⟨10, [.t 4],
 (.seq
  (.reg [⟨(some 2), .m (.box (.t 0)), none⟩, ⟨(some 4), .v (.mov (.c (.int .i64 0))), none⟩])
  (.seq
   (.reg [⟨(some 5), .v (.faddr 1 (.t 2)), none⟩, ⟨(some 6), .v (.load false 1 (.t 5)), none⟩, ⟨(some 7), .v (.mov (.t 1)), none⟩, ⟨(some 8), .call 29 [(.t 6), (.t 7)], none⟩, ⟨(some 1), .v (.mov (.t 8)), none⟩])
   (.seq
    (.reg [⟨(some 9), .v (.mov (.t 1)), none⟩, ⟨(some 4), .v (.mov (.t 9)), none⟩])
    .ret)))⟩
theorem e36 : rFunc Try.prog Try.f36 = some r36 := by kernel_rfl
def r37 : RFunc := ⟨12, [.t 4],
 (.seq
  (.reg [⟨(some 2), .m (.box (.t 0)), none⟩, ⟨(some 4), .v (.mov (.c (.int .i64 0))), none⟩])
  (.seq
   (.reg [⟨(some 5), .v (.faddr 1 (.t 2)), none⟩, ⟨(some 6), .v (.load false 1 (.t 5)), none⟩, ⟨(some 7), .v (.mov (.t 1)), none⟩, ⟨(some 8), .call 30 [(.t 6), (.t 7)], none⟩, ⟨(some 1), .v (.mov (.t 8)), none⟩])
   (.seq
    (.seq
     (.reg [⟨(some 9), .v (.mov (.t 1)), none⟩, ⟨(some 10), .v (.bin .lss (.t 9) (.c (.int .i64 0))), none⟩])
     (.cond (.t 10)
      (.seq
       (.reg [⟨(some 4), .v (.mov (.c (.int .i64 (-1)))), none⟩])
       .ret)
      .skip))
    (.seq
     (.reg [⟨(some 11), .v (.mov (.t 1)), none⟩, ⟨(some 4), .v (.mov (.t 11)), none⟩])
     .ret))))⟩
theorem e37 : rFunc Try.prog Try.f37 = some r37 := by kernel_rfl
def r42 : RFunc := ⟨31, [.t 4],
 (.seq
  (.reg [⟨(some 4), .v (.mov (.c (.int .i64 0))), none⟩])
  (.seq
   (.seq
    (.reg [⟨(some 5), .v (.mov (.c (.int .i64 0))), none⟩])
    (.block 0
     (.loop
      (.seq
       (.seq
        (.reg [⟨(some 6), .v (.mov (.t 5)), none⟩, ⟨(some 7), .v (.mov (.t 0)), none⟩, ⟨(some 8), .v (.len (.t 7)), none⟩, ⟨(some 9), .v (.bin .lss (.t 6) (.t 8)), none⟩])
        (.cond (.t 9)
         .skip
         (.exit 0)))
       (.seq
        (.block 1
         (.seq
          (.seq
           (.reg [⟨(some 12), .v (.mov (.t 0)), none⟩, ⟨(some 13), .v (.mov (.t 5)), none⟩, ⟨(some 14), .v (.iaddr 2 (.t 12) (.t 13)), none⟩, ⟨(some 15), .v (.faddr 0 (.t 14)), none⟩, ⟨(some 16), .v (.load false 1 (.t 15)), none⟩, ⟨(some 17), .v (.mov (.t 1)), none⟩, ⟨(some 18), .v (.bin .neq (.t 16) (.t 17)), none⟩])
           (.cond (.t 18)
            (.seq
             (.reg [⟨(some 4), .v (.mov (.c (.int .i64 (-1)))), none⟩])
             .ret)
            .skip))
          (.seq
           (.reg [⟨(some 19), .v (.mov (.t 1)), none⟩, ⟨(some 20), .v (.bin .add (.t 19) (.c (.int .i64 1))), none⟩, ⟨(some 1), .v (.mov (.t 20)), none⟩])
           (.seq
            (.reg [⟨(some 21), .v (.mov (.t 0)), none⟩, ⟨(some 22), .v (.mov (.t 5)), none⟩, ⟨(some 23), .v (.iaddr 2 (.t 21) (.t 22)), none⟩, ⟨(some 24), .v (.faddr 1 (.t 23)), none⟩, ⟨(some 25), .v (.load false 1 (.t 24)), none⟩, ⟨(some 26), .v (.mov (.t 1)), none⟩, ⟨(some 27), .call 30 [(.t 25), (.t 26)], none⟩, ⟨(some 1), .v (.mov (.t 27)), none⟩])
            (.seq
             (.reg [⟨(some 28), .v (.mov (.t 1)), none⟩, ⟨(some 29), .v (.bin .lss (.t 28) (.c (.int .i64 0))), none⟩])
             (.cond (.t 29)
              (.seq
               (.reg [⟨(some 4), .v (.mov (.c (.int .i64 (-1)))), none⟩])
               .ret)
              .skip))))))
        (.reg [⟨(some 10), .v (.mov (.t 5)), none⟩, ⟨(some 11), .v (.bin .add (.t 10) (.c (.int .i64 1))), none⟩, ⟨(some 5), .v (.mov (.t 11)), none⟩]))))))
   (.seq
    (.reg [⟨(some 30), .v (.mov (.t 1)), none⟩, ⟨(some 4), .v (.mov (.t 30)), none⟩])
    .ret)))⟩
theorem e42 : rFunc Try.prog Try.f42 = some r42 := by kernel_rfl
def r98 : RFunc := ⟨15, [.t 6],
 (.seq
  (.reg [⟨(some 6), .v (.mov (.c (.bool false))), none⟩])
  (.seq
   (.reg [⟨(some 7), .v (.mov (.t 0)), none⟩, ⟨(some 8), .v (.mov (.t 1)), none⟩, ⟨(some 9), .v (.bin .geq (.t 7) (.t 8)), none⟩, ⟨(some 10), .v (.mov (.t 9)), none⟩, ⟨(some 11), .v (.mov (.t 0)), (some (10, true))⟩, ⟨(some 12), .v (.mov (.t 2)), (some (10, true))⟩, ⟨(some 13), .v (.bin .leq (.t 11) (.t 12)), (some (10, true))⟩, ⟨(some 14), .v (.pick (.t 10) (.t 13) (.c (.bool false))), none⟩, ⟨(some 6), .v (.mov (.t 14)), none⟩])
   .ret))⟩
theorem e98 : rFunc Try.prog Try.f98 = some r98 := by kernel_rfl
def r118 : RFunc := ⟨21, [.t 6],
 (.seq
  (.reg [⟨(some 6), .v (.mov (.c (.bool false))), none⟩])
  (.seq
   (.seq
    (.reg [⟨(some 9), .v (.mov (.t 0)), none⟩, ⟨(some 10), .v (.len (.t 9)), none⟩, ⟨(some 11), .v (.mov (.c (.int .i64 0))), none⟩])
    (.block 0
     (.loop
      (.seq
       (.reg [⟨(some 12), .v (.bin .lss (.t 11) (.t 10)), none⟩])
       (.seq
        (.cond (.t 12)
         .skip
         (.exit 0))
        (.seq
         (.block 1
          (.seq
           (.reg [⟨(some 13), .v (.iaddr 1 (.t 9) (.t 11)), none⟩, ⟨(some 14), .v (.load false 1 (.t 13)), none⟩, ⟨(some 8), .v (.mov (.t 14)), none⟩])
           (.seq
            (.reg [⟨(some 15), .v (.mov (.t 8)), none⟩, ⟨(some 16), .v (.mov (.t 1)), none⟩, ⟨(some 17), .v (.mov (.t 2)), none⟩, ⟨(some 18), .call 98 [(.t 15), (.t 16), (.t 17)], none⟩, ⟨(some 19), .v (.un .not (.t 18)), none⟩])
            (.cond (.t 19)
             (.seq
              (.reg [⟨(some 6), .v (.mov (.c (.bool false))), none⟩])
              .ret)
             .skip))))
         (.reg [⟨(some 20), .v (.bin .add (.t 11) (.c (.int .i64 1))), none⟩, ⟨(some 11), .v (.mov (.t 20)), none⟩])))))))
   (.seq
    (.reg [⟨(some 6), .v (.mov (.c (.bool true))), none⟩])
    .ret)))⟩
theorem e118 : rFunc Try.prog Try.f118 = some r118 := by kernel_rfl
def r94 : RFunc := ⟨42, [.t 2],
 (.seq
  (.reg [⟨(some 1), .m (.box (.t 0)), none⟩, ⟨(some 2), .v (.mov (.c (.bool false))), none⟩])
  (.seq
   (.seq
    (.reg [⟨(some 3), .v (.faddr 0 (.t 1)), none⟩, ⟨(some 4), .v (.load false 1 (.t 3)), none⟩, ⟨(some 5), .call 98 [(.t 4), (.c (.int .i64 0)), (.c (.int .i64 4096))], none⟩, ⟨(some 6), .v (.un .not (.t 5)), none⟩, ⟨(some 7), .v (.mov (.t 6)), none⟩, ⟨(some 8), .v (.faddr 1 (.t 1)), (some (7, false))⟩, ⟨(some 9), .v (.load false 1 (.t 8)), (some (7, false))⟩, ⟨(some 10), .v (.len (.t 9)), (some (7, false))⟩, ⟨(some 11), .v (.faddr 0 (.t 1)), (some (7, false))⟩, ⟨(some 12), .v (.load false 1 (.t 11)), (some (7, false))⟩, ⟨(some 13), .v (.bin .add (.t 12) (.c (.int .i64 15))), (some (7, false))⟩, ⟨(some 14), .v (.bin .quo (.t 13) (.c (.int .i64 16))), (some (7, false))⟩, ⟨(some 15), .v (.bin .neq (.t 10) (.t 14)), (some (7, false))⟩, ⟨(some 16), .v (.pick (.t 7) (.c (.bool true)) (.t 15)), none⟩, ⟨(some 17), .v (.mov (.t 16)), none⟩, ⟨(some 18), .v (.faddr 1 (.t 1)), (some (17, false))⟩, ⟨(some 19), .v (.load false 1 (.t 18)), (some (17, false))⟩, ⟨(some 20), .call 118 [(.t 19), (.c (.int .i64 0)), (.c (.int .i64 65535))], (some (17, false))⟩, ⟨(some 21), .v (.un .not (.t 20)), (some (17, false))⟩, ⟨(some 22), .v (.pick (.t 17) (.c (.bool true)) (.t 21)), none⟩])
    (.cond (.t 22)
     (.seq
      (.reg [⟨(some 2), .v (.mov (.c (.bool false))), none⟩])
      .ret)
     .skip))
   (.seq
    (.dreg (.fl ⟨(some 23), .v (.faddr 0 (.t 1)), none⟩ (.fl ⟨(some 24), .v (.load false 1 (.t 23)), none⟩ (.fl ⟨(some 25), .v (.bin .rem (.t 24) (.c (.int .i64 16))), none⟩ (.fl ⟨(some 26), .v (.bin .eql (.t 25) (.c (.int .i64 0))), none⟩ (.fl ⟨(some 27), .v (.mov (.t 26)), none⟩ (.fl ⟨(some 28), .v (.faddr 1 (.t 1)), (some (27, false))⟩ (.fl ⟨(some 29), .v (.load false 1 (.t 28)), (some (27, false))⟩ (.fl ⟨(some 30), .v (.faddr 1 (.t 1)), (some (27, false))⟩ (.fl ⟨(some 31), .v (.load false 1 (.t 30)), (some (27, false))⟩ (.fl ⟨(some 32), .v (.len (.t 31)), (some (27, false))⟩ (.fl ⟨(some 33), .v (.bin .sub (.t 32) (.c (.int .i64 1))), (some (27, false))⟩ (.fl ⟨(some 34), .v (.iaddr 1 (.t 29) (.t 33)), (some (27, false))⟩ (.fl ⟨(some 35), .v (.load false 1 (.t 34)), (some (27, false))⟩ (.fl ⟨(some 36), .v (.faddr 0 (.t 1)), (some (27, false))⟩ (.fl ⟨(some 37), .v (.load false 1 (.t 36)), (some (27, false))⟩ (.fl ⟨(some 38), .v (.bin .rem (.t 37) (.c (.int .i64 16))), (some (27, false))⟩ (.fl ⟨(some 39), .v (.bin .shr (.t 35) (.t 38)), (some (27, false))⟩ (.fl ⟨(some 40), .v (.bin .eql (.t 39) (.c (.int .i64 0))), (some (27, false))⟩ (.fl ⟨(some 41), .v (.pick (.t 27) (.c (.bool true)) (.t 40)), none⟩ (.fl ⟨(some 2), .v (.mov (.t 41)), none⟩ .done)))))))))))))))))))))
    .ret)))⟩
theorem e94 : rFunc Try.prog Try.f94 = some r94 := by kernel_rfl
def r59 : RFunc := ⟨42, [.t 2],
 (.seq
  (.reg [⟨(some 1), .m (.box (.t 0)), none⟩, ⟨(some 2), .v (.mov (.c (.bool false))), none⟩])
  (.seq
   (.seq
    (.reg [⟨(some 5), .v (.faddr 0 (.t 1)), none⟩, ⟨(some 6), .v (.load false 1 (.t 5)), none⟩, ⟨(some 7), .call 98 [(.t 6), (.c (.int .i64 1)), (.c (.int .i64 72))], none⟩, ⟨(some 8), .v (.un .not (.t 7)), none⟩, ⟨(some 9), .v (.mov (.t 8)), none⟩, ⟨(some 10), .v (.faddr 1 (.t 1)), (some (9, false))⟩, ⟨(some 11), .v (.load false 1 (.t 10)), (some (9, false))⟩, ⟨(some 12), .v (.len (.t 11)), (some (9, false))⟩, ⟨(some 13), .v (.bin .gtr (.t 12) (.c (.int .i64 40))), (some (9, false))⟩, ⟨(some 14), .v (.pick (.t 9) (.c (.bool true)) (.t 13)), none⟩, ⟨(some 15), .v (.mov (.t 14)), none⟩, ⟨(some 16), .v (.faddr 2 (.t 1)), (some (15, false))⟩, ⟨(some 17), .v (.load false 1 (.t 16)), (some (15, false))⟩, ⟨(some 18), .v (.len (.t 17)), (some (15, false))⟩, ⟨(some 19), .v (.faddr 1 (.t 1)), (some (15, false))⟩, ⟨(some 20), .v (.load false 1 (.t 19)), (some (15, false))⟩, ⟨(some 21), .v (.len (.t 20)), (some (15, false))⟩, ⟨(some 22), .v (.bin .neq (.t 18) (.t 21)), (some (15, false))⟩, ⟨(some 23), .v (.pick (.t 15) (.c (.bool true)) (.t 22)), none⟩])
    (.cond (.t 23)
     (.seq
      (.reg [⟨(some 2), .v (.mov (.c (.bool false))), none⟩])
      .ret)
     .skip))
   (.seq
    (.seq
     (.reg [⟨(some 24), .v (.faddr 1 (.t 1)), none⟩, ⟨(some 25), .v (.load false 1 (.t 24)), none⟩, ⟨(some 26), .v (.len (.t 25)), none⟩, ⟨(some 27), .v (.mov (.c (.int .i64 0))), none⟩])
     (.block 0
      (.loop
       (.seq
        (.reg [⟨(some 28), .v (.bin .lss (.t 27) (.t 26)), none⟩])
        (.seq
         (.cond (.t 28)
          .skip
          (.exit 0))
         (.seq
          (.block 1
           (.seq
            (.reg [⟨(some 29), .v (.iaddr 2 (.t 25) (.t 27)), none⟩, ⟨(some 30), .v (.load true 2 (.t 29)), none⟩, ⟨(some 4), .m (.alloc [(.int .i64 0), .nils]), none⟩, ⟨none, .m (.store 2 (.t 4) (.t 30)), none⟩])
            (.seq
             (.reg [⟨(some 31), .v (.load true 2 (.t 4)), none⟩, ⟨(some 32), .call 94 [(.t 31)], none⟩, ⟨(some 33), .v (.un .not (.t 32)), none⟩, ⟨(some 34), .v (.mov (.t 33)), none⟩, ⟨(some 35), .v (.faddr 0 (.t 4)), (some (34, false))⟩, ⟨(some 36), .v (.load false 1 (.t 35)), (some (34, false))⟩, ⟨(some 37), .v (.faddr 0 (.t 1)), (some (34, false))⟩, ⟨(some 38), .v (.load false 1 (.t 37)), (some (34, false))⟩, ⟨(some 39), .v (.bin .neq (.t 36) (.t 38)), (some (34, false))⟩, ⟨(some 40), .v (.pick (.t 34) (.c (.bool true)) (.t 39)), none⟩])
             (.cond (.t 40)
              (.seq
               (.reg [⟨(some 2), .v (.mov (.c (.bool false))), none⟩])
               .ret)
              .skip))))
          (.reg [⟨(some 41), .v (.bin .add (.t 27) (.c (.int .i64 1))), none⟩, ⟨(some 27), .v (.mov (.t 41)), none⟩])))))))
    (.seq
     (.reg [⟨(some 2), .v (.mov (.c (.bool true))), none⟩])
     .ret))))⟩
theorem e59 : rFunc Try.prog Try.f59 = some r59 := by kernel_rfl
def r115 : RFunc := ⟨19, [.t 4],
 (.seq
  (.reg [⟨(some 4), .v (.mov (.c (.int .i64 0))), none⟩])
  (.seq
   (.seq
    (.reg [⟨(some 6), .v (.mov (.t 0)), none⟩, ⟨(some 7), .v (.len (.t 6)), none⟩, ⟨(some 8), .v (.mov (.c (.int .i64 0))), none⟩])
    (.block 0
     (.loop
      (.seq
       (.reg [⟨(some 9), .v (.bin .lss (.t 8) (.t 7)), none⟩])
       (.seq
        (.cond (.t 9)
         .skip
         (.exit 0))
        (.seq
         (.block 1
          (.seq
           (.reg [⟨(some 10), .v (.mov (.t 8)), none⟩, ⟨(some 5), .v (.mov (.t 10)), none⟩])
           (.seq
            (.reg [⟨(some 11), .v (.mov (.t 1)), none⟩, ⟨(some 12), .v (.mov (.t 0)), none⟩, ⟨(some 13), .v (.mov (.t 5)), none⟩, ⟨(some 14), .v (.iaddr 2 (.t 12) (.t 13)), none⟩, ⟨(some 15), .v (.load true 2 (.t 14)), none⟩, ⟨(some 16), .callv (.t 11) [(.t 15)], none⟩])
            (.cond (.t 16)
             (.seq
              (.reg [⟨(some 17), .v (.mov (.t 5)), none⟩, ⟨(some 4), .v (.mov (.t 17)), none⟩])
              .ret)
             .skip))))
         (.reg [⟨(some 18), .v (.bin .add (.t 8) (.c (.int .i64 1))), none⟩, ⟨(some 8), .v (.mov (.t 18)), none⟩])))))))
   (.seq
    (.reg [⟨(some 4), .v (.mov (.c (.int .i64 (-1)))), none⟩])
    .ret)))⟩
theorem e115 : rFunc Try.prog Try.f115 = some r115 := by kernel_rfl
def r90 : RFunc := ⟨9, [.t 4],
 (.seq
  (.reg [⟨(some 4), .v (.mov (.c (.bool false))), none⟩])
  (.seq
   (.reg [⟨(some 5), .v (.mov (.t 0)), none⟩, ⟨(some 6), .v (.mov (.t 1)), none⟩, ⟨(some 7), .call 115 [(.t 5), (.t 6)], none⟩, ⟨(some 8), .v (.bin .geq (.t 7) (.c (.int .i64 0))), none⟩, ⟨(some 4), .v (.mov (.t 8)), none⟩])
   .ret))⟩
theorem e90 : rFunc Try.prog Try.f90 = some r90 := by kernel_rfl
def r87 : RFunc := ⟨15, [.t 6],
 (.seq
  (.reg [⟨(some 6), .v (.mov (.c (.bool false))), none⟩])
  (.seq
   (.reg [⟨(some 7), .v (.mov (.t 0)), none⟩, ⟨(some 8), .v (.mov (.t 1)), none⟩, ⟨(some 9), .v (.bin .geq (.t 7) (.t 8)), none⟩, ⟨(some 10), .v (.mov (.t 9)), none⟩, ⟨(some 11), .v (.mov (.t 0)), (some (10, true))⟩, ⟨(some 12), .v (.mov (.t 2)), (some (10, true))⟩, ⟨(some 13), .v (.bin .leq (.t 11) (.t 12)), (some (10, true))⟩, ⟨(some 14), .v (.pick (.t 10) (.t 13) (.c (.bool false))), none⟩, ⟨(some 6), .v (.mov (.t 14)), none⟩])
   .ret))⟩
theorem e87 : rFunc Try.prog Try.f87 = some r87 := by kernel_rfl
def r104 : RFunc := ⟨7, [.t 2],
 (.seq
  (.reg [⟨(some 2), .v (.mov (.c (.int .i64 0))), none⟩])
  (.seq
   (.reg [⟨(some 3), .v (.mov (.t 0)), none⟩, ⟨(some 4), .v (.bin .add (.t 3) (.c (.int .i64 16))), none⟩, ⟨(some 5), .v (.bin .sub (.t 4) (.c (.int .i64 1))), none⟩, ⟨(some 6), .v (.bin .quo (.t 5) (.c (.int .i64 16))), none⟩, ⟨(some 2), .v (.mov (.t 6)), none⟩])
   .ret))⟩
theorem e104 : rFunc Try.prog Try.f104 = some r104 := by kernel_rfl
def r86 : RFunc := ⟨48, [.t 2],
 (.seq
  (.reg [⟨(some 1), .m (.box (.t 0)), none⟩, ⟨(some 2), .v (.mov (.c (.bool false))), none⟩])
  (.seq
   (.seq
    (.dreg (.fl ⟨(some 6), .v (.faddr 0 (.t 1)), none⟩ (.fl ⟨(some 7), .v (.load false 1 (.t 6)), none⟩ (.nx ⟨(some 8), .call 87 [(.t 7), (.c (.int .i64 0)), (.c (.int .i64 4096))], none⟩ (.fl ⟨(some 9), .v (.un .not (.t 8)), none⟩ (.fl ⟨(some 10), .v (.mov (.t 9)), none⟩ (.fl ⟨(some 11), .v (.faddr 1 (.t 1)), (some (10, false))⟩ (.fl ⟨(some 12), .v (.load false 1 (.t 11)), (some (10, false))⟩ (.fl ⟨(some 13), .v (.len (.t 12)), (some (10, false))⟩ (.fl ⟨(some 14), .v (.faddr 0 (.t 1)), (some (10, false))⟩ (.fl ⟨(some 15), .v (.load false 1 (.t 14)), (some (10, false))⟩ (.nx ⟨(some 16), .call 104 [(.t 15)], (some (10, false))⟩ (.fl ⟨(some 17), .v (.bin .neq (.t 13) (.t 16)), (some (10, false))⟩ (.fl ⟨(some 18), .v (.pick (.t 10) (.c (.bool true)) (.t 17)), none⟩ .done))))))))))))))
    (.cond (.t 18)
     (.seq
      (.reg [⟨(some 2), .v (.mov (.c (.bool false))), none⟩])
      .ret)
     .skip))
   (.seq
    (.seq
     (.reg [⟨(some 19), .v (.faddr 1 (.t 1)), none⟩, ⟨(some 20), .v (.load false 1 (.t 19)), none⟩, ⟨(some 21), .v (.len (.t 20)), none⟩, ⟨(some 22), .v (.mov (.c (.int .i64 0))), none⟩])
     (.block 0
      (.loop
       (.seq
        (.reg [⟨(some 23), .v (.bin .lss (.t 22) (.t 21)), none⟩])
        (.seq
         (.cond (.t 23)
          .skip
          (.exit 0))
         (.seq
          (.block 1
           (.seq
            (.reg [⟨(some 24), .v (.iaddr 1 (.t 20) (.t 22)), none⟩, ⟨(some 25), .v (.load false 1 (.t 24)), none⟩, ⟨(some 4), .v (.mov (.t 25)), none⟩])
            (.seq
             (.reg [⟨(some 26), .v (.mov (.t 4)), none⟩, ⟨(some 27), .call 87 [(.t 26), (.c (.int .i64 0)), (.c (.int .i64 65535))], none⟩, ⟨(some 28), .v (.un .not (.t 27)), none⟩])
             (.cond (.t 28)
              (.seq
               (.reg [⟨(some 2), .v (.mov (.c (.bool false))), none⟩])
               .ret)
              .skip))))
          (.reg [⟨(some 29), .v (.bin .add (.t 22) (.c (.int .i64 1))), none⟩, ⟨(some 22), .v (.mov (.t 29)), none⟩])))))))
    (.seq
     (.reg [⟨(some 30), .v (.faddr 0 (.t 1)), none⟩, ⟨(some 31), .v (.load false 1 (.t 30)), none⟩, ⟨(some 32), .v (.bin .rem (.t 31) (.c (.int .i64 16))), none⟩, ⟨(some 5), .v (.mov (.t 32)), none⟩])
     (.seq
      (.reg [⟨(some 33), .v (.mov (.t 5)), none⟩, ⟨(some 34), .v (.bin .eql (.t 33) (.c (.int .i64 0))), none⟩, ⟨(some 35), .v (.mov (.t 34)), none⟩, ⟨(some 36), .v (.faddr 1 (.t 1)), (some (35, false))⟩, ⟨(some 37), .v (.load false 1 (.t 36)), (some (35, false))⟩, ⟨(some 38), .v (.faddr 1 (.t 1)), (some (35, false))⟩, ⟨(some 39), .v (.load false 1 (.t 38)), (some (35, false))⟩, ⟨(some 40), .v (.len (.t 39)), (some (35, false))⟩, ⟨(some 41), .v (.bin .sub (.t 40) (.c (.int .i64 1))), (some (35, false))⟩, ⟨(some 42), .v (.iaddr 1 (.t 37) (.t 41)), (some (35, false))⟩, ⟨(some 43), .v (.load false 1 (.t 42)), (some (35, false))⟩, ⟨(some 44), .v (.mov (.t 5)), (some (35, false))⟩, ⟨(some 45), .v (.bin .shr (.t 43) (.t 44)), (some (35, false))⟩, ⟨(some 46), .v (.bin .eql (.t 45) (.c (.int .i64 0))), (some (35, false))⟩, ⟨(some 47), .v (.pick (.t 35) (.c (.bool true)) (.t 46)), none⟩, ⟨(some 2), .v (.mov (.t 47)), none⟩])
      .ret)))))⟩
theorem e86 : rFunc Try.prog Try.f86 = some r86 := by kernel_rfl
def r91 : RFunc := ⟨14, [.t 3],
 (.seq
  (.reg [⟨(some 2), .m (.box (.t 0)), none⟩, ⟨(some 3), .v (.mov (.c (.bool false))), none⟩])
  (.seq
   (.reg [⟨(some 4), .v (.load true 2 (.t 2)), none⟩, ⟨(some 5), .call 86 [(.t 4)], none⟩, ⟨(some 6), .v (.un .not (.t 5)), none⟩, ⟨(some 7), .v (.mov (.t 6)), none⟩, ⟨(some 8), .v (.faddr 0 (.t 2)), (some (7, false))⟩, ⟨(some 9), .v (.load false 1 (.t 8)), (some (7, false))⟩, ⟨(some 10), .v (.faddr 0 (.t 1)), (some (7, false))⟩, ⟨(some 11), .v (.load false 1 (.t 10)), (some (7, false))⟩, ⟨(some 12), .v (.bin .neq (.t 9) (.t 11)), (some (7, false))⟩, ⟨(some 13), .v (.pick (.t 7) (.c (.bool true)) (.t 12)), none⟩, ⟨(some 3), .v (.mov (.t 13)), none⟩])
   .ret))⟩
theorem e91 : rFunc Try.prog Try.f91 = some r91 := by kernel_rfl
def r50 : RFunc := ⟨30, [.t 2],
 (.seq
  (.reg [⟨(some 1), .m (.box (.t 0)), none⟩, ⟨(some 2), .v (.mov (.c (.bool false))), none⟩])
  (.seq
   (.reg [⟨(some 4), .v (.faddr 1 (.t 1)), none⟩, ⟨(some 5), .v (.load false 1 (.t 4)), none⟩, ⟨(some 6), .v (.mkfn 91 [(.t 1)]), none⟩, ⟨(some 7), .call 90 [(.t 5), (.t 6)], none⟩, ⟨(some 3), .v (.mov (.t 7)), none⟩])
   (.seq
    (.reg [⟨(some 8), .v (.mov (.t 3)), none⟩, ⟨(some 9), .v (.un .not (.t 8)), none⟩, ⟨(some 10), .v (.mov (.t 9)), none⟩, ⟨(some 11), .v (.faddr 0 (.t 1)), (some (10, true))⟩, ⟨(some 12), .v (.load false 1 (.t 11)), (some (10, true))⟩, ⟨(some 13), .call 87 [(.t 12), (.c (.int .i64 1)), (.c (.int .i64 72))], (some (10, true))⟩, ⟨(some 14), .v (.pick (.t 10) (.t 13) (.c (.bool false))), none⟩, ⟨(some 15), .v (.mov (.t 14)), none⟩, ⟨(some 16), .v (.faddr 1 (.t 1)), (some (15, true))⟩, ⟨(some 17), .v (.load false 1 (.t 16)), (some (15, true))⟩, ⟨(some 18), .v (.len (.t 17)), (some (15, true))⟩, ⟨(some 19), .v (.bin .leq (.t 18) (.c (.int .i64 40))), (some (15, true))⟩, ⟨(some 20), .v (.pick (.t 15) (.t 19) (.c (.bool false))), none⟩, ⟨(some 21), .v (.mov (.t 20)), none⟩, ⟨(some 22), .v (.faddr 2 (.t 1)), (some (21, true))⟩, ⟨(some 23), .v (.load false 1 (.t 22)), (some (21, true))⟩, ⟨(some 24), .v (.len (.t 23)), (some (21, true))⟩, ⟨(some 25), .v (.faddr 1 (.t 1)), (some (21, true))⟩, ⟨(some 26), .v (.load false 1 (.t 25)), (some (21, true))⟩, ⟨(some 27), .v (.len (.t 26)), (some (21, true))⟩, ⟨(some 28), .v (.bin .eql (.t 24) (.t 27)), (some (21, true))⟩, ⟨(some 29), .v (.pick (.t 21) (.t 28) (.c (.bool false))), none⟩, ⟨(some 2), .v (.mov (.t 29)), none⟩])
    .ret)))⟩
theorem e50 : rFunc Try.prog Try.f50 = some r50 := by kernel_rfl
end Go.Proofs.Ytgkdnpigbpkehaa.M

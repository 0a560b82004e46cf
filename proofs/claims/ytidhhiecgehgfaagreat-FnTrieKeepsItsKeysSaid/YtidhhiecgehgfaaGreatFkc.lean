/-
  The resolved text of the functions, each tied to the program's own by the kernel.
-/
import Derived.Test.YtidhhiecgehgfaaGreatProg
import Derived.Test.YtidhhiecgehgfaaGreatFkb
namespace Go.Proofs.YtidhhiecgehgfaaGreat.M
open Go Go.RowKit
set_option maxRecDepth 100000

def r31 : RFunc := ⟨16, [.t 4],
 (.seq
  (.reg [⟨(some 4), .v (.mov (.c (.bool false))), none⟩])
  (.seq
   (.reg [⟨(some 5), .v (.mov (.t 0)), none⟩, ⟨(some 6), .v (.len (.t 5)), none⟩, ⟨(some 7), .v (.bin .gtr (.t 6) (.c (.int .i64 1048576))), none⟩, ⟨(some 8), .v (.mov (.t 7)), none⟩, ⟨(some 9), .v (.mov (.t 1)), (some (8, false))⟩, ⟨(some 10), .v (.len (.t 9)), (some (8, false))⟩, ⟨(some 11), .v (.mov (.t 0)), (some (8, false))⟩, ⟨(some 12), .v (.len (.t 11)), (some (8, false))⟩, ⟨(some 13), .v (.bin .sub (.c (.int .i64 1048576)) (.t 12)), (some (8, false))⟩, ⟨(some 14), .v (.bin .gtr (.t 10) (.t 13)), (some (8, false))⟩, ⟨(some 15), .v (.pick (.t 8) (.c (.bool true)) (.t 14)), none⟩, ⟨(some 4), .v (.mov (.t 15)), none⟩])
   .ret))⟩
theorem e31 : rFunc Tryz.prog Tryz.f31 = some r31 := by kernel_rfl
def r67 : RFunc := ⟨12, [.t 2, .t 3],
 (.seq
  (.reg [⟨(some 2), .v (.mov (.c .nils)), none⟩, ⟨(some 3), .v (.mov (.c (.bool false))), none⟩])
  (.seq
   (.reg [⟨(some 5), .v (.mov (.t 0)), none⟩, ⟨(some 6), .call 75 [(.t 5)], none⟩, ⟨(some 4), .v (.mov (.t 6)), none⟩])
   (.seq
    (.seq
     (.reg [⟨(some 7), .v (.mov (.t 4)), none⟩, ⟨(some 8), .v (.seq false (.t 7) (.c .nils)), none⟩])
     (.cond (.t 8)
      (.seq
       (.reg [⟨(some 2), .v (.mov (.c .nils)), none⟩, ⟨(some 3), .v (.mov (.c (.bool false))), none⟩])
       .ret)
      .skip))
    (.seq
     (.reg [⟨(some 9), .v (.mov (.t 0)), none⟩, ⟨(some 10), .v (.mov (.t 4)), none⟩, ⟨(some 11), .call 99 [(.t 9), (.t 10)], none⟩, ⟨(some 2), .v (.mov (.t 11)), none⟩, ⟨(some 3), .v (.mov (.c (.bool true))), none⟩])
     .ret))))⟩
theorem e67 : rFunc Tryz.prog Tryz.f67 = some r67 := by kernel_rfl
def r24 : RFunc := ⟨7, [.t 2, .t 3],
 (.seq
  (.reg [⟨(some 1), .m (.box (.t 0)), none⟩, ⟨(some 2), .v (.mov (.c .nils)), none⟩, ⟨(some 3), .v (.mov (.c (.bool false))), none⟩])
  (.seq
   (.reg [⟨(some 4), .call 67 [(.t 1)], none⟩, ⟨(some 5), .v (.ext (.t 4) 0), none⟩, ⟨(some 6), .v (.ext (.t 4) 1), none⟩, ⟨(some 2), .v (.mov (.t 5)), none⟩, ⟨(some 3), .v (.mov (.t 6)), none⟩])
   .ret))⟩
theorem e24 : rFunc Tryz.prog Tryz.f24 = some r24 := by kernel_rfl
def r23 : RFunc := ⟨14, [.t 2, .t 3],
 (.seq
  (.reg [⟨(some 1), .m (.box (.t 0)), none⟩, ⟨(some 2), .v (.mov (.c .nils)), none⟩, ⟨(some 3), .v (.mov (.c (.bool false))), none⟩])
  (.seq
   (.reg [⟨(some 7), .v (.load true 5 (.t 1)), none⟩, ⟨(some 8), .call 61 [(.t 7)], none⟩, ⟨(some 6), .v (.mov (.t 8)), none⟩, ⟨(some 9), .v (.ext (.t 6) 0), none⟩, ⟨(some 10), .v (.ext (.t 6) 1), none⟩, ⟨(some 4), .v (.mov (.t 9)), none⟩, ⟨(some 5), .v (.mov (.t 10)), none⟩])
   (.seq
    (.seq
     (.reg [⟨(some 11), .v (.mov (.t 5)), none⟩, ⟨(some 12), .v (.un .not (.t 11)), none⟩])
     (.cond (.t 12)
      (.seq
       (.reg [⟨(some 2), .v (.mov (.c .nils)), none⟩, ⟨(some 3), .v (.mov (.c (.bool false))), none⟩])
       .ret)
      .skip))
    (.seq
     (.reg [⟨(some 13), .v (.mov (.t 4)), none⟩, ⟨(some 2), .v (.mov (.t 13)), none⟩, ⟨(some 3), .v (.mov (.c (.bool true))), none⟩])
     .ret))))⟩
theorem e23 : rFunc Tryz.prog Tryz.f23 = some r23 := by kernel_rfl
def r38 : RFunc := ⟨26, [.t 4],
 (.seq
  (.reg [⟨(some 4), .v (.mov (.c (.bool false))), none⟩])
  (.seq
   (.seq
    (.reg [⟨(some 6), .v (.mov (.t 0)), none⟩, ⟨(some 7), .v (.len (.t 6)), none⟩, ⟨(some 8), .v (.mov (.t 1)), none⟩, ⟨(some 9), .v (.len (.t 8)), none⟩, ⟨(some 10), .v (.bin .neq (.t 7) (.t 9)), none⟩])
    (.cond (.t 10)
     (.seq
      (.reg [⟨(some 4), .v (.mov (.c (.bool false))), none⟩])
      .ret)
     .skip))
   (.seq
    (.seq
     (.reg [⟨(some 11), .v (.mov (.t 0)), none⟩, ⟨(some 12), .v (.len (.t 11)), none⟩, ⟨(some 13), .v (.mov (.c (.int .i64 0))), none⟩])
     (.block 0
      (.loop
       (.seq
        (.reg [⟨(some 14), .v (.bin .lss (.t 13) (.t 12)), none⟩])
        (.seq
         (.cond (.t 14)
          .skip
          (.exit 0))
         (.seq
          (.block 1
           (.seq
            (.reg [⟨(some 15), .v (.mov (.t 13)), none⟩, ⟨(some 5), .v (.mov (.t 15)), none⟩])
            (.seq
             (.dreg (.fl ⟨(some 16), .v (.mov (.t 0)), none⟩ (.fl ⟨(some 17), .v (.mov (.t 5)), none⟩ (.fl ⟨(some 18), .v (.iaddr 1 (.t 16) (.t 17)), none⟩ (.fl ⟨(some 19), .v (.load false 1 (.t 18)), none⟩ (.fl ⟨(some 20), .v (.mov (.t 1)), none⟩ (.fl ⟨(some 21), .v (.mov (.t 5)), none⟩ (.fl ⟨(some 22), .v (.iaddr 1 (.t 20) (.t 21)), none⟩ (.fl ⟨(some 23), .v (.load false 1 (.t 22)), none⟩ (.fl ⟨(some 24), .v (.bin .neq (.t 19) (.t 23)), none⟩ .done))))))))))
             (.cond (.t 24)
              (.seq
               (.reg [⟨(some 4), .v (.mov (.c (.bool false))), none⟩])
               .ret)
              .skip))))
          (.reg [⟨(some 25), .v (.bin .add (.t 13) (.c (.int .i64 1))), none⟩, ⟨(some 13), .v (.mov (.t 25)), none⟩])))))))
    (.seq
     (.reg [⟨(some 4), .v (.mov (.c (.bool true))), none⟩])
     .ret))))⟩
theorem e38 : rFunc Tryz.prog Tryz.f38 = some r38 := by kernel_rfl
def r39 : RFunc := ⟨10, [.cell true 5 2, .t 3],
 (.seq
  (.reg [⟨(some 2), .m (.alloc [(.int .i64 0), .nils, (.int .i64 0), .nils, (.str [])]), none⟩, ⟨(some 3), .v (.mov (.c (.bool false))), none⟩])
  (.seq
   (.seq
    (.reg [⟨(some 4), .v (.mov (.t 0)), none⟩, ⟨(some 5), .call 77 [(.t 4)], none⟩, ⟨(some 6), .v (.un .not (.t 5)), none⟩])
    (.cond (.t 6)
     (.seq
      (.reg [⟨(some 7), .v (.bld [(.int .i64 0), .nils, (.int .i64 0), .nils, (.str [])] []), none⟩, ⟨none, .m (.store 5 (.t 2) (.t 7)), none⟩, ⟨(some 3), .v (.mov (.c (.bool false))), none⟩])
      .ret)
     .skip))
   (.seq
    (.reg [⟨(some 8), .v (.mov (.t 0)), none⟩, ⟨(some 9), .call 78 [(.t 8)], none⟩, ⟨none, .m (.store 5 (.t 2) (.t 9)), none⟩, ⟨(some 3), .v (.mov (.c (.bool true))), none⟩])
    .ret)))⟩
theorem e39 : rFunc Tryz.prog Tryz.f39 = some r39 := by kernel_rfl
def r121 : RFunc := ⟨26, [.t 4],
 (.seq
  (.reg [⟨(some 4), .v (.mov (.c (.bool false))), none⟩])
  (.seq
   (.seq
    (.reg [⟨(some 6), .v (.mov (.t 0)), none⟩, ⟨(some 7), .v (.len (.t 6)), none⟩, ⟨(some 8), .v (.mov (.t 1)), none⟩, ⟨(some 9), .v (.len (.t 8)), none⟩, ⟨(some 10), .v (.bin .neq (.t 7) (.t 9)), none⟩])
    (.cond (.t 10)
     (.seq
      (.reg [⟨(some 4), .v (.mov (.c (.bool false))), none⟩])
      .ret)
     .skip))
   (.seq
    (.seq
     (.reg [⟨(some 11), .v (.mov (.t 0)), none⟩, ⟨(some 12), .v (.len (.t 11)), none⟩, ⟨(some 13), .v (.mov (.c (.int .i64 0))), none⟩])
     (.block 0
      (.loop
       (.seq
        (.reg [⟨(some 14), .v (.bin .lss (.t 13) (.t 12)), none⟩])
        (.seq
         (.cond (.t 14)
          .skip
          (.exit 0))
         (.seq
          (.block 1
           (.seq
            (.reg [⟨(some 15), .v (.mov (.t 13)), none⟩, ⟨(some 5), .v (.mov (.t 15)), none⟩])
            (.seq
             (.dreg (.fl ⟨(some 16), .v (.mov (.t 0)), none⟩ (.fl ⟨(some 17), .v (.mov (.t 5)), none⟩ (.fl ⟨(some 18), .v (.iaddr 1 (.t 16) (.t 17)), none⟩ (.fl ⟨(some 19), .v (.load false 1 (.t 18)), none⟩ (.fl ⟨(some 20), .v (.mov (.t 1)), none⟩ (.fl ⟨(some 21), .v (.mov (.t 5)), none⟩ (.fl ⟨(some 22), .v (.iaddr 1 (.t 20) (.t 21)), none⟩ (.fl ⟨(some 23), .v (.load false 1 (.t 22)), none⟩ (.fl ⟨(some 24), .v (.bin .neq (.t 19) (.t 23)), none⟩ .done))))))))))
             (.cond (.t 24)
              (.seq
               (.reg [⟨(some 4), .v (.mov (.c (.bool false))), none⟩])
               .ret)
              .skip))))
          (.reg [⟨(some 25), .v (.bin .add (.t 13) (.c (.int .i64 1))), none⟩, ⟨(some 13), .v (.mov (.t 25)), none⟩])))))))
    (.seq
     (.reg [⟨(some 4), .v (.mov (.c (.bool true))), none⟩])
     .ret))))⟩
theorem e121 : rFunc Tryz.prog Tryz.f121 = some r121 := by kernel_rfl
def r79 : RFunc := ⟨17, [.t 4],
 (.seq
  (.reg [⟨(some 2), .m (.box (.t 0)), none⟩, ⟨(some 3), .m (.box (.t 1)), none⟩, ⟨(some 4), .v (.mov (.c (.bool false))), none⟩])
  (.seq
   (.reg [⟨(some 5), .v (.faddr 0 (.t 2)), none⟩, ⟨(some 6), .v (.load false 1 (.t 5)), none⟩, ⟨(some 7), .v (.faddr 0 (.t 3)), none⟩, ⟨(some 8), .v (.load false 1 (.t 7)), none⟩, ⟨(some 9), .v (.bin .eql (.t 6) (.t 8)), none⟩, ⟨(some 10), .v (.mov (.t 9)), none⟩, ⟨(some 11), .v (.faddr 1 (.t 2)), (some (10, true))⟩, ⟨(some 12), .v (.load false 1 (.t 11)), (some (10, true))⟩, ⟨(some 13), .v (.faddr 1 (.t 3)), (some (10, true))⟩, ⟨(some 14), .v (.load false 1 (.t 13)), (some (10, true))⟩, ⟨(some 15), .call 121 [(.t 12), (.t 14)], (some (10, true))⟩, ⟨(some 16), .v (.pick (.t 10) (.t 15) (.c (.bool false))), none⟩, ⟨(some 4), .v (.mov (.t 16)), none⟩])
   .ret))⟩
theorem e79 : rFunc Tryz.prog Tryz.f79 = some r79 := by kernel_rfl
def r40 : RFunc := ⟨24, [.t 4],
 (.seq
  (.reg [⟨(some 2), .m (.box (.t 0)), none⟩, ⟨(some 3), .m (.box (.t 1)), none⟩, ⟨(some 4), .v (.mov (.c (.bool false))), none⟩])
  (.seq
   (.reg [⟨(some 5), .v (.faddr 0 (.t 2)), none⟩, ⟨(some 6), .v (.load true 2 (.t 5)), none⟩, ⟨(some 7), .v (.faddr 0 (.t 3)), none⟩, ⟨(some 8), .v (.load true 2 (.t 7)), none⟩, ⟨(some 9), .call 79 [(.t 6), (.t 8)], none⟩, ⟨(some 10), .v (.mov (.t 9)), none⟩, ⟨(some 11), .v (.faddr 2 (.t 2)), (some (10, true))⟩, ⟨(some 12), .v (.load true 2 (.t 11)), (some (10, true))⟩, ⟨(some 13), .v (.faddr 2 (.t 3)), (some (10, true))⟩, ⟨(some 14), .v (.load true 2 (.t 13)), (some (10, true))⟩, ⟨(some 15), .call 79 [(.t 12), (.t 14)], (some (10, true))⟩, ⟨(some 16), .v (.pick (.t 10) (.t 15) (.c (.bool false))), none⟩, ⟨(some 17), .v (.mov (.t 16)), none⟩, ⟨(some 18), .v (.faddr 4 (.t 2)), (some (17, true))⟩, ⟨(some 19), .v (.load false 1 (.t 18)), (some (17, true))⟩, ⟨(some 20), .v (.faddr 4 (.t 3)), (some (17, true))⟩, ⟨(some 21), .v (.load false 1 (.t 20)), (some (17, true))⟩, ⟨(some 22), .v (.bin .eql (.t 19) (.t 21)), (some (17, true))⟩, ⟨(some 23), .v (.pick (.t 17) (.t 22) (.c (.bool false))), none⟩, ⟨(some 4), .v (.mov (.t 23)), none⟩])
   .ret))⟩
theorem e40 : rFunc Tryz.prog Tryz.f40 = some r40 := by kernel_rfl
def r58 : RFunc := ⟨14, [.t 4, .t 5],
 (.seq
  (.reg [⟨(some 4), .v (.mov (.c (.int .i64 0))), none⟩, ⟨(some 5), .v (.mov (.c (.bool false))), none⟩])
  (.seq
   (.reg [⟨(some 7), .v (.mov (.t 0)), none⟩, ⟨(some 8), .v (.mov (.t 1)), none⟩, ⟨(some 9), .call 90 [(.t 7), (.t 8)], none⟩, ⟨(some 6), .v (.mov (.t 9)), none⟩])
   (.seq
    (.reg [⟨(some 10), .v (.mov (.t 6)), none⟩, ⟨(some 11), .v (.mx [(.t 10), (.c (.int .i64 0))]), none⟩, ⟨(some 12), .v (.mov (.t 6)), none⟩, ⟨(some 13), .v (.bin .geq (.t 12) (.c (.int .i64 0))), none⟩, ⟨(some 4), .v (.mov (.t 11)), none⟩, ⟨(some 5), .v (.mov (.t 13)), none⟩])
    .ret)))⟩
theorem e58 : rFunc Tryz.prog Tryz.f58 = some r58 := by kernel_rfl
def r35 : RFunc := ⟨11, [.t 4, .t 5],
 (.seq
  (.reg [⟨(some 2), .m (.box (.t 0)), none⟩, ⟨(some 4), .v (.mov (.c (.int .i64 0))), none⟩, ⟨(some 5), .v (.mov (.c (.bool false))), none⟩])
  (.seq
   (.reg [⟨(some 6), .call 75 [(.t 2)], none⟩, ⟨(some 7), .v (.mov (.t 1)), none⟩, ⟨(some 8), .call 58 [(.t 6), (.t 7)], none⟩, ⟨(some 9), .v (.ext (.t 8) 0), none⟩, ⟨(some 10), .v (.ext (.t 8) 1), none⟩, ⟨(some 4), .v (.mov (.t 9)), none⟩, ⟨(some 5), .v (.mov (.t 10)), none⟩])
   .ret))⟩
theorem e35 : rFunc Tryz.prog Tryz.f35 = some r35 := by kernel_rfl
def r65 : RFunc := ⟨21, [.t 6],
 (.seq
  (.reg [⟨(some 6), .v (.mov (.c (.int .i64 0))), none⟩])
  (.seq
   (.reg [⟨(some 7), .v (.mov (.c (.int .i64 0))), none⟩])
   (.seq
    (.seq
     (.reg [⟨(some 9), .v (.mov (.t 1)), none⟩, ⟨(some 8), .v (.mov (.t 9)), none⟩])
     (.block 0
      (.loop
       (.seq
        (.seq
         (.reg [⟨(some 10), .v (.mov (.t 8)), none⟩, ⟨(some 11), .v (.mov (.t 2)), none⟩, ⟨(some 12), .v (.bin .lss (.t 10) (.t 11)), none⟩])
         (.cond (.t 12)
          .skip
          (.exit 0)))
        (.seq
         (.block 1
          (.seq
           (.reg [⟨(some 15), .v (.mov (.t 0)), none⟩, ⟨(some 16), .v (.mov (.t 8)), none⟩, ⟨(some 17), .call 64 [(.t 15), (.t 16)], none⟩])
           (.cond (.t 17)
            (.reg [⟨(some 18), .v (.mov (.t 7)), none⟩, ⟨(some 19), .v (.bin .add (.t 18) (.c (.int .i64 1))), none⟩, ⟨(some 7), .v (.mov (.t 19)), none⟩])
            .skip)))
         (.reg [⟨(some 13), .v (.mov (.t 8)), none⟩, ⟨(some 14), .v (.bin .add (.t 13) (.c (.int .i64 1))), none⟩, ⟨(some 8), .v (.mov (.t 14)), none⟩]))))))
    (.seq
     (.reg [⟨(some 20), .v (.mov (.t 7)), none⟩, ⟨(some 6), .v (.mov (.t 20)), none⟩])
     .ret))))⟩
theorem e65 : rFunc Tryz.prog Tryz.f65 = some r65 := by kernel_rfl
def r20 : RFunc := ⟨25, [.t 4, .t 5],
 (.seq
  (.reg [⟨(some 2), .m (.box (.t 0)), none⟩, ⟨(some 4), .v (.mov (.c (.int .i64 0))), none⟩, ⟨(some 5), .v (.mov (.c (.bool false))), none⟩])
  (.seq
   (.reg [⟨(some 9), .v (.load true 5 (.t 2)), none⟩, ⟨(some 10), .v (.mov (.t 1)), none⟩, ⟨(some 11), .call 35 [(.t 9), (.t 10)], none⟩, ⟨(some 8), .v (.mov (.t 11)), none⟩, ⟨(some 12), .v (.ext (.t 8) 0), none⟩, ⟨(some 13), .v (.ext (.t 8) 1), none⟩, ⟨(some 6), .v (.mov (.t 12)), none⟩, ⟨(some 7), .v (.mov (.t 13)), none⟩])
   (.seq
    (.seq
     (.reg [⟨(some 14), .v (.mov (.t 7)), none⟩, ⟨(some 15), .v (.un .not (.t 14)), none⟩, ⟨(some 16), .v (.mov (.t 15)), none⟩, ⟨(some 17), .v (.faddr 2 (.t 2)), (some (16, false))⟩, ⟨(some 18), .v (.mov (.t 6)), (some (16, false))⟩, ⟨(some 19), .call 64 [(.t 17), (.t 18)], (some (16, false))⟩, ⟨(some 20), .v (.un .not (.t 19)), (some (16, false))⟩, ⟨(some 21), .v (.pick (.t 16) (.c (.bool true)) (.t 20)), none⟩])
     (.cond (.t 21)
      (.seq
       (.reg [⟨(some 4), .v (.mov (.c (.int .i64 0))), none⟩, ⟨(some 5), .v (.mov (.c (.bool false))), none⟩])
       .ret)
      .skip))
    (.seq
     (.reg [⟨(some 22), .v (.faddr 2 (.t 2)), none⟩, ⟨(some 23), .v (.mov (.t 6)), none⟩, ⟨(some 24), .call 65 [(.t 22), (.c (.int .i64 0)), (.t 23)], none⟩, ⟨(some 4), .v (.mov (.t 24)), none⟩, ⟨(some 5), .v (.mov (.c (.bool true))), none⟩])
     .ret))))⟩
theorem e20 : rFunc Tryz.prog Tryz.f20 = some r20 := by kernel_rfl
def r80 : RFunc := ⟨17, [.t 4],
 (.seq
  (.reg [⟨(some 4), .v (.mov (.c (.bool false))), none⟩])
  (.seq
   (.seq
    (.reg [⟨(some 7), .v (.mov (.t 0)), none⟩, ⟨(some 8), .v (.len (.t 7)), none⟩, ⟨(some 9), .v (.mov (.c (.int .i64 0))), none⟩])
    (.block 0
     (.loop
      (.seq
       (.reg [⟨(some 10), .v (.bin .lss (.t 9) (.t 8)), none⟩])
       (.seq
        (.cond (.t 10)
         .skip
         (.exit 0))
        (.seq
         (.block 1
          (.seq
           (.reg [⟨(some 11), .v (.iaddr 1 (.t 7) (.t 9)), none⟩, ⟨(some 12), .v (.load false 1 (.t 11)), none⟩, ⟨(some 6), .v (.mov (.t 12)), none⟩])
           (.seq
            (.reg [⟨(some 13), .v (.mov (.t 6)), none⟩, ⟨(some 14), .v (.mov (.t 1)), none⟩, ⟨(some 15), .v (.bin .eql (.t 13) (.t 14)), none⟩])
            (.cond (.t 15)
             (.seq
              (.reg [⟨(some 4), .v (.mov (.c (.bool true))), none⟩])
              .ret)
             .skip))))
         (.reg [⟨(some 16), .v (.bin .add (.t 9) (.c (.int .i64 1))), none⟩, ⟨(some 9), .v (.mov (.t 16)), none⟩])))))))
   (.seq
    (.reg [⟨(some 4), .v (.mov (.c (.bool false))), none⟩])
    .ret)))⟩
theorem e80 : rFunc Tryz.prog Tryz.f80 = some r80 := by kernel_rfl
def r41 : RFunc := ⟨19, [.t 4],
 (.seq
  (.reg [⟨(some 4), .v (.mov (.c (.bool false))), none⟩])
  (.seq
   (.seq
    (.reg [⟨(some 6), .v (.mov (.t 0)), none⟩, ⟨(some 7), .v (.len (.t 6)), none⟩, ⟨(some 8), .v (.mov (.t 1)), none⟩, ⟨(some 9), .v (.bin .neq (.t 7) (.t 8)), none⟩])
    (.cond (.t 9)
     (.seq
      (.reg [⟨(some 4), .v (.mov (.c (.bool false))), none⟩])
      .ret)
     .skip))
   (.seq
    (.seq
     (.reg [⟨(some 5), .v (.mov (.c (.int .i64 0))), none⟩])
     (.block 0
      (.loop
       (.seq
        (.seq
         (.reg [⟨(some 10), .v (.mov (.t 5)), none⟩, ⟨(some 11), .v (.mov (.t 1)), none⟩, ⟨(some 12), .v (.bin .lss (.t 10) (.t 11)), none⟩])
         (.cond (.t 12)
          .skip
          (.exit 0)))
        (.seq
         (.block 1
          (.seq
           (.reg [⟨(some 15), .v (.mov (.t 0)), none⟩, ⟨(some 16), .v (.mov (.t 5)), none⟩, ⟨(some 17), .call 80 [(.t 15), (.t 16)], none⟩, ⟨(some 18), .v (.un .not (.t 17)), none⟩])
           (.cond (.t 18)
            (.seq
             (.reg [⟨(some 4), .v (.mov (.c (.bool false))), none⟩])
             .ret)
            .skip)))
         (.reg [⟨(some 13), .v (.mov (.t 5)), none⟩, ⟨(some 14), .v (.bin .add (.t 13) (.c (.int .i64 1))), none⟩, ⟨(some 5), .v (.mov (.t 14)), none⟩]))))))
    (.seq
     (.reg [⟨(some 4), .v (.mov (.c (.bool true))), none⟩])
     .ret))))⟩
theorem e41 : rFunc Tryz.prog Tryz.f41 = some r41 := by kernel_rfl
def r42 : RFunc := ⟨10, [.t 2, .t 3],
 (.seq
  (.reg [⟨(some 1), .m (.box (.t 0)), none⟩, ⟨(some 2), .v (.mov (.c (.int .i64 0))), none⟩, ⟨(some 3), .v (.mov (.c (.bool false))), none⟩])
  (.seq
   (.reg [⟨(some 5), .call 75 [(.t 1)], none⟩, ⟨(some 4), .v (.mov (.t 5)), none⟩])
   (.seq
    (.reg [⟨(some 6), .v (.mov (.t 4)), none⟩, ⟨(some 7), .v (.len (.t 6)), none⟩, ⟨(some 8), .v (.mov (.t 4)), none⟩, ⟨(some 9), .v (.seq true (.t 8) (.c .nils)), none⟩, ⟨(some 2), .v (.mov (.t 7)), none⟩, ⟨(some 3), .v (.mov (.t 9)), none⟩])
    .ret)))⟩
theorem e42 : rFunc Tryz.prog Tryz.f42 = some r42 := by kernel_rfl
def r43 : RFunc := ⟨16, [.t 4, .t 5],
 (.seq
  (.reg [⟨(some 2), .m (.box (.t 0)), none⟩, ⟨(some 4), .v (.mov (.c (.bool false))), none⟩, ⟨(some 5), .v (.mov (.c (.bool false))), none⟩])
  (.seq
   (.reg [⟨(some 9), .call 67 [(.t 2)], none⟩, ⟨(some 8), .v (.mov (.t 9)), none⟩, ⟨(some 10), .v (.ext (.t 8) 0), none⟩, ⟨(some 11), .v (.ext (.t 8) 1), none⟩, ⟨(some 6), .v (.mov (.t 10)), none⟩, ⟨(some 7), .v (.mov (.t 11)), none⟩])
   (.seq
    (.reg [⟨(some 12), .v (.mov (.t 6)), none⟩, ⟨(some 13), .v (.mov (.t 1)), none⟩, ⟨(some 14), .call 81 [(.t 12), (.t 13)], none⟩, ⟨(some 15), .v (.mov (.t 7)), none⟩, ⟨(some 4), .v (.mov (.t 14)), none⟩, ⟨(some 5), .v (.mov (.t 15)), none⟩])
    .ret)))⟩
theorem e43 : rFunc Tryz.prog Tryz.f43 = some r43 := by kernel_rfl
def r10 : RFunc := ⟨178, [.t 4],
 (.seq
  (.reg [⟨(some 4), .v (.mov (.c (.bool false))), none⟩])
  (.seq
   (.seq
    (.reg [⟨(some 31), .v (.mov (.t 0)), none⟩, ⟨(some 32), .v (.mov (.t 1)), none⟩, ⟨(some 33), .call 31 [(.t 31), (.t 32)], none⟩])
    (.cond (.t 33)
     (.seq
      (.reg [⟨(some 4), .v (.mov (.c (.bool true))), none⟩])
      .ret)
     .skip))
   (.seq
    (.reg [⟨(some 34), .v (.mov (.t 0)), none⟩, ⟨(some 35), .call 37 [(.t 34)], none⟩, ⟨(some 5), .m (.alloc [(.int .i64 0), .nils, (.int .i64 0), .nils, (.str [])]), none⟩, ⟨none, .m (.store 5 (.t 5) (.t 35)), none⟩])
    (.seq
     (.reg [⟨(some 37), .v (.load true 5 (.t 5)), none⟩, ⟨(some 38), .call 24 [(.t 37)], none⟩, ⟨(some 36), .v (.mov (.t 38)), none⟩, ⟨(some 39), .v (.ext (.t 36) 0), none⟩, ⟨(some 40), .v (.ext (.t 36) 1), none⟩, ⟨(some 6), .v (.mov (.t 39)), none⟩, ⟨(some 7), .v (.mov (.t 40)), none⟩])
     (.seq
      (.reg [⟨(some 42), .v (.load true 5 (.t 5)), none⟩, ⟨(some 43), .call 23 [(.t 42)], none⟩, ⟨(some 41), .v (.mov (.t 43)), none⟩, ⟨(some 44), .v (.ext (.t 41) 0), none⟩, ⟨(some 45), .v (.ext (.t 41) 1), none⟩, ⟨(some 8), .v (.mov (.t 44)), none⟩, ⟨(some 9), .v (.mov (.t 45)), none⟩])
      (.seq
       (.seq
        (.reg [⟨(some 46), .v (.mov (.t 7)), none⟩, ⟨(some 47), .v (.mov (.t 9)), none⟩, ⟨(some 48), .v (.beq true (.t 46) (.t 47)), none⟩, ⟨(some 49), .v (.mov (.t 48)), none⟩, ⟨(some 50), .v (.mov (.t 6)), (some (49, false))⟩, ⟨(some 51), .v (.mov (.t 8)), (some (49, false))⟩, ⟨(some 52), .call 38 [(.t 50), (.t 51)], (some (49, false))⟩, ⟨(some 53), .v (.un .not (.t 52)), (some (49, false))⟩, ⟨(some 54), .v (.pick (.t 49) (.c (.bool true)) (.t 53)), none⟩])
        (.cond (.t 54)
         (.seq
          (.reg [⟨(some 4), .v (.mov (.c (.bool false))), none⟩])
          .ret)
         .skip))
       (.seq
        (.seq
         (.reg [⟨(some 55), .v (.mov (.t 9)), none⟩, ⟨(some 56), .v (.un .not (.t 55)), none⟩])
         (.cond (.t 56)
          (.seq
           (.reg [⟨(some 4), .v (.mov (.c (.bool true))), none⟩])
           .ret)
          .skip))
        (.seq
         (.reg [⟨(some 58), .v (.mov (.t 6)), none⟩, ⟨(some 59), .call 39 [(.t 58)], none⟩, ⟨(some 57), .v (.mov (.t 59)), none⟩, ⟨(some 60), .v (.ext (.t 57) 0), none⟩, ⟨(some 61), .v (.ext (.t 57) 1), none⟩, ⟨(some 10), .m (.alloc [(.int .i64 0), .nils, (.int .i64 0), .nils, (.str [])]), none⟩, ⟨none, .m (.store 5 (.t 10) (.t 60)), none⟩, ⟨(some 11), .v (.mov (.t 61)), none⟩])
         (.seq
          (.seq
           (.reg [⟨(some 62), .v (.mov (.t 11)), none⟩, ⟨(some 63), .v (.un .not (.t 62)), none⟩, ⟨(some 64), .v (.mov (.t 63)), none⟩, ⟨(some 65), .v (.load true 5 (.t 10)), (some (64, false))⟩, ⟨(some 66), .v (.load true 5 (.t 5)), (some (64, false))⟩, ⟨(some 67), .call 40 [(.t 65), (.t 66)], (some (64, false))⟩, ⟨(some 68), .v (.un .not (.t 67)), (some (64, false))⟩, ⟨(some 69), .v (.pick (.t 64) (.c (.bool true)) (.t 68)), none⟩])
           (.cond (.t 69)
            (.seq
             (.reg [⟨(some 4), .v (.mov (.c (.bool false))), none⟩])
             .ret)
            .skip))
          (.seq
           (.reg [⟨(some 12), .v (.mov (.c .nils)), none⟩])
           (.seq
            (.seq
             (.reg [⟨(some 70), .v (.mov (.t 6)), none⟩, ⟨(some 71), .v (.len (.t 70)), none⟩, ⟨(some 72), .v (.mov (.c (.int .i64 0))), none⟩])
             (.block 0
              (.loop
               (.seq
                (.reg [⟨(some 73), .v (.bin .lss (.t 72) (.t 71)), none⟩])
                (.seq
                 (.cond (.t 73)
                  .skip
                  (.exit 0))
                 (.seq
                  (.block 1
                   (.seq
                    (.reg [⟨(some 74), .v (.iaddr 1 (.t 70) (.t 72)), none⟩, ⟨(some 75), .v (.load false 1 (.t 74)), none⟩, ⟨(some 14), .v (.mov (.t 75)), none⟩])
                    (.seq
                     (.reg [⟨(some 77), .v (.load true 5 (.t 5)), none⟩, ⟨(some 78), .v (.mov (.t 14)), none⟩, ⟨(some 79), .call 20 [(.t 77), (.t 78)], none⟩, ⟨(some 76), .v (.mov (.t 79)), none⟩, ⟨(some 80), .v (.ext (.t 76) 0), none⟩, ⟨(some 81), .v (.ext (.t 76) 1), none⟩, ⟨(some 15), .v (.mov (.t 80)), none⟩, ⟨(some 16), .v (.mov (.t 81)), none⟩])
                     (.seq
                      (.seq
                       (.reg [⟨(some 82), .v (.mov (.t 16)), none⟩, ⟨(some 83), .v (.un .not (.t 82)), none⟩])
                       (.cond (.t 83)
                        (.seq
                         (.reg [⟨(some 4), .v (.mov (.c (.bool false))), none⟩])
                         .ret)
                        .skip))
                      (.reg [⟨(some 84), .v (.mov (.t 12)), none⟩, ⟨(some 85), .v (.mov (.t 15)), none⟩, ⟨(some 86), .m (.bsl 1 1 [(.int .i64 0)] [(0, 1, (.t 85))]), none⟩, ⟨(some 87), .m (.app false 1 8 (.t 84) (.t 86)), none⟩, ⟨(some 12), .v (.mov (.t 87)), none⟩])))))
                  (.reg [⟨(some 88), .v (.bin .add (.t 72) (.c (.int .i64 1))), none⟩, ⟨(some 72), .v (.mov (.t 88)), none⟩])))))))
            (.seq
             (.seq
              (.reg [⟨(some 89), .v (.mov (.t 12)), none⟩, ⟨(some 90), .v (.mov (.t 6)), none⟩, ⟨(some 91), .v (.len (.t 90)), none⟩, ⟨(some 92), .call 41 [(.t 89), (.t 91)], none⟩, ⟨(some 93), .v (.un .not (.t 92)), none⟩])
              (.cond (.t 93)
               (.seq
                (.reg [⟨(some 4), .v (.mov (.c (.bool false))), none⟩])
                .ret)
               .skip))
             (.seq
              (.seq
               (.reg [⟨(some 94), .v (.mov (.t 6)), none⟩, ⟨(some 95), .v (.len (.t 94)), none⟩, ⟨(some 96), .v (.bin .eql (.t 95) (.c (.int .i64 0))), none⟩])
               (.cond (.t 96)
                (.seq
                 (.reg [⟨(some 98), .v (.load true 5 (.t 5)), none⟩, ⟨(some 99), .call 42 [(.t 98)], none⟩, ⟨(some 97), .v (.mov (.t 99)), none⟩, ⟨(some 100), .v (.ext (.t 97) 0), none⟩, ⟨(some 101), .v (.ext (.t 97) 1), none⟩, ⟨(some 17), .v (.mov (.t 100)), none⟩, ⟨(some 18), .v (.mov (.t 101)), none⟩])
                 (.seq
                  (.reg [⟨(some 102), .v (.mov (.t 18)), none⟩, ⟨(some 103), .v (.mov (.t 102)), none⟩, ⟨(some 104), .v (.mov (.t 17)), (some (103, true))⟩, ⟨(some 105), .v (.bin .eql (.t 104) (.c (.int .i64 1))), (some (103, true))⟩, ⟨(some 106), .v (.pick (.t 103) (.t 105) (.c (.bool false))), none⟩, ⟨(some 4), .v (.mov (.t 106)), none⟩])
                  .ret))
                .skip))
              (.seq
               (.reg [⟨(some 107), .v (.mov (.t 1)), none⟩, ⟨(some 108), .v (.len (.t 107)), none⟩, ⟨(some 109), .v (.mov (.t 6)), none⟩, ⟨(some 110), .v (.len (.t 109)), none⟩, ⟨(some 111), .v (.bin .rem (.t 108) (.t 110)), none⟩, ⟨(some 19), .v (.mov (.t 111)), none⟩])
               (.seq
                (.dreg (.fl ⟨(some 113), .v (.mov (.t 6)), none⟩ (.fl ⟨(some 114), .v (.mov (.t 19)), none⟩ (.fl ⟨(some 115), .v (.slc 1 (.t 113) none (some (.t 114))), none⟩ (.fl ⟨(some 117), .v (.mov (.t 6)), none⟩ (.fl ⟨(some 118), .v (.mov (.t 19)), none⟩ (.fl ⟨(some 119), .v (.bin .add (.t 118) (.c (.int .i64 1))), none⟩ (.fl ⟨(some 120), .v (.slc 1 (.t 117) (some (.t 119)) none), none⟩ (.nx ⟨(some 112), .m (.bsl 1 0 [(.str [])] []), none⟩ (.nx ⟨(some 116), .m (.app false 1 16 (.t 112) (.t 115)), none⟩ (.nx ⟨(some 121), .m (.app false 1 16 (.t 116) (.t 120)), none⟩ (.fl ⟨(some 20), .v (.mov (.t 121)), none⟩ .done))))))))))))
                (.seq
                 (.reg [⟨(some 123), .v (.mov (.t 20)), none⟩, ⟨(some 124), .call 39 [(.t 123)], none⟩, ⟨(some 122), .v (.mov (.t 124)), none⟩, ⟨(some 125), .v (.ext (.t 122) 0), none⟩, ⟨(some 126), .v (.ext (.t 122) 1), none⟩, ⟨(some 21), .m (.alloc [(.int .i64 0), .nils, (.int .i64 0), .nils, (.str [])]), none⟩, ⟨none, .m (.store 5 (.t 21) (.t 125)), none⟩, ⟨(some 22), .v (.mov (.t 126)), none⟩])
                 (.seq
                  (.dreg (.fl ⟨(some 128), .v (.load true 5 (.t 21)), none⟩ (.fl ⟨(some 129), .v (.mov (.t 6)), none⟩ (.fl ⟨(some 130), .v (.mov (.t 19)), none⟩ (.fl ⟨(some 131), .v (.iaddr 1 (.t 129) (.t 130)), none⟩ (.fl ⟨(some 132), .v (.load false 1 (.t 131)), none⟩ (.nx ⟨(some 133), .call 43 [(.t 128), (.t 132)], none⟩ (.fl ⟨(some 127), .v (.mov (.t 133)), none⟩ (.fl ⟨(some 134), .v (.ext (.t 127) 0), none⟩ (.fl ⟨(some 135), .v (.ext (.t 127) 1), none⟩ (.fl ⟨(some 23), .v (.mov (.t 134)), none⟩ (.fl ⟨(some 24), .v (.mov (.t 135)), none⟩ .done))))))))))))
                  (.seq
                   (.reg [⟨(some 137), .v (.load true 5 (.t 21)), none⟩, ⟨(some 138), .call 24 [(.t 137)], none⟩, ⟨(some 136), .v (.mov (.t 138)), none⟩, ⟨(some 139), .v (.ext (.t 136) 0), none⟩, ⟨(some 140), .v (.ext (.t 136) 1), none⟩, ⟨(some 25), .v (.mov (.t 139)), none⟩, ⟨(some 26), .v (.mov (.t 140)), none⟩])
                   (.seq
                    (.reg [⟨(some 142), .v (.load true 5 (.t 21)), none⟩, ⟨(some 143), .call 42 [(.t 142)], none⟩, ⟨(some 141), .v (.mov (.t 143)), none⟩, ⟨(some 144), .v (.ext (.t 141) 0), none⟩, ⟨(some 145), .v (.ext (.t 141) 1), none⟩, ⟨(some 27), .v (.mov (.t 144)), none⟩, ⟨(some 28), .v (.mov (.t 145)), none⟩])
                    (.seq
                     (.reg [⟨(some 147), .v (.load true 5 (.t 5)), none⟩, ⟨(some 148), .call 42 [(.t 147)], none⟩, ⟨(some 146), .v (.mov (.t 148)), none⟩, ⟨(some 149), .v (.ext (.t 146) 0), none⟩, ⟨(some 150), .v (.ext (.t 146) 1), none⟩, ⟨(some 29), .v (.mov (.t 149)), none⟩, ⟨(some 30), .v (.mov (.t 150)), none⟩])
                     (.seq
                      (.reg [⟨(some 151), .v (.mov (.t 22)), none⟩, ⟨(some 152), .v (.mov (.t 151)), none⟩, ⟨(some 153), .v (.mov (.t 24)), (some (152, true))⟩, ⟨(some 154), .v (.pick (.t 152) (.t 153) (.c (.bool false))), none⟩, ⟨(some 155), .v (.mov (.t 154)), none⟩, ⟨(some 156), .v (.mov (.t 26)), (some (155, true))⟩, ⟨(some 157), .v (.pick (.t 155) (.t 156) (.c (.bool false))), none⟩, ⟨(some 158), .v (.mov (.t 157)), none⟩, ⟨(some 159), .v (.mov (.t 28)), (some (158, true))⟩, ⟨(some 160), .v (.pick (.t 158) (.t 159) (.c (.bool false))), none⟩, ⟨(some 161), .v (.mov (.t 160)), none⟩, ⟨(some 162), .v (.mov (.t 30)), (some (161, true))⟩, ⟨(some 163), .v (.pick (.t 161) (.t 162) (.c (.bool false))), none⟩, ⟨(some 164), .v (.mov (.t 163)), none⟩, ⟨(some 165), .v (.mov (.t 23)), (some (164, true))⟩, ⟨(some 166), .v (.un .not (.t 165)), (some (164, true))⟩, ⟨(some 167), .v (.pick (.t 164) (.t 166) (.c (.bool false))), none⟩, ⟨(some 168), .v (.mov (.t 167)), none⟩, ⟨(some 169), .v (.mov (.t 25)), (some (168, true))⟩, ⟨(some 170), .v (.mov (.t 20)), (some (168, true))⟩, ⟨(some 171), .call 38 [(.t 169), (.t 170)], (some (168, true))⟩, ⟨(some 172), .v (.pick (.t 168) (.t 171) (.c (.bool false))), none⟩, ⟨(some 173), .v (.mov (.t 172)), none⟩, ⟨(some 174), .v (.mov (.t 27)), (some (173, true))⟩, ⟨(some 175), .v (.mov (.t 29)), (some (173, true))⟩, ⟨(some 176), .v (.bin .leq (.t 174) (.t 175)), (some (173, true))⟩, ⟨(some 177), .v (.pick (.t 173) (.t 176) (.c (.bool false))), none⟩, ⟨(some 4), .v (.mov (.t 177)), none⟩])
                      .ret)))))))))))))))))))))⟩
theorem e10 : rFunc Tryz.prog Tryz.f10 = some r10 := by kernel_rfl
end Go.Proofs.YtidhhiecgehgfaaGreat.M

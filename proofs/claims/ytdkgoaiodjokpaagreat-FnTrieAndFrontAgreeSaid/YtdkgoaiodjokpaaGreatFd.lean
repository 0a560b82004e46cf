/-
  The resolved text of the functions, each tied to the program's own by the kernel.
-/
import Derived.Test.YtdkgoaiodjokpaaGreatProg
import Derived.Test.YtdkgoaiodjokpaaGreatFc
namespace Go.Proofs.YtdkgoaiodjokpaaGreat.M
open Go Go.RowKit
set_option maxRecDepth 100000

def r13 : RFunc := ⟨17, [.t 4, .t 5],
 (.seq
  (.reg [⟨(some 2), .m (.box (.t 0)), none⟩, ⟨(some 4), .v (.mov (.c (.bool false))), none⟩, ⟨(some 5), .v (.mov (.c (.bool false))), none⟩])
  (.seq
   (.reg [⟨(some 9), .call 45 [(.t 2)], none⟩, ⟨(some 8), .v (.mov (.t 9)), none⟩, ⟨(some 10), .v (.ext (.t 8) 0), none⟩, ⟨(some 11), .v (.ext (.t 8) 1), none⟩, ⟨(some 6), .v (.mov (.t 10)), none⟩, ⟨(some 7), .v (.mov (.t 11)), none⟩])
   (.seq
    (.seq
     (.reg [⟨(some 12), .v (.mov (.t 7)), none⟩, ⟨(some 13), .v (.un .not (.t 12)), none⟩])
     (.cond (.t 13)
      (.seq
       (.reg [⟨(some 4), .v (.mov (.c (.bool false))), none⟩, ⟨(some 5), .v (.mov (.c (.bool false))), none⟩])
       .ret)
      .skip))
    (.seq
     (.reg [⟨(some 14), .v (.mov (.t 6)), none⟩, ⟨(some 15), .v (.mov (.t 1)), none⟩, ⟨(some 16), .call 44 [(.t 14), (.t 15)], none⟩, ⟨(some 4), .v (.mov (.t 16)), none⟩, ⟨(some 5), .v (.mov (.c (.bool true))), none⟩])
     .ret))))⟩
theorem e13 : rFunc Tryz.prog Tryz.f13 = some r13 := by kernel_rfl
def r142 : RFunc := ⟨6, [.t 2],
 (.seq
  (.reg [⟨(some 2), .v (.mov (.c (.bool false))), none⟩])
  (.seq
   (.reg [⟨(some 3), .v (.mov (.t 0)), none⟩, ⟨(some 4), .v (.mov (.t 0)), none⟩, ⟨(some 5), .v (.bin .neq (.t 3) (.t 4)), none⟩, ⟨(some 2), .v (.mov (.t 5)), none⟩])
   .ret))⟩
theorem e142 : rFunc Tryz.prog Tryz.f142 = some r142 := by kernel_rfl
def r96 : RFunc := ⟨17, [.t 4],
 (.seq
  (.reg [⟨(some 4), .v (.mov (.c (.bool false))), none⟩])
  (.seq
   (.reg [⟨(some 5), .v (.mov (.t 0)), none⟩, ⟨(some 6), .call 142 [(.t 5)], none⟩, ⟨(some 7), .v (.mov (.t 6)), none⟩, ⟨(some 8), .v (.mov (.t 1)), (some (7, true))⟩, ⟨(some 9), .call 142 [(.t 8)], (some (7, true))⟩, ⟨(some 10), .v (.un .not (.t 9)), (some (7, true))⟩, ⟨(some 11), .v (.pick (.t 7) (.t 10) (.c (.bool false))), none⟩, ⟨(some 12), .v (.mov (.t 11)), none⟩, ⟨(some 13), .v (.mov (.t 0)), (some (12, false))⟩, ⟨(some 14), .v (.mov (.t 1)), (some (12, false))⟩, ⟨(some 15), .v (.bin .lss (.t 13) (.t 14)), (some (12, false))⟩, ⟨(some 16), .v (.pick (.t 12) (.c (.bool true)) (.t 15)), none⟩, ⟨(some 4), .v (.mov (.t 16)), none⟩])
   .ret))⟩
theorem e96 : rFunc Tryz.prog Tryz.f96 = some r96 := by kernel_rfl
def r97 : RFunc := ⟨6, [.t 2],
 (.seq
  (.reg [⟨(some 2), .v (.mov (.c (.bool false))), none⟩])
  (.seq
   (.reg [⟨(some 3), .v (.mov (.t 0)), none⟩, ⟨(some 4), .v (.mov (.t 0)), none⟩, ⟨(some 5), .v (.bin .neq (.t 3) (.t 4)), none⟩, ⟨(some 2), .v (.mov (.t 5)), none⟩])
   .ret))⟩
theorem e97 : rFunc Tryz.prog Tryz.f97 = some r97 := by kernel_rfl
def r46 : RFunc := ⟨54, [.t 4, .t 5],
 (.seq
  (.reg [⟨(some 4), .v (.mov (.c (.int .i64 0))), none⟩, ⟨(some 5), .v (.mov (.c (.bool false))), none⟩])
  (.seq
   (.reg [⟨(some 10), .v (.mov (.t 0)), none⟩, ⟨(some 11), .v (.len (.t 10)), none⟩, ⟨(some 6), .v (.mov (.t 11)), none⟩])
   (.seq
    (.reg [⟨(some 12), .v (.mov (.t 6)), none⟩, ⟨(some 7), .v (.mov (.c (.int .i64 0))), none⟩, ⟨(some 8), .v (.mov (.t 12)), none⟩])
    (.seq
     (.block 0
      (.loop
       (.seq
        (.seq
         (.reg [⟨(some 13), .v (.mov (.t 7)), none⟩, ⟨(some 14), .v (.mov (.t 8)), none⟩, ⟨(some 15), .v (.bin .lss (.t 13) (.t 14)), none⟩])
         (.cond (.t 15)
          .skip
          (.exit 0)))
        (.block 1
         (.seq
          (.reg [⟨(some 16), .v (.mov (.t 7)), none⟩, ⟨(some 17), .v (.mov (.t 8)), none⟩, ⟨(some 18), .v (.bin .add (.t 16) (.t 17)), none⟩, ⟨(some 19), .v (.conv .u64 (.t 18)), none⟩, ⟨(some 20), .v (.bin .shr (.t 19) (.c (.int .u64 1))), none⟩, ⟨(some 21), .v (.conv .i64 (.t 20)), none⟩, ⟨(some 9), .v (.mov (.t 21)), none⟩])
          (.seq
           (.reg [⟨(some 22), .v (.mov (.t 0)), none⟩, ⟨(some 23), .v (.mov (.t 9)), none⟩, ⟨(some 24), .v (.iaddr 1 (.t 22) (.t 23)), none⟩, ⟨(some 25), .v (.load false 1 (.t 24)), none⟩, ⟨(some 26), .v (.mov (.t 1)), none⟩, ⟨(some 27), .call 96 [(.t 25), (.t 26)], none⟩])
           (.cond (.t 27)
            (.reg [⟨(some 28), .v (.mov (.t 9)), none⟩, ⟨(some 29), .v (.bin .add (.t 28) (.c (.int .i64 1))), none⟩, ⟨(some 7), .v (.mov (.t 29)), none⟩])
            (.reg [⟨(some 30), .v (.mov (.t 9)), none⟩, ⟨(some 8), .v (.mov (.t 30)), none⟩]))))))))
     (.seq
      (.reg [⟨(some 31), .v (.mov (.t 7)), none⟩, ⟨(some 32), .v (.mov (.t 7)), none⟩, ⟨(some 33), .v (.mov (.t 6)), none⟩, ⟨(some 34), .v (.bin .lss (.t 32) (.t 33)), none⟩, ⟨(some 35), .v (.mov (.t 34)), none⟩, ⟨(some 36), .v (.mov (.t 0)), (some (35, true))⟩, ⟨(some 37), .v (.mov (.t 7)), (some (35, true))⟩, ⟨(some 38), .v (.iaddr 1 (.t 36) (.t 37)), (some (35, true))⟩, ⟨(some 39), .v (.load false 1 (.t 38)), (some (35, true))⟩, ⟨(some 40), .v (.mov (.t 1)), (some (35, true))⟩, ⟨(some 41), .v (.bin .eql (.t 39) (.t 40)), (some (35, true))⟩, ⟨(some 42), .v (.mov (.t 41)), (some (35, true))⟩, ⟨(some 43), .v (.mov (.t 0)), (some (42, false))⟩, ⟨(some 44), .v (.mov (.t 7)), (some (42, false))⟩, ⟨(some 45), .v (.iaddr 1 (.t 43) (.t 44)), (some (42, false))⟩, ⟨(some 46), .v (.load false 1 (.t 45)), (some (42, false))⟩, ⟨(some 47), .call 97 [(.t 46)], (some (42, false))⟩, ⟨(some 48), .v (.mov (.t 47)), (some (42, false))⟩, ⟨(some 49), .v (.mov (.t 1)), (some (48, true))⟩, ⟨(some 50), .call 97 [(.t 49)], (some (48, true))⟩, ⟨(some 51), .v (.pick (.t 48) (.t 50) (.c (.bool false))), (some (42, false))⟩, ⟨(some 52), .v (.pick (.t 42) (.c (.bool true)) (.t 51)), (some (35, true))⟩, ⟨(some 53), .v (.pick (.t 35) (.t 52) (.c (.bool false))), none⟩, ⟨(some 4), .v (.mov (.t 31)), none⟩, ⟨(some 5), .v (.mov (.t 53)), none⟩])
      .ret)))))⟩
theorem e46 : rFunc Tryz.prog Tryz.f46 = some r46 := by kernel_rfl
def r15 : RFunc := ⟨23, [.t 4, .t 5],
 (.seq
  (.reg [⟨(some 2), .m (.box (.t 0)), none⟩, ⟨(some 4), .v (.mov (.c (.int .i64 0))), none⟩, ⟨(some 5), .v (.mov (.c (.bool false))), none⟩])
  (.seq
   (.reg [⟨(some 11), .call 45 [(.t 2)], none⟩, ⟨(some 10), .v (.mov (.t 11)), none⟩, ⟨(some 12), .v (.ext (.t 10) 0), none⟩, ⟨(some 13), .v (.ext (.t 10) 1), none⟩, ⟨(some 6), .v (.mov (.t 12)), none⟩, ⟨(some 7), .v (.mov (.t 13)), none⟩])
   (.seq
    (.seq
     (.reg [⟨(some 14), .v (.mov (.t 7)), none⟩, ⟨(some 15), .v (.un .not (.t 14)), none⟩])
     (.cond (.t 15)
      (.seq
       (.reg [⟨(some 4), .v (.mov (.c (.int .i64 0))), none⟩, ⟨(some 5), .v (.mov (.c (.bool false))), none⟩])
       .ret)
      .skip))
    (.seq
     (.reg [⟨(some 17), .v (.mov (.t 6)), none⟩, ⟨(some 18), .v (.mov (.t 1)), none⟩, ⟨(some 19), .call 46 [(.t 17), (.t 18)], none⟩, ⟨(some 16), .v (.mov (.t 19)), none⟩, ⟨(some 20), .v (.ext (.t 16) 0), none⟩, ⟨(some 21), .v (.ext (.t 16) 1), none⟩, ⟨(some 8), .v (.mov (.t 20)), none⟩, ⟨(some 9), .v (.mov (.t 21)), none⟩])
     (.seq
      (.reg [⟨(some 22), .v (.mov (.t 8)), none⟩, ⟨(some 4), .v (.mov (.t 22)), none⟩, ⟨(some 5), .v (.mov (.c (.bool true))), none⟩])
      .ret)))))⟩
theorem e15 : rFunc Tryz.prog Tryz.f15 = some r15 := by kernel_rfl
def r19 : RFunc := ⟨26, [.t 4, .t 5],
 (.seq
  (.reg [⟨(some 2), .m (.box (.t 0)), none⟩, ⟨(some 4), .v (.mov (.c (.str []))), none⟩, ⟨(some 5), .v (.mov (.c (.bool false))), none⟩])
  (.seq
   (.reg [⟨(some 9), .call 45 [(.t 2)], none⟩, ⟨(some 8), .v (.mov (.t 9)), none⟩, ⟨(some 10), .v (.ext (.t 8) 0), none⟩, ⟨(some 11), .v (.ext (.t 8) 1), none⟩, ⟨(some 6), .v (.mov (.t 10)), none⟩, ⟨(some 7), .v (.mov (.t 11)), none⟩])
   (.seq
    (.seq
     (.reg [⟨(some 12), .v (.mov (.t 7)), none⟩, ⟨(some 13), .v (.un .not (.t 12)), none⟩, ⟨(some 14), .v (.mov (.t 13)), none⟩, ⟨(some 15), .v (.mov (.t 1)), (some (14, false))⟩, ⟨(some 16), .v (.mov (.t 6)), (some (14, false))⟩, ⟨(some 17), .v (.len (.t 16)), (some (14, false))⟩, ⟨(some 18), .v (.bin .sub (.t 17) (.c (.int .i64 1))), (some (14, false))⟩, ⟨(some 19), .call 38 [(.t 15), (.c (.int .i64 0)), (.t 18)], (some (14, false))⟩, ⟨(some 20), .v (.un .not (.t 19)), (some (14, false))⟩, ⟨(some 21), .v (.pick (.t 14) (.c (.bool true)) (.t 20)), none⟩])
     (.cond (.t 21)
      (.seq
       (.reg [⟨(some 4), .v (.mov (.c (.str []))), none⟩, ⟨(some 5), .v (.mov (.c (.bool false))), none⟩])
       .ret)
      .skip))
    (.seq
     (.reg [⟨(some 22), .v (.mov (.t 6)), none⟩, ⟨(some 23), .v (.mov (.t 1)), none⟩, ⟨(some 24), .v (.iaddr 1 (.t 22) (.t 23)), none⟩, ⟨(some 25), .v (.load false 1 (.t 24)), none⟩, ⟨(some 4), .v (.mov (.t 25)), none⟩, ⟨(some 5), .v (.mov (.c (.bool true))), none⟩])
     .ret))))⟩
theorem e19 : rFunc Tryz.prog Tryz.f19 = some r19 := by kernel_rfl
def r43 : RFunc := ⟨12, [.t 2, .t 3],
 (.seq
  (.reg [⟨(some 2), .v (.mov (.c .nils)), none⟩, ⟨(some 3), .v (.mov (.c (.bool false))), none⟩])
  (.seq
   (.reg [⟨(some 5), .v (.mov (.t 0)), none⟩, ⟨(some 6), .call 91 [(.t 5)], none⟩, ⟨(some 4), .v (.mov (.t 6)), none⟩])
   (.seq
    (.seq
     (.reg [⟨(some 7), .v (.mov (.t 4)), none⟩, ⟨(some 8), .v (.seq false (.t 7) (.c .nils)), none⟩])
     (.cond (.t 8)
      (.seq
       (.reg [⟨(some 2), .v (.mov (.c .nils)), none⟩, ⟨(some 3), .v (.mov (.c (.bool false))), none⟩])
       .ret)
      .skip))
    (.seq
     (.reg [⟨(some 9), .v (.mov (.t 0)), none⟩, ⟨(some 10), .v (.mov (.t 4)), none⟩, ⟨(some 11), .call 92 [(.t 9), (.t 10)], none⟩, ⟨(some 2), .v (.mov (.t 11)), none⟩, ⟨(some 3), .v (.mov (.c (.bool true))), none⟩])
     .ret))))⟩
theorem e43 : rFunc Tryz.prog Tryz.f43 = some r43 := by kernel_rfl
def r17 : RFunc := ⟨36, [.t 4, .t 5],
 (.seq
  (.reg [⟨(some 2), .m (.box (.t 0)), none⟩, ⟨(some 4), .v (.mov (.c (.str []))), none⟩, ⟨(some 5), .v (.mov (.c (.bool false))), none⟩])
  (.seq
   (.reg [⟨(some 12), .call 43 [(.t 2)], none⟩, ⟨(some 11), .v (.mov (.t 12)), none⟩, ⟨(some 13), .v (.ext (.t 11) 0), none⟩, ⟨(some 14), .v (.ext (.t 11) 1), none⟩, ⟨(some 6), .v (.mov (.t 13)), none⟩, ⟨(some 7), .v (.mov (.t 14)), none⟩])
   (.seq
    (.reg [⟨(some 8), .v (.mov (.c (.str []))), none⟩])
    (.seq
     (.seq
      (.reg [⟨(some 15), .v (.mov (.t 6)), none⟩, ⟨(some 16), .v (.len (.t 15)), none⟩, ⟨(some 17), .v (.mov (.c (.int .i64 0))), none⟩])
      (.block 0
       (.loop
        (.seq
         (.reg [⟨(some 18), .v (.bin .lss (.t 17) (.t 16)), none⟩])
         (.seq
          (.cond (.t 18)
           .skip
           (.exit 0))
          (.seq
           (.block 1
            (.seq
             (.reg [⟨(some 19), .v (.iaddr 1 (.t 15) (.t 17)), none⟩, ⟨(some 20), .v (.load false 1 (.t 19)), none⟩, ⟨(some 10), .v (.mov (.t 20)), none⟩])
             (.seq
              (.reg [⟨(some 21), .v (.mov (.t 1)), none⟩, ⟨(some 22), .v (.mov (.t 10)), none⟩, ⟨(some 23), .call 48 [(.t 21), (.t 22)], none⟩, ⟨(some 24), .v (.mov (.t 23)), none⟩, ⟨(some 25), .v (.mov (.t 10)), (some (24, true))⟩, ⟨(some 26), .v (.lens (.t 25)), (some (24, true))⟩, ⟨(some 27), .v (.mov (.t 8)), (some (24, true))⟩, ⟨(some 28), .v (.lens (.t 27)), (some (24, true))⟩, ⟨(some 29), .v (.bin .gtr (.t 26) (.t 28)), (some (24, true))⟩, ⟨(some 30), .v (.pick (.t 24) (.t 29) (.c (.bool false))), none⟩])
              (.cond (.t 30)
               (.reg [⟨(some 31), .v (.mov (.t 10)), none⟩, ⟨(some 8), .v (.mov (.t 31)), none⟩])
               .skip))))
           (.reg [⟨(some 32), .v (.bin .add (.t 17) (.c (.int .i64 1))), none⟩, ⟨(some 17), .v (.mov (.t 32)), none⟩])))))))
     (.seq
      (.reg [⟨(some 33), .v (.mov (.t 8)), none⟩, ⟨(some 34), .v (.mov (.t 8)), none⟩, ⟨(some 35), .v (.bin .neq (.t 34) (.c (.str []))), none⟩, ⟨(some 4), .v (.mov (.t 33)), none⟩, ⟨(some 5), .v (.mov (.t 35)), none⟩])
      .ret)))))⟩
theorem e17 : rFunc Tryz.prog Tryz.f17 = some r17 := by kernel_rfl
def r9 : RFunc := ⟨18, [.cell true 3 4, .t 5],
 (.seq
  (.reg [⟨(some 4), .m (.alloc [(.int .i64 0), .nils, .nils]), none⟩, ⟨(some 5), .v (.mov (.c (.bool false))), none⟩])
  (.seq
   (.seq
    (.reg [⟨(some 6), .v (.mov (.t 0)), none⟩, ⟨(some 7), .call 36 [(.t 6)], none⟩, ⟨(some 8), .v (.un .not (.t 7)), none⟩, ⟨(some 9), .v (.mov (.t 8)), none⟩, ⟨(some 10), .v (.mov (.t 1)), (some (9, false))⟩, ⟨(some 11), .call 38 [(.t 10), (.c (.int .i64 1)), (.c (.int .i64 16))], (some (9, false))⟩, ⟨(some 12), .v (.un .not (.t 11)), (some (9, false))⟩, ⟨(some 13), .v (.pick (.t 9) (.c (.bool true)) (.t 12)), none⟩])
    (.cond (.t 13)
     (.seq
      (.reg [⟨(some 14), .v (.bld [(.int .i64 0), .nils, .nils] []), none⟩, ⟨none, .m (.store 3 (.t 4) (.t 14)), none⟩, ⟨(some 5), .v (.mov (.c (.bool false))), none⟩])
      .ret)
     .skip))
   (.seq
    (.reg [⟨(some 15), .v (.mov (.t 0)), none⟩, ⟨(some 16), .v (.mov (.t 1)), none⟩, ⟨(some 17), .call 39 [(.t 15), (.t 16)], none⟩, ⟨none, .m (.store 3 (.t 4) (.t 17)), none⟩, ⟨(some 5), .v (.mov (.c (.bool true))), none⟩])
    .ret)))⟩
theorem e9 : rFunc Tryz.prog Tryz.f9 = some r9 := by kernel_rfl
def r10 : RFunc := ⟨10, [.cell true 5 2, .t 3],
 (.seq
  (.reg [⟨(some 2), .m (.alloc [(.int .i64 0), .nils, (.int .i64 0), .nils, (.str [])]), none⟩, ⟨(some 3), .v (.mov (.c (.bool false))), none⟩])
  (.seq
   (.seq
    (.reg [⟨(some 4), .v (.mov (.t 0)), none⟩, ⟨(some 5), .call 40 [(.t 4)], none⟩, ⟨(some 6), .v (.un .not (.t 5)), none⟩])
    (.cond (.t 6)
     (.seq
      (.reg [⟨(some 7), .v (.bld [(.int .i64 0), .nils, (.int .i64 0), .nils, (.str [])] []), none⟩, ⟨none, .m (.store 5 (.t 2) (.t 7)), none⟩, ⟨(some 3), .v (.mov (.c (.bool false))), none⟩])
      .ret)
     .skip))
   (.seq
    (.reg [⟨(some 8), .v (.mov (.t 0)), none⟩, ⟨(some 9), .call 41 [(.t 8)], none⟩, ⟨none, .m (.store 5 (.t 2) (.t 9)), none⟩, ⟨(some 3), .v (.mov (.c (.bool true))), none⟩])
    .ret)))⟩
theorem e10 : rFunc Tryz.prog Tryz.f10 = some r10 := by kernel_rfl
end Go.Proofs.YtdkgoaiodjokpaaGreat.M

/-
  The resolved text of the functions, each tied to the program's own by the kernel.
-/
import Derived.Test.YtidhhiecgehgfaaGreatProg
import Derived.Test.YtidhhiecgehgfaaGreatFkg
namespace Go.Proofs.YtidhhiecgehgfaaGreat.M
open Go Go.RowKit
set_option maxRecDepth 100000

def r31 : RFunc := ⟨16, [.t 4],
 (.seq
  (.reg [⟨(some 4), .v (.mov (.c (.bool false))), none⟩])
  (.seq
   (.reg [⟨(some 5), .v (.mov (.t 0)), none⟩, ⟨(some 6), .v (.len (.t 5)), none⟩, ⟨(some 7), .v (.bin .gtr (.t 6) (.c (.int .i64 1048576))), none⟩, ⟨(some 8), .v (.mov (.t 7)), none⟩, ⟨(some 9), .v (.mov (.t 1)), (some (8, false))⟩, ⟨(some 10), .v (.len (.t 9)), (some (8, false))⟩, ⟨(some 11), .v (.mov (.t 0)), (some (8, false))⟩, ⟨(some 12), .v (.len (.t 11)), (some (8, false))⟩, ⟨(some 13), .v (.bin .sub (.c (.int .i64 1048576)) (.t 12)), (some (8, false))⟩, ⟨(some 14), .v (.bin .gtr (.t 10) (.t 13)), (some (8, false))⟩, ⟨(some 15), .v (.pick (.t 8) (.c (.bool true)) (.t 14)), none⟩, ⟨(some 4), .v (.mov (.t 15)), none⟩])
   .ret))⟩
theorem e31 : rFunc Tryz.prog Tryz.f31 = some r31 := by kernel_rfl
def r57 : RFunc := ⟨21, [.t 4, .t 5, .t 6],
 (.seq
  (.reg [⟨(some 4), .v (.mov (.c (.str []))), none⟩, ⟨(some 5), .v (.mov (.c .nils)), none⟩, ⟨(some 6), .v (.mov (.c (.bool false))), none⟩])
  (.seq
   (.reg [⟨(some 8), .v (.mov (.t 0)), none⟩, ⟨(some 9), .call 75 [(.t 8)], none⟩, ⟨(some 7), .v (.mov (.t 9)), none⟩])
   (.seq
    (.seq
     (.reg [⟨(some 10), .v (.mov (.t 1)), none⟩, ⟨(some 11), .v (.mov (.t 7)), none⟩, ⟨(some 12), .v (.len (.t 11)), none⟩, ⟨(some 13), .v (.bin .sub (.t 12) (.c (.int .i64 1))), none⟩, ⟨(some 14), .call 60 [(.t 10), (.c (.int .i64 0)), (.t 13)], none⟩, ⟨(some 15), .v (.un .not (.t 14)), none⟩])
     (.cond (.t 15)
      (.seq
       (.reg [⟨(some 4), .v (.mov (.c (.str []))), none⟩, ⟨(some 5), .v (.mov (.c .nils)), none⟩, ⟨(some 6), .v (.mov (.c (.bool false))), none⟩])
       .ret)
      .skip))
    (.seq
     (.reg [⟨(some 16), .v (.mov (.t 7)), none⟩, ⟨(some 17), .v (.mov (.t 1)), none⟩, ⟨(some 18), .v (.iaddr 1 (.t 16) (.t 17)), none⟩, ⟨(some 19), .v (.load false 1 (.t 18)), none⟩, ⟨(some 20), .v (.mov (.t 7)), none⟩, ⟨(some 4), .v (.mov (.t 19)), none⟩, ⟨(some 5), .v (.mov (.t 20)), none⟩, ⟨(some 6), .v (.mov (.c (.bool true))), none⟩])
     .ret))))⟩
theorem e57 : rFunc Tryz.prog Tryz.f57 = some r57 := by kernel_rfl
def r58 : RFunc := ⟨14, [.t 4, .t 5],
 (.seq
  (.reg [⟨(some 4), .v (.mov (.c (.int .i64 0))), none⟩, ⟨(some 5), .v (.mov (.c (.bool false))), none⟩])
  (.seq
   (.reg [⟨(some 7), .v (.mov (.t 0)), none⟩, ⟨(some 8), .v (.mov (.t 1)), none⟩, ⟨(some 9), .call 90 [(.t 7), (.t 8)], none⟩, ⟨(some 6), .v (.mov (.t 9)), none⟩])
   (.seq
    (.reg [⟨(some 10), .v (.mov (.t 6)), none⟩, ⟨(some 11), .v (.mx [(.t 10), (.c (.int .i64 0))]), none⟩, ⟨(some 12), .v (.mov (.t 6)), none⟩, ⟨(some 13), .v (.bin .geq (.t 12) (.c (.int .i64 0))), none⟩, ⟨(some 4), .v (.mov (.t 11)), none⟩, ⟨(some 5), .v (.mov (.t 13)), none⟩])
    .ret)))⟩
theorem e58 : rFunc Tryz.prog Tryz.f58 = some r58 := by kernel_rfl
def r15 : RFunc := ⟨30, [.t 4, .t 5],
 (.seq
  (.reg [⟨(some 2), .m (.box (.t 0)), none⟩, ⟨(some 4), .v (.mov (.c (.int .i64 0))), none⟩, ⟨(some 5), .v (.mov (.c (.bool false))), none⟩])
  (.seq
   (.reg [⟨(some 10), .v (.mov (.t 1)), none⟩, ⟨(some 11), .call 57 [(.t 2), (.t 10)], none⟩, ⟨(some 9), .v (.mov (.t 11)), none⟩, ⟨(some 12), .v (.ext (.t 9) 0), none⟩, ⟨(some 13), .v (.ext (.t 9) 1), none⟩, ⟨(some 14), .v (.ext (.t 9) 2), none⟩, ⟨(some 6), .v (.mov (.t 12)), none⟩, ⟨(some 7), .v (.mov (.t 13)), none⟩, ⟨(some 8), .v (.mov (.t 14)), none⟩])
   (.seq
    (.seq
     (.reg [⟨(some 15), .v (.mov (.t 8)), none⟩, ⟨(some 16), .v (.un .not (.t 15)), none⟩, ⟨(some 17), .v (.mov (.t 16)), none⟩, ⟨(some 18), .v (.mov (.t 1)), (some (17, false))⟩, ⟨(some 19), .v (.bin .eql (.t 18) (.c (.int .i64 0))), (some (17, false))⟩, ⟨(some 20), .v (.pick (.t 17) (.c (.bool true)) (.t 19)), none⟩])
     (.cond (.t 20)
      (.seq
       (.reg [⟨(some 4), .v (.mov (.c (.int .i64 0))), none⟩, ⟨(some 5), .v (.mov (.c (.bool false))), none⟩])
       .ret)
      .skip))
    (.seq
     (.reg [⟨(some 21), .v (.mov (.t 7)), none⟩, ⟨(some 22), .v (.mov (.t 6)), none⟩, ⟨(some 23), .v (.mov (.t 6)), none⟩, ⟨(some 24), .v (.lens (.t 23)), none⟩, ⟨(some 25), .v (.bin .sub (.t 24) (.c (.int .i64 1))), none⟩, ⟨(some 26), .v (.sstr (.t 22) none (some (.t 25))), none⟩, ⟨(some 27), .call 58 [(.t 21), (.t 26)], none⟩, ⟨(some 28), .v (.ext (.t 27) 0), none⟩, ⟨(some 29), .v (.ext (.t 27) 1), none⟩, ⟨(some 4), .v (.mov (.t 28)), none⟩, ⟨(some 5), .v (.mov (.t 29)), none⟩])
     .ret))))⟩
theorem e15 : rFunc Tryz.prog Tryz.f15 = some r15 := by kernel_rfl
def r53 : RFunc := ⟨15, [.t 2, .t 3],
 (.seq
  (.reg [⟨(some 1), .m (.box (.t 0)), none⟩, ⟨(some 2), .v (.mov (.c .nils)), none⟩, ⟨(some 3), .v (.mov (.c (.bool false))), none⟩])
  (.seq
   (.reg [⟨(some 7), .v (.load true 5 (.t 1)), none⟩, ⟨(some 8), .call 61 [(.t 7)], none⟩, ⟨(some 6), .v (.mov (.t 8)), none⟩, ⟨(some 9), .v (.ext (.t 6) 0), none⟩, ⟨(some 10), .v (.ext (.t 6) 1), none⟩, ⟨(some 4), .v (.mov (.t 9)), none⟩, ⟨(some 5), .v (.mov (.t 10)), none⟩])
   (.seq
    (.seq
     (.reg [⟨(some 11), .v (.mov (.t 5)), none⟩, ⟨(some 12), .v (.un .not (.t 11)), none⟩])
     (.cond (.t 12)
      (.seq
       (.reg [⟨(some 2), .v (.mov (.c .nils)), none⟩, ⟨(some 3), .v (.mov (.c (.bool false))), none⟩])
       .ret)
      .skip))
    (.seq
     (.reg [⟨(some 13), .v (.mov (.t 4)), none⟩, ⟨(some 14), .call 88 [(.t 13)], none⟩, ⟨(some 2), .v (.mov (.t 14)), none⟩, ⟨(some 3), .v (.mov (.c (.bool true))), none⟩])
     .ret))))⟩
theorem e53 : rFunc Tryz.prog Tryz.f53 = some r53 := by kernel_rfl
def r55 : RFunc := ⟨19, [.t 4],
 (.seq
  (.reg [⟨(some 4), .v (.mov (.c (.int .i64 0))), none⟩])
  (.seq
   (.seq
    (.reg [⟨(some 7), .v (.mov (.t 0)), none⟩, ⟨(some 8), .v (.len (.t 7)), none⟩, ⟨(some 9), .v (.mov (.c (.int .i64 0))), none⟩])
    (.block 0
     (.loop
      (.seq
       (.reg [⟨(some 10), .v (.bin .lss (.t 9) (.t 8)), none⟩])
       (.seq
        (.cond (.t 10)
         .skip
         (.exit 0))
        (.seq
         (.block 1
          (.seq
           (.reg [⟨(some 11), .v (.mov (.t 9)), none⟩, ⟨(some 12), .v (.iaddr 1 (.t 7) (.t 9)), none⟩, ⟨(some 13), .v (.load false 1 (.t 12)), none⟩, ⟨(some 5), .v (.mov (.t 11)), none⟩, ⟨(some 6), .v (.mov (.t 13)), none⟩])
           (.seq
            (.reg [⟨(some 14), .v (.mov (.t 6)), none⟩, ⟨(some 15), .v (.mov (.t 1)), none⟩, ⟨(some 16), .v (.bin .eql (.t 14) (.t 15)), none⟩])
            (.cond (.t 16)
             (.seq
              (.reg [⟨(some 17), .v (.mov (.t 5)), none⟩, ⟨(some 4), .v (.mov (.t 17)), none⟩])
              .ret)
             .skip))))
         (.reg [⟨(some 18), .v (.bin .add (.t 9) (.c (.int .i64 1))), none⟩, ⟨(some 9), .v (.mov (.t 18)), none⟩])))))))
   (.seq
    (.reg [⟨(some 4), .v (.mov (.c (.int .i64 (-1)))), none⟩])
    .ret)))⟩
theorem e55 : rFunc Tryz.prog Tryz.f55 = some r55 := by kernel_rfl
def r13 : RFunc := ⟨36, [.t 4, .t 5],
 (.seq
  (.reg [⟨(some 2), .m (.box (.t 0)), none⟩, ⟨(some 4), .v (.mov (.c (.int .i64 0))), none⟩, ⟨(some 5), .v (.mov (.c (.bool false))), none⟩])
  (.seq
   (.reg [⟨(some 9), .v (.load true 5 (.t 2)), none⟩, ⟨(some 10), .call 53 [(.t 9)], none⟩, ⟨(some 8), .v (.mov (.t 10)), none⟩, ⟨(some 11), .v (.ext (.t 8) 0), none⟩, ⟨(some 12), .v (.ext (.t 8) 1), none⟩, ⟨(some 6), .v (.mov (.t 11)), none⟩, ⟨(some 7), .v (.mov (.t 12)), none⟩])
   (.seq
    (.seq
     (.reg [⟨(some 13), .v (.mov (.t 7)), none⟩, ⟨(some 14), .v (.un .not (.t 13)), none⟩, ⟨(some 15), .v (.mov (.t 14)), none⟩, ⟨(some 16), .v (.mov (.t 1)), (some (15, false))⟩, ⟨(some 17), .v (.mov (.t 6)), (some (15, false))⟩, ⟨(some 18), .v (.len (.t 17)), (some (15, false))⟩, ⟨(some 19), .v (.bin .sub (.t 18) (.c (.int .i64 1))), (some (15, false))⟩, ⟨(some 20), .call 54 [(.t 16), (.c (.int .i64 1)), (.t 19)], (some (15, false))⟩, ⟨(some 21), .v (.un .not (.t 20)), (some (15, false))⟩, ⟨(some 22), .v (.pick (.t 15) (.c (.bool true)) (.t 21)), none⟩])
     (.cond (.t 22)
      (.seq
       (.reg [⟨(some 4), .v (.mov (.c (.int .i64 0))), none⟩, ⟨(some 5), .v (.mov (.c (.bool false))), none⟩])
       .ret)
      .skip))
    (.seq
     (.dreg (.fl ⟨(some 23), .v (.mov (.t 6)), none⟩ (.fl ⟨(some 24), .v (.mov (.t 6)), none⟩ (.fl ⟨(some 25), .v (.mov (.t 1)), none⟩ (.fl ⟨(some 26), .v (.iaddr 1 (.t 24) (.t 25)), none⟩ (.fl ⟨(some 27), .v (.load false 1 (.t 26)), none⟩ (.fl ⟨(some 28), .v (.mov (.t 6)), none⟩ (.fl ⟨(some 29), .v (.mov (.t 1)), none⟩ (.fl ⟨(some 30), .v (.iaddr 1 (.t 28) (.t 29)), none⟩ (.fl ⟨(some 31), .v (.load false 1 (.t 30)), none⟩ (.fl ⟨(some 32), .v (.lens (.t 31)), none⟩ (.fl ⟨(some 33), .v (.bin .sub (.t 32) (.c (.int .i64 1))), none⟩ (.fl ⟨(some 34), .v (.sstr (.t 27) none (some (.t 33))), none⟩ (.nx ⟨(some 35), .call 55 [(.t 23), (.t 34)], none⟩ (.fl ⟨(some 4), .v (.mov (.t 35)), none⟩ (.fl ⟨(some 5), .v (.mov (.c (.bool true))), none⟩ .done))))))))))))))))
     .ret))))⟩
theorem e13 : rFunc Tryz.prog Tryz.f13 = some r13 := by kernel_rfl
def r42 : RFunc := ⟨10, [.t 2, .t 3],
 (.seq
  (.reg [⟨(some 1), .m (.box (.t 0)), none⟩, ⟨(some 2), .v (.mov (.c (.int .i64 0))), none⟩, ⟨(some 3), .v (.mov (.c (.bool false))), none⟩])
  (.seq
   (.reg [⟨(some 5), .call 75 [(.t 1)], none⟩, ⟨(some 4), .v (.mov (.t 5)), none⟩])
   (.seq
    (.reg [⟨(some 6), .v (.mov (.t 4)), none⟩, ⟨(some 7), .v (.len (.t 6)), none⟩, ⟨(some 8), .v (.mov (.t 4)), none⟩, ⟨(some 9), .v (.seq true (.t 8) (.c .nils)), none⟩, ⟨(some 2), .v (.mov (.t 7)), none⟩, ⟨(some 3), .v (.mov (.t 9)), none⟩])
    .ret)))⟩
theorem e42 : rFunc Tryz.prog Tryz.f42 = some r42 := by kernel_rfl
def r33 : RFunc := ⟨17, [.t 4, .t 5],
 (.seq
  (.reg [⟨(some 2), .m (.box (.t 0)), none⟩, ⟨(some 4), .v (.mov (.c (.str []))), none⟩, ⟨(some 5), .v (.mov (.c (.bool false))), none⟩])
  (.seq
   (.reg [⟨(some 10), .v (.mov (.t 1)), none⟩, ⟨(some 11), .call 57 [(.t 2), (.t 10)], none⟩, ⟨(some 9), .v (.mov (.t 11)), none⟩, ⟨(some 12), .v (.ext (.t 9) 0), none⟩, ⟨(some 13), .v (.ext (.t 9) 1), none⟩, ⟨(some 14), .v (.ext (.t 9) 2), none⟩, ⟨(some 6), .v (.mov (.t 12)), none⟩, ⟨(some 7), .v (.mov (.t 13)), none⟩, ⟨(some 8), .v (.mov (.t 14)), none⟩])
   (.seq
    (.reg [⟨(some 15), .v (.mov (.t 6)), none⟩, ⟨(some 16), .v (.mov (.t 8)), none⟩, ⟨(some 4), .v (.mov (.t 15)), none⟩, ⟨(some 5), .v (.mov (.t 16)), none⟩])
    .ret)))⟩
theorem e33 : rFunc Tryz.prog Tryz.f33 = some r33 := by kernel_rfl
def r49 : RFunc := ⟨19, [.t 4, .t 5],
 (.seq
  (.reg [⟨(some 2), .m (.box (.t 0)), none⟩, ⟨(some 4), .v (.mov (.c (.bool false))), none⟩, ⟨(some 5), .v (.mov (.c (.bool false))), none⟩])
  (.seq
   (.seq
    (.reg [⟨(some 6), .v (.load true 2 (.t 2)), none⟩, ⟨(some 7), .call 82 [(.t 6)], none⟩, ⟨(some 8), .v (.un .not (.t 7)), none⟩, ⟨(some 9), .v (.mov (.t 8)), none⟩, ⟨(some 10), .v (.mov (.t 1)), (some (9, false))⟩, ⟨(some 11), .v (.faddr 0 (.t 2)), (some (9, false))⟩, ⟨(some 12), .v (.load false 1 (.t 11)), (some (9, false))⟩, ⟨(some 13), .v (.bin .sub (.t 12) (.c (.int .i64 1))), (some (9, false))⟩, ⟨(some 14), .call 60 [(.t 10), (.c (.int .i64 0)), (.t 13)], (some (9, false))⟩, ⟨(some 15), .v (.un .not (.t 14)), (some (9, false))⟩, ⟨(some 16), .v (.pick (.t 9) (.c (.bool true)) (.t 15)), none⟩])
    (.cond (.t 16)
     (.seq
      (.reg [⟨(some 4), .v (.mov (.c (.bool false))), none⟩, ⟨(some 5), .v (.mov (.c (.bool false))), none⟩])
      .ret)
     .skip))
   (.seq
    (.reg [⟨(some 17), .v (.mov (.t 1)), none⟩, ⟨(some 18), .call 64 [(.t 2), (.t 17)], none⟩, ⟨(some 4), .v (.mov (.t 18)), none⟩, ⟨(some 5), .v (.mov (.c (.bool true))), none⟩])
    .ret)))⟩
theorem e49 : rFunc Tryz.prog Tryz.f49 = some r49 := by kernel_rfl
def r35 : RFunc := ⟨11, [.t 4, .t 5],
 (.seq
  (.reg [⟨(some 2), .m (.box (.t 0)), none⟩, ⟨(some 4), .v (.mov (.c (.int .i64 0))), none⟩, ⟨(some 5), .v (.mov (.c (.bool false))), none⟩])
  (.seq
   (.reg [⟨(some 6), .call 75 [(.t 2)], none⟩, ⟨(some 7), .v (.mov (.t 1)), none⟩, ⟨(some 8), .call 58 [(.t 6), (.t 7)], none⟩, ⟨(some 9), .v (.ext (.t 8) 0), none⟩, ⟨(some 10), .v (.ext (.t 8) 1), none⟩, ⟨(some 4), .v (.mov (.t 9)), none⟩, ⟨(some 5), .v (.mov (.t 10)), none⟩])
   .ret))⟩
theorem e35 : rFunc Tryz.prog Tryz.f35 = some r35 := by kernel_rfl
def r20 : RFunc := ⟨25, [.t 4, .t 5],
 (.seq
  (.reg [⟨(some 2), .m (.box (.t 0)), none⟩, ⟨(some 4), .v (.mov (.c (.int .i64 0))), none⟩, ⟨(some 5), .v (.mov (.c (.bool false))), none⟩])
  (.seq
   (.reg [⟨(some 9), .v (.load true 5 (.t 2)), none⟩, ⟨(some 10), .v (.mov (.t 1)), none⟩, ⟨(some 11), .call 35 [(.t 9), (.t 10)], none⟩, ⟨(some 8), .v (.mov (.t 11)), none⟩, ⟨(some 12), .v (.ext (.t 8) 0), none⟩, ⟨(some 13), .v (.ext (.t 8) 1), none⟩, ⟨(some 6), .v (.mov (.t 12)), none⟩, ⟨(some 7), .v (.mov (.t 13)), none⟩])
   (.seq
    (.seq
     (.reg [⟨(some 14), .v (.mov (.t 7)), none⟩, ⟨(some 15), .v (.un .not (.t 14)), none⟩, ⟨(some 16), .v (.mov (.t 15)), none⟩, ⟨(some 17), .v (.faddr 2 (.t 2)), (some (16, false))⟩, ⟨(some 18), .v (.mov (.t 6)), (some (16, false))⟩, ⟨(some 19), .call 64 [(.t 17), (.t 18)], (some (16, false))⟩, ⟨(some 20), .v (.un .not (.t 19)), (some (16, false))⟩, ⟨(some 21), .v (.pick (.t 16) (.c (.bool true)) (.t 20)), none⟩])
     (.cond (.t 21)
      (.seq
       (.reg [⟨(some 4), .v (.mov (.c (.int .i64 0))), none⟩, ⟨(some 5), .v (.mov (.c (.bool false))), none⟩])
       .ret)
      .skip))
    (.seq
     (.reg [⟨(some 22), .v (.faddr 2 (.t 2)), none⟩, ⟨(some 23), .v (.mov (.t 6)), none⟩, ⟨(some 24), .call 65 [(.t 22), (.c (.int .i64 0)), (.t 23)], none⟩, ⟨(some 4), .v (.mov (.t 24)), none⟩, ⟨(some 5), .v (.mov (.c (.bool true))), none⟩])
     .ret))))⟩
theorem e20 : rFunc Tryz.prog Tryz.f20 = some r20 := by kernel_rfl
def r11 : RFunc := ⟨190, [.t 4],
 (.seq
  (.reg [⟨(some 4), .v (.mov (.c (.bool false))), none⟩])
  (.seq
   (.seq
    (.reg [⟨(some 33), .v (.mov (.t 0)), none⟩, ⟨(some 34), .v (.mov (.t 1)), none⟩, ⟨(some 35), .call 31 [(.t 33), (.t 34)], none⟩])
    (.cond (.t 35)
     (.seq
      (.reg [⟨(some 4), .v (.mov (.c (.bool true))), none⟩])
      .ret)
     .skip))
   (.seq
    (.reg [⟨(some 37), .v (.mov (.t 0)), none⟩, ⟨(some 38), .call 44 [(.t 37)], none⟩, ⟨(some 36), .v (.mov (.t 38)), none⟩, ⟨(some 39), .v (.ext (.t 36) 0), none⟩, ⟨(some 40), .v (.ext (.t 36) 1), none⟩, ⟨(some 5), .m (.alloc [(.int .i64 0), .nils, (.int .i64 0), .nils, (.str [])]), none⟩, ⟨none, .m (.store 5 (.t 5) (.t 39)), none⟩, ⟨(some 6), .v (.mov (.t 40)), none⟩])
    (.seq
     (.reg [⟨(some 42), .v (.load true 5 (.t 5)), none⟩, ⟨(some 43), .v (.mov (.t 6)), none⟩, ⟨(some 44), .call 15 [(.t 42), (.t 43)], none⟩, ⟨(some 41), .v (.mov (.t 44)), none⟩, ⟨(some 45), .v (.ext (.t 41) 0), none⟩, ⟨(some 46), .v (.ext (.t 41) 1), none⟩, ⟨(some 7), .v (.mov (.t 45)), none⟩, ⟨(some 8), .v (.mov (.t 46)), none⟩])
     (.seq
      (.reg [⟨(some 48), .v (.load true 5 (.t 5)), none⟩, ⟨(some 49), .v (.mov (.t 6)), none⟩, ⟨(some 50), .call 13 [(.t 48), (.t 49)], none⟩, ⟨(some 47), .v (.mov (.t 50)), none⟩, ⟨(some 51), .v (.ext (.t 47) 0), none⟩, ⟨(some 52), .v (.ext (.t 47) 1), none⟩, ⟨(some 9), .v (.mov (.t 51)), none⟩, ⟨(some 10), .v (.mov (.t 52)), none⟩])
      (.seq
       (.seq
        (.reg [⟨(some 53), .v (.mov (.t 8)), none⟩, ⟨(some 54), .v (.mov (.t 10)), none⟩, ⟨(some 55), .v (.beq true (.t 53) (.t 54)), none⟩, ⟨(some 56), .v (.mov (.t 55)), none⟩, ⟨(some 57), .v (.mov (.t 7)), (some (56, false))⟩, ⟨(some 58), .v (.mov (.t 9)), (some (56, false))⟩, ⟨(some 59), .v (.bin .neq (.t 57) (.t 58)), (some (56, false))⟩, ⟨(some 60), .v (.pick (.t 56) (.c (.bool true)) (.t 59)), none⟩])
        (.cond (.t 60)
         (.seq
          (.reg [⟨(some 4), .v (.mov (.c (.bool false))), none⟩])
          .ret)
         .skip))
       (.seq
        (.seq
         (.reg [⟨(some 61), .v (.mov (.t 10)), none⟩, ⟨(some 62), .v (.un .not (.t 61)), none⟩])
         (.cond (.t 62)
          (.seq
           (.reg [⟨(some 4), .v (.mov (.c (.bool true))), none⟩])
           .ret)
          .skip))
        (.seq
         (.reg [⟨(some 64), .v (.faddr 0 (.t 5)), none⟩, ⟨(some 65), .v (.load true 2 (.t 64)), none⟩, ⟨(some 66), .call 45 [(.t 65)], none⟩, ⟨(some 63), .v (.mov (.t 66)), none⟩, ⟨(some 67), .v (.ext (.t 63) 0), none⟩, ⟨(some 68), .v (.ext (.t 63) 1), none⟩, ⟨(some 11), .m (.alloc [(.int .i64 0), .nils, .nils, .nils]), none⟩, ⟨none, .m (.store 4 (.t 11) (.t 67)), none⟩, ⟨(some 12), .v (.mov (.t 68)), none⟩])
         (.seq
          (.reg [⟨(some 70), .v (.faddr 2 (.t 5)), none⟩, ⟨(some 71), .v (.load true 2 (.t 70)), none⟩, ⟨(some 72), .call 45 [(.t 71)], none⟩, ⟨(some 69), .v (.mov (.t 72)), none⟩, ⟨(some 73), .v (.ext (.t 69) 0), none⟩, ⟨(some 74), .v (.ext (.t 69) 1), none⟩, ⟨(some 13), .m (.alloc [(.int .i64 0), .nils, .nils, .nils]), none⟩, ⟨none, .m (.store 4 (.t 13) (.t 73)), none⟩, ⟨(some 14), .v (.mov (.t 74)), none⟩])
          (.seq
           (.reg [⟨(some 76), .v (.load true 4 (.t 11)), none⟩, ⟨(some 77), .v (.mov (.t 6)), none⟩, ⟨(some 78), .v (.bin .sub (.t 77) (.c (.int .i64 1))), none⟩, ⟨(some 79), .call 46 [(.t 76), (.t 78)], none⟩, ⟨(some 75), .v (.mov (.t 79)), none⟩, ⟨(some 80), .v (.ext (.t 75) 0), none⟩, ⟨(some 81), .v (.ext (.t 75) 1), none⟩, ⟨(some 15), .v (.mov (.t 80)), none⟩, ⟨(some 16), .v (.mov (.t 81)), none⟩])
           (.seq
            (.reg [⟨(some 83), .v (.load true 4 (.t 11)), none⟩, ⟨(some 84), .v (.mov (.t 15)), none⟩, ⟨(some 85), .call 47 [(.t 83), (.t 84)], none⟩, ⟨(some 82), .v (.mov (.t 85)), none⟩, ⟨(some 86), .v (.ext (.t 82) 0), none⟩, ⟨(some 87), .v (.ext (.t 82) 1), none⟩, ⟨(some 17), .v (.mov (.t 86)), none⟩, ⟨(some 18), .v (.mov (.t 87)), none⟩])
            (.seq
             (.seq
              (.reg [⟨(some 88), .v (.mov (.t 12)), none⟩, ⟨(some 89), .v (.un .not (.t 88)), none⟩, ⟨(some 90), .v (.mov (.t 89)), none⟩, ⟨(some 91), .v (.mov (.t 14)), (some (90, false))⟩, ⟨(some 92), .v (.un .not (.t 91)), (some (90, false))⟩, ⟨(some 93), .v (.pick (.t 90) (.c (.bool true)) (.t 92)), none⟩, ⟨(some 94), .v (.mov (.t 93)), none⟩, ⟨(some 95), .v (.mov (.t 16)), (some (94, false))⟩, ⟨(some 96), .v (.un .not (.t 95)), (some (94, false))⟩, ⟨(some 97), .v (.pick (.t 94) (.c (.bool true)) (.t 96)), none⟩, ⟨(some 98), .v (.mov (.t 97)), none⟩, ⟨(some 99), .v (.mov (.t 18)), (some (98, false))⟩, ⟨(some 100), .v (.un .not (.t 99)), (some (98, false))⟩, ⟨(some 101), .v (.pick (.t 98) (.c (.bool true)) (.t 100)), none⟩, ⟨(some 102), .v (.mov (.t 101)), none⟩, ⟨(some 103), .v (.mov (.t 17)), (some (102, false))⟩, ⟨(some 104), .v (.mov (.t 7)), (some (102, false))⟩, ⟨(some 105), .v (.bin .neq (.t 103) (.t 104)), (some (102, false))⟩, ⟨(some 106), .v (.pick (.t 102) (.c (.bool true)) (.t 105)), none⟩])
              (.cond (.t 106)
               (.seq
                (.reg [⟨(some 4), .v (.mov (.c (.bool false))), none⟩])
                .ret)
               .skip))
             (.seq
              (.reg [⟨(some 108), .v (.load true 5 (.t 5)), none⟩, ⟨(some 109), .call 42 [(.t 108)], none⟩, ⟨(some 107), .v (.mov (.t 109)), none⟩, ⟨(some 110), .v (.ext (.t 107) 0), none⟩, ⟨(some 111), .v (.ext (.t 107) 1), none⟩, ⟨(some 19), .v (.mov (.t 110)), none⟩, ⟨(some 20), .v (.mov (.t 111)), none⟩])
              (.seq
               (.reg [⟨(some 113), .v (.load true 5 (.t 5)), none⟩, ⟨(some 114), .call 48 [(.t 113)], none⟩, ⟨(some 112), .v (.mov (.t 114)), none⟩, ⟨(some 115), .v (.ext (.t 112) 0), none⟩, ⟨(some 116), .v (.ext (.t 112) 1), none⟩, ⟨(some 21), .v (.mov (.t 115)), none⟩, ⟨(some 22), .v (.mov (.t 116)), none⟩])
               (.seq
                (.reg [⟨(some 118), .v (.load true 5 (.t 5)), none⟩, ⟨(some 119), .v (.mov (.t 6)), none⟩, ⟨(some 120), .call 33 [(.t 118), (.t 119)], none⟩, ⟨(some 117), .v (.mov (.t 120)), none⟩, ⟨(some 121), .v (.ext (.t 117) 0), none⟩, ⟨(some 122), .v (.ext (.t 117) 1), none⟩, ⟨(some 23), .v (.mov (.t 121)), none⟩, ⟨(some 24), .v (.mov (.t 122)), none⟩])
                (.seq
                 (.reg [⟨(some 124), .v (.faddr 2 (.t 5)), none⟩, ⟨(some 125), .v (.load true 2 (.t 124)), none⟩, ⟨(some 126), .v (.mov (.t 6)), none⟩, ⟨(some 127), .call 49 [(.t 125), (.t 126)], none⟩, ⟨(some 123), .v (.mov (.t 127)), none⟩, ⟨(some 128), .v (.ext (.t 123) 0), none⟩, ⟨(some 129), .v (.ext (.t 123) 1), none⟩, ⟨(some 25), .v (.mov (.t 128)), none⟩, ⟨(some 26), .v (.mov (.t 129)), none⟩])
                 (.seq
                  (.reg [⟨(some 131), .v (.load true 5 (.t 5)), none⟩, ⟨(some 132), .v (.mov (.t 23)), none⟩, ⟨(some 133), .call 20 [(.t 131), (.t 132)], none⟩, ⟨(some 130), .v (.mov (.t 133)), none⟩, ⟨(some 134), .v (.ext (.t 130) 0), none⟩, ⟨(some 135), .v (.ext (.t 130) 1), none⟩, ⟨(some 27), .v (.mov (.t 134)), none⟩, ⟨(some 28), .v (.mov (.t 135)), none⟩])
                  (.seq
                   (.seq
                    (.reg [⟨(some 136), .v (.mov (.t 20)), none⟩, ⟨(some 137), .v (.un .not (.t 136)), none⟩, ⟨(some 138), .v (.mov (.t 137)), none⟩, ⟨(some 139), .v (.mov (.t 22)), (some (138, false))⟩, ⟨(some 140), .v (.un .not (.t 139)), (some (138, false))⟩, ⟨(some 141), .v (.pick (.t 138) (.c (.bool true)) (.t 140)), none⟩, ⟨(some 142), .v (.mov (.t 141)), none⟩, ⟨(some 143), .v (.mov (.t 24)), (some (142, false))⟩, ⟨(some 144), .v (.un .not (.t 143)), (some (142, false))⟩, ⟨(some 145), .v (.pick (.t 142) (.c (.bool true)) (.t 144)), none⟩, ⟨(some 146), .v (.mov (.t 145)), none⟩, ⟨(some 147), .v (.mov (.t 26)), (some (146, false))⟩, ⟨(some 148), .v (.un .not (.t 147)), (some (146, false))⟩, ⟨(some 149), .v (.pick (.t 146) (.c (.bool true)) (.t 148)), none⟩, ⟨(some 150), .v (.mov (.t 149)), none⟩, ⟨(some 151), .v (.mov (.t 21)), (some (150, false))⟩, ⟨(some 152), .v (.mov (.t 19)), (some (150, false))⟩, ⟨(some 153), .v (.bin .mul (.c (.int .i64 10)) (.t 152)), (some (150, false))⟩, ⟨(some 154), .v (.bin .sub (.t 153) (.c (.int .i64 8))), (some (150, false))⟩, ⟨(some 155), .v (.bin .neq (.t 151) (.t 154)), (some (150, false))⟩, ⟨(some 156), .v (.pick (.t 150) (.c (.bool true)) (.t 155)), none⟩, ⟨(some 157), .v (.mov (.t 156)), none⟩, ⟨(some 158), .v (.mov (.t 28)), (some (157, false))⟩, ⟨(some 159), .v (.mov (.t 25)), (some (157, false))⟩, ⟨(some 160), .v (.beq true (.t 158) (.t 159)), (some (157, false))⟩, ⟨(some 161), .v (.pick (.t 157) (.c (.bool true)) (.t 160)), none⟩])
                    (.cond (.t 161)
                     (.seq
                      (.reg [⟨(some 4), .v (.mov (.c (.bool false))), none⟩])
                      .ret)
                     .skip))
                   (.seq
                    (.seq
                     (.reg [⟨(some 162), .v (.mov (.t 28)), none⟩, ⟨(some 163), .v (.un .not (.t 162)), none⟩])
                     (.cond (.t 163)
                      (.seq
                       (.reg [⟨(some 4), .v (.mov (.c (.bool true))), none⟩])
                       .ret)
                      .skip))
                    (.seq
                     (.reg [⟨(some 165), .v (.load true 4 (.t 13)), none⟩, ⟨(some 166), .v (.mov (.t 6)), none⟩, ⟨(some 167), .call 50 [(.t 165), (.t 166)], none⟩, ⟨(some 164), .v (.mov (.t 167)), none⟩, ⟨(some 168), .v (.ext (.t 164) 0), none⟩, ⟨(some 169), .v (.ext (.t 164) 1), none⟩, ⟨(some 29), .v (.mov (.t 168)), none⟩, ⟨(some 30), .v (.mov (.t 169)), none⟩])
                     (.seq
                      (.reg [⟨(some 171), .v (.load true 5 (.t 5)), none⟩, ⟨(some 172), .v (.mov (.t 27)), none⟩, ⟨(some 173), .call 51 [(.t 171), (.t 172)], none⟩, ⟨(some 170), .v (.mov (.t 173)), none⟩, ⟨(some 174), .v (.ext (.t 170) 0), none⟩, ⟨(some 175), .v (.ext (.t 170) 1), none⟩, ⟨(some 31), .v (.mov (.t 174)), none⟩, ⟨(some 32), .v (.mov (.t 175)), none⟩])
                      (.seq
                       (.reg [⟨(some 176), .v (.mov (.t 30)), none⟩, ⟨(some 177), .v (.mov (.t 176)), none⟩, ⟨(some 178), .v (.mov (.t 32)), (some (177, true))⟩, ⟨(some 179), .v (.pick (.t 177) (.t 178) (.c (.bool false))), none⟩, ⟨(some 180), .v (.mov (.t 179)), none⟩, ⟨(some 181), .v (.mov (.t 29)), (some (180, true))⟩, ⟨(some 182), .v (.mov (.t 27)), (some (180, true))⟩, ⟨(some 183), .v (.bin .eql (.t 181) (.t 182)), (some (180, true))⟩, ⟨(some 184), .v (.pick (.t 180) (.t 183) (.c (.bool false))), none⟩, ⟨(some 185), .v (.mov (.t 184)), none⟩, ⟨(some 186), .v (.mov (.t 31)), (some (185, true))⟩, ⟨(some 187), .v (.mov (.t 23)), (some (185, true))⟩, ⟨(some 188), .v (.bin .eql (.t 186) (.t 187)), (some (185, true))⟩, ⟨(some 189), .v (.pick (.t 185) (.t 188) (.c (.bool false))), none⟩, ⟨(some 4), .v (.mov (.t 189)), none⟩])
                       .ret))))))))))))))))))))))⟩
theorem e11 : rFunc Tryz.prog Tryz.f11 = some r11 := by kernel_rfl
end Go.Proofs.YtidhhiecgehgfaaGreat.M

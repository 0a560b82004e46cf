/-
  The resolved text of the functions, each tied to the program's own by the kernel.
-/
import Derived.Test.YtidhhiecgehgfaaGreatProg
import Derived.Test.YtidhhiecgehgfaaGreatFke
namespace Go.Proofs.YtidhhiecgehgfaaGreat.M
open Go Go.RowKit
set_option maxRecDepth 100000

def r31 : RFunc := ⟨16, [.t 4],
 (.seq
  (.reg [⟨(some 4), .v (.mov (.c (.bool false))), none⟩])
  (.seq
   (.reg [⟨(some 5), .v (.mov (.t 0)), none⟩, ⟨(some 6), .v (.len (.t 5)), none⟩, ⟨(some 7), .v (.bin .gtr (.t 6) (.c (.int .i64 1048576))), none⟩, ⟨(some 8), .v (.mov (.t 7)), none⟩, ⟨(some 9), .v (.mov (.t 1)), (some (8, false))⟩, ⟨(some 10), .v (.len (.t 9)), (some (8, false))⟩, ⟨(some 11), .v (.mov (.t 0)), (some (8, false))⟩, ⟨(some 12), .v (.len (.t 11)), (some (8, false))⟩, ⟨(some 13), .v (.bin .sub (.c (.int .i64 1048576)) (.t 12)), (some (8, false))⟩, ⟨(some 14), .v (.bin .gtr (.t 10) (.t 13)), (some (8, false))⟩, ⟨(some 15), .v (.pick (.t 8) (.c (.bool true)) (.t 14)), none⟩, ⟨(some 4), .v (.mov (.t 15)), none⟩])
   .ret))⟩
theorem e31 : rFunc Tryz.prog Tryz.f31 = some r31 := by kernel_rfl
def r58 : RFunc := ⟨14, [.t 4, .t 5],
 (.seq
  (.reg [⟨(some 4), .v (.mov (.c (.int .i64 0))), none⟩, ⟨(some 5), .v (.mov (.c (.bool false))), none⟩])
  (.seq
   (.reg [⟨(some 7), .v (.mov (.t 0)), none⟩, ⟨(some 8), .v (.mov (.t 1)), none⟩, ⟨(some 9), .call 90 [(.t 7), (.t 8)], none⟩, ⟨(some 6), .v (.mov (.t 9)), none⟩])
   (.seq
    (.reg [⟨(some 10), .v (.mov (.t 6)), none⟩, ⟨(some 11), .v (.mx [(.t 10), (.c (.int .i64 0))]), none⟩, ⟨(some 12), .v (.mov (.t 6)), none⟩, ⟨(some 13), .v (.bin .geq (.t 12) (.c (.int .i64 0))), none⟩, ⟨(some 4), .v (.mov (.t 11)), none⟩, ⟨(some 5), .v (.mov (.t 13)), none⟩])
    .ret)))⟩
theorem e58 : rFunc Tryz.prog Tryz.f58 = some r58 := by kernel_rfl
def r35 : RFunc := ⟨11, [.t 4, .t 5],
 (.seq
  (.reg [⟨(some 2), .m (.box (.t 0)), none⟩, ⟨(some 4), .v (.mov (.c (.int .i64 0))), none⟩, ⟨(some 5), .v (.mov (.c (.bool false))), none⟩])
  (.seq
   (.reg [⟨(some 6), .call 75 [(.t 2)], none⟩, ⟨(some 7), .v (.mov (.t 1)), none⟩, ⟨(some 8), .call 58 [(.t 6), (.t 7)], none⟩, ⟨(some 9), .v (.ext (.t 8) 0), none⟩, ⟨(some 10), .v (.ext (.t 8) 1), none⟩, ⟨(some 4), .v (.mov (.t 9)), none⟩, ⟨(some 5), .v (.mov (.t 10)), none⟩])
   .ret))⟩
theorem e35 : rFunc Tryz.prog Tryz.f35 = some r35 := by kernel_rfl
def r18 : RFunc := ⟨34, [.t 6, .t 7],
 (.seq
  (.reg [⟨(some 3), .m (.box (.t 0)), none⟩, ⟨(some 6), .v (.mov (.c (.int .i64 0))), none⟩, ⟨(some 7), .v (.mov (.c (.bool false))), none⟩])
  (.seq
   (.reg [⟨(some 12), .v (.mov (.t 1)), none⟩, ⟨(some 13), .call 57 [(.t 3), (.t 12)], none⟩, ⟨(some 11), .v (.mov (.t 13)), none⟩, ⟨(some 14), .v (.ext (.t 11) 0), none⟩, ⟨(some 15), .v (.ext (.t 11) 1), none⟩, ⟨(some 16), .v (.ext (.t 11) 2), none⟩, ⟨(some 8), .v (.mov (.t 14)), none⟩, ⟨(some 9), .v (.mov (.t 15)), none⟩, ⟨(some 10), .v (.mov (.t 16)), none⟩])
   (.seq
    (.seq
     (.reg [⟨(some 17), .v (.mov (.t 10)), none⟩, ⟨(some 18), .v (.un .not (.t 17)), none⟩, ⟨(some 19), .v (.mov (.t 18)), none⟩, ⟨(some 20), .v (.mov (.t 2)), (some (19, false))⟩, ⟨(some 21), .call 60 [(.t 20), (.c (.int .i64 0)), (.c (.int .i64 255))], (some (19, false))⟩, ⟨(some 22), .v (.un .not (.t 21)), (some (19, false))⟩, ⟨(some 23), .v (.pick (.t 19) (.c (.bool true)) (.t 22)), none⟩])
     (.cond (.t 23)
      (.seq
       (.reg [⟨(some 6), .v (.mov (.c (.int .i64 0))), none⟩, ⟨(some 7), .v (.mov (.c (.bool false))), none⟩])
       .ret)
      .skip))
    (.seq
     (.reg [⟨(some 24), .v (.mov (.t 9)), none⟩, ⟨(some 25), .v (.mov (.t 8)), none⟩, ⟨(some 26), .v (.mov (.t 2)), none⟩, ⟨(some 27), .v (.conv .u8 (.t 26)), none⟩, ⟨(some 28), .m (.bsl 1 1 [(.int .u8 0)] [(0, 1, (.t 27))]), none⟩, ⟨(some 29), .v (.cbs (.t 28)), none⟩, ⟨(some 30), .v (.bin .add (.t 25) (.t 29)), none⟩, ⟨(some 31), .call 58 [(.t 24), (.t 30)], none⟩, ⟨(some 32), .v (.ext (.t 31) 0), none⟩, ⟨(some 33), .v (.ext (.t 31) 1), none⟩, ⟨(some 6), .v (.mov (.t 32)), none⟩, ⟨(some 7), .v (.mov (.t 33)), none⟩])
     .ret))))⟩
theorem e18 : rFunc Tryz.prog Tryz.f18 = some r18 := by kernel_rfl
def r15 : RFunc := ⟨30, [.t 4, .t 5],
 (.seq
  (.reg [⟨(some 2), .m (.box (.t 0)), none⟩, ⟨(some 4), .v (.mov (.c (.int .i64 0))), none⟩, ⟨(some 5), .v (.mov (.c (.bool false))), none⟩])
  (.seq
   (.reg [⟨(some 10), .v (.mov (.t 1)), none⟩, ⟨(some 11), .call 57 [(.t 2), (.t 10)], none⟩, ⟨(some 9), .v (.mov (.t 11)), none⟩, ⟨(some 12), .v (.ext (.t 9) 0), none⟩, ⟨(some 13), .v (.ext (.t 9) 1), none⟩, ⟨(some 14), .v (.ext (.t 9) 2), none⟩, ⟨(some 6), .v (.mov (.t 12)), none⟩, ⟨(some 7), .v (.mov (.t 13)), none⟩, ⟨(some 8), .v (.mov (.t 14)), none⟩])
   (.seq
    (.seq
     (.reg [⟨(some 15), .v (.mov (.t 8)), none⟩, ⟨(some 16), .v (.un .not (.t 15)), none⟩, ⟨(some 17), .v (.mov (.t 16)), none⟩, ⟨(some 18), .v (.mov (.t 1)), (some (17, false))⟩, ⟨(some 19), .v (.bin .eql (.t 18) (.c (.int .i64 0))), (some (17, false))⟩, ⟨(some 20), .v (.pick (.t 17) (.c (.bool true)) (.t 19)), none⟩])
     (.cond (.t 20)
      (.seq
       (.reg [⟨(some 4), .v (.mov (.c (.int .i64 0))), none⟩, ⟨(some 5), .v (.mov (.c (.bool false))), none⟩])
       .ret)
      .skip))
    (.seq
     (.reg [⟨(some 21), .v (.mov (.t 7)), none⟩, ⟨(some 22), .v (.mov (.t 6)), none⟩, ⟨(some 23), .v (.mov (.t 6)), none⟩, ⟨(some 24), .v (.lens (.t 23)), none⟩, ⟨(some 25), .v (.bin .sub (.t 24) (.c (.int .i64 1))), none⟩, ⟨(some 26), .v (.sstr (.t 22) none (some (.t 25))), none⟩, ⟨(some 27), .call 58 [(.t 21), (.t 26)], none⟩, ⟨(some 28), .v (.ext (.t 27) 0), none⟩, ⟨(some 29), .v (.ext (.t 27) 1), none⟩, ⟨(some 4), .v (.mov (.t 28)), none⟩, ⟨(some 5), .v (.mov (.t 29)), none⟩])
     .ret))))⟩
theorem e15 : rFunc Tryz.prog Tryz.f15 = some r15 := by kernel_rfl
def r9 : RFunc := ⟨181, [.t 4],
 (.seq
  (.reg [⟨(some 4), .v (.mov (.c (.bool false))), none⟩])
  (.seq
   (.seq
    (.reg [⟨(some 26), .v (.mov (.t 0)), none⟩, ⟨(some 27), .v (.mov (.t 1)), none⟩, ⟨(some 28), .call 31 [(.t 26), (.t 27)], none⟩])
    (.cond (.t 28)
     (.seq
      (.reg [⟨(some 4), .v (.mov (.c (.bool true))), none⟩])
      .ret)
     .skip))
   (.seq
    (.reg [⟨(some 30), .v (.mov (.t 0)), none⟩, ⟨(some 31), .call 32 [(.t 30)], none⟩, ⟨(some 29), .v (.mov (.t 31)), none⟩, ⟨(some 32), .v (.ext (.t 29) 0), none⟩, ⟨(some 33), .v (.ext (.t 29) 1), none⟩, ⟨(some 5), .m (.alloc [(.int .i64 0), .nils, (.int .i64 0), .nils, (.str [])]), none⟩, ⟨none, .m (.store 5 (.t 5) (.t 32)), none⟩, ⟨(some 6), .v (.mov (.t 33)), none⟩])
    (.seq
     (.reg [⟨(some 35), .v (.load true 5 (.t 5)), none⟩, ⟨(some 36), .v (.mov (.t 6)), none⟩, ⟨(some 37), .call 33 [(.t 35), (.t 36)], none⟩, ⟨(some 34), .v (.mov (.t 37)), none⟩, ⟨(some 38), .v (.ext (.t 34) 0), none⟩, ⟨(some 39), .v (.ext (.t 34) 1), none⟩, ⟨(some 7), .v (.mov (.t 38)), none⟩, ⟨(some 8), .v (.mov (.t 39)), none⟩])
     (.seq
      (.reg [⟨(some 41), .v (.load true 5 (.t 5)), none⟩, ⟨(some 42), .v (.mov (.t 6)), none⟩, ⟨(some 43), .call 34 [(.t 41), (.t 42)], none⟩, ⟨(some 40), .v (.mov (.t 43)), none⟩, ⟨(some 44), .v (.ext (.t 40) 0), none⟩, ⟨(some 45), .v (.ext (.t 40) 1), none⟩, ⟨(some 9), .v (.mov (.t 44)), none⟩, ⟨(some 10), .v (.mov (.t 45)), none⟩])
      (.seq
       (.seq
        (.reg [⟨(some 46), .v (.mov (.t 8)), none⟩, ⟨(some 47), .v (.mov (.t 10)), none⟩, ⟨(some 48), .v (.beq true (.t 46) (.t 47)), none⟩, ⟨(some 49), .v (.mov (.t 48)), none⟩, ⟨(some 50), .v (.mov (.t 7)), (some (49, false))⟩, ⟨(some 51), .v (.mov (.t 9)), (some (49, false))⟩, ⟨(some 52), .v (.bin .neq (.t 50) (.t 51)), (some (49, false))⟩, ⟨(some 53), .v (.pick (.t 49) (.c (.bool true)) (.t 52)), none⟩])
        (.cond (.t 53)
         (.seq
          (.reg [⟨(some 4), .v (.mov (.c (.bool false))), none⟩])
          .ret)
         .skip))
       (.seq
        (.seq
         (.reg [⟨(some 54), .v (.mov (.t 10)), none⟩, ⟨(some 55), .v (.un .not (.t 54)), none⟩])
         (.cond (.t 55)
          (.seq
           (.reg [⟨(some 4), .v (.mov (.c (.bool true))), none⟩])
           .ret)
          .skip))
        (.seq
         (.reg [⟨(some 57), .v (.load true 5 (.t 5)), none⟩, ⟨(some 58), .v (.mov (.t 7)), none⟩, ⟨(some 59), .call 35 [(.t 57), (.t 58)], none⟩, ⟨(some 56), .v (.mov (.t 59)), none⟩, ⟨(some 60), .v (.ext (.t 56) 0), none⟩, ⟨(some 61), .v (.ext (.t 56) 1), none⟩, ⟨(some 11), .v (.mov (.t 60)), none⟩, ⟨(some 12), .v (.mov (.t 61)), none⟩])
         (.seq
          (.reg [⟨(some 63), .v (.load true 5 (.t 5)), none⟩, ⟨(some 64), .v (.mov (.t 6)), none⟩, ⟨(some 65), .call 36 [(.t 63), (.t 64)], none⟩, ⟨(some 62), .v (.mov (.t 65)), none⟩, ⟨(some 66), .v (.ext (.t 62) 0), none⟩, ⟨(some 67), .v (.ext (.t 62) 1), none⟩, ⟨(some 13), .v (.mov (.t 66)), none⟩, ⟨(some 14), .v (.mov (.t 67)), none⟩])
          (.seq
           (.seq
            (.reg [⟨(some 68), .v (.mov (.t 12)), none⟩, ⟨(some 69), .v (.un .not (.t 68)), none⟩, ⟨(some 70), .v (.mov (.t 69)), none⟩, ⟨(some 71), .v (.mov (.t 14)), (some (70, false))⟩, ⟨(some 72), .v (.un .not (.t 71)), (some (70, false))⟩, ⟨(some 73), .v (.pick (.t 70) (.c (.bool true)) (.t 72)), none⟩, ⟨(some 74), .v (.mov (.t 73)), none⟩, ⟨(some 75), .v (.mov (.t 11)), (some (74, false))⟩, ⟨(some 76), .v (.mov (.t 6)), (some (74, false))⟩, ⟨(some 77), .v (.bin .neq (.t 75) (.t 76)), (some (74, false))⟩, ⟨(some 78), .v (.pick (.t 74) (.c (.bool true)) (.t 77)), none⟩])
            (.cond (.t 78)
             (.seq
              (.reg [⟨(some 4), .v (.mov (.c (.bool false))), none⟩])
              .ret)
             .skip))
           (.seq
            (.seq
             (.reg [⟨(some 15), .v (.mov (.c (.int .i64 0))), none⟩])
             (.block 0
              (.loop
               (.seq
                (.seq
                 (.reg [⟨(some 79), .v (.mov (.t 15)), none⟩, ⟨(some 80), .v (.mov (.t 13)), none⟩, ⟨(some 81), .v (.lens (.t 80)), none⟩, ⟨(some 82), .v (.bin .lss (.t 79) (.t 81)), none⟩])
                 (.cond (.t 82)
                  .skip
                  (.exit 0)))
                (.seq
                 (.block 1
                  (.seq
                   (.dreg (.fl ⟨(some 86), .v (.load true 5 (.t 5)), none⟩ (.fl ⟨(some 87), .v (.mov (.t 6)), none⟩ (.fl ⟨(some 88), .v (.mov (.t 13)), none⟩ (.fl ⟨(some 89), .v (.mov (.t 15)), none⟩ (.fl ⟨(some 90), .v (.sidx (.t 88) (.t 89)), none⟩ (.fl ⟨(some 91), .v (.conv .i64 (.t 90)), none⟩ (.nx ⟨(some 92), .call 18 [(.t 86), (.t 87), (.t 91)], none⟩ (.fl ⟨(some 85), .v (.mov (.t 92)), none⟩ (.fl ⟨(some 93), .v (.ext (.t 85) 0), none⟩ (.fl ⟨(some 94), .v (.ext (.t 85) 1), none⟩ (.fl ⟨(some 16), .v (.mov (.t 93)), none⟩ (.fl ⟨(some 17), .v (.mov (.t 94)), none⟩ .done)))))))))))))
                   (.seq
                    (.reg [⟨(some 96), .v (.load true 5 (.t 5)), none⟩, ⟨(some 97), .v (.mov (.t 16)), none⟩, ⟨(some 98), .call 15 [(.t 96), (.t 97)], none⟩, ⟨(some 95), .v (.mov (.t 98)), none⟩, ⟨(some 99), .v (.ext (.t 95) 0), none⟩, ⟨(some 100), .v (.ext (.t 95) 1), none⟩, ⟨(some 18), .v (.mov (.t 99)), none⟩, ⟨(some 19), .v (.mov (.t 100)), none⟩])
                    (.seq
                     (.reg [⟨(some 102), .v (.load true 5 (.t 5)), none⟩, ⟨(some 103), .v (.mov (.t 16)), none⟩, ⟨(some 104), .call 33 [(.t 102), (.t 103)], none⟩, ⟨(some 101), .v (.mov (.t 104)), none⟩, ⟨(some 105), .v (.ext (.t 101) 0), none⟩, ⟨(some 106), .v (.ext (.t 101) 1), none⟩, ⟨(some 20), .v (.mov (.t 105)), none⟩, ⟨(some 21), .v (.mov (.t 106)), none⟩])
                     (.seq
                      (.dreg (.fl ⟨(some 107), .v (.mov (.t 17)), none⟩ (.fl ⟨(some 108), .v (.un .not (.t 107)), none⟩ (.fl ⟨(some 109), .v (.mov (.t 108)), none⟩ (.fl ⟨(some 110), .v (.mov (.t 19)), (some (109, false))⟩ (.fl ⟨(some 111), .v (.un .not (.t 110)), (some (109, false))⟩ (.fl ⟨(some 112), .v (.pick (.t 109) (.c (.bool true)) (.t 111)), none⟩ (.fl ⟨(some 113), .v (.mov (.t 112)), none⟩ (.fl ⟨(some 114), .v (.mov (.t 21)), (some (113, false))⟩ (.fl ⟨(some 115), .v (.un .not (.t 114)), (some (113, false))⟩ (.fl ⟨(some 116), .v (.pick (.t 113) (.c (.bool true)) (.t 115)), none⟩ (.fl ⟨(some 117), .v (.mov (.t 116)), none⟩ (.fl ⟨(some 118), .v (.mov (.t 18)), (some (117, false))⟩ (.fl ⟨(some 119), .v (.mov (.t 6)), (some (117, false))⟩ (.fl ⟨(some 120), .v (.bin .neq (.t 118) (.t 119)), (some (117, false))⟩ (.fl ⟨(some 121), .v (.pick (.t 117) (.c (.bool true)) (.t 120)), none⟩ (.fl ⟨(some 122), .v (.mov (.t 121)), none⟩ (.fl ⟨(some 123), .v (.mov (.t 20)), (some (122, false))⟩ (.fl ⟨(some 124), .v (.mov (.t 7)), (some (122, false))⟩ (.fl ⟨(some 125), .v (.mov (.t 13)), (some (122, false))⟩ (.fl ⟨(some 126), .v (.mov (.t 15)), (some (122, false))⟩ (.fl ⟨(some 127), .v (.mov (.t 15)), (some (122, false))⟩ (.fl ⟨(some 128), .v (.bin .add (.t 127) (.c (.int .i64 1))), (some (122, false))⟩ (.fl ⟨(some 129), .v (.sstr (.t 125) (some (.t 126)) (some (.t 128))), (some (122, false))⟩ (.fl ⟨(some 130), .v (.bin .add (.t 124) (.t 129)), (some (122, false))⟩ (.fl ⟨(some 131), .v (.bin .neq (.t 123) (.t 130)), (some (122, false))⟩ (.fl ⟨(some 132), .v (.pick (.t 122) (.c (.bool true)) (.t 131)), none⟩ (.fl ⟨(some 133), .v (.mov (.t 132)), none⟩ (.fl ⟨(some 134), .v (.mov (.t 15)), (some (133, false))⟩ (.fl ⟨(some 135), .v (.bin .gtr (.t 134) (.c (.int .i64 0))), (some (133, false))⟩ (.fl ⟨(some 136), .v (.mov (.t 135)), (some (133, false))⟩ (.fl ⟨(some 137), .v (.mov (.t 13)), (some (136, true))⟩ (.fl ⟨(some 138), .v (.mov (.t 15)), (some (136, true))⟩ (.fl ⟨(some 139), .v (.bin .sub (.t 138) (.c (.int .i64 1))), (some (136, true))⟩ (.fl ⟨(some 140), .v (.sidx (.t 137) (.t 139)), (some (136, true))⟩ (.fl ⟨(some 141), .v (.mov (.t 13)), (some (136, true))⟩ (.fl ⟨(some 142), .v (.mov (.t 15)), (some (136, true))⟩ (.fl ⟨(some 143), .v (.sidx (.t 141) (.t 142)), (some (136, true))⟩ (.fl ⟨(some 144), .v (.bin .geq (.t 140) (.t 143)), (some (136, true))⟩ (.fl ⟨(some 145), .v (.pick (.t 136) (.t 144) (.c (.bool false))), (some (133, false))⟩ (.fl ⟨(some 146), .v (.pick (.t 133) (.c (.bool true)) (.t 145)), none⟩ .done)))))))))))))))))))))))))))))))))))))))))
                      (.cond (.t 146)
                       (.seq
                        (.reg [⟨(some 4), .v (.mov (.c (.bool false))), none⟩])
                        .ret)
                       .skip))))))
                 (.reg [⟨(some 83), .v (.mov (.t 15)), none⟩, ⟨(some 84), .v (.bin .add (.t 83) (.c (.int .i64 1))), none⟩, ⟨(some 15), .v (.mov (.t 84)), none⟩]))))))
            (.seq
             (.seq
              (.reg [⟨(some 147), .v (.mov (.t 6)), none⟩, ⟨(some 148), .v (.bin .eql (.t 147) (.c (.int .i64 0))), none⟩])
              (.cond (.t 148)
               (.seq
                (.reg [⟨(some 149), .v (.mov (.t 7)), none⟩, ⟨(some 150), .v (.bin .eql (.t 149) (.c (.str []))), none⟩, ⟨(some 4), .v (.mov (.t 150)), none⟩])
                .ret)
               .skip))
             (.seq
              (.reg [⟨(some 152), .v (.load true 5 (.t 5)), none⟩, ⟨(some 153), .v (.mov (.t 6)), none⟩, ⟨(some 154), .call 15 [(.t 152), (.t 153)], none⟩, ⟨(some 151), .v (.mov (.t 154)), none⟩, ⟨(some 155), .v (.ext (.t 151) 0), none⟩, ⟨(some 156), .v (.ext (.t 151) 1), none⟩, ⟨(some 22), .v (.mov (.t 155)), none⟩, ⟨(some 23), .v (.mov (.t 156)), none⟩])
              (.seq
               (.reg [⟨(some 158), .v (.load true 5 (.t 5)), none⟩, ⟨(some 159), .v (.mov (.t 22)), none⟩, ⟨(some 160), .call 33 [(.t 158), (.t 159)], none⟩, ⟨(some 157), .v (.mov (.t 160)), none⟩, ⟨(some 161), .v (.ext (.t 157) 0), none⟩, ⟨(some 162), .v (.ext (.t 157) 1), none⟩, ⟨(some 24), .v (.mov (.t 161)), none⟩, ⟨(some 25), .v (.mov (.t 162)), none⟩])
               (.seq
                (.reg [⟨(some 163), .v (.mov (.t 23)), none⟩, ⟨(some 164), .v (.mov (.t 163)), none⟩, ⟨(some 165), .v (.mov (.t 25)), (some (164, true))⟩, ⟨(some 166), .v (.pick (.t 164) (.t 165) (.c (.bool false))), none⟩, ⟨(some 167), .v (.mov (.t 166)), none⟩, ⟨(some 168), .v (.mov (.t 22)), (some (167, true))⟩, ⟨(some 169), .v (.mov (.t 6)), (some (167, true))⟩, ⟨(some 170), .v (.bin .lss (.t 168) (.t 169)), (some (167, true))⟩, ⟨(some 171), .v (.pick (.t 167) (.t 170) (.c (.bool false))), none⟩, ⟨(some 172), .v (.mov (.t 171)), none⟩, ⟨(some 173), .v (.mov (.t 24)), (some (172, true))⟩, ⟨(some 174), .v (.mov (.t 7)), (some (172, true))⟩, ⟨(some 175), .v (.mov (.t 7)), (some (172, true))⟩, ⟨(some 176), .v (.lens (.t 175)), (some (172, true))⟩, ⟨(some 177), .v (.bin .sub (.t 176) (.c (.int .i64 1))), (some (172, true))⟩, ⟨(some 178), .v (.sstr (.t 174) none (some (.t 177))), (some (172, true))⟩, ⟨(some 179), .v (.bin .eql (.t 173) (.t 178)), (some (172, true))⟩, ⟨(some 180), .v (.pick (.t 172) (.t 179) (.c (.bool false))), none⟩, ⟨(some 4), .v (.mov (.t 180)), none⟩])
                .ret)))))))))))))))⟩
theorem e9 : rFunc Tryz.prog Tryz.f9 = some r9 := by kernel_rfl
end Go.Proofs.YtidhhiecgehgfaaGreat.M

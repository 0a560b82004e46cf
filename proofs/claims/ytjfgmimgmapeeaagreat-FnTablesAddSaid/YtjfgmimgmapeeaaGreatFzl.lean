/-
  The resolved text of the functions, each tied to the program's own by the kernel.
-/
import Derived.Test.YtjfgmimgmapeeaaGreatProg
import Derived.Test.YtjfgmimgmapeeaaGreatFzw
namespace Go.Proofs.YtjfgmimgmapeeaaGreat.M
open Go Go.RowKit
set_option maxRecDepth 100000

def r19 : RFunc := ⟨16, [.t 4],
 (.seq
  (.reg [⟨(some 4), .v (.mov (.c (.bool false))), none⟩])
  (.seq
   (.reg [⟨(some 5), .v (.mov (.t 0)), none⟩, ⟨(some 6), .v (.len (.t 5)), none⟩, ⟨(some 7), .v (.bin .gtr (.t 6) (.c (.int .i64 1048576))), none⟩, ⟨(some 8), .v (.mov (.t 7)), none⟩, ⟨(some 9), .v (.mov (.t 1)), (some (8, false))⟩, ⟨(some 10), .v (.len (.t 9)), (some (8, false))⟩, ⟨(some 11), .v (.mov (.t 0)), (some (8, false))⟩, ⟨(some 12), .v (.len (.t 11)), (some (8, false))⟩, ⟨(some 13), .v (.bin .sub (.c (.int .i64 1048576)) (.t 12)), (some (8, false))⟩, ⟨(some 14), .v (.bin .gtr (.t 10) (.t 13)), (some (8, false))⟩, ⟨(some 15), .v (.pick (.t 8) (.c (.bool true)) (.t 14)), none⟩, ⟨(some 4), .v (.mov (.t 15)), none⟩])
   .ret))⟩
theorem e19 : rFunc Tryz.prog Tryz.f19 = some r19 := by kernel_rfl
def r4 : RFunc := ⟨201, [.t 4],
 (.seq
  (.reg [⟨(some 4), .v (.mov (.c (.bool false))), none⟩])
  (.seq
   (.seq
    (.reg [⟨(some 35), .v (.mov (.t 0)), none⟩, ⟨(some 36), .v (.mov (.t 1)), none⟩, ⟨(some 37), .call 19 [(.t 35), (.t 36)], none⟩])
    (.cond (.t 37)
     (.seq
      (.reg [⟨(some 4), .v (.mov (.c (.bool true))), none⟩])
      .ret)
     .skip))
   (.seq
    (.reg [⟨(some 39), .v (.mov (.t 0)), none⟩, ⟨(some 40), .call 20 [(.t 39)], none⟩, ⟨(some 38), .v (.mov (.t 40)), none⟩, ⟨(some 41), .v (.ext (.t 38) 0), none⟩, ⟨(some 42), .v (.ext (.t 38) 1), none⟩, ⟨(some 5), .m (.alloc [(.int .i64 0), (.int .i64 0), (.int .i64 0), .nils]), none⟩, ⟨(some 6), .m (.alloc [(.int .i64 0), (.int .i64 0), (.int .i64 0), .nils]), none⟩, ⟨none, .m (.store 4 (.t 5) (.t 41)), none⟩, ⟨none, .m (.store 4 (.t 6) (.t 42)), none⟩])
    (.seq
     (.reg [⟨(some 44), .v (.load true 4 (.t 5)), none⟩, ⟨(some 45), .v (.load true 4 (.t 6)), none⟩, ⟨(some 46), .call 21 [(.t 44), (.t 45)], none⟩, ⟨(some 43), .v (.mov (.t 46)), none⟩, ⟨(some 47), .v (.ext (.t 43) 0), none⟩, ⟨(some 48), .v (.ext (.t 43) 1), none⟩, ⟨(some 7), .m (.alloc [(.int .i64 0), (.int .i64 0), (.int .i64 0), .nils]), none⟩, ⟨none, .m (.store 4 (.t 7) (.t 47)), none⟩, ⟨(some 8), .v (.mov (.t 48)), none⟩])
     (.seq
      (.reg [⟨(some 50), .v (.load true 4 (.t 5)), none⟩, ⟨(some 51), .v (.load true 4 (.t 6)), none⟩, ⟨(some 52), .call 22 [(.t 50), (.t 51)], none⟩, ⟨(some 49), .v (.mov (.t 52)), none⟩, ⟨(some 53), .v (.ext (.t 49) 0), none⟩, ⟨(some 54), .v (.ext (.t 49) 1), none⟩, ⟨(some 9), .m (.alloc [(.int .i64 0), (.int .i64 0), (.int .i64 0), .nils]), none⟩, ⟨none, .m (.store 4 (.t 9) (.t 53)), none⟩, ⟨(some 10), .v (.mov (.t 54)), none⟩])
      (.seq
       (.seq
        (.reg [⟨(some 55), .v (.mov (.t 8)), none⟩, ⟨(some 56), .v (.mov (.t 10)), none⟩, ⟨(some 57), .v (.beq true (.t 55) (.t 56)), none⟩, ⟨(some 58), .v (.mov (.t 57)), none⟩, ⟨(some 59), .v (.load true 4 (.t 7)), (some (58, false))⟩, ⟨(some 60), .v (.load true 4 (.t 9)), (some (58, false))⟩, ⟨(some 61), .call 23 [(.t 59), (.t 60)], (some (58, false))⟩, ⟨(some 62), .v (.un .not (.t 61)), (some (58, false))⟩, ⟨(some 63), .v (.pick (.t 58) (.c (.bool true)) (.t 62)), none⟩])
        (.cond (.t 63)
         (.seq
          (.reg [⟨(some 4), .v (.mov (.c (.bool false))), none⟩])
          .ret)
         .skip))
       (.seq
        (.reg [⟨(some 65), .v (.mov (.t 1)), none⟩, ⟨(some 66), .call 24 [(.t 65)], none⟩, ⟨(some 64), .v (.mov (.t 66)), none⟩, ⟨(some 67), .v (.ext (.t 64) 0), none⟩, ⟨(some 68), .v (.ext (.t 64) 1), none⟩, ⟨(some 11), .m (.alloc [(.int .i64 0), (.int .i64 0), (.int .i64 0), .nils]), none⟩, ⟨none, .m (.store 4 (.t 11) (.t 67)), none⟩, ⟨(some 12), .v (.mov (.t 68)), none⟩])
        (.seq
         (.reg [⟨(some 70), .v (.load true 4 (.t 5)), none⟩, ⟨(some 71), .v (.mov (.t 12)), none⟩, ⟨(some 72), .call 25 [(.t 70), (.t 71)], none⟩, ⟨(some 69), .v (.mov (.t 72)), none⟩, ⟨(some 73), .v (.ext (.t 69) 0), none⟩, ⟨(some 74), .v (.ext (.t 69) 1), none⟩, ⟨(some 13), .v (.mov (.t 73)), none⟩, ⟨(some 14), .v (.mov (.t 74)), none⟩])
         (.seq
          (.reg [⟨(some 76), .v (.load true 4 (.t 6)), none⟩, ⟨(some 77), .v (.mov (.t 12)), none⟩, ⟨(some 78), .call 25 [(.t 76), (.t 77)], none⟩, ⟨(some 75), .v (.mov (.t 78)), none⟩, ⟨(some 79), .v (.ext (.t 75) 0), none⟩, ⟨(some 80), .v (.ext (.t 75) 1), none⟩, ⟨(some 15), .v (.mov (.t 79)), none⟩, ⟨(some 16), .v (.mov (.t 80)), none⟩])
          (.seq
           (.reg [⟨(some 82), .v (.load true 4 (.t 7)), none⟩, ⟨(some 83), .v (.mov (.t 12)), none⟩, ⟨(some 84), .call 25 [(.t 82), (.t 83)], none⟩, ⟨(some 81), .v (.mov (.t 84)), none⟩, ⟨(some 85), .v (.ext (.t 81) 0), none⟩, ⟨(some 86), .v (.ext (.t 81) 1), none⟩, ⟨(some 17), .v (.mov (.t 85)), none⟩, ⟨(some 18), .v (.mov (.t 86)), none⟩])
           (.seq
            (.reg [⟨(some 88), .v (.load true 4 (.t 5)), none⟩, ⟨(some 89), .v (.mov (.t 12)), none⟩, ⟨(some 90), .call 26 [(.t 88), (.t 89)], none⟩, ⟨(some 87), .v (.mov (.t 90)), none⟩, ⟨(some 91), .v (.ext (.t 87) 0), none⟩, ⟨(some 92), .v (.ext (.t 87) 1), none⟩, ⟨(some 19), .v (.mov (.t 91)), none⟩, ⟨(some 20), .v (.mov (.t 92)), none⟩])
            (.seq
             (.seq
              (.reg [⟨(some 93), .v (.mov (.t 14)), none⟩, ⟨(some 94), .v (.mov (.t 20)), none⟩, ⟨(some 95), .v (.beq true (.t 93) (.t 94)), none⟩, ⟨(some 96), .v (.mov (.t 95)), none⟩, ⟨(some 97), .v (.mov (.t 13)), (some (96, false))⟩, ⟨(some 98), .v (.mov (.t 19)), (some (96, false))⟩, ⟨(some 99), .v (.bin .neq (.t 97) (.t 98)), (some (96, false))⟩, ⟨(some 100), .v (.pick (.t 96) (.c (.bool true)) (.t 99)), none⟩, ⟨(some 101), .v (.mov (.t 100)), none⟩, ⟨(some 102), .v (.mov (.t 8)), (some (101, false))⟩, ⟨(some 103), .v (.mov (.t 102)), (some (101, false))⟩, ⟨(some 104), .v (.mov (.t 14)), (some (103, true))⟩, ⟨(some 105), .v (.pick (.t 103) (.t 104) (.c (.bool false))), (some (101, false))⟩, ⟨(some 106), .v (.mov (.t 105)), (some (101, false))⟩, ⟨(some 107), .v (.mov (.t 16)), (some (106, true))⟩, ⟨(some 108), .v (.un .not (.t 107)), (some (106, true))⟩, ⟨(some 109), .v (.mov (.t 108)), (some (106, true))⟩, ⟨(some 110), .v (.mov (.t 18)), (some (109, false))⟩, ⟨(some 111), .v (.un .not (.t 110)), (some (109, false))⟩, ⟨(some 112), .v (.pick (.t 109) (.c (.bool true)) (.t 111)), (some (106, true))⟩, ⟨(some 113), .v (.mov (.t 112)), (some (106, true))⟩, ⟨(some 114), .v (.mov (.t 17)), (some (113, false))⟩, ⟨(some 115), .v (.mov (.t 13)), (some (113, false))⟩, ⟨(some 116), .v (.mov (.t 15)), (some (113, false))⟩, ⟨(some 117), .v (.bin .xor (.t 115) (.t 116)), (some (113, false))⟩, ⟨(some 118), .v (.bin .neq (.t 114) (.t 117)), (some (113, false))⟩, ⟨(some 119), .v (.pick (.t 113) (.c (.bool true)) (.t 118)), (some (106, true))⟩, ⟨(some 120), .v (.pick (.t 106) (.t 119) (.c (.bool false))), (some (101, false))⟩, ⟨(some 121), .v (.pick (.t 101) (.c (.bool true)) (.t 120)), none⟩])
              (.cond (.t 121)
               (.seq
                (.reg [⟨(some 4), .v (.mov (.c (.bool false))), none⟩])
                .ret)
               .skip))
             (.seq
              (.reg [⟨(some 123), .v (.mov (.t 1)), none⟩, ⟨(some 124), .call 27 [(.t 123)], none⟩, ⟨(some 122), .v (.mov (.t 124)), none⟩, ⟨(some 125), .v (.ext (.t 122) 0), none⟩, ⟨(some 126), .v (.ext (.t 122) 1), none⟩, ⟨(some 127), .v (.ext (.t 122) 2), none⟩, ⟨(some 128), .v (.ext (.t 122) 3), none⟩, ⟨(some 21), .m (.alloc [(.int .i64 0), (.int .i64 0), (.int .i64 0), .nils]), none⟩, ⟨none, .m (.store 4 (.t 21) (.t 125)), none⟩, ⟨(some 22), .v (.mov (.t 126)), none⟩, ⟨(some 23), .v (.mov (.t 127)), none⟩, ⟨(some 24), .v (.mov (.t 128)), none⟩])
              (.seq
               (.reg [⟨(some 130), .v (.load true 4 (.t 21)), none⟩, ⟨(some 131), .v (.mov (.t 22)), none⟩, ⟨(some 132), .v (.mov (.t 23)), none⟩, ⟨(some 133), .v (.mov (.t 24)), none⟩, ⟨(some 134), .call 13 [(.t 130), (.t 131), (.t 132), (.t 133)], none⟩, ⟨(some 129), .v (.mov (.t 134)), none⟩, ⟨(some 135), .v (.ext (.t 129) 0), none⟩, ⟨(some 136), .v (.ext (.t 129) 1), none⟩, ⟨(some 25), .m (.alloc [(.int .i64 0), (.int .i64 0), (.int .i64 0), .nils]), none⟩, ⟨none, .m (.store 4 (.t 25) (.t 135)), none⟩, ⟨(some 26), .v (.mov (.t 136)), none⟩])
               (.seq
                (.reg [⟨(some 138), .v (.load true 4 (.t 21)), none⟩, ⟨(some 139), .v (.mov (.t 22)), none⟩, ⟨(some 140), .v (.mov (.t 23)), none⟩, ⟨(some 141), .v (.mov (.t 24)), none⟩, ⟨(some 142), .call 10 [(.t 138), (.t 139), (.t 140), (.t 141)], none⟩, ⟨(some 137), .v (.mov (.t 142)), none⟩, ⟨(some 143), .v (.ext (.t 137) 0), none⟩, ⟨(some 144), .v (.ext (.t 137) 1), none⟩, ⟨(some 27), .m (.alloc [(.int .i64 0), (.int .i64 0), (.int .i64 0), .nils]), none⟩, ⟨none, .m (.store 4 (.t 27) (.t 143)), none⟩, ⟨(some 28), .v (.mov (.t 144)), none⟩])
                (.seq
                 (.seq
                  (.reg [⟨(some 145), .v (.mov (.t 26)), none⟩, ⟨(some 146), .v (.mov (.t 28)), none⟩, ⟨(some 147), .v (.beq true (.t 145) (.t 146)), none⟩, ⟨(some 148), .v (.mov (.t 147)), none⟩, ⟨(some 149), .v (.load true 4 (.t 25)), (some (148, false))⟩, ⟨(some 150), .v (.load true 4 (.t 27)), (some (148, false))⟩, ⟨(some 151), .call 23 [(.t 149), (.t 150)], (some (148, false))⟩, ⟨(some 152), .v (.un .not (.t 151)), (some (148, false))⟩, ⟨(some 153), .v (.pick (.t 148) (.c (.bool true)) (.t 152)), none⟩])
                  (.cond (.t 153)
                   (.seq
                    (.reg [⟨(some 4), .v (.mov (.c (.bool false))), none⟩])
                    .ret)
                   .skip))
                 (.seq
                  (.seq
                   (.reg [⟨(some 154), .v (.mov (.t 26)), none⟩])
                   (.cond (.t 154)
                    (.seq
                     (.reg [⟨(some 155), .v (.mov (.t 22)), none⟩, ⟨(some 156), .v (.len (.t 155)), none⟩, ⟨(some 157), .v (.mov (.c (.int .i64 0))), none⟩])
                     (.block 0
                      (.loop
                       (.seq
                        (.reg [⟨(some 158), .v (.bin .lss (.t 157) (.t 156)), none⟩])
                        (.seq
                         (.cond (.t 158)
                          .skip
                          (.exit 0))
                         (.seq
                          (.block 1
                           (.seq
                            (.reg [⟨(some 159), .v (.mov (.t 157)), none⟩, ⟨(some 160), .v (.iaddr 1 (.t 155) (.t 157)), none⟩, ⟨(some 161), .v (.load false 1 (.t 160)), none⟩, ⟨(some 29), .v (.mov (.t 159)), none⟩, ⟨(some 30), .v (.mov (.t 161)), none⟩])
                            (.seq
                             (.reg [⟨(some 163), .v (.load true 4 (.t 21)), none⟩, ⟨(some 164), .v (.mov (.t 30)), none⟩, ⟨(some 165), .call 25 [(.t 163), (.t 164)], none⟩, ⟨(some 162), .v (.mov (.t 165)), none⟩, ⟨(some 166), .v (.ext (.t 162) 0), none⟩, ⟨(some 167), .v (.ext (.t 162) 1), none⟩, ⟨(some 31), .v (.mov (.t 166)), none⟩, ⟨(some 32), .v (.mov (.t 167)), none⟩])
                             (.seq
                              (.reg [⟨(some 169), .v (.load true 4 (.t 25)), none⟩, ⟨(some 170), .v (.mov (.t 30)), none⟩, ⟨(some 171), .call 25 [(.t 169), (.t 170)], none⟩, ⟨(some 168), .v (.mov (.t 171)), none⟩, ⟨(some 172), .v (.ext (.t 168) 0), none⟩, ⟨(some 173), .v (.ext (.t 168) 1), none⟩, ⟨(some 33), .v (.mov (.t 172)), none⟩, ⟨(some 34), .v (.mov (.t 173)), none⟩])
                              (.seq
                               (.reg [⟨(some 174), .v (.mov (.t 32)), none⟩, ⟨(some 175), .v (.un .not (.t 174)), none⟩, ⟨(some 176), .v (.mov (.t 175)), none⟩, ⟨(some 177), .v (.mov (.t 34)), (some (176, false))⟩, ⟨(some 178), .v (.un .not (.t 177)), (some (176, false))⟩, ⟨(some 179), .v (.pick (.t 176) (.c (.bool true)) (.t 178)), none⟩, ⟨(some 180), .v (.mov (.t 179)), none⟩, ⟨(some 181), .v (.mov (.t 29)), (some (180, false))⟩, ⟨(some 182), .v (.mov (.t 23)), (some (180, false))⟩, ⟨(some 183), .v (.bin .eql (.t 181) (.t 182)), (some (180, false))⟩, ⟨(some 184), .v (.mov (.t 183)), (some (180, false))⟩, ⟨(some 185), .v (.mov (.t 33)), (some (184, true))⟩, ⟨(some 186), .v (.mov (.t 24)), (some (184, true))⟩, ⟨(some 187), .v (.bin .neq (.t 185) (.t 186)), (some (184, true))⟩, ⟨(some 188), .v (.pick (.t 184) (.t 187) (.c (.bool false))), (some (180, false))⟩, ⟨(some 189), .v (.pick (.t 180) (.c (.bool true)) (.t 188)), none⟩, ⟨(some 190), .v (.mov (.t 189)), none⟩, ⟨(some 191), .v (.mov (.t 29)), (some (190, false))⟩, ⟨(some 192), .v (.mov (.t 23)), (some (190, false))⟩, ⟨(some 193), .v (.bin .neq (.t 191) (.t 192)), (some (190, false))⟩, ⟨(some 194), .v (.mov (.t 193)), (some (190, false))⟩, ⟨(some 195), .v (.mov (.t 33)), (some (194, true))⟩, ⟨(some 196), .v (.mov (.t 31)), (some (194, true))⟩, ⟨(some 197), .v (.bin .neq (.t 195) (.t 196)), (some (194, true))⟩, ⟨(some 198), .v (.pick (.t 194) (.t 197) (.c (.bool false))), (some (190, false))⟩, ⟨(some 199), .v (.pick (.t 190) (.c (.bool true)) (.t 198)), none⟩])
                               (.cond (.t 199)
                                (.seq
                                 (.reg [⟨(some 4), .v (.mov (.c (.bool false))), none⟩])
                                 .ret)
                                .skip))))))
                          (.reg [⟨(some 200), .v (.bin .add (.t 157) (.c (.int .i64 1))), none⟩, ⟨(some 157), .v (.mov (.t 200)), none⟩])))))))
                    .skip))
                  (.seq
                   (.reg [⟨(some 4), .v (.mov (.c (.bool true))), none⟩])
                   .ret))))))))))))))))))⟩
theorem e4 : rFunc Tryz.prog Tryz.f4 = some r4 := by kernel_rfl
end Go.Proofs.YtjfgmimgmapeeaaGreat.M

/-
  The resolved text of the functions, each tied to the program's own by the kernel.
-/
import Derived.Test.YtjfgmimgmapeeaaGreatProg
import Derived.Test.YtjfgmimgmapeeaaGreatFyv
namespace Go.Proofs.YtjfgmimgmapeeaaGreat.M
open Go Go.RowKit
set_option maxRecDepth 100000

def r6 : RFunc := ⟨194, [.t 4],
 (.seq
  (.reg [⟨(some 4), .v (.mov (.c (.bool false))), none⟩])
  (.seq
   (.seq
    (.reg [⟨(some 35), .v (.mov (.t 0)), none⟩, ⟨(some 36), .v (.mov (.t 1)), none⟩, ⟨(some 37), .call 19 [(.t 35), (.t 36)], none⟩])
    (.cond (.t 37)
     (.seq
      (.reg [⟨(some 4), .v (.mov (.c (.bool true))), none⟩])
      .ret)
     .skip))
   (.seq
    (.reg [⟨(some 39), .v (.mov (.t 0)), none⟩, ⟨(some 40), .call 35 [(.t 39)], none⟩, ⟨(some 38), .v (.mov (.t 40)), none⟩, ⟨(some 41), .v (.ext (.t 38) 0), none⟩, ⟨(some 42), .v (.ext (.t 38) 1), none⟩, ⟨(some 43), .v (.ext (.t 38) 2), none⟩, ⟨(some 44), .v (.ext (.t 38) 3), none⟩, ⟨(some 45), .v (.ext (.t 38) 4), none⟩, ⟨(some 5), .v (.mov (.t 41)), none⟩, ⟨(some 6), .v (.mov (.t 42)), none⟩, ⟨(some 7), .v (.mov (.t 43)), none⟩, ⟨(some 8), .v (.mov (.t 44)), none⟩, ⟨(some 9), .v (.mov (.t 45)), none⟩])
    (.seq
     (.reg [⟨(some 47), .v (.mov (.t 5)), none⟩, ⟨(some 48), .v (.mov (.t 6)), none⟩, ⟨(some 49), .v (.mov (.t 7)), none⟩, ⟨(some 50), .v (.mov (.t 8)), none⟩, ⟨(some 51), .v (.mov (.t 9)), none⟩, ⟨(some 52), .call 31 [(.t 47), (.t 48), (.t 49), (.t 50), (.t 51)], none⟩, ⟨(some 46), .v (.mov (.t 52)), none⟩, ⟨(some 53), .v (.ext (.t 46) 0), none⟩, ⟨(some 54), .v (.ext (.t 46) 1), none⟩, ⟨(some 10), .m (.alloc [(.int .i64 0), (.int .i64 0), (.int .i64 0), .nils]), none⟩, ⟨none, .m (.store 4 (.t 10) (.t 53)), none⟩, ⟨(some 11), .v (.mov (.t 54)), none⟩])
     (.seq
      (.reg [⟨(some 56), .v (.mov (.t 5)), none⟩, ⟨(some 57), .v (.mov (.t 6)), none⟩, ⟨(some 58), .v (.mov (.t 7)), none⟩, ⟨(some 59), .v (.mov (.t 8)), none⟩, ⟨(some 60), .v (.mov (.t 9)), none⟩, ⟨(some 61), .call 36 [(.t 56), (.t 57), (.t 58), (.t 59), (.t 60)], none⟩, ⟨(some 55), .v (.mov (.t 61)), none⟩, ⟨(some 62), .v (.ext (.t 55) 0), none⟩, ⟨(some 63), .v (.ext (.t 55) 1), none⟩, ⟨(some 12), .m (.alloc [(.int .i64 0), (.int .i64 0), (.int .i64 0), .nils]), none⟩, ⟨none, .m (.store 4 (.t 12) (.t 62)), none⟩, ⟨(some 13), .v (.mov (.t 63)), none⟩])
      (.seq
       (.reg [⟨(some 65), .v (.mov (.t 5)), none⟩, ⟨(some 66), .v (.mov (.t 6)), none⟩, ⟨(some 67), .v (.mov (.t 7)), none⟩, ⟨(some 68), .v (.mov (.t 8)), none⟩, ⟨(some 69), .v (.mov (.t 9)), none⟩, ⟨(some 70), .call 33 [(.t 65), (.t 66), (.t 67), (.t 68), (.t 69)], none⟩, ⟨(some 64), .v (.mov (.t 70)), none⟩, ⟨(some 71), .v (.ext (.t 64) 0), none⟩, ⟨(some 72), .v (.ext (.t 64) 1), none⟩, ⟨(some 73), .v (.ext (.t 64) 2), none⟩, ⟨(some 14), .v (.mov (.t 71)), none⟩, ⟨(some 15), .v (.mov (.t 72)), none⟩, ⟨(some 16), .v (.mov (.t 73)), none⟩])
       (.seq
        (.reg [⟨(some 75), .v (.mov (.t 5)), none⟩, ⟨(some 76), .v (.mov (.t 6)), none⟩, ⟨(some 77), .v (.mov (.t 7)), none⟩, ⟨(some 78), .v (.mov (.t 8)), none⟩, ⟨(some 79), .v (.mov (.t 9)), none⟩, ⟨(some 80), .call 37 [(.t 75), (.t 76), (.t 77), (.t 78), (.t 79)], none⟩, ⟨(some 74), .v (.mov (.t 80)), none⟩, ⟨(some 81), .v (.ext (.t 74) 0), none⟩, ⟨(some 82), .v (.ext (.t 74) 1), none⟩, ⟨(some 83), .v (.ext (.t 74) 2), none⟩, ⟨(some 17), .v (.mov (.t 81)), none⟩, ⟨(some 18), .v (.mov (.t 82)), none⟩, ⟨(some 19), .v (.mov (.t 83)), none⟩])
        (.seq
         (.seq
          (.reg [⟨(some 84), .v (.mov (.t 11)), none⟩, ⟨(some 85), .v (.mov (.t 13)), none⟩, ⟨(some 86), .v (.beq true (.t 84) (.t 85)), none⟩, ⟨(some 87), .v (.mov (.t 86)), none⟩, ⟨(some 88), .v (.load true 4 (.t 10)), (some (87, false))⟩, ⟨(some 89), .v (.load true 4 (.t 12)), (some (87, false))⟩, ⟨(some 90), .call 23 [(.t 88), (.t 89)], (some (87, false))⟩, ⟨(some 91), .v (.un .not (.t 90)), (some (87, false))⟩, ⟨(some 92), .v (.pick (.t 87) (.c (.bool true)) (.t 91)), none⟩, ⟨(some 93), .v (.mov (.t 92)), none⟩, ⟨(some 94), .v (.mov (.t 16)), (some (93, false))⟩, ⟨(some 95), .v (.mov (.t 19)), (some (93, false))⟩, ⟨(some 96), .v (.beq true (.t 94) (.t 95)), (some (93, false))⟩, ⟨(some 97), .v (.pick (.t 93) (.c (.bool true)) (.t 96)), none⟩, ⟨(some 98), .v (.mov (.t 97)), none⟩, ⟨(some 99), .v (.mov (.t 14)), (some (98, false))⟩, ⟨(some 100), .v (.mov (.t 17)), (some (98, false))⟩, ⟨(some 101), .v (.bin .neq (.t 99) (.t 100)), (some (98, false))⟩, ⟨(some 102), .v (.pick (.t 98) (.c (.bool true)) (.t 101)), none⟩, ⟨(some 103), .v (.mov (.t 102)), none⟩, ⟨(some 104), .v (.mov (.t 15)), (some (103, false))⟩, ⟨(some 105), .v (.mov (.t 18)), (some (103, false))⟩, ⟨(some 106), .call 38 [(.t 104), (.t 105)], (some (103, false))⟩, ⟨(some 107), .v (.un .not (.t 106)), (some (103, false))⟩, ⟨(some 108), .v (.pick (.t 103) (.c (.bool true)) (.t 107)), none⟩, ⟨(some 109), .v (.mov (.t 108)), none⟩, ⟨(some 110), .v (.mov (.t 11)), (some (109, false))⟩, ⟨(some 111), .v (.mov (.t 110)), (some (109, false))⟩, ⟨(some 112), .v (.mov (.t 16)), (some (111, true))⟩, ⟨(some 113), .v (.pick (.t 111) (.t 112) (.c (.bool false))), (some (109, false))⟩, ⟨(some 114), .v (.pick (.t 109) (.c (.bool true)) (.t 113)), none⟩])
          (.cond (.t 114)
           (.seq
            (.reg [⟨(some 4), .v (.mov (.c (.bool false))), none⟩])
            .ret)
           .skip))
         (.seq
          (.seq
           (.reg [⟨(some 115), .v (.mov (.t 11)), none⟩])
           (.cond (.t 115)
            (.seq
             (.reg [⟨(some 116), .v (.mov (.t 6)), none⟩, ⟨(some 117), .v (.len (.t 116)), none⟩, ⟨(some 118), .v (.mov (.c (.int .i64 0))), none⟩])
             (.block 0
              (.loop
               (.seq
                (.reg [⟨(some 119), .v (.bin .lss (.t 118) (.t 117)), none⟩])
                (.seq
                 (.cond (.t 119)
                  .skip
                  (.exit 0))
                 (.seq
                  (.block 1
                   (.seq
                    (.reg [⟨(some 120), .v (.mov (.t 118)), none⟩, ⟨(some 121), .v (.iaddr 1 (.t 116) (.t 118)), none⟩, ⟨(some 122), .v (.load false 1 (.t 121)), none⟩, ⟨(some 20), .v (.mov (.t 120)), none⟩, ⟨(some 21), .v (.mov (.t 122)), none⟩])
                    (.seq
                     (.reg [⟨(some 124), .v (.load true 4 (.t 10)), none⟩, ⟨(some 125), .v (.mov (.t 21)), none⟩, ⟨(some 126), .call 25 [(.t 124), (.t 125)], none⟩, ⟨(some 123), .v (.mov (.t 126)), none⟩, ⟨(some 127), .v (.ext (.t 123) 0), none⟩, ⟨(some 128), .v (.ext (.t 123) 1), none⟩, ⟨(some 22), .v (.mov (.t 127)), none⟩, ⟨(some 23), .v (.mov (.t 128)), none⟩])
                     (.seq
                      (.reg [⟨(some 129), .v (.mov (.t 23)), none⟩, ⟨(some 130), .v (.un .not (.t 129)), none⟩, ⟨(some 131), .v (.mov (.t 130)), none⟩, ⟨(some 132), .v (.mov (.t 22)), (some (131, false))⟩, ⟨(some 133), .v (.mov (.t 7)), (some (131, false))⟩, ⟨(some 134), .v (.mov (.t 20)), (some (131, false))⟩, ⟨(some 135), .v (.iaddr 1 (.t 133) (.t 134)), (some (131, false))⟩, ⟨(some 136), .v (.load false 1 (.t 135)), (some (131, false))⟩, ⟨(some 137), .v (.bin .neq (.t 132) (.t 136)), (some (131, false))⟩, ⟨(some 138), .v (.pick (.t 131) (.c (.bool true)) (.t 137)), none⟩])
                      (.cond (.t 138)
                       (.seq
                        (.reg [⟨(some 4), .v (.mov (.c (.bool false))), none⟩])
                        .ret)
                       .skip)))))
                  (.reg [⟨(some 139), .v (.bin .add (.t 118) (.c (.int .i64 1))), none⟩, ⟨(some 118), .v (.mov (.t 139)), none⟩])))))))
            .skip))
          (.seq
           (.seq
            (.reg [⟨(some 140), .v (.mov (.t 16)), none⟩])
            (.cond (.t 140)
             (.seq
              (.reg [⟨(some 142), .v (.mov (.t 5)), none⟩, ⟨(some 143), .v (.mov (.t 6)), none⟩, ⟨(some 144), .v (.mov (.t 8)), none⟩, ⟨(some 145), .call 39 [(.t 142), (.t 143), (.t 144)], none⟩, ⟨(some 141), .v (.mov (.t 145)), none⟩, ⟨(some 146), .v (.ext (.t 141) 0), none⟩, ⟨(some 147), .v (.ext (.t 141) 1), none⟩, ⟨(some 24), .m (.alloc [(.int .i64 0), .nils]), none⟩, ⟨none, .m (.store 2 (.t 24) (.t 146)), none⟩, ⟨(some 25), .v (.mov (.t 147)), none⟩])
              (.seq
               (.reg [⟨(some 26), .v (.mov (.c .nils)), none⟩])
               (.seq
                (.seq
                 (.reg [⟨(some 148), .v (.mov (.t 7)), none⟩, ⟨(some 149), .v (.len (.t 148)), none⟩, ⟨(some 150), .v (.mov (.c (.int .i64 0))), none⟩])
                 (.block 2
                  (.loop
                   (.seq
                    (.reg [⟨(some 151), .v (.bin .lss (.t 150) (.t 149)), none⟩])
                    (.seq
                     (.cond (.t 151)
                      .skip
                      (.exit 2))
                     (.seq
                      (.block 3
                       (.seq
                        (.reg [⟨(some 152), .v (.iaddr 1 (.t 148) (.t 150)), none⟩, ⟨(some 153), .v (.load false 1 (.t 152)), none⟩, ⟨(some 28), .v (.mov (.t 153)), none⟩])
                        (.reg [⟨(some 154), .v (.mov (.t 26)), none⟩, ⟨(some 155), .v (.mov (.t 28)), none⟩, ⟨(some 156), .v (.mov (.t 14)), none⟩, ⟨(some 157), .v (.bin .shr (.t 155) (.t 156)), none⟩, ⟨(some 158), .v (.bin .and (.t 157) (.c (.int .i64 1))), none⟩, ⟨(some 159), .v (.bin .eql (.t 158) (.c (.int .i64 1))), none⟩, ⟨(some 160), .m (.bsl 1 1 [(.bool false)] [(0, 1, (.t 159))]), none⟩, ⟨(some 161), .m (.app false 1 1 (.t 154) (.t 160)), none⟩, ⟨(some 26), .v (.mov (.t 161)), none⟩])))
                      (.reg [⟨(some 162), .v (.bin .add (.t 150) (.c (.int .i64 1))), none⟩, ⟨(some 150), .v (.mov (.t 162)), none⟩])))))))
                (.seq
                 (.reg [⟨(some 164), .v (.load true 2 (.t 24)), none⟩, ⟨(some 165), .v (.mov (.t 26)), none⟩, ⟨(some 166), .call 40 [(.t 164), (.t 165)], none⟩, ⟨(some 163), .v (.mov (.t 166)), none⟩, ⟨(some 167), .v (.ext (.t 163) 0), none⟩, ⟨(some 168), .v (.ext (.t 163) 1), none⟩, ⟨(some 29), .m (.alloc [(.int .i64 0), .nils, .nils]), none⟩, ⟨none, .m (.store 3 (.t 29) (.t 167)), none⟩, ⟨(some 30), .v (.mov (.t 168)), none⟩])
                 (.seq
                  (.reg [⟨(some 170), .v (.load true 3 (.t 29)), none⟩, ⟨(some 171), .v (.mov (.t 15)), none⟩, ⟨(some 172), .call 41 [(.t 170), (.t 171)], none⟩, ⟨(some 169), .v (.mov (.t 172)), none⟩, ⟨(some 173), .v (.ext (.t 169) 0), none⟩, ⟨(some 174), .v (.ext (.t 169) 1), none⟩, ⟨(some 31), .v (.mov (.t 173)), none⟩, ⟨(some 32), .v (.mov (.t 174)), none⟩])
                  (.seq
                   (.reg [⟨(some 176), .v (.load true 2 (.t 24)), none⟩, ⟨(some 177), .call 42 [(.t 176)], none⟩, ⟨(some 175), .v (.mov (.t 177)), none⟩, ⟨(some 178), .v (.ext (.t 175) 0), none⟩, ⟨(some 179), .v (.ext (.t 175) 1), none⟩, ⟨(some 33), .v (.mov (.t 178)), none⟩, ⟨(some 34), .v (.mov (.t 179)), none⟩])
                   (.seq
                    (.reg [⟨(some 180), .v (.mov (.t 25)), none⟩, ⟨(some 181), .v (.mov (.t 180)), none⟩, ⟨(some 182), .v (.mov (.t 30)), (some (181, true))⟩, ⟨(some 183), .v (.pick (.t 181) (.t 182) (.c (.bool false))), none⟩, ⟨(some 184), .v (.mov (.t 183)), none⟩, ⟨(some 185), .v (.mov (.t 32)), (some (184, true))⟩, ⟨(some 186), .v (.pick (.t 184) (.t 185) (.c (.bool false))), none⟩, ⟨(some 187), .v (.mov (.t 186)), none⟩, ⟨(some 188), .v (.mov (.t 31)), (some (187, true))⟩, ⟨(some 189), .v (.pick (.t 187) (.t 188) (.c (.bool false))), none⟩, ⟨(some 190), .v (.mov (.t 189)), none⟩, ⟨(some 191), .v (.mov (.t 34)), (some (190, true))⟩, ⟨(some 192), .v (.un .not (.t 191)), (some (190, true))⟩, ⟨(some 193), .v (.pick (.t 190) (.t 192) (.c (.bool false))), none⟩, ⟨(some 4), .v (.mov (.t 193)), none⟩])
                    .ret)))))))
             .skip))
           (.seq
            (.reg [⟨(some 4), .v (.mov (.c (.bool true))), none⟩])
            .ret)))))))))))⟩
theorem e6 : rFunc Tryz.prog Tryz.f6 = some r6 := by kernel_rfl
end Go.Proofs.YtjfgmimgmapeeaaGreat.M

/-
  The resolved text of the functions, each tied to the program's own by the kernel.
-/
import Derived.Test.YtgkdnpigbpkehaaProg
import Derived.Test.YtgkdnpigbpkehaaFd
import Derived.Test.YtgkdnpigbpkehaaM22
namespace Go.Proofs.Ytgkdnpigbpkehaa.M
open Go Go.RowKit
set_option maxRecDepth 100000

noncomputable def t83 : RT := treeOf Try.prog Try.f83 20
noncomputable def r83 : RFunc := ⟨132, [.cell true 3 2],
 (.seq
  (.reg [⟨(some 2), .m (.alloc [(.int .i64 0), .nils, .nils]), none⟩])
  (.seq
   (.reg [⟨(some 8), .v (.mov (.t 0)), none⟩, ⟨(some 9), .v (.mov (.t 0)), none⟩, ⟨(some 10), .m (.bsl 1 4 [(.int .i64 0)] [(0, 1, (.c (.int .i64 3))), (1, 1, (.c (.int .i64 6))), (2, 1, (.c (.int .i64 10))), (3, 1, (.c (.int .i64 20)))]), none⟩, ⟨(some 11), .call 111 [(.t 9), (.t 10)], none⟩, ⟨(some 12), .call 110 [(.t 8), (.t 11)], none⟩, ⟨(some 13), .v (.bin .add (.c (.int .i64 1)) (.t 12)), none⟩, ⟨(some 14), .v (.bld [(.int .i64 0), .nils, .nils] [(0, 1, (.t 13))]), none⟩, ⟨(some 3), .m (.alloc [(.int .i64 0), .nils, .nils]), none⟩, ⟨none, .m (.store 3 (.t 3) (.t 14)), none⟩])
   (.seq
    (.seq
     (.reg [⟨(some 15), .v (.mov (.t 0)), none⟩, ⟨(some 16), .v (.mov (.t 0)), none⟩, ⟨(some 17), .m (.bsl 1 3 [(.int .i64 0)] [(0, 1, (.c (.int .i64 4))), (1, 1, (.c (.int .i64 8))), (2, 1, (.c (.int .i64 12)))]), none⟩, ⟨(some 18), .call 111 [(.t 16), (.t 17)], none⟩, ⟨(some 19), .call 110 [(.t 15), (.t 18)], none⟩, ⟨(some 4), .v (.mov (.t 19)), none⟩])
     (.block 0
      (.loop
       (.seq
        (.seq
         (.reg [⟨(some 20), .v (.mov (.t 4)), none⟩, ⟨(some 21), .v (.bin .gtr (.t 20) (.c (.int .i64 0))), none⟩])
         (.cond (.t 21)
          .skip
          (.exit 0)))
        (.seq
         (.block 1
          (.seq
           (.reg [⟨(some 24), .v (.faddr 0 (.t 3)), none⟩, ⟨(some 25), .v (.load false 1 (.t 24)), none⟩, ⟨(some 26), .call 61 [(.t 25)], none⟩, ⟨(some 5), .m (.alloc [(.int .i64 0), .nils]), none⟩, ⟨none, .m (.store 2 (.t 5) (.t 26)), none⟩])
           (.seq
            (.seq
             (.reg [⟨(some 6), .v (.mov (.c (.int .i64 0))), none⟩])
             (.block 2
              (.loop
               (.seq
                (.seq
                 (.reg [⟨(some 27), .v (.mov (.t 6)), none⟩, ⟨(some 28), .v (.faddr 0 (.t 3)), none⟩, ⟨(some 29), .v (.load false 1 (.t 28)), none⟩, ⟨(some 30), .v (.bin .lss (.t 27) (.t 29)), none⟩])
                 (.cond (.t 30)
                  .skip
                  (.exit 2)))
                (.seq
                 (.block 3
                  (.seq
                   (.reg [⟨(some 33), .v (.mov (.t 0)), none⟩, ⟨(some 34), .call 84 [(.t 33), (.c (.int .i64 3))], none⟩])
                   (.cond (.t 34)
                    (.reg [⟨(some 35), .v (.load true 2 (.t 5)), none⟩, ⟨(some 36), .v (.mov (.t 6)), none⟩, ⟨(some 37), .call 79 [(.t 35), (.t 36)], none⟩])
                    .skip)))
                 (.reg [⟨(some 31), .v (.mov (.t 6)), none⟩, ⟨(some 32), .v (.bin .add (.t 31) (.c (.int .i64 1))), none⟩, ⟨(some 6), .v (.mov (.t 32)), none⟩]))))))
            (.seq
             (.seq
              (.reg [⟨(some 38), .v (.faddr 1 (.t 3)), none⟩, ⟨(some 39), .v (.load false 1 (.t 38)), none⟩, ⟨(some 40), .v (.len (.t 39)), none⟩, ⟨(some 41), .v (.bin .gtr (.t 40) (.c (.int .i64 1))), none⟩, ⟨(some 42), .v (.mov (.t 41)), none⟩, ⟨(some 43), .v (.mov (.t 0)), (some (42, true))⟩, ⟨(some 44), .call 84 [(.t 43), (.c (.int .i64 3))], (some (42, true))⟩, ⟨(some 45), .v (.pick (.t 42) (.t 44) (.c (.bool false))), none⟩])
              (.cond (.t 45)
               (.dreg t83)
               .skip))
             (.seq
              (.reg [⟨(some 65), .v (.faddr 1 (.t 3)), none⟩, ⟨(some 66), .v (.load false 1 (.t 65)), none⟩, ⟨(some 67), .v (.load true 2 (.t 5)), none⟩, ⟨(some 68), .m (.bsl 2 1 [(.int .i64 0), .nils] [(0, 2, (.t 67))]), none⟩, ⟨(some 69), .m (.app false 2 32 (.t 66) (.t 68)), none⟩, ⟨(some 70), .v (.faddr 1 (.t 3)), none⟩, ⟨none, .m (.store 1 (.t 70) (.t 69)), none⟩])
              (.dreg (.fl ⟨(some 71), .v (.faddr 2 (.t 3)), none⟩ (.fl ⟨(some 73), .v (.mov (.t 0)), none⟩ (.both (.nx ⟨(some 72), .v (.load false 1 (.t 71)), none⟩ (.nx ⟨(some 74), .call 84 [(.t 73), (.c (.int .i64 2))], none⟩ (.nx ⟨(some 75), .m (.bsl 1 1 [(.bool false)] [(0, 1, (.t 74))]), none⟩ (.nx ⟨(some 76), .m (.app false 1 1 (.t 72) (.t 75)), none⟩ (.fl ⟨(some 77), .v (.faddr 2 (.t 3)), none⟩ (.nx ⟨none, .m (.store 1 (.t 77) (.t 76)), none⟩ .done)))))) (.nx ⟨(some 74), .call 84 [(.t 73), (.c (.int .i64 2))], none⟩ (.both (.nx ⟨(some 72), .v (.load false 1 (.t 71)), none⟩ (.nx ⟨(some 75), .m (.bsl 1 1 [(.bool false)] [(0, 1, (.t 74))]), none⟩ (.nx ⟨(some 76), .m (.app false 1 1 (.t 72) (.t 75)), none⟩ (.fl ⟨(some 77), .v (.faddr 2 (.t 3)), none⟩ (.nx ⟨none, .m (.store 1 (.t 77) (.t 76)), none⟩ .done))))) (.nx ⟨(some 75), .m (.bsl 1 1 [(.bool false)] [(0, 1, (.t 74))]), none⟩ (.nx ⟨(some 72), .v (.load false 1 (.t 71)), none⟩ (.nx ⟨(some 76), .m (.app false 1 1 (.t 72) (.t 75)), none⟩ (.fl ⟨(some 77), .v (.faddr 2 (.t 3)), none⟩ (.nx ⟨none, .m (.store 1 (.t 77) (.t 76)), none⟩ .done))))))))))))))))
         (.reg [⟨(some 22), .v (.mov (.t 4)), none⟩, ⟨(some 23), .v (.bin .sub (.t 22) (.c (.int .i64 1))), none⟩, ⟨(some 4), .v (.mov (.t 23)), none⟩]))))))
    (.seq
     (.seq
      (.reg [⟨(some 78), .v (.mov (.t 0)), none⟩, ⟨(some 79), .call 110 [(.t 78), (.c (.int .i64 30))], none⟩])
      (.block 4
       (.seq
        (.reg [⟨(some 81), .v (.bin .eql (.t 79) (.c (.int .i64 0))), none⟩, ⟨(some 80), .v (.mov (.t 81)), none⟩])
        (.cond (.t 80)
         (.reg [⟨(some 82), .v (.faddr 2 (.t 3)), none⟩, ⟨(some 83), .v (.load false 1 (.t 82)), none⟩, ⟨(some 84), .m (.bsl 1 1 [(.bool false)] [(0, 1, (.c (.bool true)))]), none⟩, ⟨(some 85), .m (.app false 1 1 (.t 83) (.t 84)), none⟩, ⟨(some 86), .v (.faddr 2 (.t 3)), none⟩, ⟨none, .m (.store 1 (.t 86) (.t 85)), none⟩])
         (.seq
          (.reg [⟨(some 88), .v (.bin .eql (.t 79) (.c (.int .i64 1))), none⟩, ⟨(some 87), .v (.mov (.t 88)), none⟩])
          (.cond (.t 87)
           (.seq
            (.dreg (.fl ⟨(some 89), .v (.faddr 1 (.t 3)), none⟩ (.fl ⟨(some 91), .v (.mov (.t 0)), none⟩ (.both (.nx ⟨(some 90), .v (.load false 1 (.t 89)), none⟩ (.nx ⟨(some 92), .call 92 [(.t 91)], none⟩ (.nx ⟨(some 93), .m (.bsl 2 1 [(.int .i64 0), .nils] [(0, 2, (.t 92))]), none⟩ (.nx ⟨(some 94), .m (.app false 2 32 (.t 90) (.t 93)), none⟩ (.fl ⟨(some 95), .v (.faddr 1 (.t 3)), none⟩ (.nx ⟨none, .m (.store 1 (.t 95) (.t 94)), none⟩ .done)))))) (.nx ⟨(some 92), .call 92 [(.t 91)], none⟩ (.both (.nx ⟨(some 90), .v (.load false 1 (.t 89)), none⟩ (.nx ⟨(some 93), .m (.bsl 2 1 [(.int .i64 0), .nils] [(0, 2, (.t 92))]), none⟩ (.nx ⟨(some 94), .m (.app false 2 32 (.t 90) (.t 93)), none⟩ (.fl ⟨(some 95), .v (.faddr 1 (.t 3)), none⟩ (.nx ⟨none, .m (.store 1 (.t 95) (.t 94)), none⟩ .done))))) (.nx ⟨(some 93), .m (.bsl 2 1 [(.int .i64 0), .nils] [(0, 2, (.t 92))]), none⟩ (.nx ⟨(some 90), .v (.load false 1 (.t 89)), none⟩ (.nx ⟨(some 94), .m (.app false 2 32 (.t 90) (.t 93)), none⟩ (.fl ⟨(some 95), .v (.faddr 1 (.t 3)), none⟩ (.nx ⟨none, .m (.store 1 (.t 95) (.t 94)), none⟩ .done)))))))))))
            (.reg [⟨(some 96), .v (.faddr 2 (.t 3)), none⟩, ⟨(some 97), .v (.load false 1 (.t 96)), none⟩, ⟨(some 98), .m (.bsl 1 1 [(.bool false)] [(0, 1, (.c (.bool false)))]), none⟩, ⟨(some 99), .m (.app false 1 1 (.t 97) (.t 98)), none⟩, ⟨(some 100), .v (.faddr 2 (.t 3)), none⟩, ⟨none, .m (.store 1 (.t 100) (.t 99)), none⟩]))
           (.seq
            (.reg [⟨(some 102), .v (.bin .eql (.t 79) (.c (.int .i64 2))), none⟩, ⟨(some 101), .v (.mov (.t 102)), none⟩])
            (.cond (.t 101)
             (.reg [⟨(some 103), .v (.mov (.t 0)), none⟩, ⟨(some 104), .m (.bsl 1 4 [(.int .i64 0)] [(0, 1, (.c (.int .i64 0))), (1, 1, (.c (.int .i64 (-1)))), (2, 1, (.c (.int .i64 72))), (3, 1, (.c (.int .i64 73)))]), none⟩, ⟨(some 105), .call 111 [(.t 103), (.t 104)], none⟩, ⟨(some 106), .v (.faddr 0 (.t 3)), none⟩, ⟨none, .m (.store 1 (.t 106) (.t 105)), none⟩])
             (.seq
              (.reg [⟨(some 108), .v (.bin .eql (.t 79) (.c (.int .i64 3))), none⟩, ⟨(some 107), .v (.mov (.t 108)), none⟩])
              (.cond (.t 107)
               (.seq
                (.reg [⟨(some 109), .v (.mov (.t 0)), none⟩, ⟨(some 110), .call 110 [(.t 109), (.c (.int .i64 45))], none⟩, ⟨(some 7), .v (.mov (.t 110)), none⟩])
                (.block 5
                 (.loop
                  (.seq
                   (.seq
                    (.reg [⟨(some 111), .v (.mov (.t 7)), none⟩, ⟨(some 112), .v (.bin .gtr (.t 111) (.c (.int .i64 0))), none⟩])
                    (.cond (.t 112)
                     .skip
                     (.exit 5)))
                   (.seq
                    (.block 6
                     (.seq
                      (.dreg (.fl ⟨(some 115), .v (.faddr 1 (.t 3)), none⟩ (.fl ⟨(some 117), .v (.faddr 0 (.t 3)), none⟩ (.both (.nx ⟨(some 116), .v (.load false 1 (.t 115)), none⟩ (.nx ⟨(some 118), .v (.load false 1 (.t 117)), none⟩ (.nx ⟨(some 119), .call 112 [(.t 118), (.c (.int .i64 0))], none⟩ (.nx ⟨(some 120), .call 61 [(.t 119)], none⟩ (.nx ⟨(some 121), .m (.bsl 2 1 [(.int .i64 0), .nils] [(0, 2, (.t 120))]), none⟩ (.nx ⟨(some 122), .m (.app false 2 32 (.t 116) (.t 121)), none⟩ (.fl ⟨(some 123), .v (.faddr 1 (.t 3)), none⟩ (.nx ⟨none, .m (.store 1 (.t 123) (.t 122)), none⟩ .done)))))))) (.nx ⟨(some 118), .v (.load false 1 (.t 117)), none⟩ (.both (.nx ⟨(some 116), .v (.load false 1 (.t 115)), none⟩ (.nx ⟨(some 119), .call 112 [(.t 118), (.c (.int .i64 0))], none⟩ (.nx ⟨(some 120), .call 61 [(.t 119)], none⟩ (.nx ⟨(some 121), .m (.bsl 2 1 [(.int .i64 0), .nils] [(0, 2, (.t 120))]), none⟩ (.nx ⟨(some 122), .m (.app false 2 32 (.t 116) (.t 121)), none⟩ (.fl ⟨(some 123), .v (.faddr 1 (.t 3)), none⟩ (.nx ⟨none, .m (.store 1 (.t 123) (.t 122)), none⟩ .done))))))) (.nx ⟨(some 119), .call 112 [(.t 118), (.c (.int .i64 0))], none⟩ (.both (.nx ⟨(some 116), .v (.load false 1 (.t 115)), none⟩ (.nx ⟨(some 120), .call 61 [(.t 119)], none⟩ (.nx ⟨(some 121), .m (.bsl 2 1 [(.int .i64 0), .nils] [(0, 2, (.t 120))]), none⟩ (.nx ⟨(some 122), .m (.app false 2 32 (.t 116) (.t 121)), none⟩ (.fl ⟨(some 123), .v (.faddr 1 (.t 3)), none⟩ (.nx ⟨none, .m (.store 1 (.t 123) (.t 122)), none⟩ .done)))))) (.nx ⟨(some 120), .call 61 [(.t 119)], none⟩ (.both (.nx ⟨(some 116), .v (.load false 1 (.t 115)), none⟩ (.nx ⟨(some 121), .m (.bsl 2 1 [(.int .i64 0), .nils] [(0, 2, (.t 120))]), none⟩ (.nx ⟨(some 122), .m (.app false 2 32 (.t 116) (.t 121)), none⟩ (.fl ⟨(some 123), .v (.faddr 1 (.t 3)), none⟩ (.nx ⟨none, .m (.store 1 (.t 123) (.t 122)), none⟩ .done))))) (.nx ⟨(some 121), .m (.bsl 2 1 [(.int .i64 0), .nils] [(0, 2, (.t 120))]), none⟩ (.nx ⟨(some 116), .v (.load false 1 (.t 115)), none⟩ (.nx ⟨(some 122), .m (.app false 2 32 (.t 116) (.t 121)), none⟩ (.fl ⟨(some 123), .v (.faddr 1 (.t 3)), none⟩ (.nx ⟨none, .m (.store 1 (.t 123) (.t 122)), none⟩ .done)))))))))))))))
                      (.dreg (.fl ⟨(some 124), .v (.faddr 2 (.t 3)), none⟩ (.fl ⟨(some 126), .v (.mov (.t 0)), none⟩ (.both (.nx ⟨(some 125), .v (.load false 1 (.t 124)), none⟩ (.nx ⟨(some 127), .call 84 [(.t 126), (.c (.int .i64 9))], none⟩ (.nx ⟨(some 128), .m (.bsl 1 1 [(.bool false)] [(0, 1, (.t 127))]), none⟩ (.nx ⟨(some 129), .m (.app false 1 1 (.t 125) (.t 128)), none⟩ (.fl ⟨(some 130), .v (.faddr 2 (.t 3)), none⟩ (.nx ⟨none, .m (.store 1 (.t 130) (.t 129)), none⟩ .done)))))) (.nx ⟨(some 127), .call 84 [(.t 126), (.c (.int .i64 9))], none⟩ (.both (.nx ⟨(some 125), .v (.load false 1 (.t 124)), none⟩ (.nx ⟨(some 128), .m (.bsl 1 1 [(.bool false)] [(0, 1, (.t 127))]), none⟩ (.nx ⟨(some 129), .m (.app false 1 1 (.t 125) (.t 128)), none⟩ (.fl ⟨(some 130), .v (.faddr 2 (.t 3)), none⟩ (.nx ⟨none, .m (.store 1 (.t 130) (.t 129)), none⟩ .done))))) (.nx ⟨(some 128), .m (.bsl 1 1 [(.bool false)] [(0, 1, (.t 127))]), none⟩ (.nx ⟨(some 125), .v (.load false 1 (.t 124)), none⟩ (.nx ⟨(some 129), .m (.app false 1 1 (.t 125) (.t 128)), none⟩ (.fl ⟨(some 130), .v (.faddr 2 (.t 3)), none⟩ (.nx ⟨none, .m (.store 1 (.t 130) (.t 129)), none⟩ .done)))))))))))))
                    (.reg [⟨(some 113), .v (.mov (.t 7)), none⟩, ⟨(some 114), .v (.bin .sub (.t 113) (.c (.int .i64 1))), none⟩, ⟨(some 7), .v (.mov (.t 114)), none⟩]))))))
               .skip))))))))))
     (.seq
      (.reg [⟨(some 131), .v (.load true 3 (.t 3)), none⟩, ⟨none, .m (.store 3 (.t 2) (.t 131)), none⟩])
      .ret)))))⟩
def o83 : List (RO × List Nat) := [(⟨(some 46), .v (.faddr 1 (.t 3)), none⟩, []), (⟨(some 47), .v (.load false 1 (.t 46)), none⟩, [0]), (⟨(some 48), .v (.mov (.t 0)), none⟩, []), (⟨(some 49), .v (.faddr 1 (.t 3)), none⟩, []), (⟨(some 50), .v (.load false 1 (.t 49)), none⟩, [3]), (⟨(some 51), .v (.len (.t 50)), none⟩, [4]), (⟨(some 52), .call 110 [(.t 48), (.t 51)], none⟩, [2, 5]), (⟨(some 53), .v (.iaddr 2 (.t 47) (.t 52)), none⟩, [1, 6]), (⟨(some 54), .v (.load true 2 (.t 53)), none⟩, [7]), (⟨(some 55), .v (.faddr 1 (.t 3)), none⟩, []), (⟨(some 56), .v (.load false 1 (.t 55)), none⟩, [9]), (⟨(some 57), .v (.mov (.t 0)), none⟩, []), (⟨(some 58), .v (.faddr 1 (.t 3)), none⟩, []), (⟨(some 59), .v (.load false 1 (.t 58)), none⟩, [12]), (⟨(some 60), .v (.len (.t 59)), none⟩, [13]), (⟨(some 61), .call 110 [(.t 57), (.t 60)], none⟩, [11, 14, 6]), (⟨(some 62), .v (.iaddr 2 (.t 56) (.t 61)), none⟩, [10, 15]), (⟨(some 63), .v (.load true 2 (.t 62)), none⟩, [16]), (⟨(some 64), .call 99 [(.t 54), (.t 63)], none⟩, [8, 17, 15]), (⟨none, .m (.store 2 (.t 5) (.t 64)), none⟩, [18, 18, 0, 1, 2, 3, 4, 5, 6, 7, 8, 9, 10, 11, 12, 13, 14, 15, 16, 17, 18])]
theorem k83 : RegOk Try.prog (Try.f83).ntmps (regOf Try.f83 20) o83 := ⟨by kernel_rfl, by kernel_rfl, by kernel_rfl, by kernel_rfl, by kernel_rfl, by kernel_rfl⟩
theorem b83 : rFuncB (bigAt 20 t83) Try.prog Try.f83 = some r83 := by kernel_rfl
theorem e83 : rFunc Try.prog Try.f83 = some r83 := rFunc_big k83 (by kernel_rfl) b83
end Go.Proofs.Ytgkdnpigbpkehaa.M

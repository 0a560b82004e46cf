/-
  The resolved text of the functions, each tied to the program's own by the kernel.
-/
import Derived.Test.YtjfgmimgmapeeaaGreatProg
import Derived.Test.YtjfgmimgmapeeaaGreatFyf
namespace Go.Proofs.YtjfgmimgmapeeaaGreat.M
open Go Go.RowKit
set_option maxRecDepth 100000

def r169 : RFunc := ⟨9, [.t 2],
 (.seq
  (.reg [⟨(some 2), .v (.mov (.c .nils)), none⟩])
  (.seq
   (.reg [⟨(some 3), .v (.mov (.t 0)), none⟩, ⟨(some 4), .v (.nchk (.t 3)), none⟩, ⟨(some 5), .v (.faddr 1 (.t 4)), none⟩, ⟨(some 6), .v (.load false 1 (.t 5)), none⟩, ⟨(some 7), .v (.len (.t 6)), none⟩, ⟨(some 8), .m (.mks 1 1 [(.bool false)] (.t 7) (.t 7)), none⟩, ⟨(some 2), .v (.mov (.t 8)), none⟩])
   .ret))⟩
theorem e169 : rFunc Tryz.prog Tryz.f169 = some r169 := by kernel_rfl
def r171 : RFunc := ⟨22, [.t 2],
 (.seq
  (.reg [⟨(some 2), .v (.mov (.c .nils)), none⟩])
  (.seq
   (.reg [⟨(some 6), .m (.bsl 1 0 [(.int .i64 0)] []), none⟩, ⟨(some 3), .v (.mov (.t 6)), none⟩])
   (.seq
    (.seq
     (.reg [⟨(some 7), .v (.mov (.t 0)), none⟩, ⟨(some 8), .v (.len (.t 7)), none⟩, ⟨(some 9), .v (.mov (.c (.int .i64 0))), none⟩])
     (.block 0
      (.loop
       (.seq
        (.reg [⟨(some 10), .v (.bin .lss (.t 9) (.t 8)), none⟩])
        (.seq
         (.cond (.t 10)
          .skip
          (.exit 0))
         (.seq
          (.block 1
           (.seq
            (.reg [⟨(some 11), .v (.mov (.t 9)), none⟩, ⟨(some 12), .v (.iaddr 1 (.t 7) (.t 9)), none⟩, ⟨(some 13), .v (.load false 1 (.t 12)), none⟩, ⟨(some 4), .v (.mov (.t 11)), none⟩, ⟨(some 5), .v (.mov (.t 13)), none⟩])
            (.seq
             (.reg [⟨(some 14), .v (.mov (.t 5)), none⟩, ⟨(some 15), .v (.un .not (.t 14)), none⟩])
             (.cond (.t 15)
              (.reg [⟨(some 16), .v (.mov (.t 3)), none⟩, ⟨(some 17), .v (.mov (.t 4)), none⟩, ⟨(some 18), .m (.bsl 1 1 [(.int .i64 0)] [(0, 1, (.t 17))]), none⟩, ⟨(some 19), .m (.app false 1 8 (.t 16) (.t 18)), none⟩, ⟨(some 3), .v (.mov (.t 19)), none⟩])
              .skip))))
          (.reg [⟨(some 20), .v (.bin .add (.t 9) (.c (.int .i64 1))), none⟩, ⟨(some 9), .v (.mov (.t 20)), none⟩])))))))
    (.seq
     (.reg [⟨(some 21), .v (.mov (.t 3)), none⟩, ⟨(some 2), .v (.mov (.t 21)), none⟩])
     .ret))))⟩
theorem e171 : rFunc Tryz.prog Tryz.f171 = some r171 := by kernel_rfl
def r189 : RFunc := ⟨44, [.t 4],
 (.seq
  (.reg [⟨(some 4), .v (.mov (.c .nils)), none⟩])
  (.seq
   (.reg [⟨(some 10), .v (.mov (.t 0)), none⟩, ⟨(some 11), .v (.nchk (.t 10)), none⟩, ⟨(some 12), .v (.faddr 0 (.t 11)), none⟩, ⟨(some 13), .v (.load false 1 (.t 12)), none⟩, ⟨(some 14), .m (.mks 1 8 [(.int .i64 0)] (.t 13) (.t 13)), none⟩, ⟨(some 5), .v (.mov (.t 14)), none⟩])
   (.seq
    (.seq
     (.reg [⟨(some 15), .v (.mov (.t 0)), none⟩, ⟨(some 16), .v (.nchk (.t 15)), none⟩, ⟨(some 17), .v (.faddr 1 (.t 16)), none⟩, ⟨(some 18), .v (.load false 1 (.t 17)), none⟩, ⟨(some 19), .v (.len (.t 18)), none⟩, ⟨(some 20), .v (.mov (.c (.int .i64 0))), none⟩])
     (.block 0
      (.loop
       (.seq
        (.reg [⟨(some 21), .v (.bin .lss (.t 20) (.t 19)), none⟩])
        (.seq
         (.cond (.t 21)
          .skip
          (.exit 0))
         (.seq
          (.block 1
           (.seq
            (.reg [⟨(some 22), .v (.mov (.t 20)), none⟩, ⟨(some 23), .v (.iaddr 1 (.t 18) (.t 20)), none⟩, ⟨(some 24), .v (.load false 1 (.t 23)), none⟩, ⟨(some 6), .v (.mov (.t 22)), none⟩, ⟨(some 7), .v (.mov (.t 24)), none⟩])
            (.seq
             (.seq
              (.reg [⟨(some 25), .v (.mov (.t 1)), none⟩, ⟨(some 26), .v (.mov (.t 6)), none⟩, ⟨(some 27), .v (.iaddr 1 (.t 25) (.t 26)), none⟩, ⟨(some 28), .v (.load false 1 (.t 27)), none⟩])
              (.cond (.t 28)
               (.exit 1)
               .skip))
             (.seq
              (.reg [⟨(some 29), .v (.mov (.t 7)), none⟩, ⟨(some 30), .v (.len (.t 29)), none⟩, ⟨(some 31), .v (.mov (.c (.int .i64 0))), none⟩])
              (.block 2
               (.loop
                (.seq
                 (.reg [⟨(some 32), .v (.bin .lss (.t 31) (.t 30)), none⟩])
                 (.seq
                  (.cond (.t 32)
                   .skip
                   (.exit 2))
                  (.seq
                   (.block 3
                    (.seq
                     (.reg [⟨(some 33), .v (.iaddr 1 (.t 29) (.t 31)), none⟩, ⟨(some 34), .v (.load false 1 (.t 33)), none⟩, ⟨(some 9), .v (.mov (.t 34)), none⟩])
                     (.reg [⟨(some 35), .v (.mov (.t 5)), none⟩, ⟨(some 36), .v (.mov (.t 9)), none⟩, ⟨(some 37), .v (.iaddr 1 (.t 35) (.t 36)), none⟩, ⟨(some 38), .v (.load false 1 (.t 37)), none⟩, ⟨(some 39), .v (.bin .add (.t 38) (.c (.int .i64 1))), none⟩, ⟨(some 40), .v (.iaddr 1 (.t 35) (.t 36)), none⟩, ⟨none, .m (.store 1 (.t 40) (.t 39)), none⟩])))
                   (.reg [⟨(some 41), .v (.bin .add (.t 31) (.c (.int .i64 1))), none⟩, ⟨(some 31), .v (.mov (.t 41)), none⟩]))))))))))
          (.reg [⟨(some 42), .v (.bin .add (.t 20) (.c (.int .i64 1))), none⟩, ⟨(some 20), .v (.mov (.t 42)), none⟩])))))))
    (.seq
     (.reg [⟨(some 43), .v (.mov (.t 5)), none⟩, ⟨(some 4), .v (.mov (.t 43)), none⟩])
     .ret))))⟩
theorem e189 : rFunc Tryz.prog Tryz.f189 = some r189 := by kernel_rfl
def r170 : RFunc := ⟨26, [.t 4],
 (.seq
  (.reg [⟨(some 4), .v (.mov (.c .nils)), none⟩])
  (.seq
   (.reg [⟨(some 8), .m (.bsl 1 0 [(.int .i64 0)] []), none⟩, ⟨(some 5), .v (.mov (.t 8)), none⟩])
   (.seq
    (.seq
     (.reg [⟨(some 9), .v (.mov (.t 0)), none⟩, ⟨(some 10), .v (.mov (.t 1)), none⟩, ⟨(some 11), .call 189 [(.t 9), (.t 10)], none⟩, ⟨(some 12), .v (.len (.t 11)), none⟩, ⟨(some 13), .v (.mov (.c (.int .i64 0))), none⟩])
     (.block 0
      (.loop
       (.seq
        (.reg [⟨(some 14), .v (.bin .lss (.t 13) (.t 12)), none⟩])
        (.seq
         (.cond (.t 14)
          .skip
          (.exit 0))
         (.seq
          (.block 1
           (.seq
            (.reg [⟨(some 15), .v (.mov (.t 13)), none⟩, ⟨(some 16), .v (.iaddr 1 (.t 11) (.t 13)), none⟩, ⟨(some 17), .v (.load false 1 (.t 16)), none⟩, ⟨(some 6), .v (.mov (.t 15)), none⟩, ⟨(some 7), .v (.mov (.t 17)), none⟩])
            (.seq
             (.reg [⟨(some 18), .v (.mov (.t 7)), none⟩, ⟨(some 19), .v (.bin .eql (.t 18) (.c (.int .i64 1))), none⟩])
             (.cond (.t 19)
              (.reg [⟨(some 20), .v (.mov (.t 5)), none⟩, ⟨(some 21), .v (.mov (.t 6)), none⟩, ⟨(some 22), .m (.bsl 1 1 [(.int .i64 0)] [(0, 1, (.t 21))]), none⟩, ⟨(some 23), .m (.app false 1 8 (.t 20) (.t 22)), none⟩, ⟨(some 5), .v (.mov (.t 23)), none⟩])
              .skip))))
          (.reg [⟨(some 24), .v (.bin .add (.t 13) (.c (.int .i64 1))), none⟩, ⟨(some 13), .v (.mov (.t 24)), none⟩])))))))
    (.seq
     (.reg [⟨(some 25), .v (.mov (.t 5)), none⟩, ⟨(some 4), .v (.mov (.t 25)), none⟩])
     .ret))))⟩
theorem e170 : rFunc Tryz.prog Tryz.f170 = some r170 := by kernel_rfl
def r172 : RFunc := ⟨27, [.t 6],
 (.seq
  (.reg [⟨(some 6), .v (.mov (.c (.int .i64 0))), none⟩])
  (.seq
   (.reg [⟨(some 7), .v (.mov (.c (.int .i64 0))), none⟩])
   (.seq
    (.block 0
     (.loop
      (.seq
       (.seq
        (.reg [⟨(some 8), .v (.mov (.t 1)), none⟩, ⟨(some 9), .v (.mov (.t 7)), none⟩, ⟨(some 10), .v (.iaddr 1 (.t 8) (.t 9)), none⟩, ⟨(some 11), .v (.load false 1 (.t 10)), none⟩, ⟨(some 12), .v (.mov (.t 11)), none⟩, ⟨(some 13), .v (.mov (.t 0)), (some (12, false))⟩, ⟨(some 14), .v (.nchk (.t 13)), (some (12, false))⟩, ⟨(some 15), .v (.faddr 1 (.t 14)), (some (12, false))⟩, ⟨(some 16), .v (.load false 1 (.t 15)), (some (12, false))⟩, ⟨(some 17), .v (.mov (.t 7)), (some (12, false))⟩, ⟨(some 18), .v (.iaddr 1 (.t 16) (.t 17)), (some (12, false))⟩, ⟨(some 19), .v (.load false 1 (.t 18)), (some (12, false))⟩, ⟨(some 20), .v (.mov (.t 2)), (some (12, false))⟩, ⟨(some 21), .call 154 [(.t 19), (.t 20)], (some (12, false))⟩, ⟨(some 22), .v (.un .not (.t 21)), (some (12, false))⟩, ⟨(some 23), .v (.pick (.t 12) (.c (.bool true)) (.t 22)), none⟩])
        (.cond (.t 23)
         .skip
         (.exit 0)))
       (.block 1
        (.reg [⟨(some 24), .v (.mov (.t 7)), none⟩, ⟨(some 25), .v (.bin .add (.t 24) (.c (.int .i64 1))), none⟩, ⟨(some 7), .v (.mov (.t 25)), none⟩])))))
    (.seq
     (.reg [⟨(some 26), .v (.mov (.t 7)), none⟩, ⟨(some 6), .v (.mov (.t 26)), none⟩])
     .ret))))⟩
theorem e172 : rFunc Tryz.prog Tryz.f172 = some r172 := by kernel_rfl
def r140 : RFunc := ⟨37, [.t 2, .t 3],
 (.seq
  (.reg [⟨(some 2), .v (.mov (.c .nils)), none⟩, ⟨(some 3), .v (.mov (.c .nils)), none⟩])
  (.seq
   (.reg [⟨(some 8), .m (.bsl 2 0 [(.int .i64 0), (.int .i64 0)] []), none⟩, ⟨(some 9), .v (.mov (.t 0)), none⟩, ⟨(some 10), .call 169 [(.t 9)], none⟩, ⟨(some 4), .v (.mov (.t 8)), none⟩, ⟨(some 5), .v (.mov (.t 10)), none⟩])
   (.block 0
    (.loop
     (.block 1
      (.seq
       (.reg [⟨(some 11), .v (.mov (.t 0)), none⟩, ⟨(some 12), .v (.mov (.t 5)), none⟩, ⟨(some 13), .call 170 [(.t 11), (.t 12)], none⟩, ⟨(some 6), .v (.mov (.t 13)), none⟩])
       (.seq
        (.seq
         (.reg [⟨(some 14), .v (.mov (.t 6)), none⟩, ⟨(some 15), .v (.len (.t 14)), none⟩, ⟨(some 16), .v (.bin .eql (.t 15) (.c (.int .i64 0))), none⟩])
         (.cond (.t 16)
          (.seq
           (.reg [⟨(some 17), .v (.mov (.t 4)), none⟩, ⟨(some 18), .v (.mov (.t 5)), none⟩, ⟨(some 19), .call 171 [(.t 18)], none⟩, ⟨(some 2), .v (.mov (.t 17)), none⟩, ⟨(some 3), .v (.mov (.t 19)), none⟩])
           .ret)
          .skip))
        (.seq
         (.reg [⟨(some 20), .v (.mov (.t 0)), none⟩, ⟨(some 21), .v (.mov (.t 5)), none⟩, ⟨(some 22), .v (.mov (.t 6)), none⟩, ⟨(some 23), .v (.iaddr 1 (.t 22) (.c (.int .i64 0))), none⟩, ⟨(some 24), .v (.load false 1 (.t 23)), none⟩, ⟨(some 25), .call 172 [(.t 20), (.t 21), (.t 24)], none⟩, ⟨(some 7), .v (.mov (.t 25)), none⟩])
         (.seq
          (.reg [⟨(some 26), .v (.mov (.t 5)), none⟩, ⟨(some 27), .v (.mov (.t 7)), none⟩, ⟨(some 28), .v (.iaddr 1 (.t 26) (.t 27)), none⟩, ⟨none, .m (.store 1 (.t 28) (.c (.bool true))), none⟩])
          (.reg [⟨(some 29), .v (.mov (.t 4)), none⟩, ⟨(some 30), .v (.mov (.t 7)), none⟩, ⟨(some 31), .v (.mov (.t 6)), none⟩, ⟨(some 32), .v (.iaddr 1 (.t 31) (.c (.int .i64 0))), none⟩, ⟨(some 33), .v (.load false 1 (.t 32)), none⟩, ⟨(some 34), .v (.bld [(.int .i64 0), (.int .i64 0)] [(0, 1, (.t 30)), (1, 1, (.t 33))]), none⟩, ⟨(some 35), .m (.bsl 2 1 [(.int .i64 0), (.int .i64 0)] [(0, 2, (.t 34))]), none⟩, ⟨(some 36), .m (.app false 2 16 (.t 29) (.t 35)), none⟩, ⟨(some 4), .v (.mov (.t 36)), none⟩]))))))))))⟩
theorem e140 : rFunc Tryz.prog Tryz.f140 = some r140 := by kernel_rfl
end Go.Proofs.YtjfgmimgmapeeaaGreat.M

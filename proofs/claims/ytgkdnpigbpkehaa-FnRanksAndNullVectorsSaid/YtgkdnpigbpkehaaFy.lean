/-
  The resolved text of the functions, each tied to the program's own by the kernel.
-/
import Derived.Test.YtgkdnpigbpkehaaProg
import Derived.Test.YtgkdnpigbpkehaaFt
namespace Go.Proofs.Ytgkdnpigbpkehaa.M
open Go Go.RowKit
set_option maxRecDepth 100000

def r43 : RFunc := ⟨16, [.t 4],
 (.seq
  (.reg [⟨(some 4), .v (.mov (.c (.bool false))), none⟩])
  (.seq
   (.reg [⟨(some 5), .v (.mov (.t 0)), none⟩, ⟨(some 6), .v (.len (.t 5)), none⟩, ⟨(some 7), .v (.bin .gtr (.t 6) (.c (.int .i64 1048576))), none⟩, ⟨(some 8), .v (.mov (.t 7)), none⟩, ⟨(some 9), .v (.mov (.t 1)), (some (8, false))⟩, ⟨(some 10), .v (.len (.t 9)), (some (8, false))⟩, ⟨(some 11), .v (.mov (.t 0)), (some (8, false))⟩, ⟨(some 12), .v (.len (.t 11)), (some (8, false))⟩, ⟨(some 13), .v (.bin .sub (.c (.int .i64 1048576)) (.t 12)), (some (8, false))⟩, ⟨(some 14), .v (.bin .gtr (.t 10) (.t 13)), (some (8, false))⟩, ⟨(some 15), .v (.pick (.t 8) (.c (.bool true)) (.t 14)), none⟩, ⟨(some 4), .v (.mov (.t 15)), none⟩])
   .ret))⟩
theorem e43 : rFunc Try.prog Try.f43 = some r43 := by kernel_rfl
def r25 : RFunc := ⟨16, [.t 2, .t 3],
 (.seq
  (.reg [⟨(some 1), .m (.box (.t 0)), none⟩, ⟨(some 2), .v (.mov (.c (.int .i64 0))), none⟩, ⟨(some 3), .v (.mov (.c (.bool false))), none⟩])
  (.seq
   (.seq
    (.reg [⟨(some 6), .v (.load true 3 (.t 1)), none⟩, ⟨(some 7), .call 50 [(.t 6)], none⟩, ⟨(some 8), .v (.un .not (.t 7)), none⟩])
    (.cond (.t 8)
     (.seq
      (.reg [⟨(some 2), .v (.mov (.c (.int .i64 0))), none⟩, ⟨(some 3), .v (.mov (.c (.bool false))), none⟩])
      .ret)
     .skip))
   (.seq
    (.reg [⟨(some 10), .v (.load true 3 (.t 1)), none⟩, ⟨(some 11), .call 72 [(.t 10)], none⟩, ⟨(some 9), .v (.mov (.t 11)), none⟩, ⟨(some 12), .v (.ext (.t 9) 0), none⟩, ⟨(some 13), .v (.ext (.t 9) 1), none⟩, ⟨(some 4), .v (.mov (.t 12)), none⟩, ⟨(some 5), .v (.mov (.t 13)), none⟩])
    (.seq
     (.reg [⟨(some 14), .v (.mov (.t 4)), none⟩, ⟨(some 15), .v (.len (.t 14)), none⟩, ⟨(some 2), .v (.mov (.t 15)), none⟩, ⟨(some 3), .v (.mov (.c (.bool true))), none⟩])
     .ret))))⟩
theorem e25 : rFunc Try.prog Try.f25 = some r25 := by kernel_rfl
def r24 : RFunc := ⟨16, [.t 2, .t 3],
 (.seq
  (.reg [⟨(some 1), .m (.box (.t 0)), none⟩, ⟨(some 2), .v (.mov (.c (.int .i64 0))), none⟩, ⟨(some 3), .v (.mov (.c (.bool false))), none⟩])
  (.seq
   (.seq
    (.reg [⟨(some 6), .v (.load true 3 (.t 1)), none⟩, ⟨(some 7), .call 59 [(.t 6)], none⟩, ⟨(some 8), .v (.un .not (.t 7)), none⟩])
    (.cond (.t 8)
     (.seq
      (.reg [⟨(some 2), .v (.mov (.c (.int .i64 0))), none⟩, ⟨(some 3), .v (.mov (.c (.bool false))), none⟩])
      .ret)
     .skip))
   (.seq
    (.reg [⟨(some 10), .v (.load true 3 (.t 1)), none⟩, ⟨(some 11), .call 71 [(.t 10)], none⟩, ⟨(some 9), .v (.mov (.t 11)), none⟩, ⟨(some 12), .v (.ext (.t 9) 0), none⟩, ⟨(some 13), .v (.ext (.t 9) 1), none⟩, ⟨(some 4), .v (.mov (.t 12)), none⟩, ⟨(some 5), .v (.mov (.t 13)), none⟩])
    (.seq
     (.reg [⟨(some 14), .v (.mov (.t 4)), none⟩, ⟨(some 15), .v (.len (.t 14)), none⟩, ⟨(some 2), .v (.mov (.t 15)), none⟩, ⟨(some 3), .v (.mov (.c (.bool true))), none⟩])
     .ret))))⟩
theorem e24 : rFunc Try.prog Try.f24 = some r24 := by kernel_rfl
def r32 : RFunc := ⟨17, [.t 2, .t 3],
 (.seq
  (.reg [⟨(some 1), .m (.box (.t 0)), none⟩, ⟨(some 2), .v (.mov (.c .nils)), none⟩, ⟨(some 3), .v (.mov (.c (.bool false))), none⟩])
  (.seq
   (.seq
    (.reg [⟨(some 6), .v (.load true 3 (.t 1)), none⟩, ⟨(some 7), .call 50 [(.t 6)], none⟩, ⟨(some 8), .v (.un .not (.t 7)), none⟩])
    (.cond (.t 8)
     (.seq
      (.reg [⟨(some 2), .v (.mov (.c .nils)), none⟩, ⟨(some 3), .v (.mov (.c (.bool false))), none⟩])
      .ret)
     .skip))
   (.seq
    (.reg [⟨(some 10), .v (.load true 3 (.t 1)), none⟩, ⟨(some 11), .call 72 [(.t 10)], none⟩, ⟨(some 9), .v (.mov (.t 11)), none⟩, ⟨(some 12), .v (.ext (.t 9) 0), none⟩, ⟨(some 13), .v (.ext (.t 9) 1), none⟩, ⟨(some 4), .v (.mov (.t 12)), none⟩, ⟨(some 5), .v (.mov (.t 13)), none⟩])
    (.seq
     (.reg [⟨(some 14), .v (.load true 3 (.t 1)), none⟩, ⟨(some 15), .v (.mov (.t 4)), none⟩, ⟨(some 16), .call 76 [(.t 14), (.t 15)], none⟩, ⟨(some 2), .v (.mov (.t 16)), none⟩, ⟨(some 3), .v (.mov (.c (.bool true))), none⟩])
     .ret))))⟩
theorem e32 : rFunc Try.prog Try.f32 = some r32 := by kernel_rfl
def r39 : RFunc := ⟨53, [.t 2, .t 3],
 (.seq
  (.reg [⟨(some 1), .m (.box (.t 0)), none⟩, ⟨(some 2), .v (.mov (.c .nils)), none⟩, ⟨(some 3), .v (.mov (.c (.bool false))), none⟩])
  (.seq
   (.seq
    (.reg [⟨(some 12), .v (.load true 3 (.t 1)), none⟩, ⟨(some 13), .call 50 [(.t 12)], none⟩, ⟨(some 14), .v (.un .not (.t 13)), none⟩])
    (.cond (.t 14)
     (.seq
      (.reg [⟨(some 2), .v (.mov (.c .nils)), none⟩, ⟨(some 3), .v (.mov (.c (.bool false))), none⟩])
      .ret)
     .skip))
   (.seq
    (.reg [⟨(some 16), .v (.load true 3 (.t 1)), none⟩, ⟨(some 17), .call 72 [(.t 16)], none⟩, ⟨(some 15), .v (.mov (.t 17)), none⟩, ⟨(some 18), .v (.ext (.t 15) 0), none⟩, ⟨(some 19), .v (.ext (.t 15) 1), none⟩, ⟨(some 4), .v (.mov (.t 18)), none⟩, ⟨(some 5), .v (.mov (.t 19)), none⟩])
    (.seq
     (.reg [⟨(some 20), .m (.bsl 2 0 [(.int .i64 0), .nils] []), none⟩, ⟨(some 6), .v (.mov (.t 20)), none⟩])
     (.seq
      (.seq
       (.reg [⟨(some 21), .v (.load true 3 (.t 1)), none⟩, ⟨(some 22), .v (.mov (.t 4)), none⟩, ⟨(some 23), .call 76 [(.t 21), (.t 22)], none⟩, ⟨(some 24), .v (.len (.t 23)), none⟩, ⟨(some 25), .v (.mov (.c (.int .i64 0))), none⟩])
       (.block 0
        (.loop
         (.seq
          (.reg [⟨(some 26), .v (.bin .lss (.t 25) (.t 24)), none⟩])
          (.seq
           (.cond (.t 26)
            .skip
            (.exit 0))
           (.seq
            (.block 1
             (.seq
              (.reg [⟨(some 27), .v (.iaddr 1 (.t 23) (.t 25)), none⟩, ⟨(some 28), .v (.load false 1 (.t 27)), none⟩, ⟨(some 8), .v (.mov (.t 28)), none⟩])
              (.seq
               (.reg [⟨(some 29), .v (.faddr 0 (.t 1)), none⟩, ⟨(some 30), .v (.load false 1 (.t 29)), none⟩, ⟨(some 31), .call 67 [(.t 30)], none⟩, ⟨(some 9), .m (.alloc [(.int .i64 0), .nils]), none⟩, ⟨none, .m (.store 2 (.t 9) (.t 31)), none⟩])
               (.seq
                (.reg [⟨(some 32), .v (.mov (.t 8)), none⟩, ⟨(some 33), .call 81 [(.t 9), (.t 32), (.c (.bool true))], none⟩])
                (.seq
                 (.seq
                  (.reg [⟨(some 34), .v (.mov (.t 4)), none⟩, ⟨(some 35), .v (.len (.t 34)), none⟩, ⟨(some 36), .v (.mov (.c (.int .i64 0))), none⟩])
                  (.block 2
                   (.loop
                    (.seq
                     (.reg [⟨(some 37), .v (.bin .lss (.t 36) (.t 35)), none⟩])
                     (.seq
                      (.cond (.t 37)
                       .skip
                       (.exit 2))
                      (.seq
                       (.block 3
                        (.seq
                         (.reg [⟨(some 38), .v (.iaddr 4 (.t 34) (.t 36)), none⟩, ⟨(some 39), .v (.load true 4 (.t 38)), none⟩, ⟨(some 11), .m (.alloc [(.int .i64 0), .nils, (.bool false), (.int .u64 0)]), none⟩, ⟨none, .m (.store 4 (.t 11) (.t 39)), none⟩])
                         (.reg [⟨(some 40), .v (.faddr 0 (.t 11)), none⟩, ⟨(some 41), .call 69 [(.t 40), (.c (.int .i64 0)), (.c (.bool true))], none⟩, ⟨(some 42), .v (.faddr 0 (.t 11)), none⟩, ⟨(some 43), .v (.mov (.t 8)), none⟩, ⟨(some 44), .call 82 [(.t 42), (.t 43)], none⟩, ⟨(some 45), .call 81 [(.t 9), (.t 41), (.t 44)], none⟩])))
                       (.reg [⟨(some 46), .v (.bin .add (.t 36) (.c (.int .i64 1))), none⟩, ⟨(some 36), .v (.mov (.t 46)), none⟩])))))))
                 (.reg [⟨(some 47), .v (.mov (.t 6)), none⟩, ⟨(some 48), .v (.load true 2 (.t 9)), none⟩, ⟨(some 49), .m (.bsl 2 1 [(.int .i64 0), .nils] [(0, 2, (.t 48))]), none⟩, ⟨(some 50), .m (.app false 2 32 (.t 47) (.t 49)), none⟩, ⟨(some 6), .v (.mov (.t 50)), none⟩]))))))
            (.reg [⟨(some 51), .v (.bin .add (.t 25) (.c (.int .i64 1))), none⟩, ⟨(some 25), .v (.mov (.t 51)), none⟩])))))))
      (.seq
       (.reg [⟨(some 52), .v (.mov (.t 6)), none⟩, ⟨(some 2), .v (.mov (.t 52)), none⟩, ⟨(some 3), .v (.mov (.c (.bool true))), none⟩])
       .ret))))))⟩
theorem e39 : rFunc Try.prog Try.f39 = some r39 := by kernel_rfl
def r38 : RFunc := ⟨39, [.t 2, .t 3],
 (.seq
  (.reg [⟨(some 1), .m (.box (.t 0)), none⟩, ⟨(some 2), .v (.mov (.c .nils)), none⟩, ⟨(some 3), .v (.mov (.c (.bool false))), none⟩])
  (.seq
   (.seq
    (.reg [⟨(some 10), .v (.load true 3 (.t 1)), none⟩, ⟨(some 11), .call 59 [(.t 10)], none⟩, ⟨(some 12), .v (.un .not (.t 11)), none⟩])
    (.cond (.t 12)
     (.seq
      (.reg [⟨(some 2), .v (.mov (.c .nils)), none⟩, ⟨(some 3), .v (.mov (.c (.bool false))), none⟩])
      .ret)
     .skip))
   (.seq
    (.reg [⟨(some 14), .v (.load true 3 (.t 1)), none⟩, ⟨(some 15), .call 71 [(.t 14)], none⟩, ⟨(some 13), .v (.mov (.t 15)), none⟩, ⟨(some 16), .v (.ext (.t 13) 0), none⟩, ⟨(some 17), .v (.ext (.t 13) 1), none⟩, ⟨(some 4), .v (.mov (.t 16)), none⟩, ⟨(some 5), .v (.mov (.t 17)), none⟩])
    (.seq
     (.reg [⟨(some 6), .v (.mov (.c .nils)), none⟩])
     (.seq
      (.seq
       (.reg [⟨(some 18), .v (.load true 3 (.t 1)), none⟩, ⟨(some 19), .call 75 [(.t 18)], none⟩, ⟨(some 20), .v (.len (.t 19)), none⟩, ⟨(some 21), .v (.mov (.c (.int .i64 0))), none⟩])
       (.block 0
        (.loop
         (.seq
          (.reg [⟨(some 22), .v (.bin .lss (.t 21) (.t 20)), none⟩])
          (.seq
           (.cond (.t 22)
            .skip
            (.exit 0))
           (.seq
            (.block 1
             (.seq
              (.reg [⟨(some 23), .v (.iaddr 1 (.t 19) (.t 21)), none⟩, ⟨(some 24), .v (.load false 1 (.t 23)), none⟩, ⟨(some 8), .v (.mov (.t 24)), none⟩])
              (.seq
               (.reg [⟨(some 25), .v (.faddr 0 (.t 1)), none⟩, ⟨(some 26), .v (.load false 1 (.t 25)), none⟩, ⟨(some 27), .call 61 [(.t 26)], none⟩, ⟨(some 9), .m (.alloc [(.int .i64 0), .nils]), none⟩, ⟨none, .m (.store 2 (.t 9) (.t 27)), none⟩])
               (.seq
                (.reg [⟨(some 28), .v (.load true 2 (.t 9)), none⟩, ⟨(some 29), .v (.mov (.t 8)), none⟩, ⟨(some 30), .call 79 [(.t 28), (.t 29)], none⟩])
                (.reg [⟨(some 31), .v (.mov (.t 6)), none⟩, ⟨(some 32), .v (.mov (.t 4)), none⟩, ⟨(some 33), .v (.load true 2 (.t 9)), none⟩, ⟨(some 34), .call 80 [(.t 32), (.t 33), (.c (.bool false))], none⟩, ⟨(some 35), .m (.bsl 2 1 [(.int .i64 0), .nils] [(0, 2, (.t 34))]), none⟩, ⟨(some 36), .m (.app false 2 32 (.t 31) (.t 35)), none⟩, ⟨(some 6), .v (.mov (.t 36)), none⟩])))))
            (.reg [⟨(some 37), .v (.bin .add (.t 21) (.c (.int .i64 1))), none⟩, ⟨(some 21), .v (.mov (.t 37)), none⟩])))))))
      (.seq
       (.reg [⟨(some 38), .v (.mov (.t 6)), none⟩, ⟨(some 2), .v (.mov (.t 38)), none⟩, ⟨(some 3), .v (.mov (.c (.bool true))), none⟩])
       .ret))))))⟩
theorem e38 : rFunc Try.prog Try.f38 = some r38 := by kernel_rfl
def r45 : RFunc := ⟨26, [.t 4],
 (.seq
  (.reg [⟨(some 4), .v (.mov (.c (.bool false))), none⟩])
  (.seq
   (.seq
    (.reg [⟨(some 6), .v (.mov (.t 0)), none⟩, ⟨(some 7), .v (.len (.t 6)), none⟩, ⟨(some 8), .v (.mov (.t 1)), none⟩, ⟨(some 9), .v (.len (.t 8)), none⟩, ⟨(some 10), .v (.bin .neq (.t 7) (.t 9)), none⟩])
    (.cond (.t 10)
     (.seq
      (.reg [⟨(some 4), .v (.mov (.c (.bool false))), none⟩])
      .ret)
     .skip))
   (.seq
    (.seq
     (.reg [⟨(some 11), .v (.mov (.t 0)), none⟩, ⟨(some 12), .v (.len (.t 11)), none⟩, ⟨(some 13), .v (.mov (.c (.int .i64 0))), none⟩])
     (.block 0
      (.loop
       (.seq
        (.reg [⟨(some 14), .v (.bin .lss (.t 13) (.t 12)), none⟩])
        (.seq
         (.cond (.t 14)
          .skip
          (.exit 0))
         (.seq
          (.block 1
           (.seq
            (.reg [⟨(some 15), .v (.mov (.t 13)), none⟩, ⟨(some 5), .v (.mov (.t 15)), none⟩])
            (.seq
             (.dreg (.fl ⟨(some 16), .v (.mov (.t 0)), none⟩ (.fl ⟨(some 17), .v (.mov (.t 5)), none⟩ (.fl ⟨(some 18), .v (.iaddr 1 (.t 16) (.t 17)), none⟩ (.fl ⟨(some 19), .v (.load false 1 (.t 18)), none⟩ (.fl ⟨(some 20), .v (.mov (.t 1)), none⟩ (.fl ⟨(some 21), .v (.mov (.t 5)), none⟩ (.fl ⟨(some 22), .v (.iaddr 1 (.t 20) (.t 21)), none⟩ (.fl ⟨(some 23), .v (.load false 1 (.t 22)), none⟩ (.fl ⟨(some 24), .v (.bin .neq (.t 19) (.t 23)), none⟩ .done))))))))))
             (.cond (.t 24)
              (.seq
               (.reg [⟨(some 4), .v (.mov (.c (.bool false))), none⟩])
               .ret)
              .skip))))
          (.reg [⟨(some 25), .v (.bin .add (.t 13) (.c (.int .i64 1))), none⟩, ⟨(some 13), .v (.mov (.t 25)), none⟩])))))))
    (.seq
     (.reg [⟨(some 4), .v (.mov (.c (.bool true))), none⟩])
     .ret))))⟩
theorem e45 : rFunc Try.prog Try.f45 = some r45 := by kernel_rfl
def r34 : RFunc := ⟨19, [.cell true 2 2, .t 3],
 (.seq
  (.reg [⟨(some 1), .m (.box (.t 0)), none⟩, ⟨(some 2), .m (.alloc [(.int .i64 0), .nils]), none⟩, ⟨(some 3), .v (.mov (.c (.bool false))), none⟩])
  (.seq
   (.seq
    (.reg [⟨(some 6), .v (.load true 3 (.t 1)), none⟩, ⟨(some 7), .call 50 [(.t 6)], none⟩, ⟨(some 8), .v (.un .not (.t 7)), none⟩])
    (.cond (.t 8)
     (.seq
      (.reg [⟨(some 9), .v (.bld [(.int .i64 0), .nils] []), none⟩, ⟨none, .m (.store 2 (.t 2) (.t 9)), none⟩, ⟨(some 3), .v (.mov (.c (.bool false))), none⟩])
      .ret)
     .skip))
   (.seq
    (.reg [⟨(some 11), .v (.load true 3 (.t 1)), none⟩, ⟨(some 12), .call 78 [(.t 11)], none⟩, ⟨(some 10), .v (.mov (.t 12)), none⟩, ⟨(some 13), .v (.ext (.t 10) 0), none⟩, ⟨(some 14), .v (.ext (.t 10) 1), none⟩, ⟨(some 4), .m (.alloc [(.int .i64 0), .nils]), none⟩, ⟨none, .m (.store 2 (.t 4) (.t 13)), none⟩, ⟨(some 5), .v (.mov (.t 14)), none⟩])
    (.seq
     (.seq
      (.reg [⟨(some 15), .v (.mov (.t 5)), none⟩, ⟨(some 16), .v (.un .not (.t 15)), none⟩])
      (.cond (.t 16)
       (.seq
        (.reg [⟨(some 17), .v (.bld [(.int .i64 0), .nils] []), none⟩, ⟨none, .m (.store 2 (.t 2) (.t 17)), none⟩, ⟨(some 3), .v (.mov (.c (.bool false))), none⟩])
        .ret)
       .skip))
     (.seq
      (.reg [⟨(some 18), .v (.load true 2 (.t 4)), none⟩, ⟨none, .m (.store 2 (.t 2) (.t 18)), none⟩, ⟨(some 3), .v (.mov (.c (.bool true))), none⟩])
      .ret)))))⟩
theorem e34 : rFunc Try.prog Try.f34 = some r34 := by kernel_rfl
def r46 : RFunc := ⟨17, [.t 4],
 (.seq
  (.reg [⟨(some 2), .m (.box (.t 0)), none⟩, ⟨(some 3), .m (.box (.t 1)), none⟩, ⟨(some 4), .v (.mov (.c (.bool false))), none⟩])
  (.seq
   (.reg [⟨(some 5), .v (.faddr 0 (.t 2)), none⟩, ⟨(some 6), .v (.load false 1 (.t 5)), none⟩, ⟨(some 7), .v (.faddr 0 (.t 3)), none⟩, ⟨(some 8), .v (.load false 1 (.t 7)), none⟩, ⟨(some 9), .v (.bin .eql (.t 6) (.t 8)), none⟩, ⟨(some 10), .v (.mov (.t 9)), none⟩, ⟨(some 11), .v (.faddr 1 (.t 2)), (some (10, true))⟩, ⟨(some 12), .v (.load false 1 (.t 11)), (some (10, true))⟩, ⟨(some 13), .v (.faddr 1 (.t 3)), (some (10, true))⟩, ⟨(some 14), .v (.load false 1 (.t 13)), (some (10, true))⟩, ⟨(some 15), .call 45 [(.t 12), (.t 14)], (some (10, true))⟩, ⟨(some 16), .v (.pick (.t 10) (.t 15) (.c (.bool false))), none⟩, ⟨(some 4), .v (.mov (.t 16)), none⟩])
   .ret))⟩
theorem e46 : rFunc Try.prog Try.f46 = some r46 := by kernel_rfl
def r47 : RFunc := ⟨19, [.t 4, .t 5],
 (.seq
  (.reg [⟨(some 2), .m (.box (.t 0)), none⟩, ⟨(some 4), .v (.mov (.c (.bool false))), none⟩, ⟨(some 5), .v (.mov (.c (.bool false))), none⟩])
  (.seq
   (.seq
    (.reg [⟨(some 6), .v (.load true 2 (.t 2)), none⟩, ⟨(some 7), .call 86 [(.t 6)], none⟩, ⟨(some 8), .v (.un .not (.t 7)), none⟩, ⟨(some 9), .v (.mov (.t 8)), none⟩, ⟨(some 10), .v (.mov (.t 1)), (some (9, false))⟩, ⟨(some 11), .v (.faddr 0 (.t 2)), (some (9, false))⟩, ⟨(some 12), .v (.load false 1 (.t 11)), (some (9, false))⟩, ⟨(some 13), .v (.bin .sub (.t 12) (.c (.int .i64 1))), (some (9, false))⟩, ⟨(some 14), .call 87 [(.t 10), (.c (.int .i64 0)), (.t 13)], (some (9, false))⟩, ⟨(some 15), .v (.un .not (.t 14)), (some (9, false))⟩, ⟨(some 16), .v (.pick (.t 9) (.c (.bool true)) (.t 15)), none⟩])
    (.cond (.t 16)
     (.seq
      (.reg [⟨(some 4), .v (.mov (.c (.bool false))), none⟩, ⟨(some 5), .v (.mov (.c (.bool false))), none⟩])
      .ret)
     .skip))
   (.seq
    (.reg [⟨(some 17), .v (.mov (.t 1)), none⟩, ⟨(some 18), .call 82 [(.t 2), (.t 17)], none⟩, ⟨(some 4), .v (.mov (.t 18)), none⟩, ⟨(some 5), .v (.mov (.c (.bool true))), none⟩])
    .ret)))⟩
theorem e47 : rFunc Try.prog Try.f47 = some r47 := by kernel_rfl
def r48 : RFunc := ⟨45, [.cell true 2 4, .t 5],
 (.seq
  (.reg [⟨(some 2), .m (.box (.t 0)), none⟩, ⟨(some 3), .m (.box (.t 1)), none⟩, ⟨(some 4), .m (.alloc [(.int .i64 0), .nils]), none⟩, ⟨(some 5), .v (.mov (.c (.bool false))), none⟩])
  (.seq
   (.seq
    (.reg [⟨(some 9), .v (.load true 2 (.t 2)), none⟩, ⟨(some 10), .call 86 [(.t 9)], none⟩, ⟨(some 11), .v (.un .not (.t 10)), none⟩, ⟨(some 12), .v (.mov (.t 11)), none⟩, ⟨(some 13), .v (.load true 2 (.t 3)), (some (12, false))⟩, ⟨(some 14), .call 86 [(.t 13)], (some (12, false))⟩, ⟨(some 15), .v (.un .not (.t 14)), (some (12, false))⟩, ⟨(some 16), .v (.pick (.t 12) (.c (.bool true)) (.t 15)), none⟩, ⟨(some 17), .v (.mov (.t 16)), none⟩, ⟨(some 18), .v (.faddr 0 (.t 2)), (some (17, false))⟩, ⟨(some 19), .v (.load false 1 (.t 18)), (some (17, false))⟩, ⟨(some 20), .v (.faddr 0 (.t 3)), (some (17, false))⟩, ⟨(some 21), .v (.load false 1 (.t 20)), (some (17, false))⟩, ⟨(some 22), .v (.bin .neq (.t 19) (.t 21)), (some (17, false))⟩, ⟨(some 23), .v (.pick (.t 17) (.c (.bool true)) (.t 22)), none⟩])
    (.cond (.t 23)
     (.seq
      (.reg [⟨(some 24), .v (.bld [(.int .i64 0), .nils] []), none⟩, ⟨none, .m (.store 2 (.t 4) (.t 24)), none⟩, ⟨(some 5), .v (.mov (.c (.bool false))), none⟩])
      .ret)
     .skip))
   (.seq
    (.reg [⟨(some 25), .v (.load true 2 (.t 2)), none⟩, ⟨(some 26), .call 88 [(.t 25)], none⟩, ⟨(some 6), .m (.alloc [(.int .i64 0), .nils]), none⟩, ⟨none, .m (.store 2 (.t 6) (.t 26)), none⟩])
    (.seq
     (.seq
      (.reg [⟨(some 27), .v (.faddr 1 (.t 3)), none⟩, ⟨(some 28), .v (.load false 1 (.t 27)), none⟩, ⟨(some 29), .v (.len (.t 28)), none⟩, ⟨(some 30), .v (.mov (.c (.int .i64 0))), none⟩])
      (.block 0
       (.loop
        (.seq
         (.reg [⟨(some 31), .v (.bin .lss (.t 30) (.t 29)), none⟩])
         (.seq
          (.cond (.t 31)
           .skip
           (.exit 0))
          (.seq
           (.block 1
            (.seq
             (.reg [⟨(some 32), .v (.mov (.t 30)), none⟩, ⟨(some 33), .v (.iaddr 1 (.t 28) (.t 30)), none⟩, ⟨(some 34), .v (.load false 1 (.t 33)), none⟩, ⟨(some 7), .v (.mov (.t 32)), none⟩, ⟨(some 8), .v (.mov (.t 34)), none⟩])
             (.reg [⟨(some 35), .v (.faddr 1 (.t 6)), none⟩, ⟨(some 36), .v (.load false 1 (.t 35)), none⟩, ⟨(some 37), .v (.mov (.t 7)), none⟩, ⟨(some 38), .v (.iaddr 1 (.t 36) (.t 37)), none⟩, ⟨(some 39), .v (.load false 1 (.t 38)), none⟩, ⟨(some 40), .v (.mov (.t 8)), none⟩, ⟨(some 41), .v (.bin .xor (.t 39) (.t 40)), none⟩, ⟨(some 42), .v (.iaddr 1 (.t 36) (.t 37)), none⟩, ⟨none, .m (.store 1 (.t 42) (.t 41)), none⟩])))
           (.reg [⟨(some 43), .v (.bin .add (.t 30) (.c (.int .i64 1))), none⟩, ⟨(some 30), .v (.mov (.t 43)), none⟩])))))))
     (.seq
      (.reg [⟨(some 44), .v (.load true 2 (.t 6)), none⟩, ⟨none, .m (.store 2 (.t 4) (.t 44)), none⟩, ⟨(some 5), .v (.mov (.c (.bool true))), none⟩])
      .ret)))))⟩
theorem e48 : rFunc Try.prog Try.f48 = some r48 := by kernel_rfl
def r89 : RFunc := ⟨22, [.t 4],
 (.seq
  (.reg [⟨(some 2), .m (.box (.t 0)), none⟩, ⟨(some 3), .m (.box (.t 1)), none⟩, ⟨(some 4), .v (.mov (.c (.bool false))), none⟩])
  (.seq
   (.reg [⟨(some 5), .v (.mov (.c (.bool false))), none⟩])
   (.seq
    (.seq
     (.reg [⟨(some 7), .v (.faddr 0 (.t 2)), none⟩, ⟨(some 8), .v (.load false 1 (.t 7)), none⟩, ⟨(some 9), .v (.mov (.c (.int .i64 0))), none⟩])
     (.block 0
      (.loop
       (.seq
        (.reg [⟨(some 10), .v (.bin .lss (.t 9) (.t 8)), none⟩])
        (.seq
         (.cond (.t 10)
          .skip
          (.exit 0))
         (.seq
          (.block 1
           (.seq
            (.reg [⟨(some 11), .v (.mov (.t 9)), none⟩, ⟨(some 6), .v (.mov (.t 11)), none⟩])
            (.reg [⟨(some 12), .v (.mov (.t 5)), none⟩, ⟨(some 13), .v (.mov (.t 6)), none⟩, ⟨(some 14), .call 82 [(.t 2), (.t 13)], none⟩, ⟨(some 15), .v (.mov (.t 14)), none⟩, ⟨(some 16), .v (.mov (.t 6)), (some (15, true))⟩, ⟨(some 17), .call 82 [(.t 3), (.t 16)], (some (15, true))⟩, ⟨(some 18), .v (.pick (.t 15) (.t 17) (.c (.bool false))), none⟩, ⟨(some 19), .v (.beq true (.t 12) (.t 18)), none⟩, ⟨(some 5), .v (.mov (.t 19)), none⟩])))
          (.reg [⟨(some 20), .v (.bin .add (.t 9) (.c (.int .i64 1))), none⟩, ⟨(some 9), .v (.mov (.t 20)), none⟩])))))))
    (.seq
     (.reg [⟨(some 21), .v (.mov (.t 5)), none⟩, ⟨(some 4), .v (.mov (.t 21)), none⟩])
     .ret))))⟩
theorem e89 : rFunc Try.prog Try.f89 = some r89 := by kernel_rfl
def r49 : RFunc := ⟨39, [.t 4, .t 5],
 (.seq
  (.reg [⟨(some 2), .m (.box (.t 0)), none⟩, ⟨(some 3), .m (.box (.t 1)), none⟩, ⟨(some 4), .v (.mov (.c (.bool false))), none⟩, ⟨(some 5), .v (.mov (.c (.bool false))), none⟩])
  (.seq
   (.seq
    (.reg [⟨(some 8), .v (.load true 3 (.t 2)), none⟩, ⟨(some 9), .call 50 [(.t 8)], none⟩, ⟨(some 10), .v (.un .not (.t 9)), none⟩, ⟨(some 11), .v (.mov (.t 10)), none⟩, ⟨(some 12), .v (.load true 2 (.t 3)), (some (11, false))⟩, ⟨(some 13), .call 86 [(.t 12)], (some (11, false))⟩, ⟨(some 14), .v (.un .not (.t 13)), (some (11, false))⟩, ⟨(some 15), .v (.pick (.t 11) (.c (.bool true)) (.t 14)), none⟩])
    (.cond (.t 15)
     (.seq
      (.reg [⟨(some 4), .v (.mov (.c (.bool false))), none⟩, ⟨(some 5), .v (.mov (.c (.bool false))), none⟩])
      .ret)
     .skip))
   (.seq
    (.seq
     (.reg [⟨(some 16), .v (.faddr 0 (.t 3)), none⟩, ⟨(some 17), .v (.load false 1 (.t 16)), none⟩, ⟨(some 18), .v (.faddr 0 (.t 2)), none⟩, ⟨(some 19), .v (.load false 1 (.t 18)), none⟩, ⟨(some 20), .v (.bin .neq (.t 17) (.t 19)), none⟩])
     (.cond (.t 20)
      (.seq
       (.reg [⟨(some 4), .v (.mov (.c (.bool false))), none⟩, ⟨(some 5), .v (.mov (.c (.bool true))), none⟩])
       .ret)
      .skip))
    (.seq
     (.seq
      (.reg [⟨(some 21), .v (.faddr 1 (.t 2)), none⟩, ⟨(some 22), .v (.load false 1 (.t 21)), none⟩, ⟨(some 23), .v (.len (.t 22)), none⟩, ⟨(some 24), .v (.mov (.c (.int .i64 0))), none⟩])
      (.block 0
       (.loop
        (.seq
         (.reg [⟨(some 25), .v (.bin .lss (.t 24) (.t 23)), none⟩])
         (.seq
          (.cond (.t 25)
           .skip
           (.exit 0))
          (.seq
           (.block 1
            (.seq
             (.reg [⟨(some 26), .v (.mov (.t 24)), none⟩, ⟨(some 27), .v (.iaddr 2 (.t 22) (.t 24)), none⟩, ⟨(some 28), .v (.load true 2 (.t 27)), none⟩, ⟨(some 7), .m (.alloc [(.int .i64 0), .nils]), none⟩, ⟨(some 6), .v (.mov (.t 26)), none⟩, ⟨none, .m (.store 2 (.t 7) (.t 28)), none⟩])
             (.seq
              (.dreg (.fl ⟨(some 29), .v (.load true 2 (.t 7)), none⟩ (.fl ⟨(some 30), .v (.load true 2 (.t 3)), none⟩ (.fl ⟨(some 32), .v (.faddr 2 (.t 2)), none⟩ (.fl ⟨(some 33), .v (.load false 1 (.t 32)), none⟩ (.fl ⟨(some 34), .v (.mov (.t 6)), none⟩ (.fl ⟨(some 35), .v (.iaddr 1 (.t 33) (.t 34)), none⟩ (.fl ⟨(some 36), .v (.load false 1 (.t 35)), none⟩ (.nx ⟨(some 31), .call 89 [(.t 29), (.t 30)], none⟩ (.fl ⟨(some 37), .v (.beq true (.t 31) (.t 36)), none⟩ .done))))))))))
              (.cond (.t 37)
               (.seq
                (.reg [⟨(some 4), .v (.mov (.c (.bool false))), none⟩, ⟨(some 5), .v (.mov (.c (.bool true))), none⟩])
                .ret)
               .skip))))
           (.reg [⟨(some 38), .v (.bin .add (.t 24) (.c (.int .i64 1))), none⟩, ⟨(some 24), .v (.mov (.t 38)), none⟩])))))))
     (.seq
      (.reg [⟨(some 4), .v (.mov (.c (.bool true))), none⟩, ⟨(some 5), .v (.mov (.c (.bool true))), none⟩])
      .ret)))))⟩
theorem e49 : rFunc Try.prog Try.f49 = some r49 := by kernel_rfl
def r10 : RFunc := ⟨188, [.t 4],
 (.seq
  (.reg [⟨(some 4), .v (.mov (.c (.bool false))), none⟩])
  (.seq
   (.seq
    (.reg [⟨(some 30), .v (.mov (.t 0)), none⟩, ⟨(some 31), .v (.mov (.t 1)), none⟩, ⟨(some 32), .call 43 [(.t 30), (.t 31)], none⟩])
    (.cond (.t 32)
     (.seq
      (.reg [⟨(some 4), .v (.mov (.c (.bool true))), none⟩])
      .ret)
     .skip))
   (.seq
    (.reg [⟨(some 33), .v (.mov (.t 0)), none⟩, ⟨(some 34), .call 44 [(.t 33)], none⟩, ⟨(some 5), .m (.alloc [(.int .i64 0), .nils, .nils]), none⟩, ⟨none, .m (.store 3 (.t 5) (.t 34)), none⟩])
    (.seq
     (.reg [⟨(some 36), .v (.load true 3 (.t 5)), none⟩, ⟨(some 37), .call 25 [(.t 36)], none⟩, ⟨(some 35), .v (.mov (.t 37)), none⟩, ⟨(some 38), .v (.ext (.t 35) 0), none⟩, ⟨(some 39), .v (.ext (.t 35) 1), none⟩, ⟨(some 6), .v (.mov (.t 38)), none⟩, ⟨(some 7), .v (.mov (.t 39)), none⟩])
     (.seq
      (.reg [⟨(some 41), .v (.load true 3 (.t 5)), none⟩, ⟨(some 42), .call 24 [(.t 41)], none⟩, ⟨(some 40), .v (.mov (.t 42)), none⟩, ⟨(some 43), .v (.ext (.t 40) 0), none⟩, ⟨(some 44), .v (.ext (.t 40) 1), none⟩, ⟨(some 8), .v (.mov (.t 43)), none⟩, ⟨(some 9), .v (.mov (.t 44)), none⟩])
      (.seq
       (.reg [⟨(some 46), .v (.load true 3 (.t 5)), none⟩, ⟨(some 47), .call 32 [(.t 46)], none⟩, ⟨(some 45), .v (.mov (.t 47)), none⟩, ⟨(some 48), .v (.ext (.t 45) 0), none⟩, ⟨(some 49), .v (.ext (.t 45) 1), none⟩, ⟨(some 10), .v (.mov (.t 48)), none⟩, ⟨(some 11), .v (.mov (.t 49)), none⟩])
       (.seq
        (.reg [⟨(some 51), .v (.load true 3 (.t 5)), none⟩, ⟨(some 52), .call 31 [(.t 51)], none⟩, ⟨(some 50), .v (.mov (.t 52)), none⟩, ⟨(some 53), .v (.ext (.t 50) 0), none⟩, ⟨(some 54), .v (.ext (.t 50) 1), none⟩, ⟨(some 12), .v (.mov (.t 53)), none⟩, ⟨(some 13), .v (.mov (.t 54)), none⟩])
        (.seq
         (.reg [⟨(some 56), .v (.load true 3 (.t 5)), none⟩, ⟨(some 57), .call 39 [(.t 56)], none⟩, ⟨(some 55), .v (.mov (.t 57)), none⟩, ⟨(some 58), .v (.ext (.t 55) 0), none⟩, ⟨(some 59), .v (.ext (.t 55) 1), none⟩, ⟨(some 14), .v (.mov (.t 58)), none⟩, ⟨(some 15), .v (.mov (.t 59)), none⟩])
         (.seq
          (.reg [⟨(some 61), .v (.load true 3 (.t 5)), none⟩, ⟨(some 62), .call 38 [(.t 61)], none⟩, ⟨(some 60), .v (.mov (.t 62)), none⟩, ⟨(some 63), .v (.ext (.t 60) 0), none⟩, ⟨(some 64), .v (.ext (.t 60) 1), none⟩, ⟨(some 16), .v (.mov (.t 63)), none⟩, ⟨(some 17), .v (.mov (.t 64)), none⟩])
          (.seq
           (.seq
            (.reg [⟨(some 65), .v (.mov (.t 7)), none⟩, ⟨(some 66), .v (.mov (.t 9)), none⟩, ⟨(some 67), .v (.beq true (.t 65) (.t 66)), none⟩, ⟨(some 68), .v (.mov (.t 67)), none⟩, ⟨(some 69), .v (.mov (.t 6)), (some (68, false))⟩, ⟨(some 70), .v (.mov (.t 8)), (some (68, false))⟩, ⟨(some 71), .v (.bin .neq (.t 69) (.t 70)), (some (68, false))⟩, ⟨(some 72), .v (.pick (.t 68) (.c (.bool true)) (.t 71)), none⟩, ⟨(some 73), .v (.mov (.t 72)), none⟩, ⟨(some 74), .v (.mov (.t 11)), (some (73, false))⟩, ⟨(some 75), .v (.mov (.t 13)), (some (73, false))⟩, ⟨(some 76), .v (.beq true (.t 74) (.t 75)), (some (73, false))⟩, ⟨(some 77), .v (.pick (.t 73) (.c (.bool true)) (.t 76)), none⟩, ⟨(some 78), .v (.mov (.t 77)), none⟩, ⟨(some 79), .v (.mov (.t 10)), (some (78, false))⟩, ⟨(some 80), .v (.mov (.t 12)), (some (78, false))⟩, ⟨(some 81), .call 45 [(.t 79), (.t 80)], (some (78, false))⟩, ⟨(some 82), .v (.un .not (.t 81)), (some (78, false))⟩, ⟨(some 83), .v (.pick (.t 78) (.c (.bool true)) (.t 82)), none⟩, ⟨(some 84), .v (.mov (.t 83)), none⟩, ⟨(some 85), .v (.mov (.t 15)), (some (84, false))⟩, ⟨(some 86), .v (.mov (.t 17)), (some (84, false))⟩, ⟨(some 87), .v (.beq true (.t 85) (.t 86)), (some (84, false))⟩, ⟨(some 88), .v (.pick (.t 84) (.c (.bool true)) (.t 87)), none⟩, ⟨(some 89), .v (.mov (.t 88)), none⟩, ⟨(some 90), .v (.mov (.t 14)), (some (89, false))⟩, ⟨(some 91), .v (.len (.t 90)), (some (89, false))⟩, ⟨(some 92), .v (.mov (.t 16)), (some (89, false))⟩, ⟨(some 93), .v (.len (.t 92)), (some (89, false))⟩, ⟨(some 94), .v (.bin .neq (.t 91) (.t 93)), (some (89, false))⟩, ⟨(some 95), .v (.pick (.t 89) (.c (.bool true)) (.t 94)), none⟩, ⟨(some 96), .v (.mov (.t 95)), none⟩, ⟨(some 97), .v (.mov (.t 7)), (some (96, false))⟩, ⟨(some 98), .v (.mov (.t 11)), (some (96, false))⟩, ⟨(some 99), .v (.beq true (.t 97) (.t 98)), (some (96, false))⟩, ⟨(some 100), .v (.pick (.t 96) (.c (.bool true)) (.t 99)), none⟩, ⟨(some 101), .v (.mov (.t 100)), none⟩, ⟨(some 102), .v (.mov (.t 7)), (some (101, false))⟩, ⟨(some 103), .v (.mov (.t 15)), (some (101, false))⟩, ⟨(some 104), .v (.beq true (.t 102) (.t 103)), (some (101, false))⟩, ⟨(some 105), .v (.pick (.t 101) (.c (.bool true)) (.t 104)), none⟩])
            (.cond (.t 105)
             (.seq
              (.reg [⟨(some 4), .v (.mov (.c (.bool false))), none⟩])
              .ret)
             .skip))
           (.seq
            (.seq
             (.reg [⟨(some 106), .v (.mov (.t 7)), none⟩, ⟨(some 107), .v (.un .not (.t 106)), none⟩])
             (.cond (.t 107)
              (.seq
               (.reg [⟨(some 4), .v (.mov (.c (.bool true))), none⟩])
               .ret)
              .skip))
            (.seq
             (.seq
              (.reg [⟨(some 108), .v (.mov (.t 6)), none⟩, ⟨(some 109), .v (.mov (.t 10)), none⟩, ⟨(some 110), .v (.len (.t 109)), none⟩, ⟨(some 111), .v (.bin .add (.t 108) (.t 110)), none⟩, ⟨(some 112), .v (.faddr 0 (.t 5)), none⟩, ⟨(some 113), .v (.load false 1 (.t 112)), none⟩, ⟨(some 114), .v (.bin .neq (.t 111) (.t 113)), none⟩, ⟨(some 115), .v (.mov (.t 114)), none⟩, ⟨(some 116), .v (.mov (.t 14)), (some (115, false))⟩, ⟨(some 117), .v (.len (.t 116)), (some (115, false))⟩, ⟨(some 118), .v (.mov (.t 10)), (some (115, false))⟩, ⟨(some 119), .v (.len (.t 118)), (some (115, false))⟩, ⟨(some 120), .v (.bin .neq (.t 117) (.t 119)), (some (115, false))⟩, ⟨(some 121), .v (.pick (.t 115) (.c (.bool true)) (.t 120)), none⟩])
              (.cond (.t 121)
               (.seq
                (.reg [⟨(some 4), .v (.mov (.c (.bool false))), none⟩])
                .ret)
               .skip))
             (.seq
              (.reg [⟨(some 123), .v (.load true 3 (.t 5)), none⟩, ⟨(some 124), .call 34 [(.t 123)], none⟩, ⟨(some 122), .v (.mov (.t 124)), none⟩, ⟨(some 125), .v (.ext (.t 122) 0), none⟩, ⟨(some 126), .v (.ext (.t 122) 1), none⟩, ⟨(some 18), .m (.alloc [(.int .i64 0), .nils]), none⟩, ⟨none, .m (.store 2 (.t 18) (.t 125)), none⟩, ⟨(some 19), .v (.mov (.t 126)), none⟩])
              (.seq
               (.seq
                (.reg [⟨(some 127), .v (.mov (.t 14)), none⟩, ⟨(some 128), .v (.len (.t 127)), none⟩, ⟨(some 129), .v (.mov (.c (.int .i64 0))), none⟩])
                (.block 0
                 (.loop
                  (.seq
                   (.reg [⟨(some 130), .v (.bin .lss (.t 129) (.t 128)), none⟩])
                   (.seq
                    (.cond (.t 130)
                     .skip
                     (.exit 0))
                    (.seq
                     (.block 1
                      (.seq
                       (.reg [⟨(some 131), .v (.mov (.t 129)), none⟩, ⟨(some 132), .v (.iaddr 2 (.t 127) (.t 129)), none⟩, ⟨(some 133), .v (.load true 2 (.t 132)), none⟩, ⟨(some 21), .m (.alloc [(.int .i64 0), .nils]), none⟩, ⟨(some 20), .v (.mov (.t 131)), none⟩, ⟨none, .m (.store 2 (.t 21) (.t 133)), none⟩])
                       (.seq
                        (.seq
                         (.dreg (.fl ⟨(some 134), .v (.load true 2 (.t 21)), none⟩ (.fl ⟨(some 135), .v (.mov (.t 16)), none⟩ (.fl ⟨(some 136), .v (.mov (.t 20)), none⟩ (.fl ⟨(some 137), .v (.iaddr 2 (.t 135) (.t 136)), none⟩ (.fl ⟨(some 138), .v (.load true 2 (.t 137)), none⟩ (.nx ⟨(some 139), .call 46 [(.t 134), (.t 138)], none⟩ (.fl ⟨(some 140), .v (.un .not (.t 139)), none⟩ .done))))))))
                         (.cond (.t 140)
                          (.seq
                           (.reg [⟨(some 4), .v (.mov (.c (.bool false))), none⟩])
                           .ret)
                          .skip))
                        (.seq
                         (.seq
                          (.reg [⟨(some 141), .v (.mov (.t 10)), none⟩, ⟨(some 142), .v (.len (.t 141)), none⟩, ⟨(some 143), .v (.mov (.c (.int .i64 0))), none⟩])
                          (.block 2
                           (.loop
                            (.seq
                             (.reg [⟨(some 144), .v (.bin .lss (.t 143) (.t 142)), none⟩])
                             (.seq
                              (.cond (.t 144)
                               .skip
                               (.exit 2))
                              (.seq
                               (.block 3
                                (.seq
                                 (.reg [⟨(some 145), .v (.mov (.t 143)), none⟩, ⟨(some 146), .v (.iaddr 1 (.t 141) (.t 143)), none⟩, ⟨(some 147), .v (.load false 1 (.t 146)), none⟩, ⟨(some 22), .v (.mov (.t 145)), none⟩, ⟨(some 23), .v (.mov (.t 147)), none⟩])
                                 (.seq
                                  (.reg [⟨(some 149), .v (.load true 2 (.t 21)), none⟩, ⟨(some 150), .v (.mov (.t 23)), none⟩, ⟨(some 151), .call 47 [(.t 149), (.t 150)], none⟩, ⟨(some 148), .v (.mov (.t 151)), none⟩, ⟨(some 152), .v (.ext (.t 148) 0), none⟩, ⟨(some 153), .v (.ext (.t 148) 1), none⟩, ⟨(some 24), .v (.mov (.t 152)), none⟩, ⟨(some 25), .v (.mov (.t 153)), none⟩])
                                  (.seq
                                   (.reg [⟨(some 154), .v (.mov (.t 25)), none⟩, ⟨(some 155), .v (.un .not (.t 154)), none⟩, ⟨(some 156), .v (.mov (.t 155)), none⟩, ⟨(some 157), .v (.mov (.t 24)), (some (156, false))⟩, ⟨(some 158), .v (.mov (.t 22)), (some (156, false))⟩, ⟨(some 159), .v (.mov (.t 20)), (some (156, false))⟩, ⟨(some 160), .v (.bin .eql (.t 158) (.t 159)), (some (156, false))⟩, ⟨(some 161), .v (.beq true (.t 157) (.t 160)), (some (156, false))⟩, ⟨(some 162), .v (.pick (.t 156) (.c (.bool true)) (.t 161)), none⟩])
                                   (.cond (.t 162)
                                    (.seq
                                     (.reg [⟨(some 4), .v (.mov (.c (.bool false))), none⟩])
                                     .ret)
                                    .skip)))))
                               (.reg [⟨(some 163), .v (.bin .add (.t 143) (.c (.int .i64 1))), none⟩, ⟨(some 143), .v (.mov (.t 163)), none⟩])))))))
                         (.seq
                          (.reg [⟨(some 164), .v (.mov (.t 19)), none⟩])
                          (.cond (.t 164)
                           (.seq
                            (.reg [⟨(some 166), .v (.load true 2 (.t 18)), none⟩, ⟨(some 167), .v (.load true 2 (.t 21)), none⟩, ⟨(some 168), .call 48 [(.t 166), (.t 167)], none⟩, ⟨(some 165), .v (.mov (.t 168)), none⟩, ⟨(some 169), .v (.ext (.t 165) 0), none⟩, ⟨(some 170), .v (.ext (.t 165) 1), none⟩, ⟨(some 26), .m (.alloc [(.int .i64 0), .nils]), none⟩, ⟨none, .m (.store 2 (.t 26) (.t 169)), none⟩, ⟨(some 27), .v (.mov (.t 170)), none⟩])
                            (.seq
                             (.reg [⟨(some 172), .v (.load true 3 (.t 5)), none⟩, ⟨(some 173), .v (.load true 2 (.t 26)), none⟩, ⟨(some 174), .call 49 [(.t 172), (.t 173)], none⟩, ⟨(some 171), .v (.mov (.t 174)), none⟩, ⟨(some 175), .v (.ext (.t 171) 0), none⟩, ⟨(some 176), .v (.ext (.t 171) 1), none⟩, ⟨(some 28), .v (.mov (.t 175)), none⟩, ⟨(some 29), .v (.mov (.t 176)), none⟩])
                             (.seq
                              (.reg [⟨(some 177), .v (.mov (.t 27)), none⟩, ⟨(some 178), .v (.un .not (.t 177)), none⟩, ⟨(some 179), .v (.mov (.t 178)), none⟩, ⟨(some 180), .v (.mov (.t 29)), (some (179, false))⟩, ⟨(some 181), .v (.un .not (.t 180)), (some (179, false))⟩, ⟨(some 182), .v (.pick (.t 179) (.c (.bool true)) (.t 181)), none⟩, ⟨(some 183), .v (.mov (.t 182)), none⟩, ⟨(some 184), .v (.mov (.t 28)), (some (183, false))⟩, ⟨(some 185), .v (.un .not (.t 184)), (some (183, false))⟩, ⟨(some 186), .v (.pick (.t 183) (.c (.bool true)) (.t 185)), none⟩])
                              (.cond (.t 186)
                               (.seq
                                (.reg [⟨(some 4), .v (.mov (.c (.bool false))), none⟩])
                                .ret)
                               .skip))))
                           .skip))))))
                     (.reg [⟨(some 187), .v (.bin .add (.t 129) (.c (.int .i64 1))), none⟩, ⟨(some 129), .v (.mov (.t 187)), none⟩])))))))
               (.seq
                (.reg [⟨(some 4), .v (.mov (.c (.bool true))), none⟩])
                .ret)))))))))))))))⟩
theorem e10 : rFunc Try.prog Try.f10 = some r10 := by kernel_rfl
end Go.Proofs.Ytgkdnpigbpkehaa.M

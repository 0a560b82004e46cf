/-
  The resolved text of the functions, each tied to the program's own by the kernel.
-/
import Derived.Test.YtgkdnpigbpkehaaProg
import Derived.Test.YtgkdnpigbpkehaaFa
namespace Go.Proofs.Ytgkdnpigbpkehaa.M
open Go Go.RowKit
set_option maxRecDepth 100000

def r113 : RFunc := ⟨16, [.t 4],
 (.seq
  (.reg [⟨(some 2), .m (.box (.t 0)), none⟩, ⟨(some 4), .v (.mov (.c (.bool false))), none⟩])
  (.seq
   (.reg [⟨(some 5), .v (.faddr 1 (.t 2)), none⟩, ⟨(some 6), .v (.load false 1 (.t 5)), none⟩, ⟨(some 7), .v (.mov (.t 1)), none⟩, ⟨(some 8), .v (.bin .quo (.t 7) (.c (.int .i64 16))), none⟩, ⟨(some 9), .v (.iaddr 1 (.t 6) (.t 8)), none⟩, ⟨(some 10), .v (.load false 1 (.t 9)), none⟩, ⟨(some 11), .v (.mov (.t 1)), none⟩, ⟨(some 12), .v (.bin .rem (.t 11) (.c (.int .i64 16))), none⟩, ⟨(some 13), .v (.bin .shr (.t 10) (.t 12)), none⟩, ⟨(some 14), .v (.bin .and (.t 13) (.c (.int .i64 1))), none⟩, ⟨(some 15), .v (.bin .eql (.t 14) (.c (.int .i64 1))), none⟩, ⟨(some 4), .v (.mov (.t 15)), none⟩])
   .ret))⟩
theorem e113 : rFunc Try.prog Try.f113 = some r113 := by kernel_rfl
def r102 : RFunc := ⟨21, [.t 6],
 (.seq
  (.reg [⟨(some 3), .m (.box (.t 0)), none⟩, ⟨(some 6), .v (.mov (.c (.int .i64 0))), none⟩])
  (.seq
   (.seq
    (.reg [⟨(some 8), .v (.mov (.t 1)), none⟩, ⟨(some 7), .v (.mov (.t 8)), none⟩])
    (.block 0
     (.loop
      (.seq
       (.seq
        (.reg [⟨(some 9), .v (.mov (.t 7)), none⟩, ⟨(some 10), .v (.faddr 0 (.t 3)), none⟩, ⟨(some 11), .v (.load false 1 (.t 10)), none⟩, ⟨(some 12), .v (.bin .lss (.t 9) (.t 11)), none⟩])
        (.cond (.t 12)
         .skip
         (.exit 0)))
       (.seq
        (.block 1
         (.seq
          (.reg [⟨(some 15), .v (.load true 2 (.t 3)), none⟩, ⟨(some 16), .v (.mov (.t 7)), none⟩, ⟨(some 17), .call 113 [(.t 15), (.t 16)], none⟩, ⟨(some 18), .v (.mov (.t 2)), none⟩, ⟨(some 19), .v (.beq false (.t 17) (.t 18)), none⟩])
          (.cond (.t 19)
           (.seq
            (.reg [⟨(some 20), .v (.mov (.t 7)), none⟩, ⟨(some 6), .v (.mov (.t 20)), none⟩])
            .ret)
           .skip)))
        (.reg [⟨(some 13), .v (.mov (.t 7)), none⟩, ⟨(some 14), .v (.bin .add (.t 13) (.c (.int .i64 1))), none⟩, ⟨(some 7), .v (.mov (.t 14)), none⟩]))))))
   (.seq
    (.reg [⟨(some 6), .v (.mov (.c (.int .i64 (-1)))), none⟩])
    .ret)))⟩
theorem e102 : rFunc Try.prog Try.f102 = some r102 := by kernel_rfl
def r63 : RFunc := ⟨5, [.t 2],
 (.seq
  (.reg [⟨(some 1), .m (.box (.t 0)), none⟩, ⟨(some 2), .v (.mov (.c (.int .i64 0))), none⟩])
  (.seq
   (.reg [⟨(some 3), .v (.load true 2 (.t 1)), none⟩, ⟨(some 4), .call 102 [(.t 3), (.c (.int .i64 0)), (.c (.bool true))], none⟩, ⟨(some 2), .v (.mov (.t 4)), none⟩])
   .ret))⟩
theorem e63 : rFunc Try.prog Try.f63 = some r63 := by kernel_rfl
def r61 : RFunc := ⟨9, [.cell true 2 2],
 (.seq
  (.reg [⟨(some 2), .m (.alloc [(.int .i64 0), .nils]), none⟩])
  (.seq
   (.reg [⟨(some 3), .v (.mov (.t 0)), none⟩, ⟨(some 4), .v (.mov (.t 0)), none⟩, ⟨(some 5), .v (.bin .add (.t 4) (.c (.int .i64 15))), none⟩, ⟨(some 6), .v (.bin .quo (.t 5) (.c (.int .i64 16))), none⟩, ⟨(some 7), .m (.mks 1 8 [(.int .i64 0)] (.t 6) (.t 6)), none⟩, ⟨(some 8), .v (.bld [(.int .i64 0), .nils] [(0, 1, (.t 3)), (1, 1, (.t 7))]), none⟩, ⟨none, .m (.store 2 (.t 2) (.t 8)), none⟩])
   .ret))⟩
theorem e61 : rFunc Try.prog Try.f61 = some r61 := by kernel_rfl
def r79 : RFunc := ⟨15, [],
 (.seq
  (.reg [⟨(some 2), .m (.box (.t 0)), none⟩])
  (.dreg (.fl ⟨(some 4), .v (.faddr 1 (.t 2)), none⟩ (.fl ⟨(some 6), .v (.mov (.t 1)), none⟩ (.fl ⟨(some 7), .v (.bin .quo (.t 6) (.c (.int .i64 16))), none⟩ (.fl ⟨(some 10), .v (.mov (.t 1)), none⟩ (.fl ⟨(some 11), .v (.bin .rem (.t 10) (.c (.int .i64 16))), none⟩ (.fl ⟨(some 12), .v (.bin .shl (.c (.int .i64 1)) (.t 11)), none⟩ (.nx ⟨(some 5), .v (.load false 1 (.t 4)), none⟩ (.fl ⟨(some 8), .v (.iaddr 1 (.t 5) (.t 7)), none⟩ (.nx ⟨(some 9), .v (.load false 1 (.t 8)), none⟩ (.fl ⟨(some 13), .v (.bin .or (.t 9) (.t 12)), none⟩ (.fl ⟨(some 14), .v (.iaddr 1 (.t 5) (.t 7)), none⟩ (.nx ⟨none, .m (.store 1 (.t 14) (.t 13)), none⟩ .done))))))))))))))⟩
theorem e79 : rFunc Try.prog Try.f79 = some r79 := by kernel_rfl
def r99 : RFunc := ⟨27, [.cell true 2 4],
 (.seq
  (.reg [⟨(some 2), .m (.box (.t 0)), none⟩, ⟨(some 3), .m (.box (.t 1)), none⟩, ⟨(some 4), .m (.alloc [(.int .i64 0), .nils]), none⟩])
  (.seq
   (.reg [⟨(some 7), .v (.faddr 0 (.t 2)), none⟩, ⟨(some 8), .v (.load false 1 (.t 7)), none⟩, ⟨(some 9), .call 61 [(.t 8)], none⟩, ⟨(some 5), .m (.alloc [(.int .i64 0), .nils]), none⟩, ⟨none, .m (.store 2 (.t 5) (.t 9)), none⟩])
   (.seq
    (.seq
     (.reg [⟨(some 6), .v (.mov (.c (.int .i64 0))), none⟩])
     (.block 0
      (.loop
       (.seq
        (.seq
         (.reg [⟨(some 10), .v (.mov (.t 6)), none⟩, ⟨(some 11), .v (.faddr 0 (.t 2)), none⟩, ⟨(some 12), .v (.load false 1 (.t 11)), none⟩, ⟨(some 13), .v (.bin .lss (.t 10) (.t 12)), none⟩])
         (.cond (.t 13)
          .skip
          (.exit 0)))
        (.seq
         (.block 1
          (.seq
           (.dreg (.fl ⟨(some 16), .v (.load true 2 (.t 2)), none⟩ (.fl ⟨(some 17), .v (.mov (.t 6)), none⟩ (.fl ⟨(some 19), .v (.load true 2 (.t 3)), none⟩ (.fl ⟨(some 20), .v (.mov (.t 6)), none⟩ (.nx ⟨(some 18), .call 113 [(.t 16), (.t 17)], none⟩ (.nx ⟨(some 21), .call 113 [(.t 19), (.t 20)], none⟩ (.fl ⟨(some 22), .v (.beq true (.t 18) (.t 21)), none⟩ .done))))))))
           (.cond (.t 22)
            (.reg [⟨(some 23), .v (.load true 2 (.t 5)), none⟩, ⟨(some 24), .v (.mov (.t 6)), none⟩, ⟨(some 25), .call 79 [(.t 23), (.t 24)], none⟩])
            .skip)))
         (.reg [⟨(some 14), .v (.mov (.t 6)), none⟩, ⟨(some 15), .v (.bin .add (.t 14) (.c (.int .i64 1))), none⟩, ⟨(some 6), .v (.mov (.t 15)), none⟩]))))))
    (.seq
     (.reg [⟨(some 26), .v (.load true 2 (.t 5)), none⟩, ⟨none, .m (.store 2 (.t 4) (.t 26)), none⟩])
     .ret))))⟩
theorem e99 : rFunc Try.prog Try.f99 = some r99 := by kernel_rfl
def r100 : RFunc := ⟨17, [.t 4],
 (.seq
  (.reg [⟨(some 4), .v (.mov (.c (.bool false))), none⟩])
  (.seq
   (.seq
    (.reg [⟨(some 7), .v (.mov (.t 0)), none⟩, ⟨(some 8), .v (.len (.t 7)), none⟩, ⟨(some 9), .v (.mov (.c (.int .i64 0))), none⟩])
    (.block 0
     (.loop
      (.seq
       (.reg [⟨(some 10), .v (.bin .lss (.t 9) (.t 8)), none⟩])
       (.seq
        (.cond (.t 10)
         .skip
         (.exit 0))
        (.seq
         (.block 1
          (.seq
           (.reg [⟨(some 11), .v (.iaddr 1 (.t 7) (.t 9)), none⟩, ⟨(some 12), .v (.load false 1 (.t 11)), none⟩, ⟨(some 6), .v (.mov (.t 12)), none⟩])
           (.seq
            (.reg [⟨(some 13), .v (.mov (.t 6)), none⟩, ⟨(some 14), .v (.mov (.t 1)), none⟩, ⟨(some 15), .v (.bin .eql (.t 13) (.t 14)), none⟩])
            (.cond (.t 15)
             (.seq
              (.reg [⟨(some 4), .v (.mov (.c (.bool true))), none⟩])
              .ret)
             .skip))))
         (.reg [⟨(some 16), .v (.bin .add (.t 9) (.c (.int .i64 1))), none⟩, ⟨(some 9), .v (.mov (.t 16)), none⟩])))))))
   (.seq
    (.reg [⟨(some 4), .v (.mov (.c (.bool false))), none⟩])
    .ret)))⟩
theorem e100 : rFunc Try.prog Try.f100 = some r100 := by kernel_rfl
def r101 : RFunc := ⟨48, [.t 4],
 (.seq
  (.reg [⟨(some 4), .v (.mov (.c .nils)), none⟩])
  (.seq
   (.reg [⟨(some 5), .v (.mov (.c (.int .i64 0))), none⟩])
   (.seq
    (.block 0
     (.loop
      (.seq
       (.seq
        (.reg [⟨(some 7), .v (.mov (.t 5)), none⟩, ⟨(some 8), .v (.mov (.t 0)), none⟩, ⟨(some 9), .v (.len (.t 8)), none⟩, ⟨(some 10), .v (.bin .lss (.t 7) (.t 9)), none⟩, ⟨(some 11), .v (.mov (.t 10)), none⟩, ⟨(some 12), .v (.mov (.t 0)), (some (11, true))⟩, ⟨(some 13), .v (.mov (.t 5)), (some (11, true))⟩, ⟨(some 14), .v (.iaddr 1 (.t 12) (.t 13)), (some (11, true))⟩, ⟨(some 15), .v (.load false 1 (.t 14)), (some (11, true))⟩, ⟨(some 16), .v (.mov (.t 1)), (some (11, true))⟩, ⟨(some 17), .v (.bin .lss (.t 15) (.t 16)), (some (11, true))⟩, ⟨(some 18), .v (.pick (.t 11) (.t 17) (.c (.bool false))), none⟩])
        (.cond (.t 18)
         .skip
         (.exit 0)))
       (.block 1
        (.reg [⟨(some 19), .v (.mov (.t 5)), none⟩, ⟨(some 20), .v (.bin .add (.t 19) (.c (.int .i64 1))), none⟩, ⟨(some 5), .v (.mov (.t 20)), none⟩])))))
    (.seq
     (.seq
      (.reg [⟨(some 21), .v (.mov (.t 5)), none⟩, ⟨(some 22), .v (.mov (.t 0)), none⟩, ⟨(some 23), .v (.len (.t 22)), none⟩, ⟨(some 24), .v (.bin .lss (.t 21) (.t 23)), none⟩, ⟨(some 25), .v (.mov (.t 24)), none⟩, ⟨(some 26), .v (.mov (.t 0)), (some (25, true))⟩, ⟨(some 27), .v (.mov (.t 5)), (some (25, true))⟩, ⟨(some 28), .v (.iaddr 1 (.t 26) (.t 27)), (some (25, true))⟩, ⟨(some 29), .v (.load false 1 (.t 28)), (some (25, true))⟩, ⟨(some 30), .v (.mov (.t 1)), (some (25, true))⟩, ⟨(some 31), .v (.bin .eql (.t 29) (.t 30)), (some (25, true))⟩, ⟨(some 32), .v (.pick (.t 25) (.t 31) (.c (.bool false))), none⟩])
      (.cond (.t 32)
       (.seq
        (.reg [⟨(some 33), .v (.mov (.t 0)), none⟩, ⟨(some 4), .v (.mov (.t 33)), none⟩])
        .ret)
       .skip))
     (.seq
      (.reg [⟨(some 34), .m (.bsl 1 0 [(.int .i64 0)] []), none⟩, ⟨(some 35), .v (.mov (.t 0)), none⟩, ⟨(some 36), .v (.mov (.t 5)), none⟩, ⟨(some 37), .v (.slc 1 (.t 35) none (some (.t 36))), none⟩, ⟨(some 38), .m (.app false 1 8 (.t 34) (.t 37)), none⟩, ⟨(some 6), .v (.mov (.t 38)), none⟩])
      (.seq
       (.reg [⟨(some 39), .v (.mov (.t 6)), none⟩, ⟨(some 40), .v (.mov (.t 1)), none⟩, ⟨(some 41), .m (.bsl 1 1 [(.int .i64 0)] [(0, 1, (.t 40))]), none⟩, ⟨(some 42), .m (.app false 1 8 (.t 39) (.t 41)), none⟩, ⟨(some 6), .v (.mov (.t 42)), none⟩])
       (.seq
        (.reg [⟨(some 43), .v (.mov (.t 6)), none⟩, ⟨(some 44), .v (.mov (.t 0)), none⟩, ⟨(some 45), .v (.mov (.t 5)), none⟩, ⟨(some 46), .v (.slc 1 (.t 44) (some (.t 45)) none), none⟩, ⟨(some 47), .m (.app false 1 8 (.t 43) (.t 46)), none⟩, ⟨(some 4), .v (.mov (.t 47)), none⟩])
        .ret)))))))⟩
theorem e101 : rFunc Try.prog Try.f101 = some r101 := by kernel_rfl
def r62 : RFunc := ⟨58, [.cell true 4 4],
 (.seq
  (.reg [⟨(some 2), .m (.box (.t 0)), none⟩, ⟨(some 3), .m (.box (.t 1)), none⟩, ⟨(some 4), .m (.alloc [(.int .i64 0), .nils, (.bool false), .nils]), none⟩])
  (.seq
   (.dreg (.fl ⟨(some 10), .v (.faddr 0 (.t 2)), none⟩ (.fl ⟨(some 11), .v (.load true 2 (.t 10)), none⟩ (.fl ⟨(some 12), .v (.faddr 0 (.t 3)), none⟩ (.fl ⟨(some 13), .v (.load true 2 (.t 12)), none⟩ (.fl ⟨(some 15), .v (.faddr 2 (.t 2)), none⟩ (.fl ⟨(some 16), .v (.load false 1 (.t 15)), none⟩ (.fl ⟨(some 17), .v (.faddr 2 (.t 3)), none⟩ (.fl ⟨(some 18), .v (.load false 1 (.t 17)), none⟩ (.fl ⟨(some 19), .v (.beq true (.t 16) (.t 18)), none⟩ (.both (.nx ⟨(some 14), .call 99 [(.t 11), (.t 13)], none⟩ (.fl ⟨(some 20), .v (.bld [(.int .i64 0), .nils, (.bool false), .nils] [(0, 2, (.t 14)), (2, 1, (.t 19))]), none⟩ (.nx ⟨(some 5), .m (.alloc [(.int .i64 0), .nils, (.bool false), .nils]), none⟩ (.nx ⟨none, .m (.store 4 (.t 5) (.t 20)), none⟩ .done)))) (.nx ⟨(some 5), .m (.alloc [(.int .i64 0), .nils, (.bool false), .nils]), none⟩ (.nx ⟨(some 14), .call 99 [(.t 11), (.t 13)], none⟩ (.fl ⟨(some 20), .v (.bld [(.int .i64 0), .nils, (.bool false), .nils] [(0, 2, (.t 14)), (2, 1, (.t 19))]), none⟩ (.nx ⟨none, .m (.store 4 (.t 5) (.t 20)), none⟩ .done)))))))))))))))
   (.seq
    (.seq
     (.reg [⟨(some 21), .v (.faddr 3 (.t 2)), none⟩, ⟨(some 22), .v (.load false 1 (.t 21)), none⟩, ⟨(some 23), .v (.len (.t 22)), none⟩, ⟨(some 24), .v (.mov (.c (.int .i64 0))), none⟩])
     (.block 0
      (.loop
       (.seq
        (.reg [⟨(some 25), .v (.bin .lss (.t 24) (.t 23)), none⟩])
        (.seq
         (.cond (.t 25)
          .skip
          (.exit 0))
         (.seq
          (.block 1
           (.seq
            (.reg [⟨(some 26), .v (.iaddr 1 (.t 22) (.t 24)), none⟩, ⟨(some 27), .v (.load false 1 (.t 26)), none⟩, ⟨(some 7), .v (.mov (.t 27)), none⟩])
            (.seq
             (.reg [⟨(some 28), .v (.faddr 3 (.t 3)), none⟩, ⟨(some 29), .v (.load false 1 (.t 28)), none⟩, ⟨(some 30), .v (.mov (.t 7)), none⟩, ⟨(some 31), .call 100 [(.t 29), (.t 30)], none⟩, ⟨(some 32), .v (.un .not (.t 31)), none⟩])
             (.cond (.t 32)
              (.reg [⟨(some 33), .v (.faddr 3 (.t 5)), none⟩, ⟨(some 34), .v (.load false 1 (.t 33)), none⟩, ⟨(some 35), .v (.mov (.t 7)), none⟩, ⟨(some 36), .call 101 [(.t 34), (.t 35)], none⟩, ⟨(some 37), .v (.faddr 3 (.t 5)), none⟩, ⟨none, .m (.store 1 (.t 37) (.t 36)), none⟩])
              .skip))))
          (.reg [⟨(some 38), .v (.bin .add (.t 24) (.c (.int .i64 1))), none⟩, ⟨(some 24), .v (.mov (.t 38)), none⟩])))))))
    (.seq
     (.seq
      (.reg [⟨(some 39), .v (.faddr 3 (.t 3)), none⟩, ⟨(some 40), .v (.load false 1 (.t 39)), none⟩, ⟨(some 41), .v (.len (.t 40)), none⟩, ⟨(some 42), .v (.mov (.c (.int .i64 0))), none⟩])
      (.block 2
       (.loop
        (.seq
         (.reg [⟨(some 43), .v (.bin .lss (.t 42) (.t 41)), none⟩])
         (.seq
          (.cond (.t 43)
           .skip
           (.exit 2))
          (.seq
           (.block 3
            (.seq
             (.reg [⟨(some 44), .v (.iaddr 1 (.t 40) (.t 42)), none⟩, ⟨(some 45), .v (.load false 1 (.t 44)), none⟩, ⟨(some 9), .v (.mov (.t 45)), none⟩])
             (.seq
              (.reg [⟨(some 46), .v (.faddr 3 (.t 2)), none⟩, ⟨(some 47), .v (.load false 1 (.t 46)), none⟩, ⟨(some 48), .v (.mov (.t 9)), none⟩, ⟨(some 49), .call 100 [(.t 47), (.t 48)], none⟩, ⟨(some 50), .v (.un .not (.t 49)), none⟩])
              (.cond (.t 50)
               (.reg [⟨(some 51), .v (.faddr 3 (.t 5)), none⟩, ⟨(some 52), .v (.load false 1 (.t 51)), none⟩, ⟨(some 53), .v (.mov (.t 9)), none⟩, ⟨(some 54), .call 101 [(.t 52), (.t 53)], none⟩, ⟨(some 55), .v (.faddr 3 (.t 5)), none⟩, ⟨none, .m (.store 1 (.t 55) (.t 54)), none⟩])
               .skip))))
           (.reg [⟨(some 56), .v (.bin .add (.t 42) (.c (.int .i64 1))), none⟩, ⟨(some 42), .v (.mov (.t 56)), none⟩])))))))
     (.seq
      (.reg [⟨(some 57), .v (.load true 4 (.t 5)), none⟩, ⟨none, .m (.store 4 (.t 4) (.t 57)), none⟩])
      .ret)))))⟩
theorem e62 : rFunc Try.prog Try.f62 = some r62 := by kernel_rfl
def r105 : RFunc := ⟨37, [.cell true 4 4],
 (.seq
  (.reg [⟨(some 3), .m (.box (.t 1)), none⟩, ⟨(some 4), .m (.alloc [(.int .i64 0), .nils, (.bool false), .nils]), none⟩])
  (.seq
   (.seq
    (.reg [⟨(some 5), .v (.mov (.c (.int .i64 0))), none⟩])
    (.block 0
     (.loop
      (.seq
       (.seq
        (.reg [⟨(some 8), .v (.mov (.t 5)), none⟩, ⟨(some 9), .v (.faddr 0 (.t 3)), none⟩, ⟨(some 10), .v (.faddr 0 (.t 9)), none⟩, ⟨(some 11), .v (.load false 1 (.t 10)), none⟩, ⟨(some 12), .v (.bin .lss (.t 8) (.t 11)), none⟩])
        (.cond (.t 12)
         .skip
         (.exit 0)))
       (.seq
        (.block 1
         (.seq
          (.reg [⟨(some 15), .v (.mov (.t 0)), none⟩, ⟨(some 16), .v (.len (.t 15)), none⟩, ⟨(some 17), .v (.mov (.c (.int .i64 0))), none⟩])
          (.block 2
           (.loop
            (.seq
             (.reg [⟨(some 18), .v (.bin .lss (.t 17) (.t 16)), none⟩])
             (.seq
              (.cond (.t 18)
               .skip
               (.exit 2))
              (.seq
               (.block 3
                (.seq
                 (.reg [⟨(some 19), .v (.iaddr 4 (.t 15) (.t 17)), none⟩, ⟨(some 20), .v (.load true 4 (.t 19)), none⟩, ⟨(some 7), .m (.alloc [(.int .i64 0), .nils, (.bool false), .nils]), none⟩, ⟨none, .m (.store 4 (.t 7) (.t 20)), none⟩])
                 (.seq
                  (.reg [⟨(some 21), .v (.faddr 0 (.t 7)), none⟩, ⟨(some 22), .v (.load true 2 (.t 21)), none⟩, ⟨(some 23), .call 63 [(.t 22)], none⟩, ⟨(some 24), .v (.mov (.t 5)), none⟩, ⟨(some 25), .v (.bin .eql (.t 23) (.t 24)), none⟩, ⟨(some 26), .v (.mov (.t 25)), none⟩, ⟨(some 27), .v (.faddr 0 (.t 3)), (some (26, true))⟩, ⟨(some 28), .v (.load true 2 (.t 27)), (some (26, true))⟩, ⟨(some 29), .v (.mov (.t 5)), (some (26, true))⟩, ⟨(some 30), .call 113 [(.t 28), (.t 29)], (some (26, true))⟩, ⟨(some 31), .v (.pick (.t 26) (.t 30) (.c (.bool false))), none⟩])
                  (.cond (.t 31)
                   (.reg [⟨(some 32), .v (.load true 4 (.t 3)), none⟩, ⟨(some 33), .v (.load true 4 (.t 7)), none⟩, ⟨(some 34), .call 62 [(.t 32), (.t 33)], none⟩, ⟨none, .m (.store 4 (.t 3) (.t 34)), none⟩])
                   .skip))))
               (.reg [⟨(some 35), .v (.bin .add (.t 17) (.c (.int .i64 1))), none⟩, ⟨(some 17), .v (.mov (.t 35)), none⟩]))))))))
        (.reg [⟨(some 13), .v (.mov (.t 5)), none⟩, ⟨(some 14), .v (.bin .add (.t 13) (.c (.int .i64 1))), none⟩, ⟨(some 5), .v (.mov (.t 14)), none⟩]))))))
   (.seq
    (.reg [⟨(some 36), .v (.load true 4 (.t 3)), none⟩, ⟨none, .m (.store 4 (.t 4) (.t 36)), none⟩])
    .ret)))⟩
theorem e105 : rFunc Try.prog Try.f105 = some r105 := by kernel_rfl
def r71 : RFunc := ⟨50, [.t 2, .t 3],
 (.seq
  (.reg [⟨(some 1), .m (.box (.t 0)), none⟩, ⟨(some 2), .v (.mov (.c .nils)), none⟩, ⟨(some 3), .v (.mov (.c .nils)), none⟩])
  (.seq
   (.reg [⟨(some 4), .v (.mov (.c .nils)), none⟩])
   (.seq
    (.reg [⟨(some 5), .v (.mov (.c .nils)), none⟩])
    (.seq
     (.seq
      (.reg [⟨(some 9), .v (.faddr 1 (.t 1)), none⟩, ⟨(some 10), .v (.load false 1 (.t 9)), none⟩, ⟨(some 11), .v (.len (.t 10)), none⟩, ⟨(some 12), .v (.mov (.c (.int .i64 0))), none⟩])
      (.block 0
       (.loop
        (.seq
         (.reg [⟨(some 13), .v (.bin .lss (.t 12) (.t 11)), none⟩])
         (.seq
          (.cond (.t 13)
           .skip
           (.exit 0))
          (.seq
           (.block 1
            (.seq
             (.reg [⟨(some 14), .v (.mov (.t 12)), none⟩, ⟨(some 15), .v (.iaddr 2 (.t 10) (.t 12)), none⟩, ⟨(some 16), .v (.load true 2 (.t 15)), none⟩, ⟨(some 7), .m (.alloc [(.int .i64 0), .nils]), none⟩, ⟨(some 6), .v (.mov (.t 14)), none⟩, ⟨none, .m (.store 2 (.t 7) (.t 16)), none⟩])
             (.seq
              (.dreg (.fl ⟨(some 17), .v (.mov (.t 4)), none⟩ (.fl ⟨(some 18), .v (.load true 2 (.t 7)), none⟩ (.fl ⟨(some 19), .v (.faddr 2 (.t 1)), none⟩ (.fl ⟨(some 20), .v (.load false 1 (.t 19)), none⟩ (.fl ⟨(some 21), .v (.mov (.t 6)), none⟩ (.fl ⟨(some 22), .v (.iaddr 1 (.t 20) (.t 21)), none⟩ (.fl ⟨(some 23), .v (.load false 1 (.t 22)), none⟩ (.fl ⟨(some 24), .v (.mov (.t 6)), none⟩ (.both (.nx ⟨(some 25), .m (.bsl 1 1 [(.int .i64 0)] [(0, 1, (.t 24))]), none⟩ (.fl ⟨(some 26), .v (.bld [(.int .i64 0), .nils, (.bool false), .nils] [(0, 2, (.t 18)), (2, 1, (.t 23)), (3, 1, (.t 25))]), none⟩ (.both (.nx ⟨(some 27), .call 105 [(.t 17), (.t 26)], none⟩ (.nx ⟨(some 8), .m (.alloc [(.int .i64 0), .nils, (.bool false), .nils]), none⟩ (.nx ⟨none, .m (.store 4 (.t 8) (.t 27)), none⟩ .done))) (.nx ⟨(some 8), .m (.alloc [(.int .i64 0), .nils, (.bool false), .nils]), none⟩ (.nx ⟨(some 27), .call 105 [(.t 17), (.t 26)], none⟩ (.nx ⟨none, .m (.store 4 (.t 8) (.t 27)), none⟩ .done)))))) (.nx ⟨(some 8), .m (.alloc [(.int .i64 0), .nils, (.bool false), .nils]), none⟩ (.nx ⟨(some 25), .m (.bsl 1 1 [(.int .i64 0)] [(0, 1, (.t 24))]), none⟩ (.fl ⟨(some 26), .v (.bld [(.int .i64 0), .nils, (.bool false), .nils] [(0, 2, (.t 18)), (2, 1, (.t 23)), (3, 1, (.t 25))]), none⟩ (.nx ⟨(some 27), .call 105 [(.t 17), (.t 26)], none⟩ (.nx ⟨none, .m (.store 4 (.t 8) (.t 27)), none⟩ .done)))))))))))))))
              (.block 2
               (.seq
                (.reg [⟨(some 29), .v (.faddr 0 (.t 8)), none⟩, ⟨(some 30), .v (.load true 2 (.t 29)), none⟩, ⟨(some 31), .call 63 [(.t 30)], none⟩, ⟨(some 32), .v (.bin .geq (.t 31) (.c (.int .i64 0))), none⟩, ⟨(some 28), .v (.mov (.t 32)), none⟩])
                (.cond (.t 28)
                 (.reg [⟨(some 33), .v (.mov (.t 4)), none⟩, ⟨(some 34), .v (.load true 4 (.t 8)), none⟩, ⟨(some 35), .m (.bsl 4 1 [(.int .i64 0), .nils, (.bool false), .nils] [(0, 4, (.t 34))]), none⟩, ⟨(some 36), .m (.app false 4 64 (.t 33) (.t 35)), none⟩, ⟨(some 4), .v (.mov (.t 36)), none⟩])
                 (.seq
                  (.reg [⟨(some 38), .v (.faddr 2 (.t 8)), none⟩, ⟨(some 39), .v (.load false 1 (.t 38)), none⟩, ⟨(some 40), .v (.mov (.t 39)), none⟩, ⟨(some 41), .v (.mov (.t 5)), (some (40, true))⟩, ⟨(some 42), .v (.len (.t 41)), (some (40, true))⟩, ⟨(some 43), .v (.bin .eql (.t 42) (.c (.int .i64 0))), (some (40, true))⟩, ⟨(some 44), .v (.pick (.t 40) (.t 43) (.c (.bool false))), none⟩, ⟨(some 37), .v (.mov (.t 44)), none⟩])
                  (.cond (.t 37)
                   (.reg [⟨(some 45), .v (.faddr 3 (.t 8)), none⟩, ⟨(some 46), .v (.load false 1 (.t 45)), none⟩, ⟨(some 5), .v (.mov (.t 46)), none⟩])
                   .skip))))))))
           (.reg [⟨(some 47), .v (.bin .add (.t 12) (.c (.int .i64 1))), none⟩, ⟨(some 12), .v (.mov (.t 47)), none⟩])))))))
     (.seq
      (.reg [⟨(some 48), .v (.mov (.t 4)), none⟩, ⟨(some 49), .v (.mov (.t 5)), none⟩, ⟨(some 2), .v (.mov (.t 48)), none⟩, ⟨(some 3), .v (.mov (.t 49)), none⟩])
      .ret)))))⟩
theorem e71 : rFunc Try.prog Try.f71 = some r71 := by kernel_rfl
def r114 : RFunc := ⟨8, [.t 2],
 (.seq
  (.reg [⟨(some 2), .v (.mov (.c .nils)), none⟩])
  (.seq
   (.seq
    (.reg [⟨(some 3), .v (.mov (.t 0)), none⟩, ⟨(some 4), .v (.seq false (.t 3) (.c .nils)), none⟩])
    (.cond (.t 4)
     (.seq
      (.reg [⟨(some 2), .v (.mov (.c .nils)), none⟩])
      .ret)
     .skip))
   (.seq
    (.reg [⟨(some 5), .m (.bsl 1 0 [(.int .i64 0)] []), none⟩, ⟨(some 6), .v (.mov (.t 0)), none⟩, ⟨(some 7), .m (.app false 1 8 (.t 5) (.t 6)), none⟩, ⟨(some 2), .v (.mov (.t 7)), none⟩])
    .ret)))⟩
theorem e114 : rFunc Try.prog Try.f114 = some r114 := by kernel_rfl
def r88 : RFunc := ⟨9, [.cell true 2 2],
 (.seq
  (.reg [⟨(some 1), .m (.box (.t 0)), none⟩, ⟨(some 2), .m (.alloc [(.int .i64 0), .nils]), none⟩])
  (.seq
   (.dreg (.fl ⟨(some 3), .v (.faddr 0 (.t 1)), none⟩ (.fl ⟨(some 5), .v (.faddr 1 (.t 1)), none⟩ (.both (.nx ⟨(some 4), .v (.load false 1 (.t 3)), none⟩ (.nx ⟨(some 6), .v (.load false 1 (.t 5)), none⟩ (.nx ⟨(some 7), .call 114 [(.t 6)], none⟩ (.fl ⟨(some 8), .v (.bld [(.int .i64 0), .nils] [(0, 1, (.t 4)), (1, 1, (.t 7))]), none⟩ (.nx ⟨none, .m (.store 2 (.t 2) (.t 8)), none⟩ .done))))) (.nx ⟨(some 6), .v (.load false 1 (.t 5)), none⟩ (.both (.nx ⟨(some 4), .v (.load false 1 (.t 3)), none⟩ (.nx ⟨(some 7), .call 114 [(.t 6)], none⟩ (.fl ⟨(some 8), .v (.bld [(.int .i64 0), .nils] [(0, 1, (.t 4)), (1, 1, (.t 7))]), none⟩ (.nx ⟨none, .m (.store 2 (.t 2) (.t 8)), none⟩ .done)))) (.nx ⟨(some 7), .call 114 [(.t 6)], none⟩ (.nx ⟨(some 4), .v (.load false 1 (.t 3)), none⟩ (.fl ⟨(some 8), .v (.bld [(.int .i64 0), .nils] [(0, 1, (.t 4)), (1, 1, (.t 7))]), none⟩ (.nx ⟨none, .m (.store 2 (.t 2) (.t 8)), none⟩ .done))))))))))
   .ret))⟩
theorem e88 : rFunc Try.prog Try.f88 = some r88 := by kernel_rfl
def r82 : RFunc := ⟨18, [.t 4],
 (.seq
  (.reg [⟨(some 4), .v (.mov (.c (.bool false))), none⟩])
  (.seq
   (.reg [⟨(some 5), .v (.mov (.t 0)), none⟩, ⟨(some 6), .v (.nchk (.t 5)), none⟩, ⟨(some 7), .v (.faddr 1 (.t 6)), none⟩, ⟨(some 8), .v (.load false 1 (.t 7)), none⟩, ⟨(some 9), .v (.mov (.t 1)), none⟩, ⟨(some 10), .v (.bin .quo (.t 9) (.c (.int .i64 16))), none⟩, ⟨(some 11), .v (.iaddr 1 (.t 8) (.t 10)), none⟩, ⟨(some 12), .v (.load false 1 (.t 11)), none⟩, ⟨(some 13), .v (.mov (.t 1)), none⟩, ⟨(some 14), .v (.bin .rem (.t 13) (.c (.int .i64 16))), none⟩, ⟨(some 15), .v (.bin .shr (.t 12) (.t 14)), none⟩, ⟨(some 16), .v (.bin .and (.t 15) (.c (.int .i64 1))), none⟩, ⟨(some 17), .v (.bin .eql (.t 16) (.c (.int .i64 1))), none⟩, ⟨(some 4), .v (.mov (.t 17)), none⟩])
   .ret))⟩
theorem e82 : rFunc Try.prog Try.f82 = some r82 := by kernel_rfl
def r69 : RFunc := ⟨23, [.t 6],
 (.seq
  (.reg [⟨(some 6), .v (.mov (.c (.int .i64 0))), none⟩])
  (.seq
   (.block 0
    (.loop
     (.seq
      (.seq
       (.reg [⟨(some 7), .v (.mov (.t 1)), none⟩, ⟨(some 8), .v (.mov (.t 0)), none⟩, ⟨(some 9), .v (.nchk (.t 8)), none⟩, ⟨(some 10), .v (.faddr 0 (.t 9)), none⟩, ⟨(some 11), .v (.load false 1 (.t 10)), none⟩, ⟨(some 12), .v (.bin .lss (.t 7) (.t 11)), none⟩, ⟨(some 13), .v (.mov (.t 12)), none⟩, ⟨(some 14), .v (.mov (.t 0)), (some (13, true))⟩, ⟨(some 15), .v (.mov (.t 1)), (some (13, true))⟩, ⟨(some 16), .call 82 [(.t 14), (.t 15)], (some (13, true))⟩, ⟨(some 17), .v (.mov (.t 2)), (some (13, true))⟩, ⟨(some 18), .v (.beq true (.t 16) (.t 17)), (some (13, true))⟩, ⟨(some 19), .v (.pick (.t 13) (.t 18) (.c (.bool false))), none⟩])
       (.cond (.t 19)
        .skip
        (.exit 0)))
      (.block 1
       (.reg [⟨(some 20), .v (.mov (.t 1)), none⟩, ⟨(some 21), .v (.bin .add (.t 20) (.c (.int .i64 1))), none⟩, ⟨(some 1), .v (.mov (.t 21)), none⟩])))))
   (.seq
    (.reg [⟨(some 22), .v (.mov (.t 1)), none⟩, ⟨(some 6), .v (.mov (.t 22)), none⟩])
    .ret)))⟩
theorem e69 : rFunc Try.prog Try.f69 = some r69 := by kernel_rfl
def r68 : RFunc := ⟨52, [],
 (.seq
  (.seq
   (.reg [⟨(some 6), .v (.mov (.t 1)), none⟩, ⟨(some 7), .v (.nchk (.t 6)), none⟩, ⟨(some 8), .v (.faddr 0 (.t 7)), none⟩, ⟨(some 9), .v (.faddr 1 (.t 8)), none⟩, ⟨(some 10), .v (.load false 1 (.t 9)), none⟩, ⟨(some 11), .v (.len (.t 10)), none⟩, ⟨(some 12), .v (.mov (.c (.int .i64 0))), none⟩])
   (.block 0
    (.loop
     (.seq
      (.reg [⟨(some 13), .v (.bin .lss (.t 12) (.t 11)), none⟩])
      (.seq
       (.cond (.t 13)
        .skip
        (.exit 0))
       (.seq
        (.block 1
         (.seq
          (.reg [⟨(some 14), .v (.mov (.t 12)), none⟩, ⟨(some 15), .v (.iaddr 1 (.t 10) (.t 12)), none⟩, ⟨(some 16), .v (.load false 1 (.t 15)), none⟩, ⟨(some 4), .v (.mov (.t 14)), none⟩, ⟨(some 5), .v (.mov (.t 16)), none⟩])
          (.reg [⟨(some 17), .v (.mov (.t 0)), none⟩, ⟨(some 18), .v (.nchk (.t 17)), none⟩, ⟨(some 19), .v (.faddr 0 (.t 18)), none⟩, ⟨(some 20), .v (.faddr 1 (.t 19)), none⟩, ⟨(some 21), .v (.load false 1 (.t 20)), none⟩, ⟨(some 22), .v (.mov (.t 4)), none⟩, ⟨(some 23), .v (.iaddr 1 (.t 21) (.t 22)), none⟩, ⟨(some 24), .v (.load false 1 (.t 23)), none⟩, ⟨(some 25), .v (.mov (.t 5)), none⟩, ⟨(some 26), .v (.bin .xor (.t 24) (.t 25)), none⟩, ⟨(some 27), .v (.iaddr 1 (.t 21) (.t 22)), none⟩, ⟨none, .m (.store 1 (.t 27) (.t 26)), none⟩])))
        (.reg [⟨(some 28), .v (.bin .add (.t 12) (.c (.int .i64 1))), none⟩, ⟨(some 12), .v (.mov (.t 28)), none⟩])))))))
  (.seq
   (.dreg (.fl ⟨(some 29), .v (.mov (.t 0)), none⟩ (.fl ⟨(some 30), .v (.mov (.t 0)), none⟩ (.fl ⟨(some 31), .v (.nchk (.t 30)), none⟩ (.fl ⟨(some 32), .v (.faddr 2 (.t 31)), none⟩ (.fl ⟨(some 34), .v (.mov (.t 1)), none⟩ (.fl ⟨(some 35), .v (.nchk (.t 34)), none⟩ (.fl ⟨(some 36), .v (.faddr 2 (.t 35)), none⟩ (.both (.nx ⟨(some 33), .v (.load false 1 (.t 32)), none⟩ (.nx ⟨(some 37), .v (.load false 1 (.t 36)), none⟩ (.fl ⟨(some 38), .v (.beq true (.t 33) (.t 37)), none⟩ (.fl ⟨(some 39), .v (.nchk (.t 29)), none⟩ (.fl ⟨(some 40), .v (.faddr 2 (.t 39)), none⟩ (.nx ⟨none, .m (.store 1 (.t 40) (.t 38)), none⟩ .done)))))) (.nx ⟨(some 37), .v (.load false 1 (.t 36)), none⟩ (.nx ⟨(some 33), .v (.load false 1 (.t 32)), none⟩ (.fl ⟨(some 38), .v (.beq true (.t 33) (.t 37)), none⟩ (.fl ⟨(some 39), .v (.nchk (.t 29)), none⟩ (.fl ⟨(some 40), .v (.faddr 2 (.t 39)), none⟩ (.nx ⟨none, .m (.store 1 (.t 40) (.t 38)), none⟩ .done)))))))))))))))
   (.dreg (.fl ⟨(some 41), .v (.mov (.t 0)), none⟩ (.fl ⟨(some 42), .v (.nchk (.t 41)), none⟩ (.fl ⟨(some 43), .v (.faddr 3 (.t 42)), none⟩ (.fl ⟨(some 45), .v (.mov (.t 1)), none⟩ (.fl ⟨(some 46), .v (.nchk (.t 45)), none⟩ (.fl ⟨(some 47), .v (.faddr 3 (.t 46)), none⟩ (.both (.nx ⟨(some 44), .v (.load false 1 (.t 43)), none⟩ (.nx ⟨(some 48), .v (.load false 1 (.t 47)), none⟩ (.fl ⟨(some 49), .v (.bin .xor (.t 44) (.t 48)), none⟩ (.fl ⟨(some 50), .v (.nchk (.t 41)), none⟩ (.fl ⟨(some 51), .v (.faddr 3 (.t 50)), none⟩ (.nx ⟨none, .m (.store 1 (.t 51) (.t 49)), none⟩ .done)))))) (.nx ⟨(some 48), .v (.load false 1 (.t 47)), none⟩ (.nx ⟨(some 44), .v (.load false 1 (.t 43)), none⟩ (.fl ⟨(some 49), .v (.bin .xor (.t 44) (.t 48)), none⟩ (.fl ⟨(some 50), .v (.nchk (.t 41)), none⟩ (.fl ⟨(some 51), .v (.faddr 3 (.t 50)), none⟩ (.nx ⟨none, .m (.store 1 (.t 51) (.t 49)), none⟩ .done))))))))))))))))⟩
theorem e68 : rFunc Try.prog Try.f68 = some r68 := by kernel_rfl
def r107 : RFunc := ⟨10, [.t 4],
 (.seq
  (.reg [⟨(some 2), .m (.box (.t 0)), none⟩, ⟨(some 3), .m (.box (.t 1)), none⟩, ⟨(some 4), .v (.mov (.c (.int .i64 0))), none⟩])
  (.seq
   (.reg [⟨(some 5), .v (.faddr 0 (.t 2)), none⟩, ⟨(some 6), .call 69 [(.t 5), (.c (.int .i64 0)), (.c (.bool true))], none⟩, ⟨(some 7), .v (.faddr 0 (.t 3)), none⟩, ⟨(some 8), .call 69 [(.t 7), (.c (.int .i64 0)), (.c (.bool true))], none⟩, ⟨(some 9), .v (.bin .sub (.t 6) (.t 8)), none⟩, ⟨(some 4), .v (.mov (.t 9)), none⟩])
   .ret))⟩
theorem e107 : rFunc Try.prog Try.f107 = some r107 := by kernel_rfl
def r72 : RFunc := ⟨84, [.t 2, .t 3],
 (.seq
  (.reg [⟨(some 1), .m (.box (.t 0)), none⟩, ⟨(some 2), .v (.mov (.c .nils)), none⟩, ⟨(some 3), .v (.mov (.c (.int .u64 0))), none⟩])
  (.seq
   (.seq
    (.reg [⟨(some 10), .v (.faddr 1 (.t 1)), none⟩, ⟨(some 11), .v (.load false 1 (.t 10)), none⟩, ⟨(some 12), .v (.len (.t 11)), none⟩, ⟨(some 13), .v (.mov (.c (.int .i64 0))), none⟩])
    (.block 0
     (.loop
      (.seq
       (.reg [⟨(some 14), .v (.bin .lss (.t 13) (.t 12)), none⟩])
       (.seq
        (.cond (.t 14)
         .skip
         (.exit 0))
        (.seq
         (.block 1
          (.seq
           (.reg [⟨(some 15), .v (.mov (.t 13)), none⟩, ⟨(some 16), .v (.iaddr 2 (.t 11) (.t 13)), none⟩, ⟨(some 17), .v (.load true 2 (.t 16)), none⟩, ⟨(some 5), .m (.alloc [(.int .i64 0), .nils]), none⟩, ⟨(some 4), .v (.mov (.t 15)), none⟩, ⟨none, .m (.store 2 (.t 5) (.t 17)), none⟩])
           (.seq
            (.dreg (.fl ⟨(some 18), .v (.load true 2 (.t 5)), none⟩ (.fl ⟨(some 20), .v (.faddr 2 (.t 1)), none⟩ (.fl ⟨(some 21), .v (.load false 1 (.t 20)), none⟩ (.fl ⟨(some 22), .v (.mov (.t 4)), none⟩ (.fl ⟨(some 23), .v (.iaddr 1 (.t 21) (.t 22)), none⟩ (.fl ⟨(some 24), .v (.load false 1 (.t 23)), none⟩ (.fl ⟨(some 25), .v (.mov (.t 4)), none⟩ (.fl ⟨(some 26), .v (.bin .shl (.c (.int .u64 1)) (.t 25)), none⟩ (.both (.nx ⟨(some 19), .call 88 [(.t 18)], none⟩ (.fl ⟨(some 27), .v (.bld [(.int .i64 0), .nils, (.bool false), (.int .u64 0)] [(0, 2, (.t 19)), (2, 1, (.t 24)), (3, 1, (.t 26))]), none⟩ (.nx ⟨(some 6), .m (.alloc [(.int .i64 0), .nils, (.bool false), (.int .u64 0)]), none⟩ (.nx ⟨none, .m (.store 4 (.t 6) (.t 27)), none⟩ .done)))) (.nx ⟨(some 6), .m (.alloc [(.int .i64 0), .nils, (.bool false), (.int .u64 0)]), none⟩ (.nx ⟨(some 19), .call 88 [(.t 18)], none⟩ (.fl ⟨(some 27), .v (.bld [(.int .i64 0), .nils, (.bool false), (.int .u64 0)] [(0, 2, (.t 19)), (2, 1, (.t 24)), (3, 1, (.t 26))]), none⟩ (.nx ⟨none, .m (.store 4 (.t 6) (.t 27)), none⟩ .done))))))))))))))
            (.seq
             (.seq
              (.reg [⟨(some 28), .v (.mov (.t 2)), none⟩, ⟨(some 29), .v (.len (.t 28)), none⟩, ⟨(some 30), .v (.mov (.c (.int .i64 0))), none⟩])
              (.block 2
               (.loop
                (.seq
                 (.reg [⟨(some 31), .v (.bin .lss (.t 30) (.t 29)), none⟩])
                 (.seq
                  (.cond (.t 31)
                   .skip
                   (.exit 2))
                  (.seq
                   (.block 3
                    (.seq
                     (.reg [⟨(some 32), .v (.mov (.t 30)), none⟩, ⟨(some 7), .v (.mov (.t 32)), none⟩])
                     (.seq
                      (.reg [⟨(some 33), .v (.faddr 0 (.t 6)), none⟩, ⟨(some 34), .v (.mov (.t 2)), none⟩, ⟨(some 35), .v (.mov (.t 7)), none⟩, ⟨(some 36), .v (.iaddr 4 (.t 34) (.t 35)), none⟩, ⟨(some 37), .v (.faddr 0 (.t 36)), none⟩, ⟨(some 38), .call 69 [(.t 37), (.c (.int .i64 0)), (.c (.bool true))], none⟩, ⟨(some 39), .call 82 [(.t 33), (.t 38)], none⟩])
                      (.cond (.t 39)
                       (.reg [⟨(some 40), .v (.mov (.t 2)), none⟩, ⟨(some 41), .v (.mov (.t 7)), none⟩, ⟨(some 42), .v (.iaddr 4 (.t 40) (.t 41)), none⟩, ⟨(some 43), .call 68 [(.t 6), (.t 42)], none⟩])
                       .skip))))
                   (.reg [⟨(some 44), .v (.bin .add (.t 30) (.c (.int .i64 1))), none⟩, ⟨(some 30), .v (.mov (.t 44)), none⟩])))))))
             (.seq
              (.reg [⟨(some 45), .v (.faddr 0 (.t 6)), none⟩, ⟨(some 46), .call 69 [(.t 45), (.c (.int .i64 0)), (.c (.bool true))], none⟩, ⟨(some 8), .v (.mov (.t 46)), none⟩])
              (.seq
               (.seq
                (.reg [⟨(some 47), .v (.mov (.t 8)), none⟩, ⟨(some 48), .v (.faddr 0 (.t 1)), none⟩, ⟨(some 49), .v (.load false 1 (.t 48)), none⟩, ⟨(some 50), .v (.bin .eql (.t 47) (.t 49)), none⟩])
                (.cond (.t 50)
                 (.seq
                  (.seq
                   (.reg [⟨(some 51), .v (.faddr 2 (.t 6)), none⟩, ⟨(some 52), .v (.load false 1 (.t 51)), none⟩, ⟨(some 53), .v (.mov (.t 52)), none⟩, ⟨(some 54), .v (.mov (.t 3)), (some (53, true))⟩, ⟨(some 55), .v (.bin .eql (.t 54) (.c (.int .u64 0))), (some (53, true))⟩, ⟨(some 56), .v (.pick (.t 53) (.t 55) (.c (.bool false))), none⟩])
                   (.cond (.t 56)
                    (.reg [⟨(some 57), .v (.faddr 3 (.t 6)), none⟩, ⟨(some 58), .v (.load false 1 (.t 57)), none⟩, ⟨(some 3), .v (.mov (.t 58)), none⟩])
                    .skip))
                  (.exit 1))
                 .skip))
               (.seq
                (.seq
                 (.reg [⟨(some 59), .v (.mov (.t 2)), none⟩, ⟨(some 60), .v (.len (.t 59)), none⟩, ⟨(some 61), .v (.mov (.c (.int .i64 0))), none⟩])
                 (.block 4
                  (.loop
                   (.seq
                    (.reg [⟨(some 62), .v (.bin .lss (.t 61) (.t 60)), none⟩])
                    (.seq
                     (.cond (.t 62)
                      .skip
                      (.exit 4))
                     (.seq
                      (.block 5
                       (.seq
                        (.reg [⟨(some 63), .v (.mov (.t 61)), none⟩, ⟨(some 9), .v (.mov (.t 63)), none⟩])
                        (.seq
                         (.reg [⟨(some 64), .v (.mov (.t 2)), none⟩, ⟨(some 65), .v (.mov (.t 9)), none⟩, ⟨(some 66), .v (.iaddr 4 (.t 64) (.t 65)), none⟩, ⟨(some 67), .v (.faddr 0 (.t 66)), none⟩, ⟨(some 68), .v (.mov (.t 8)), none⟩, ⟨(some 69), .call 82 [(.t 67), (.t 68)], none⟩])
                         (.cond (.t 69)
                          (.reg [⟨(some 70), .v (.mov (.t 2)), none⟩, ⟨(some 71), .v (.mov (.t 9)), none⟩, ⟨(some 72), .v (.iaddr 4 (.t 70) (.t 71)), none⟩, ⟨(some 73), .call 68 [(.t 72), (.t 6)], none⟩])
                          .skip))))
                      (.reg [⟨(some 74), .v (.bin .add (.t 61) (.c (.int .i64 1))), none⟩, ⟨(some 61), .v (.mov (.t 74)), none⟩])))))))
                (.reg [⟨(some 75), .v (.mov (.t 2)), none⟩, ⟨(some 76), .v (.load true 4 (.t 6)), none⟩, ⟨(some 77), .m (.bsl 4 1 [(.int .i64 0), .nils, (.bool false), (.int .u64 0)] [(0, 4, (.t 76))]), none⟩, ⟨(some 78), .m (.app false 4 48 (.t 75) (.t 77)), none⟩, ⟨(some 2), .v (.mov (.t 78)), none⟩]))))))))
         (.reg [⟨(some 79), .v (.bin .add (.t 13) (.c (.int .i64 1))), none⟩, ⟨(some 13), .v (.mov (.t 79)), none⟩])))))))
   (.seq
    (.reg [⟨(some 80), .v (.mov (.t 2)), none⟩, ⟨(some 81), .call 106 [(.t 80), (.c (.fn 107 []))], none⟩])
    (.seq
     (.reg [⟨(some 82), .v (.mov (.t 2)), none⟩, ⟨(some 83), .v (.mov (.t 3)), none⟩, ⟨(some 2), .v (.mov (.t 82)), none⟩, ⟨(some 3), .v (.mov (.t 83)), none⟩])
     .ret))))⟩
theorem e72 : rFunc Try.prog Try.f72 = some r72 := by kernel_rfl
end Go.Proofs.Ytgkdnpigbpkehaa.M

/-
  The resolved text of the functions, each tied to the program's own by the kernel.
-/
import Derived.Test.YtgkdnpigbpkehaaProg
import Derived.Test.YtgkdnpigbpkehaaFc
namespace Go.Proofs.Ytgkdnpigbpkehaa.M
open Go Go.RowKit
set_option maxRecDepth 100000

def r112 : RFunc := ⟨10, [.t 4],
 (.seq
  (.reg [⟨(some 4), .v (.mov (.c (.int .i64 0))), none⟩])
  (.seq
   (.seq
    (.reg [⟨(some 5), .v (.mov (.t 0)), none⟩, ⟨(some 6), .v (.mov (.t 1)), none⟩, ⟨(some 7), .v (.bin .gtr (.t 5) (.t 6)), none⟩])
    (.cond (.t 7)
     (.seq
      (.reg [⟨(some 8), .v (.mov (.t 0)), none⟩, ⟨(some 4), .v (.mov (.t 8)), none⟩])
      .ret)
     .skip))
   (.seq
    (.reg [⟨(some 9), .v (.mov (.t 1)), none⟩, ⟨(some 4), .v (.mov (.t 9)), none⟩])
    .ret)))⟩
theorem e112 : rFunc Try.prog Try.f112 = some r112 := by kernel_rfl
def r123 : RFunc := ⟨62, [.t 2],
 (.seq
  (.reg [⟨(some 2), .v (.mov (.c (.int .i64 0))), none⟩])
  (.seq
   (.reg [⟨(some 3), .v (.mov (.c (.int .i64 0))), none⟩])
   (.seq
    (.seq
     (.dreg (.fl ⟨(some 4), .v (.mov (.t 0)), none⟩ (.fl ⟨(some 5), .v (.nchk (.t 4)), none⟩ (.fl ⟨(some 6), .v (.faddr 1 (.t 5)), none⟩ (.fl ⟨(some 7), .v (.load false 1 (.t 6)), none⟩ (.fl ⟨(some 8), .v (.mov (.t 0)), none⟩ (.fl ⟨(some 9), .v (.nchk (.t 8)), none⟩ (.fl ⟨(some 10), .v (.faddr 0 (.t 9)), none⟩ (.fl ⟨(some 11), .v (.load false 1 (.t 10)), none⟩ (.fl ⟨(some 12), .v (.len (.t 11)), none⟩ (.fl ⟨(some 13), .v (.bin .lss (.t 7) (.t 12)), none⟩ .done)))))))))))
     (.cond (.t 13)
      (.dreg (.fl ⟨(some 14), .v (.mov (.t 0)), none⟩ (.fl ⟨(some 15), .v (.nchk (.t 14)), none⟩ (.fl ⟨(some 16), .v (.faddr 0 (.t 15)), none⟩ (.fl ⟨(some 17), .v (.load false 1 (.t 16)), none⟩ (.fl ⟨(some 18), .v (.mov (.t 0)), none⟩ (.fl ⟨(some 19), .v (.nchk (.t 18)), none⟩ (.fl ⟨(some 20), .v (.faddr 1 (.t 19)), none⟩ (.fl ⟨(some 21), .v (.load false 1 (.t 20)), none⟩ (.fl ⟨(some 22), .v (.iaddr 1 (.t 17) (.t 21)), none⟩ (.fl ⟨(some 23), .v (.load false 1 (.t 22)), none⟩ (.fl ⟨(some 24), .v (.conv .i64 (.t 23)), none⟩ (.fl ⟨(some 3), .v (.mov (.t 24)), none⟩ .done)))))))))))))
      .skip))
    (.seq
     (.reg [⟨(some 25), .v (.mov (.t 0)), none⟩, ⟨(some 26), .v (.nchk (.t 25)), none⟩, ⟨(some 27), .v (.faddr 1 (.t 26)), none⟩, ⟨(some 28), .v (.load false 1 (.t 27)), none⟩, ⟨(some 29), .v (.bin .add (.t 28) (.c (.int .i64 1))), none⟩, ⟨(some 30), .v (.nchk (.t 25)), none⟩, ⟨(some 31), .v (.faddr 1 (.t 30)), none⟩, ⟨none, .m (.store 1 (.t 31) (.t 29)), none⟩])
     (.seq
      (.reg [⟨(some 32), .v (.mov (.t 0)), none⟩, ⟨(some 33), .v (.mov (.t 0)), none⟩, ⟨(some 34), .v (.nchk (.t 33)), none⟩, ⟨(some 35), .v (.faddr 2 (.t 34)), none⟩, ⟨(some 36), .v (.load false 1 (.t 35)), none⟩, ⟨(some 37), .v (.bin .mul (.t 36) (.c (.int .u64 6364136223846793005))), none⟩, ⟨(some 38), .v (.mov (.t 3)), none⟩, ⟨(some 39), .v (.conv .u64 (.t 38)), none⟩, ⟨(some 40), .v (.bin .add (.t 37) (.t 39)), none⟩, ⟨(some 41), .v (.bin .add (.t 40) (.c (.int .u64 1442695040888963407))), none⟩, ⟨(some 42), .v (.nchk (.t 32)), none⟩, ⟨(some 43), .v (.faddr 2 (.t 42)), none⟩, ⟨none, .m (.store 1 (.t 43) (.t 41)), none⟩])
      (.seq
       (.seq
        (.dreg (.fl ⟨(some 44), .v (.mov (.t 0)), none⟩ (.fl ⟨(some 45), .v (.nchk (.t 44)), none⟩ (.fl ⟨(some 46), .v (.faddr 1 (.t 45)), none⟩ (.fl ⟨(some 47), .v (.load false 1 (.t 46)), none⟩ (.fl ⟨(some 48), .v (.mov (.t 0)), none⟩ (.fl ⟨(some 49), .v (.nchk (.t 48)), none⟩ (.fl ⟨(some 50), .v (.faddr 0 (.t 49)), none⟩ (.fl ⟨(some 51), .v (.load false 1 (.t 50)), none⟩ (.fl ⟨(some 52), .v (.len (.t 51)), none⟩ (.fl ⟨(some 53), .v (.bin .leq (.t 47) (.t 52)), none⟩ .done)))))))))))
        (.cond (.t 53)
         (.seq
          (.reg [⟨(some 54), .v (.mov (.t 3)), none⟩, ⟨(some 2), .v (.mov (.t 54)), none⟩])
          .ret)
         .skip))
       (.seq
        (.reg [⟨(some 55), .v (.mov (.t 0)), none⟩, ⟨(some 56), .v (.nchk (.t 55)), none⟩, ⟨(some 57), .v (.faddr 2 (.t 56)), none⟩, ⟨(some 58), .v (.load false 1 (.t 57)), none⟩, ⟨(some 59), .v (.bin .shr (.t 58) (.c (.int .u64 40))), none⟩, ⟨(some 60), .v (.bin .and (.t 59) (.c (.int .u64 255))), none⟩, ⟨(some 61), .v (.conv .i64 (.t 60)), none⟩, ⟨(some 2), .v (.mov (.t 61)), none⟩])
        .ret)))))))⟩
theorem e123 : rFunc Try.prog Try.f123 = some r123 := by kernel_rfl
def r110 : RFunc := ⟨20, [.t 4],
 (.seq
  (.reg [⟨(some 4), .v (.mov (.c (.int .i64 0))), none⟩])
  (.seq
   (.seq
    (.reg [⟨(some 6), .v (.mov (.t 1)), none⟩, ⟨(some 7), .v (.bin .leq (.t 6) (.c (.int .i64 1))), none⟩])
    (.cond (.t 7)
     (.seq
      (.reg [⟨(some 4), .v (.mov (.c (.int .i64 0))), none⟩])
      .ret)
     .skip))
   (.seq
    (.reg [⟨(some 8), .v (.mov (.t 0)), none⟩, ⟨(some 9), .call 123 [(.t 8)], none⟩, ⟨(some 5), .v (.mov (.t 9)), none⟩])
    (.seq
     (.seq
      (.reg [⟨(some 10), .v (.mov (.t 1)), none⟩, ⟨(some 11), .v (.bin .gtr (.t 10) (.c (.int .i64 200))), none⟩])
      (.cond (.t 11)
       (.reg [⟨(some 12), .v (.mov (.t 5)), none⟩, ⟨(some 13), .v (.bin .mul (.t 12) (.c (.int .i64 256))), none⟩, ⟨(some 14), .v (.mov (.t 0)), none⟩, ⟨(some 15), .call 123 [(.t 14)], none⟩, ⟨(some 16), .v (.bin .add (.t 13) (.t 15)), none⟩, ⟨(some 5), .v (.mov (.t 16)), none⟩])
       .skip))
     (.seq
      (.reg [⟨(some 17), .v (.mov (.t 5)), none⟩, ⟨(some 18), .v (.mov (.t 1)), none⟩, ⟨(some 19), .v (.bin .rem (.t 17) (.t 18)), none⟩, ⟨(some 4), .v (.mov (.t 19)), none⟩])
      .ret)))))⟩
theorem e110 : rFunc Try.prog Try.f110 = some r110 := by kernel_rfl
def r95 : RFunc := ⟨11, [.t 4],
 (.seq
  (.reg [⟨(some 4), .v (.mov (.c (.int .i64 0))), none⟩])
  (.seq
   (.reg [⟨(some 5), .v (.mov (.t 0)), none⟩, ⟨(some 6), .v (.mov (.t 1)), none⟩, ⟨(some 7), .call 112 [(.t 6), (.c (.int .i64 0))], none⟩, ⟨(some 8), .v (.bin .add (.t 7) (.c (.int .i64 4))), none⟩, ⟨(some 9), .call 110 [(.t 5), (.t 8)], none⟩, ⟨(some 10), .v (.bin .sub (.t 9) (.c (.int .i64 1))), none⟩, ⟨(some 4), .v (.mov (.t 10)), none⟩])
   .ret))⟩
theorem e95 : rFunc Try.prog Try.f95 = some r95 := by kernel_rfl
def r117 : RFunc := ⟨10, [.t 4],
 (.seq
  (.reg [⟨(some 4), .v (.mov (.c (.int .i64 0))), none⟩])
  (.seq
   (.seq
    (.reg [⟨(some 5), .v (.mov (.t 0)), none⟩, ⟨(some 6), .v (.mov (.t 1)), none⟩, ⟨(some 7), .v (.bin .lss (.t 5) (.t 6)), none⟩])
    (.cond (.t 7)
     (.seq
      (.reg [⟨(some 8), .v (.mov (.t 0)), none⟩, ⟨(some 4), .v (.mov (.t 8)), none⟩])
      .ret)
     .skip))
   (.seq
    (.reg [⟨(some 9), .v (.mov (.t 1)), none⟩, ⟨(some 4), .v (.mov (.t 9)), none⟩])
    .ret)))⟩
theorem e117 : rFunc Try.prog Try.f117 = some r117 := by kernel_rfl
def r93 : RFunc := ⟨9, [.t 4],
 (.seq
  (.reg [⟨(some 4), .v (.mov (.c (.int .i64 0))), none⟩])
  (.seq
   (.reg [⟨(some 5), .v (.mov (.t 0)), none⟩, ⟨(some 6), .v (.mov (.t 1)), none⟩, ⟨(some 7), .call 117 [(.t 5), (.t 6)], none⟩, ⟨(some 8), .call 112 [(.c (.int .i64 0)), (.t 7)], none⟩, ⟨(some 4), .v (.mov (.t 8)), none⟩])
   .ret))⟩
theorem e93 : rFunc Try.prog Try.f93 = some r93 := by kernel_rfl
def r84 : RFunc := ⟨9, [.t 4],
 (.seq
  (.reg [⟨(some 4), .v (.mov (.c (.bool false))), none⟩])
  (.seq
   (.reg [⟨(some 5), .v (.mov (.t 0)), none⟩, ⟨(some 6), .v (.mov (.t 1)), none⟩, ⟨(some 7), .call 110 [(.t 5), (.t 6)], none⟩, ⟨(some 8), .v (.bin .eql (.t 7) (.c (.int .i64 0))), none⟩, ⟨(some 4), .v (.mov (.t 8)), none⟩])
   .ret))⟩
theorem e84 : rFunc Try.prog Try.f84 = some r84 := by kernel_rfl
def r124 : RFunc := ⟨22, [.cell true 2 2],
 (.seq
  (.reg [⟨(some 2), .m (.alloc [(.int .i64 0), .nils]), none⟩])
  (.seq
   (.reg [⟨(some 6), .v (.mov (.t 0)), none⟩, ⟨(some 7), .v (.len (.t 6)), none⟩, ⟨(some 8), .call 61 [(.t 7)], none⟩, ⟨(some 3), .m (.alloc [(.int .i64 0), .nils]), none⟩, ⟨none, .m (.store 2 (.t 3) (.t 8)), none⟩])
   (.seq
    (.seq
     (.reg [⟨(some 9), .v (.mov (.t 0)), none⟩, ⟨(some 10), .v (.len (.t 9)), none⟩, ⟨(some 11), .v (.mov (.c (.int .i64 0))), none⟩])
     (.block 0
      (.loop
       (.seq
        (.reg [⟨(some 12), .v (.bin .lss (.t 11) (.t 10)), none⟩])
        (.seq
         (.cond (.t 12)
          .skip
          (.exit 0))
         (.seq
          (.block 1
           (.seq
            (.reg [⟨(some 13), .v (.mov (.t 11)), none⟩, ⟨(some 14), .v (.iaddr 1 (.t 9) (.t 11)), none⟩, ⟨(some 15), .v (.load false 1 (.t 14)), none⟩, ⟨(some 4), .v (.mov (.t 13)), none⟩, ⟨(some 5), .v (.mov (.t 15)), none⟩])
            (.seq
             (.reg [⟨(some 16), .v (.mov (.t 5)), none⟩])
             (.cond (.t 16)
              (.reg [⟨(some 17), .v (.load true 2 (.t 3)), none⟩, ⟨(some 18), .v (.mov (.t 4)), none⟩, ⟨(some 19), .call 79 [(.t 17), (.t 18)], none⟩])
              .skip))))
          (.reg [⟨(some 20), .v (.bin .add (.t 11) (.c (.int .i64 1))), none⟩, ⟨(some 11), .v (.mov (.t 20)), none⟩])))))))
    (.seq
     (.reg [⟨(some 21), .v (.load true 2 (.t 3)), none⟩, ⟨none, .m (.store 2 (.t 2) (.t 21)), none⟩])
     .ret))))⟩
theorem e124 : rFunc Try.prog Try.f124 = some r124 := by kernel_rfl
def r116 : RFunc := ⟨22, [.cell true 2 4],
 (.seq
  (.reg [⟨(some 4), .m (.alloc [(.int .i64 0), .nils]), none⟩])
  (.seq
   (.reg [⟨(some 5), .v (.mov (.c .nils)), none⟩])
   (.seq
    (.seq
     (.reg [⟨(some 7), .v (.mov (.t 0)), none⟩, ⟨(some 8), .v (.mov (.t 1)), none⟩, ⟨(some 9), .v (.bin .add (.t 8) (.c (.int .i64 1))), none⟩, ⟨(some 10), .call 110 [(.t 7), (.t 9)], none⟩, ⟨(some 6), .v (.mov (.t 10)), none⟩])
     (.block 0
      (.loop
       (.seq
        (.seq
         (.reg [⟨(some 11), .v (.mov (.t 6)), none⟩, ⟨(some 12), .v (.bin .gtr (.t 11) (.c (.int .i64 0))), none⟩])
         (.cond (.t 12)
          .skip
          (.exit 0)))
        (.seq
         (.block 1
          (.reg [⟨(some 15), .v (.mov (.t 5)), none⟩, ⟨(some 16), .v (.mov (.t 0)), none⟩, ⟨(some 17), .call 84 [(.t 16), (.c (.int .i64 2))], none⟩, ⟨(some 18), .m (.bsl 1 1 [(.bool false)] [(0, 1, (.t 17))]), none⟩, ⟨(some 19), .m (.app false 1 1 (.t 15) (.t 18)), none⟩, ⟨(some 5), .v (.mov (.t 19)), none⟩]))
         (.reg [⟨(some 13), .v (.mov (.t 6)), none⟩, ⟨(some 14), .v (.bin .sub (.t 13) (.c (.int .i64 1))), none⟩, ⟨(some 6), .v (.mov (.t 14)), none⟩]))))))
    (.seq
     (.reg [⟨(some 20), .v (.mov (.t 5)), none⟩, ⟨(some 21), .call 124 [(.t 20)], none⟩, ⟨none, .m (.store 2 (.t 4) (.t 21)), none⟩])
     .ret))))⟩
theorem e116 : rFunc Try.prog Try.f116 = some r116 := by kernel_rfl
def r111 : RFunc := ⟨12, [.t 4],
 (.seq
  (.reg [⟨(some 4), .v (.mov (.c (.int .i64 0))), none⟩])
  (.seq
   (.reg [⟨(some 5), .v (.mov (.t 1)), none⟩, ⟨(some 6), .v (.mov (.t 0)), none⟩, ⟨(some 7), .v (.mov (.t 1)), none⟩, ⟨(some 8), .v (.len (.t 7)), none⟩, ⟨(some 9), .call 110 [(.t 6), (.t 8)], none⟩, ⟨(some 10), .v (.iaddr 1 (.t 5) (.t 9)), none⟩, ⟨(some 11), .v (.load false 1 (.t 10)), none⟩, ⟨(some 4), .v (.mov (.t 11)), none⟩])
   .ret))⟩
theorem e111 : rFunc Try.prog Try.f111 = some r111 := by kernel_rfl
def r92 : RFunc := ⟨56, [.cell true 2 2],
 (.seq
  (.reg [⟨(some 2), .m (.alloc [(.int .i64 0), .nils]), none⟩])
  (.seq
   (.reg [⟨(some 4), .v (.mov (.t 0)), none⟩, ⟨(some 5), .call 116 [(.t 4), (.c (.int .i64 40))], none⟩, ⟨(some 3), .m (.alloc [(.int .i64 0), .nils]), none⟩, ⟨none, .m (.store 2 (.t 3) (.t 5)), none⟩])
   (.seq
    (.seq
     (.reg [⟨(some 6), .v (.mov (.t 0)), none⟩, ⟨(some 7), .call 110 [(.t 6), (.c (.int .i64 16))], none⟩])
     (.block 0
      (.seq
       (.reg [⟨(some 9), .v (.bin .eql (.t 7) (.c (.int .i64 0))), none⟩, ⟨(some 8), .v (.mov (.t 9)), none⟩])
       (.cond (.t 8)
        (.dreg (.fl ⟨(some 10), .v (.faddr 1 (.t 3)), none⟩ (.fl ⟨(some 12), .v (.mov (.t 0)), none⟩ (.both (.nx ⟨(some 11), .v (.load false 1 (.t 10)), none⟩ (.nx ⟨(some 13), .call 110 [(.t 12), (.c (.int .i64 2))], none⟩ (.nx ⟨(some 14), .m (.bsl 1 1 [(.int .i64 0)] [(0, 1, (.t 13))]), none⟩ (.nx ⟨(some 15), .m (.app false 1 8 (.t 11) (.t 14)), none⟩ (.fl ⟨(some 16), .v (.faddr 1 (.t 3)), none⟩ (.nx ⟨none, .m (.store 1 (.t 16) (.t 15)), none⟩ .done)))))) (.nx ⟨(some 13), .call 110 [(.t 12), (.c (.int .i64 2))], none⟩ (.both (.nx ⟨(some 11), .v (.load false 1 (.t 10)), none⟩ (.nx ⟨(some 14), .m (.bsl 1 1 [(.int .i64 0)] [(0, 1, (.t 13))]), none⟩ (.nx ⟨(some 15), .m (.app false 1 8 (.t 11) (.t 14)), none⟩ (.fl ⟨(some 16), .v (.faddr 1 (.t 3)), none⟩ (.nx ⟨none, .m (.store 1 (.t 16) (.t 15)), none⟩ .done))))) (.nx ⟨(some 14), .m (.bsl 1 1 [(.int .i64 0)] [(0, 1, (.t 13))]), none⟩ (.nx ⟨(some 11), .v (.load false 1 (.t 10)), none⟩ (.nx ⟨(some 15), .m (.app false 1 8 (.t 11) (.t 14)), none⟩ (.fl ⟨(some 16), .v (.faddr 1 (.t 3)), none⟩ (.nx ⟨none, .m (.store 1 (.t 16) (.t 15)), none⟩ .done)))))))))))
        (.seq
         (.reg [⟨(some 18), .v (.bin .eql (.t 7) (.c (.int .i64 1))), none⟩, ⟨(some 17), .v (.mov (.t 18)), none⟩])
         (.cond (.t 17)
          (.dreg (.fl ⟨(some 19), .v (.faddr 0 (.t 3)), none⟩ (.fl ⟨(some 21), .v (.mov (.t 0)), none⟩ (.both (.nx ⟨(some 20), .v (.load false 1 (.t 19)), none⟩ (.nx ⟨(some 22), .call 110 [(.t 21), (.c (.int .i64 3))], none⟩ (.fl ⟨(some 23), .v (.bin .sub (.t 22) (.c (.int .i64 1))), none⟩ (.fl ⟨(some 24), .v (.bin .add (.t 20) (.t 23)), none⟩ (.fl ⟨(some 25), .v (.faddr 0 (.t 3)), none⟩ (.nx ⟨none, .m (.store 1 (.t 25) (.t 24)), none⟩ .done)))))) (.nx ⟨(some 22), .call 110 [(.t 21), (.c (.int .i64 3))], none⟩ (.fl ⟨(some 23), .v (.bin .sub (.t 22) (.c (.int .i64 1))), none⟩ (.nx ⟨(some 20), .v (.load false 1 (.t 19)), none⟩ (.fl ⟨(some 24), .v (.bin .add (.t 20) (.t 23)), none⟩ (.fl ⟨(some 25), .v (.faddr 0 (.t 3)), none⟩ (.nx ⟨none, .m (.store 1 (.t 25) (.t 24)), none⟩ .done))))))))))
          (.seq
           (.reg [⟨(some 27), .v (.bin .eql (.t 7) (.c (.int .i64 2))), none⟩, ⟨(some 26), .v (.mov (.t 27)), none⟩])
           (.cond (.t 26)
            (.seq
             (.reg [⟨(some 28), .v (.faddr 1 (.t 3)), none⟩, ⟨(some 29), .v (.load false 1 (.t 28)), none⟩, ⟨(some 30), .v (.len (.t 29)), none⟩, ⟨(some 31), .v (.bin .gtr (.t 30) (.c (.int .i64 0))), none⟩])
             (.cond (.t 31)
              (.dreg (.fl ⟨(some 32), .v (.faddr 1 (.t 3)), none⟩ (.fl ⟨(some 34), .v (.mov (.t 0)), none⟩ (.fl ⟨(some 35), .v (.faddr 1 (.t 3)), none⟩ (.fl ⟨(some 39), .v (.mov (.t 0)), none⟩ (.both (.nx ⟨(some 33), .v (.load false 1 (.t 32)), none⟩ (.both (.nx ⟨(some 36), .v (.load false 1 (.t 35)), none⟩ (.fl ⟨(some 37), .v (.len (.t 36)), none⟩ (.both (.nx ⟨(some 38), .call 110 [(.t 34), (.t 37)], none⟩ (.nx ⟨(some 40), .m (.bsl 1 4 [(.int .i64 0)] [(0, 1, (.c (.int .i64 (-1)))), (1, 1, (.c (.int .i64 65535))), (2, 1, (.c (.int .i64 65536))), (3, 1, (.c (.int .i64 40000)))]), none⟩ (.nx ⟨(some 41), .call 111 [(.t 39), (.t 40)], none⟩ (.fl ⟨(some 42), .v (.iaddr 1 (.t 33) (.t 38)), none⟩ (.nx ⟨none, .m (.store 1 (.t 42) (.t 41)), none⟩ .done))))) (.nx ⟨(some 40), .m (.bsl 1 4 [(.int .i64 0)] [(0, 1, (.c (.int .i64 (-1)))), (1, 1, (.c (.int .i64 65535))), (2, 1, (.c (.int .i64 65536))), (3, 1, (.c (.int .i64 40000)))]), none⟩ (.nx ⟨(some 38), .call 110 [(.t 34), (.t 37)], none⟩ (.nx ⟨(some 41), .call 111 [(.t 39), (.t 40)], none⟩ (.fl ⟨(some 42), .v (.iaddr 1 (.t 33) (.t 38)), none⟩ (.nx ⟨none, .m (.store 1 (.t 42) (.t 41)), none⟩ .done)))))))) (.nx ⟨(some 40), .m (.bsl 1 4 [(.int .i64 0)] [(0, 1, (.c (.int .i64 (-1)))), (1, 1, (.c (.int .i64 65535))), (2, 1, (.c (.int .i64 65536))), (3, 1, (.c (.int .i64 40000)))]), none⟩ (.nx ⟨(some 36), .v (.load false 1 (.t 35)), none⟩ (.fl ⟨(some 37), .v (.len (.t 36)), none⟩ (.nx ⟨(some 38), .call 110 [(.t 34), (.t 37)], none⟩ (.nx ⟨(some 41), .call 111 [(.t 39), (.t 40)], none⟩ (.fl ⟨(some 42), .v (.iaddr 1 (.t 33) (.t 38)), none⟩ (.nx ⟨none, .m (.store 1 (.t 42) (.t 41)), none⟩ .done))))))))) (.both (.nx ⟨(some 36), .v (.load false 1 (.t 35)), none⟩ (.fl ⟨(some 37), .v (.len (.t 36)), none⟩ (.both (.nx ⟨(some 33), .v (.load false 1 (.t 32)), none⟩ (.both (.nx ⟨(some 38), .call 110 [(.t 34), (.t 37)], none⟩ (.nx ⟨(some 40), .m (.bsl 1 4 [(.int .i64 0)] [(0, 1, (.c (.int .i64 (-1)))), (1, 1, (.c (.int .i64 65535))), (2, 1, (.c (.int .i64 65536))), (3, 1, (.c (.int .i64 40000)))]), none⟩ (.nx ⟨(some 41), .call 111 [(.t 39), (.t 40)], none⟩ (.fl ⟨(some 42), .v (.iaddr 1 (.t 33) (.t 38)), none⟩ (.nx ⟨none, .m (.store 1 (.t 42) (.t 41)), none⟩ .done))))) (.nx ⟨(some 40), .m (.bsl 1 4 [(.int .i64 0)] [(0, 1, (.c (.int .i64 (-1)))), (1, 1, (.c (.int .i64 65535))), (2, 1, (.c (.int .i64 65536))), (3, 1, (.c (.int .i64 40000)))]), none⟩ (.nx ⟨(some 38), .call 110 [(.t 34), (.t 37)], none⟩ (.nx ⟨(some 41), .call 111 [(.t 39), (.t 40)], none⟩ (.fl ⟨(some 42), .v (.iaddr 1 (.t 33) (.t 38)), none⟩ (.nx ⟨none, .m (.store 1 (.t 42) (.t 41)), none⟩ .done))))))) (.both (.nx ⟨(some 38), .call 110 [(.t 34), (.t 37)], none⟩ (.both (.nx ⟨(some 33), .v (.load false 1 (.t 32)), none⟩ (.nx ⟨(some 40), .m (.bsl 1 4 [(.int .i64 0)] [(0, 1, (.c (.int .i64 (-1)))), (1, 1, (.c (.int .i64 65535))), (2, 1, (.c (.int .i64 65536))), (3, 1, (.c (.int .i64 40000)))]), none⟩ (.nx ⟨(some 41), .call 111 [(.t 39), (.t 40)], none⟩ (.fl ⟨(some 42), .v (.iaddr 1 (.t 33) (.t 38)), none⟩ (.nx ⟨none, .m (.store 1 (.t 42) (.t 41)), none⟩ .done))))) (.nx ⟨(some 40), .m (.bsl 1 4 [(.int .i64 0)] [(0, 1, (.c (.int .i64 (-1)))), (1, 1, (.c (.int .i64 65535))), (2, 1, (.c (.int .i64 65536))), (3, 1, (.c (.int .i64 40000)))]), none⟩ (.both (.nx ⟨(some 33), .v (.load false 1 (.t 32)), none⟩ (.nx ⟨(some 41), .call 111 [(.t 39), (.t 40)], none⟩ (.fl ⟨(some 42), .v (.iaddr 1 (.t 33) (.t 38)), none⟩ (.nx ⟨none, .m (.store 1 (.t 42) (.t 41)), none⟩ .done)))) (.nx ⟨(some 41), .call 111 [(.t 39), (.t 40)], none⟩ (.nx ⟨(some 33), .v (.load false 1 (.t 32)), none⟩ (.fl ⟨(some 42), .v (.iaddr 1 (.t 33) (.t 38)), none⟩ (.nx ⟨none, .m (.store 1 (.t 42) (.t 41)), none⟩ .done)))))))) (.nx ⟨(some 40), .m (.bsl 1 4 [(.int .i64 0)] [(0, 1, (.c (.int .i64 (-1)))), (1, 1, (.c (.int .i64 65535))), (2, 1, (.c (.int .i64 65536))), (3, 1, (.c (.int .i64 40000)))]), none⟩ (.both (.nx ⟨(some 33), .v (.load false 1 (.t 32)), none⟩ (.nx ⟨(some 38), .call 110 [(.t 34), (.t 37)], none⟩ (.nx ⟨(some 41), .call 111 [(.t 39), (.t 40)], none⟩ (.fl ⟨(some 42), .v (.iaddr 1 (.t 33) (.t 38)), none⟩ (.nx ⟨none, .m (.store 1 (.t 42) (.t 41)), none⟩ .done))))) (.nx ⟨(some 38), .call 110 [(.t 34), (.t 37)], none⟩ (.both (.nx ⟨(some 33), .v (.load false 1 (.t 32)), none⟩ (.nx ⟨(some 41), .call 111 [(.t 39), (.t 40)], none⟩ (.fl ⟨(some 42), .v (.iaddr 1 (.t 33) (.t 38)), none⟩ (.nx ⟨none, .m (.store 1 (.t 42) (.t 41)), none⟩ .done)))) (.nx ⟨(some 41), .call 111 [(.t 39), (.t 40)], none⟩ (.nx ⟨(some 33), .v (.load false 1 (.t 32)), none⟩ (.fl ⟨(some 42), .v (.iaddr 1 (.t 33) (.t 38)), none⟩ (.nx ⟨none, .m (.store 1 (.t 42) (.t 41)), none⟩ .done)))))))))))) (.nx ⟨(some 40), .m (.bsl 1 4 [(.int .i64 0)] [(0, 1, (.c (.int .i64 (-1)))), (1, 1, (.c (.int .i64 65535))), (2, 1, (.c (.int .i64 65536))), (3, 1, (.c (.int .i64 40000)))]), none⟩ (.both (.nx ⟨(some 33), .v (.load false 1 (.t 32)), none⟩ (.nx ⟨(some 36), .v (.load false 1 (.t 35)), none⟩ (.fl ⟨(some 37), .v (.len (.t 36)), none⟩ (.nx ⟨(some 38), .call 110 [(.t 34), (.t 37)], none⟩ (.nx ⟨(some 41), .call 111 [(.t 39), (.t 40)], none⟩ (.fl ⟨(some 42), .v (.iaddr 1 (.t 33) (.t 38)), none⟩ (.nx ⟨none, .m (.store 1 (.t 42) (.t 41)), none⟩ .done))))))) (.nx ⟨(some 36), .v (.load false 1 (.t 35)), none⟩ (.fl ⟨(some 37), .v (.len (.t 36)), none⟩ (.both (.nx ⟨(some 33), .v (.load false 1 (.t 32)), none⟩ (.nx ⟨(some 38), .call 110 [(.t 34), (.t 37)], none⟩ (.nx ⟨(some 41), .call 111 [(.t 39), (.t 40)], none⟩ (.fl ⟨(some 42), .v (.iaddr 1 (.t 33) (.t 38)), none⟩ (.nx ⟨none, .m (.store 1 (.t 42) (.t 41)), none⟩ .done))))) (.nx ⟨(some 38), .call 110 [(.t 34), (.t 37)], none⟩ (.both (.nx ⟨(some 33), .v (.load false 1 (.t 32)), none⟩ (.nx ⟨(some 41), .call 111 [(.t 39), (.t 40)], none⟩ (.fl ⟨(some 42), .v (.iaddr 1 (.t 33) (.t 38)), none⟩ (.nx ⟨none, .m (.store 1 (.t 42) (.t 41)), none⟩ .done)))) (.nx ⟨(some 41), .call 111 [(.t 39), (.t 40)], none⟩ (.nx ⟨(some 33), .v (.load false 1 (.t 32)), none⟩ (.fl ⟨(some 42), .v (.iaddr 1 (.t 33) (.t 38)), none⟩ (.nx ⟨none, .m (.store 1 (.t 42) (.t 41)), none⟩ .done))))))))))))))))))
              .skip))
            (.seq
             (.reg [⟨(some 44), .v (.bin .eql (.t 7) (.c (.int .i64 3))), none⟩, ⟨(some 43), .v (.mov (.t 44)), none⟩])
             (.cond (.t 43)
              (.reg [⟨(some 45), .v (.mov (.t 0)), none⟩, ⟨(some 46), .call 110 [(.t 45), (.c (.int .i64 2))], none⟩, ⟨(some 47), .v (.bin .sub (.c (.int .i64 4096)) (.t 46)), none⟩, ⟨(some 48), .call 61 [(.t 47)], none⟩, ⟨none, .m (.store 2 (.t 3) (.t 48)), none⟩])
              (.seq
               (.reg [⟨(some 50), .v (.bin .eql (.t 7) (.c (.int .i64 4))), none⟩, ⟨(some 49), .v (.mov (.t 50)), none⟩])
               (.cond (.t 49)
                (.reg [⟨(some 51), .v (.mov (.t 0)), none⟩, ⟨(some 52), .call 110 [(.t 51), (.c (.int .i64 5))], none⟩, ⟨(some 53), .v (.bin .mul (.c (.int .i64 16)) (.t 52)), none⟩, ⟨(some 54), .call 61 [(.t 53)], none⟩, ⟨none, .m (.store 2 (.t 3) (.t 54)), none⟩])
                .skip))))))))))))
    (.seq
     (.reg [⟨(some 55), .v (.load true 2 (.t 3)), none⟩, ⟨none, .m (.store 2 (.t 2) (.t 55)), none⟩])
     .ret))))⟩
theorem e92 : rFunc Try.prog Try.f92 = some r92 := by kernel_rfl
end Go.Proofs.Ytgkdnpigbpkehaa.M

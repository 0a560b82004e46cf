/-
  The resolved text of the functions, each tied to the program's own by the kernel.
-/
import Derived.Test.YtdkgoaiodjokpaaGreatProg
import Derived.Test.YtdkgoaiodjokpaaGreatFx
import Derived.Test.YtdkgoaiodjokpaaGreatM22
import Derived.Test.YtdkgoaiodjokpaaGreatM23
namespace Go.Proofs.YtdkgoaiodjokpaaGreat.M
open Go Go.RowKit
set_option maxRecDepth 100000

def r38 : RFunc := ⟨15, [.t 6],
 (.seq
  (.reg [⟨(some 6), .v (.mov (.c (.bool false))), none⟩])
  (.seq
   (.reg [⟨(some 7), .v (.mov (.t 0)), none⟩, ⟨(some 8), .v (.mov (.t 1)), none⟩, ⟨(some 9), .v (.bin .geq (.t 7) (.t 8)), none⟩, ⟨(some 10), .v (.mov (.t 9)), none⟩, ⟨(some 11), .v (.mov (.t 0)), (some (10, true))⟩, ⟨(some 12), .v (.mov (.t 2)), (some (10, true))⟩, ⟨(some 13), .v (.bin .leq (.t 11) (.t 12)), (some (10, true))⟩, ⟨(some 14), .v (.pick (.t 10) (.t 13) (.c (.bool false))), none⟩, ⟨(some 6), .v (.mov (.t 14)), none⟩])
   .ret))⟩
theorem e38 : rFunc Tryz.prog Tryz.f38 = some r38 := by kernel_rfl
def r155 : RFunc := ⟨7, [.t 2],
 (.seq
  (.reg [⟨(some 2), .v (.mov (.c (.int .i64 0))), none⟩])
  (.seq
   (.reg [⟨(some 3), .v (.mov (.t 0)), none⟩, ⟨(some 4), .v (.bin .add (.t 3) (.c (.int .i64 16))), none⟩, ⟨(some 5), .v (.bin .sub (.t 4) (.c (.int .i64 1))), none⟩, ⟨(some 6), .v (.bin .quo (.t 5) (.c (.int .i64 16))), none⟩, ⟨(some 2), .v (.mov (.t 6)), none⟩])
   .ret))⟩
theorem e155 : rFunc Tryz.prog Tryz.f155 = some r155 := by kernel_rfl
def r139 : RFunc := ⟨48, [.t 2],
 (.seq
  (.reg [⟨(some 1), .m (.box (.t 0)), none⟩, ⟨(some 2), .v (.mov (.c (.bool false))), none⟩])
  (.seq
   (.seq
    (.dreg (.fl ⟨(some 6), .v (.faddr 0 (.t 1)), none⟩ (.fl ⟨(some 7), .v (.load false 1 (.t 6)), none⟩ (.nx ⟨(some 8), .call 38 [(.t 7), (.c (.int .i64 0)), (.c (.int .i64 4096))], none⟩ (.fl ⟨(some 9), .v (.un .not (.t 8)), none⟩ (.fl ⟨(some 10), .v (.mov (.t 9)), none⟩ (.fl ⟨(some 11), .v (.faddr 1 (.t 1)), (some (10, false))⟩ (.fl ⟨(some 12), .v (.load false 1 (.t 11)), (some (10, false))⟩ (.fl ⟨(some 13), .v (.len (.t 12)), (some (10, false))⟩ (.fl ⟨(some 14), .v (.faddr 0 (.t 1)), (some (10, false))⟩ (.fl ⟨(some 15), .v (.load false 1 (.t 14)), (some (10, false))⟩ (.nx ⟨(some 16), .call 155 [(.t 15)], (some (10, false))⟩ (.fl ⟨(some 17), .v (.bin .neq (.t 13) (.t 16)), (some (10, false))⟩ (.fl ⟨(some 18), .v (.pick (.t 10) (.c (.bool true)) (.t 17)), none⟩ .done))))))))))))))
    (.cond (.t 18)
     (.seq
      (.reg [⟨(some 2), .v (.mov (.c (.bool false))), none⟩])
      .ret)
     .skip))
   (.seq
    (.seq
     (.reg [⟨(some 19), .v (.faddr 1 (.t 1)), none⟩, ⟨(some 20), .v (.load false 1 (.t 19)), none⟩, ⟨(some 21), .v (.len (.t 20)), none⟩, ⟨(some 22), .v (.mov (.c (.int .i64 0))), none⟩])
     (.block 0
      (.loop
       (.seq
        (.reg [⟨(some 23), .v (.bin .lss (.t 22) (.t 21)), none⟩])
        (.seq
         (.cond (.t 23)
          .skip
          (.exit 0))
         (.seq
          (.block 1
           (.seq
            (.reg [⟨(some 24), .v (.iaddr 1 (.t 20) (.t 22)), none⟩, ⟨(some 25), .v (.load false 1 (.t 24)), none⟩, ⟨(some 4), .v (.mov (.t 25)), none⟩])
            (.seq
             (.reg [⟨(some 26), .v (.mov (.t 4)), none⟩, ⟨(some 27), .call 38 [(.t 26), (.c (.int .i64 0)), (.c (.int .i64 65535))], none⟩, ⟨(some 28), .v (.un .not (.t 27)), none⟩])
             (.cond (.t 28)
              (.seq
               (.reg [⟨(some 2), .v (.mov (.c (.bool false))), none⟩])
               .ret)
              .skip))))
          (.reg [⟨(some 29), .v (.bin .add (.t 22) (.c (.int .i64 1))), none⟩, ⟨(some 22), .v (.mov (.t 29)), none⟩])))))))
    (.seq
     (.reg [⟨(some 30), .v (.faddr 0 (.t 1)), none⟩, ⟨(some 31), .v (.load false 1 (.t 30)), none⟩, ⟨(some 32), .v (.bin .rem (.t 31) (.c (.int .i64 16))), none⟩, ⟨(some 5), .v (.mov (.t 32)), none⟩])
     (.seq
      (.reg [⟨(some 33), .v (.mov (.t 5)), none⟩, ⟨(some 34), .v (.bin .eql (.t 33) (.c (.int .i64 0))), none⟩, ⟨(some 35), .v (.mov (.t 34)), none⟩, ⟨(some 36), .v (.faddr 1 (.t 1)), (some (35, false))⟩, ⟨(some 37), .v (.load false 1 (.t 36)), (some (35, false))⟩, ⟨(some 38), .v (.faddr 1 (.t 1)), (some (35, false))⟩, ⟨(some 39), .v (.load false 1 (.t 38)), (some (35, false))⟩, ⟨(some 40), .v (.len (.t 39)), (some (35, false))⟩, ⟨(some 41), .v (.bin .sub (.t 40) (.c (.int .i64 1))), (some (35, false))⟩, ⟨(some 42), .v (.iaddr 1 (.t 37) (.t 41)), (some (35, false))⟩, ⟨(some 43), .v (.load false 1 (.t 42)), (some (35, false))⟩, ⟨(some 44), .v (.mov (.t 5)), (some (35, false))⟩, ⟨(some 45), .v (.bin .shr (.t 43) (.t 44)), (some (35, false))⟩, ⟨(some 46), .v (.bin .eql (.t 45) (.c (.int .i64 0))), (some (35, false))⟩, ⟨(some 47), .v (.pick (.t 35) (.c (.bool true)) (.t 46)), none⟩, ⟨(some 2), .v (.mov (.t 47)), none⟩])
      .ret)))))⟩
theorem e139 : rFunc Tryz.prog Tryz.f139 = some r139 := by kernel_rfl
def r62 : RFunc := ⟨18, [.t 4],
 (.seq
  (.reg [⟨(some 4), .v (.mov (.c (.bool false))), none⟩])
  (.seq
   (.reg [⟨(some 5), .v (.mov (.t 0)), none⟩, ⟨(some 6), .v (.nchk (.t 5)), none⟩, ⟨(some 7), .v (.faddr 1 (.t 6)), none⟩, ⟨(some 8), .v (.load false 1 (.t 7)), none⟩, ⟨(some 9), .v (.mov (.t 1)), none⟩, ⟨(some 10), .v (.bin .quo (.t 9) (.c (.int .i64 16))), none⟩, ⟨(some 11), .v (.iaddr 1 (.t 8) (.t 10)), none⟩, ⟨(some 12), .v (.load false 1 (.t 11)), none⟩, ⟨(some 13), .v (.mov (.t 1)), none⟩, ⟨(some 14), .v (.bin .rem (.t 13) (.c (.int .i64 16))), none⟩, ⟨(some 15), .v (.bin .shr (.t 12) (.t 14)), none⟩, ⟨(some 16), .v (.bin .and (.t 15) (.c (.int .i64 1))), none⟩, ⟨(some 17), .v (.bin .eql (.t 16) (.c (.int .i64 1))), none⟩, ⟨(some 4), .v (.mov (.t 17)), none⟩])
   .ret))⟩
theorem e62 : rFunc Tryz.prog Tryz.f62 = some r62 := by kernel_rfl
def r92 : RFunc := ⟨38, [.t 4],
 (.seq
  (.reg [⟨(some 4), .v (.mov (.c .nils)), none⟩])
  (.seq
   (.reg [⟨(some 8), .m (.bsl 1 0 [(.str [])] []), none⟩, ⟨(some 5), .v (.mov (.t 8)), none⟩])
   (.seq
    (.seq
     (.reg [⟨(some 9), .v (.mov (.t 1)), none⟩, ⟨(some 10), .v (.len (.t 9)), none⟩, ⟨(some 11), .v (.mov (.c (.int .i64 0))), none⟩])
     (.block 0
      (.loop
       (.seq
        (.reg [⟨(some 12), .v (.bin .lss (.t 11) (.t 10)), none⟩])
        (.seq
         (.cond (.t 12)
          .skip
          (.exit 0))
         (.seq
          (.block 1
           (.seq
            (.reg [⟨(some 13), .v (.mov (.t 11)), none⟩, ⟨(some 14), .v (.iaddr 1 (.t 9) (.t 11)), none⟩, ⟨(some 15), .v (.load false 1 (.t 14)), none⟩, ⟨(some 6), .v (.mov (.t 13)), none⟩, ⟨(some 7), .v (.mov (.t 15)), none⟩])
            (.seq
             (.reg [⟨(some 16), .v (.mov (.t 6)), none⟩, ⟨(some 17), .v (.mov (.t 0)), none⟩, ⟨(some 18), .v (.nchk (.t 17)), none⟩, ⟨(some 19), .v (.faddr 2 (.t 18)), none⟩, ⟨(some 20), .v (.faddr 0 (.t 19)), none⟩, ⟨(some 21), .v (.load false 1 (.t 20)), none⟩, ⟨(some 22), .v (.bin .lss (.t 16) (.t 21)), none⟩, ⟨(some 23), .v (.mov (.t 22)), none⟩, ⟨(some 24), .v (.mov (.t 0)), (some (23, true))⟩, ⟨(some 25), .v (.nchk (.t 24)), (some (23, true))⟩, ⟨(some 26), .v (.faddr 2 (.t 25)), (some (23, true))⟩, ⟨(some 27), .v (.mov (.t 6)), (some (23, true))⟩, ⟨(some 28), .call 62 [(.t 26), (.t 27)], (some (23, true))⟩, ⟨(some 29), .v (.pick (.t 23) (.t 28) (.c (.bool false))), none⟩])
             (.cond (.t 29)
              (.reg [⟨(some 30), .v (.mov (.t 5)), none⟩, ⟨(some 31), .v (.mov (.t 7)), none⟩, ⟨(some 32), .m (.bsl 1 1 [(.str [])] [(0, 1, (.t 31))]), none⟩, ⟨(some 33), .m (.app false 1 16 (.t 30) (.t 32)), none⟩, ⟨(some 5), .v (.mov (.t 33)), none⟩])
              .skip))))
          (.reg [⟨(some 34), .v (.bin .add (.t 11) (.c (.int .i64 1))), none⟩, ⟨(some 11), .v (.mov (.t 34)), none⟩])))))))
    (.seq
     (.reg [⟨(some 35), .v (.mov (.t 5)), none⟩, ⟨(some 36), .call 141 [(.t 35)], none⟩])
     (.seq
      (.reg [⟨(some 37), .v (.mov (.t 5)), none⟩, ⟨(some 4), .v (.mov (.t 37)), none⟩])
      .ret)))))⟩
theorem e92 : rFunc Tryz.prog Tryz.f92 = some r92 := by kernel_rfl
def r58 : RFunc := ⟨23, [.t 2],
 (.seq
  (.reg [⟨(some 2), .v (.mov (.c (.bool false))), none⟩])
  (.seq
   (.seq
    (.reg [⟨(some 4), .v (.mov (.t 0)), none⟩, ⟨(some 5), .v (.lens (.t 4)), none⟩, ⟨(some 6), .v (.mov (.c (.int .i64 0))), none⟩])
    (.block 0
     (.loop
      (.seq
       (.reg [⟨(some 7), .v (.bin .lss (.t 6) (.t 5)), none⟩])
       (.seq
        (.cond (.t 7)
         .skip
         (.exit 0))
        (.seq
         (.block 1
          (.seq
           (.reg [⟨(some 8), .v (.mov (.t 6)), none⟩, ⟨(some 3), .v (.mov (.t 8)), none⟩])
           (.seq
            (.reg [⟨(some 9), .v (.mov (.t 0)), none⟩, ⟨(some 10), .v (.mov (.t 3)), none⟩, ⟨(some 11), .v (.sidx (.t 9) (.t 10)), none⟩, ⟨(some 12), .v (.bin .lss (.t 11) (.c (.int .u8 33))), none⟩, ⟨(some 13), .v (.mov (.t 12)), none⟩, ⟨(some 14), .v (.mov (.t 0)), (some (13, false))⟩, ⟨(some 15), .v (.mov (.t 3)), (some (13, false))⟩, ⟨(some 16), .v (.sidx (.t 14) (.t 15)), (some (13, false))⟩, ⟨(some 17), .v (.bin .gtr (.t 16) (.c (.int .u8 125))), (some (13, false))⟩, ⟨(some 18), .v (.pick (.t 13) (.c (.bool true)) (.t 17)), none⟩])
            (.cond (.t 18)
             (.seq
              (.reg [⟨(some 2), .v (.mov (.c (.bool false))), none⟩])
              .ret)
             .skip))))
         (.reg [⟨(some 19), .v (.bin .add (.t 6) (.c (.int .i64 1))), none⟩, ⟨(some 6), .v (.mov (.t 19)), none⟩])))))))
   (.seq
    (.reg [⟨(some 20), .v (.mov (.t 0)), none⟩, ⟨(some 21), .v (.lens (.t 20)), none⟩, ⟨(some 22), .call 38 [(.t 21), (.c (.int .i64 1)), (.c (.int .i64 12))], none⟩, ⟨(some 2), .v (.mov (.t 22)), none⟩])
    .ret)))⟩
theorem e58 : rFunc Tryz.prog Tryz.f58 = some r58 := by kernel_rfl
def r36 : RFunc := ⟨32, [.t 2],
 (.seq
  (.reg [⟨(some 2), .v (.mov (.c (.bool false))), none⟩])
  (.seq
   (.seq
    (.reg [⟨(some 5), .v (.mov (.t 0)), none⟩, ⟨(some 6), .v (.len (.t 5)), none⟩, ⟨(some 7), .v (.mov (.c (.int .i64 0))), none⟩])
    (.block 0
     (.loop
      (.seq
       (.reg [⟨(some 8), .v (.bin .lss (.t 7) (.t 6)), none⟩])
       (.seq
        (.cond (.t 8)
         .skip
         (.exit 0))
        (.seq
         (.block 1
          (.seq
           (.reg [⟨(some 9), .v (.mov (.t 7)), none⟩, ⟨(some 10), .v (.iaddr 1 (.t 5) (.t 7)), none⟩, ⟨(some 11), .v (.load false 1 (.t 10)), none⟩, ⟨(some 3), .v (.mov (.t 9)), none⟩, ⟨(some 4), .v (.mov (.t 11)), none⟩])
           (.seq
            (.reg [⟨(some 12), .v (.mov (.t 4)), none⟩, ⟨(some 13), .call 58 [(.t 12)], none⟩, ⟨(some 14), .v (.un .not (.t 13)), none⟩, ⟨(some 15), .v (.mov (.t 14)), none⟩, ⟨(some 16), .v (.mov (.t 3)), (some (15, false))⟩, ⟨(some 17), .v (.bin .gtr (.t 16) (.c (.int .i64 0))), (some (15, false))⟩, ⟨(some 18), .v (.mov (.t 17)), (some (15, false))⟩, ⟨(some 19), .v (.mov (.t 0)), (some (18, true))⟩, ⟨(some 20), .v (.mov (.t 3)), (some (18, true))⟩, ⟨(some 21), .v (.bin .sub (.t 20) (.c (.int .i64 1))), (some (18, true))⟩, ⟨(some 22), .v (.iaddr 1 (.t 19) (.t 21)), (some (18, true))⟩, ⟨(some 23), .v (.load false 1 (.t 22)), (some (18, true))⟩, ⟨(some 24), .v (.mov (.t 4)), (some (18, true))⟩, ⟨(some 25), .v (.bin .geq (.t 23) (.t 24)), (some (18, true))⟩, ⟨(some 26), .v (.pick (.t 18) (.t 25) (.c (.bool false))), (some (15, false))⟩, ⟨(some 27), .v (.pick (.t 15) (.c (.bool true)) (.t 26)), none⟩])
            (.cond (.t 27)
             (.seq
              (.reg [⟨(some 2), .v (.mov (.c (.bool false))), none⟩])
              .ret)
             .skip))))
         (.reg [⟨(some 28), .v (.bin .add (.t 7) (.c (.int .i64 1))), none⟩, ⟨(some 7), .v (.mov (.t 28)), none⟩])))))))
   (.seq
    (.reg [⟨(some 29), .v (.mov (.t 0)), none⟩, ⟨(some 30), .v (.len (.t 29)), none⟩, ⟨(some 31), .v (.bin .leq (.t 30) (.c (.int .i64 40))), none⟩, ⟨(some 2), .v (.mov (.t 31)), none⟩])
    .ret)))⟩
theorem e36 : rFunc Tryz.prog Tryz.f36 = some r36 := by kernel_rfl
def r164 : RFunc := ⟨6, [.t 2],
 (.seq
  (.reg [⟨(some 2), .v (.mov (.c (.bool false))), none⟩])
  (.seq
   (.reg [⟨(some 3), .v (.mov (.t 0)), none⟩, ⟨(some 4), .v (.mov (.t 0)), none⟩, ⟨(some 5), .v (.bin .neq (.t 3) (.t 4)), none⟩, ⟨(some 2), .v (.mov (.t 5)), none⟩])
   .ret))⟩
theorem e164 : rFunc Tryz.prog Tryz.f164 = some r164 := by kernel_rfl
def r134 : RFunc := ⟨20, [.t 4],
 (.seq
  (.reg [⟨(some 4), .v (.mov (.c (.int .i64 0))), none⟩])
  (.seq
   (.reg [⟨(some 7), .v (.mov (.t 0)), none⟩, ⟨(some 8), .call 164 [(.t 7)], none⟩, ⟨(some 5), .v (.mov (.t 8)), none⟩])
   (.seq
    (.reg [⟨(some 9), .v (.mov (.t 1)), none⟩, ⟨(some 10), .call 164 [(.t 9)], none⟩, ⟨(some 6), .v (.mov (.t 10)), none⟩])
    (.seq
     (.seq
      (.reg [⟨(some 11), .v (.mov (.t 5)), none⟩])
      (.cond (.t 11)
       (.seq
        (.seq
         (.reg [⟨(some 12), .v (.mov (.t 6)), none⟩])
         (.cond (.t 12)
          (.seq
           (.reg [⟨(some 4), .v (.mov (.c (.int .i64 0))), none⟩])
           .ret)
          .skip))
        (.seq
         (.reg [⟨(some 4), .v (.mov (.c (.int .i64 (-1)))), none⟩])
         .ret))
       .skip))
     (.seq
      (.seq
       (.reg [⟨(some 13), .v (.mov (.t 6)), none⟩])
       (.cond (.t 13)
        (.seq
         (.reg [⟨(some 4), .v (.mov (.c (.int .i64 1))), none⟩])
         .ret)
        .skip))
      (.seq
       (.seq
        (.reg [⟨(some 14), .v (.mov (.t 0)), none⟩, ⟨(some 15), .v (.mov (.t 1)), none⟩, ⟨(some 16), .v (.bin .lss (.t 14) (.t 15)), none⟩])
        (.cond (.t 16)
         (.seq
          (.reg [⟨(some 4), .v (.mov (.c (.int .i64 (-1)))), none⟩])
          .ret)
         .skip))
       (.seq
        (.seq
         (.reg [⟨(some 17), .v (.mov (.t 0)), none⟩, ⟨(some 18), .v (.mov (.t 1)), none⟩, ⟨(some 19), .v (.bin .gtr (.t 17) (.t 18)), none⟩])
         (.cond (.t 19)
          (.seq
           (.reg [⟨(some 4), .v (.mov (.c (.int .i64 1))), none⟩])
           .ret)
          .skip))
        (.seq
         (.reg [⟨(some 4), .v (.mov (.c (.int .i64 0))), none⟩])
         .ret))))))))⟩
theorem e134 : rFunc Tryz.prog Tryz.f134 = some r134 := by kernel_rfl
def r133 : RFunc := ⟨18, [.t 2],
 (.seq
  (.reg [⟨(some 2), .v (.mov (.c (.int .i64 0))), none⟩])
  (.seq
   (.reg [⟨(some 3), .v (.mov (.c (.int .i64 0))), none⟩])
   (.seq
    (.seq
     (.reg [⟨(some 6), .v (.mov (.t 0)), none⟩, ⟨(some 7), .v (.len (.t 6)), none⟩, ⟨(some 8), .v (.mov (.c (.int .i64 0))), none⟩])
     (.block 0
      (.loop
       (.seq
        (.reg [⟨(some 9), .v (.bin .lss (.t 8) (.t 7)), none⟩])
        (.seq
         (.cond (.t 9)
          .skip
          (.exit 0))
         (.seq
          (.block 1
           (.seq
            (.reg [⟨(some 10), .v (.iaddr 1 (.t 6) (.t 8)), none⟩, ⟨(some 11), .v (.load false 1 (.t 10)), none⟩, ⟨(some 5), .v (.mov (.t 11)), none⟩])
            (.seq
             (.reg [⟨(some 12), .v (.mov (.t 5)), none⟩, ⟨(some 13), .v (.mov (.t 3)), none⟩, ⟨(some 14), .v (.bin .neq (.t 12) (.t 13)), none⟩])
             (.cond (.t 14)
              (.seq
               (.reg [⟨(some 15), .v (.mov (.t 5)), none⟩, ⟨(some 2), .v (.mov (.t 15)), none⟩])
               .ret)
              .skip))))
          (.reg [⟨(some 16), .v (.bin .add (.t 8) (.c (.int .i64 1))), none⟩, ⟨(some 8), .v (.mov (.t 16)), none⟩])))))))
    (.seq
     (.reg [⟨(some 17), .v (.mov (.t 3)), none⟩, ⟨(some 2), .v (.mov (.t 17)), none⟩])
     .ret))))⟩
theorem e133 : rFunc Tryz.prog Tryz.f133 = some r133 := by kernel_rfl
def r132 : RFunc := ⟨15, [.t 4],
 (.seq
  (.reg [⟨(some 4), .v (.mov (.c (.int .i64 0))), none⟩])
  (.seq
   (.reg [⟨(some 5), .v (.mov (.t 0)), none⟩, ⟨(some 6), .v (.lens (.t 5)), none⟩, ⟨(some 7), .v (.mov (.t 1)), none⟩, ⟨(some 8), .v (.lens (.t 7)), none⟩, ⟨(some 9), .call 134 [(.t 6), (.t 8)], none⟩, ⟨(some 10), .v (.mov (.t 0)), none⟩, ⟨(some 11), .v (.mov (.t 1)), none⟩, ⟨(some 12), .call 135 [(.t 10), (.t 11)], none⟩, ⟨(some 13), .m (.bsl 1 2 [(.int .i64 0)] [(0, 1, (.t 9)), (1, 1, (.t 12))]), none⟩, ⟨(some 14), .call 133 [(.t 13)], none⟩, ⟨(some 4), .v (.mov (.t 14)), none⟩])
   .ret))⟩
theorem e132 : rFunc Tryz.prog Tryz.f132 = some r132 := by kernel_rfl
def r81 : RFunc := ⟨32, [.t 2],
 (.seq
  (.reg [⟨(some 2), .v (.mov (.c .nils)), none⟩])
  (.seq
   (.reg [⟨(some 7), .m (.bsl 1 1 [(.str [])] [(0, 1, (.c (.str [])))]), none⟩, ⟨(some 3), .v (.mov (.t 7)), none⟩])
   (.seq
    (.seq
     (.reg [⟨(some 8), .v (.mov (.t 0)), none⟩, ⟨(some 9), .v (.len (.t 8)), none⟩, ⟨(some 10), .v (.mov (.c (.int .i64 0))), none⟩])
     (.block 0
      (.loop
       (.seq
        (.reg [⟨(some 11), .v (.bin .lss (.t 10) (.t 9)), none⟩])
        (.seq
         (.cond (.t 11)
          .skip
          (.exit 0))
         (.seq
          (.block 1
           (.seq
            (.reg [⟨(some 12), .v (.iaddr 1 (.t 8) (.t 10)), none⟩, ⟨(some 13), .v (.load false 1 (.t 12)), none⟩, ⟨(some 5), .v (.mov (.t 13)), none⟩])
            (.seq
             (.reg [⟨(some 14), .v (.mov (.t 5)), none⟩, ⟨(some 15), .v (.lens (.t 14)), none⟩, ⟨(some 16), .v (.mov (.c (.int .i64 0))), none⟩])
             (.block 2
              (.loop
               (.seq
                (.reg [⟨(some 17), .v (.bin .lss (.t 16) (.t 15)), none⟩])
                (.seq
                 (.cond (.t 17)
                  .skip
                  (.exit 2))
                 (.seq
                  (.block 3
                   (.seq
                    (.reg [⟨(some 18), .v (.mov (.t 16)), none⟩, ⟨(some 6), .v (.mov (.t 18)), none⟩])
                    (.reg [⟨(some 19), .v (.mov (.t 3)), none⟩, ⟨(some 20), .v (.mov (.t 5)), none⟩, ⟨(some 21), .v (.mov (.t 6)), none⟩, ⟨(some 22), .v (.bin .add (.t 21) (.c (.int .i64 1))), none⟩, ⟨(some 23), .v (.sstr (.t 20) none (some (.t 22))), none⟩, ⟨(some 24), .m (.bsl 1 1 [(.str [])] [(0, 1, (.t 23))]), none⟩, ⟨(some 25), .m (.app false 1 16 (.t 19) (.t 24)), none⟩, ⟨(some 3), .v (.mov (.t 25)), none⟩])))
                  (.reg [⟨(some 26), .v (.bin .add (.t 16) (.c (.int .i64 1))), none⟩, ⟨(some 16), .v (.mov (.t 26)), none⟩])))))))))
          (.reg [⟨(some 27), .v (.bin .add (.t 10) (.c (.int .i64 1))), none⟩, ⟨(some 10), .v (.mov (.t 27)), none⟩])))))))
    (.seq
     (.reg [⟨(some 28), .v (.mov (.t 3)), none⟩, ⟨(some 29), .call 131 [(.t 28), (.c (.fn 132 []))], none⟩])
     (.seq
      (.reg [⟨(some 30), .v (.mov (.t 3)), none⟩, ⟨(some 31), .call 136 [(.t 30)], none⟩, ⟨(some 2), .v (.mov (.t 31)), none⟩])
      .ret)))))⟩
theorem e81 : rFunc Tryz.prog Tryz.f81 = some r81 := by kernel_rfl
def r113 : RFunc := ⟨8, [.cell true 2 2],
 (.seq
  (.reg [⟨(some 2), .m (.alloc [(.int .i64 0), .nils]), none⟩])
  (.seq
   (.reg [⟨(some 3), .v (.mov (.t 0)), none⟩, ⟨(some 4), .v (.mov (.t 0)), none⟩, ⟨(some 5), .call 155 [(.t 4)], none⟩, ⟨(some 6), .m (.mks 1 8 [(.int .i64 0)] (.t 5) (.t 5)), none⟩, ⟨(some 7), .v (.bld [(.int .i64 0), .nils] [(0, 1, (.t 3)), (1, 1, (.t 6))]), none⟩, ⟨none, .m (.store 2 (.t 2) (.t 7)), none⟩])
   .ret))⟩
theorem e113 : rFunc Tryz.prog Tryz.f113 = some r113 := by kernel_rfl
def r114 : RFunc := ⟨33, [],
 (.seq
  (.dreg (.fl ⟨(some 6), .v (.mov (.t 0)), none⟩ (.fl ⟨(some 7), .v (.nchk (.t 6)), none⟩ (.fl ⟨(some 8), .v (.faddr 1 (.t 7)), none⟩ (.fl ⟨(some 10), .v (.mov (.t 1)), none⟩ (.fl ⟨(some 11), .v (.bin .quo (.t 10) (.c (.int .i64 16))), none⟩ (.fl ⟨(some 14), .v (.mov (.t 1)), none⟩ (.fl ⟨(some 15), .v (.bin .rem (.t 14) (.c (.int .i64 16))), none⟩ (.fl ⟨(some 16), .v (.bin .shl (.c (.int .i64 1)) (.t 15)), none⟩ (.nx ⟨(some 9), .v (.load false 1 (.t 8)), none⟩ (.fl ⟨(some 12), .v (.iaddr 1 (.t 9) (.t 11)), none⟩ (.nx ⟨(some 13), .v (.load false 1 (.t 12)), none⟩ (.fl ⟨(some 17), .v (.bin .andNot (.t 13) (.t 16)), none⟩ (.fl ⟨(some 18), .v (.iaddr 1 (.t 9) (.t 11)), none⟩ (.nx ⟨none, .m (.store 1 (.t 18) (.t 17)), none⟩ .done)))))))))))))))
  (.seq
   (.reg [⟨(some 19), .v (.mov (.t 2)), none⟩])
   (.cond (.t 19)
    (.dreg (.fl ⟨(some 20), .v (.mov (.t 0)), none⟩ (.fl ⟨(some 21), .v (.nchk (.t 20)), none⟩ (.fl ⟨(some 22), .v (.faddr 1 (.t 21)), none⟩ (.fl ⟨(some 24), .v (.mov (.t 1)), none⟩ (.fl ⟨(some 25), .v (.bin .quo (.t 24) (.c (.int .i64 16))), none⟩ (.fl ⟨(some 28), .v (.mov (.t 1)), none⟩ (.fl ⟨(some 29), .v (.bin .rem (.t 28) (.c (.int .i64 16))), none⟩ (.fl ⟨(some 30), .v (.bin .shl (.c (.int .i64 1)) (.t 29)), none⟩ (.nx ⟨(some 23), .v (.load false 1 (.t 22)), none⟩ (.fl ⟨(some 26), .v (.iaddr 1 (.t 23) (.t 25)), none⟩ (.nx ⟨(some 27), .v (.load false 1 (.t 26)), none⟩ (.fl ⟨(some 31), .v (.bin .or (.t 27) (.t 30)), none⟩ (.fl ⟨(some 32), .v (.iaddr 1 (.t 23) (.t 25)), none⟩ (.nx ⟨none, .m (.store 1 (.t 32) (.t 31)), none⟩ .done)))))))))))))))
    .skip)))⟩
theorem e114 : rFunc Tryz.prog Tryz.f114 = some r114 := by kernel_rfl
def r84 : RFunc := ⟨20, [.cell true 2 4],
 (.seq
  (.reg [⟨(some 4), .m (.alloc [(.int .i64 0), .nils]), none⟩])
  (.seq
   (.reg [⟨(some 7), .v (.mov (.t 0)), none⟩, ⟨(some 8), .call 113 [(.t 7)], none⟩, ⟨(some 5), .m (.alloc [(.int .i64 0), .nils]), none⟩, ⟨none, .m (.store 2 (.t 5) (.t 8)), none⟩])
   (.seq
    (.seq
     (.reg [⟨(some 9), .v (.mov (.t 0)), none⟩, ⟨(some 10), .v (.mov (.c (.int .i64 0))), none⟩])
     (.block 0
      (.loop
       (.seq
        (.reg [⟨(some 11), .v (.bin .lss (.t 10) (.t 9)), none⟩])
        (.seq
         (.cond (.t 11)
          .skip
          (.exit 0))
         (.seq
          (.block 1
           (.seq
            (.reg [⟨(some 12), .v (.mov (.t 10)), none⟩, ⟨(some 6), .v (.mov (.t 12)), none⟩])
            (.reg [⟨(some 13), .v (.mov (.t 6)), none⟩, ⟨(some 14), .v (.mov (.t 1)), none⟩, ⟨(some 15), .v (.mov (.t 6)), none⟩, ⟨(some 16), .callv (.t 14) [(.t 15)], none⟩, ⟨(some 17), .call 114 [(.t 5), (.t 13), (.t 16)], none⟩])))
          (.reg [⟨(some 18), .v (.bin .add (.t 10) (.c (.int .i64 1))), none⟩, ⟨(some 10), .v (.mov (.t 18)), none⟩])))))))
    (.seq
     (.reg [⟨(some 19), .v (.load true 2 (.t 5)), none⟩, ⟨none, .m (.store 2 (.t 4) (.t 19)), none⟩])
     .ret))))⟩
theorem e84 : rFunc Tryz.prog Tryz.f84 = some r84 := by kernel_rfl
def r98 : RFunc := ⟨18, [.t 4],
 (.seq
  (.reg [⟨(some 4), .v (.mov (.c (.bool false))), none⟩])
  (.seq
   (.reg [⟨(some 5), .v (.mov (.t 0)), none⟩, ⟨(some 6), .v (.lens (.t 5)), none⟩, ⟨(some 7), .v (.mov (.t 1)), none⟩, ⟨(some 8), .v (.lens (.t 7)), none⟩, ⟨(some 9), .v (.bin .geq (.t 6) (.t 8)), none⟩, ⟨(some 10), .v (.mov (.t 9)), none⟩, ⟨(some 11), .v (.mov (.t 0)), (some (10, true))⟩, ⟨(some 12), .v (.mov (.t 1)), (some (10, true))⟩, ⟨(some 13), .v (.lens (.t 12)), (some (10, true))⟩, ⟨(some 14), .v (.sstr (.t 11) none (some (.t 13))), (some (10, true))⟩, ⟨(some 15), .v (.mov (.t 1)), (some (10, true))⟩, ⟨(some 16), .v (.bin .eql (.t 14) (.t 15)), (some (10, true))⟩, ⟨(some 17), .v (.pick (.t 10) (.t 16) (.c (.bool false))), none⟩, ⟨(some 4), .v (.mov (.t 17)), none⟩])
   .ret))⟩
theorem e98 : rFunc Tryz.prog Tryz.f98 = some r98 := by kernel_rfl
def r48 : RFunc := ⟨8, [.t 4],
 (.seq
  (.reg [⟨(some 4), .v (.mov (.c (.bool false))), none⟩])
  (.seq
   (.reg [⟨(some 5), .v (.mov (.t 0)), none⟩, ⟨(some 6), .v (.mov (.t 1)), none⟩, ⟨(some 7), .call 98 [(.t 5), (.t 6)], none⟩, ⟨(some 4), .v (.mov (.t 7)), none⟩])
   .ret))⟩
theorem e48 : rFunc Tryz.prog Tryz.f48 = some r48 := by kernel_rfl
def r83 : RFunc := ⟨29, [.t 4],
 (.seq
  (.reg [⟨(some 4), .v (.mov (.c (.int .i64 0))), none⟩])
  (.seq
   (.reg [⟨(some 5), .v (.mov (.c (.int .i64 0))), none⟩])
   (.seq
    (.seq
     (.reg [⟨(some 8), .v (.mov (.t 0)), none⟩, ⟨(some 9), .v (.len (.t 8)), none⟩, ⟨(some 10), .v (.mov (.c (.int .i64 0))), none⟩])
     (.block 0
      (.loop
       (.seq
        (.reg [⟨(some 11), .v (.bin .lss (.t 10) (.t 9)), none⟩])
        (.seq
         (.cond (.t 11)
          .skip
          (.exit 0))
         (.seq
          (.block 1
           (.seq
            (.reg [⟨(some 12), .v (.iaddr 1 (.t 8) (.t 10)), none⟩, ⟨(some 13), .v (.load false 1 (.t 12)), none⟩, ⟨(some 7), .v (.mov (.t 13)), none⟩])
            (.seq
             (.reg [⟨(some 14), .v (.mov (.t 7)), none⟩, ⟨(some 15), .v (.lens (.t 14)), none⟩, ⟨(some 16), .v (.mov (.t 1)), none⟩, ⟨(some 17), .v (.lens (.t 16)), none⟩, ⟨(some 18), .v (.bin .add (.t 17) (.c (.int .i64 1))), none⟩, ⟨(some 19), .v (.bin .eql (.t 15) (.t 18)), none⟩, ⟨(some 20), .v (.mov (.t 19)), none⟩, ⟨(some 21), .v (.mov (.t 7)), (some (20, true))⟩, ⟨(some 22), .v (.mov (.t 1)), (some (20, true))⟩, ⟨(some 23), .call 48 [(.t 21), (.t 22)], (some (20, true))⟩, ⟨(some 24), .v (.pick (.t 20) (.t 23) (.c (.bool false))), none⟩])
             (.cond (.t 24)
              (.reg [⟨(some 25), .v (.mov (.t 5)), none⟩, ⟨(some 26), .v (.bin .add (.t 25) (.c (.int .i64 1))), none⟩, ⟨(some 5), .v (.mov (.t 26)), none⟩])
              .skip))))
          (.reg [⟨(some 27), .v (.bin .add (.t 10) (.c (.int .i64 1))), none⟩, ⟨(some 10), .v (.mov (.t 27)), none⟩])))))))
    (.seq
     (.reg [⟨(some 28), .v (.mov (.t 5)), none⟩, ⟨(some 4), .v (.mov (.t 28)), none⟩])
     .ret))))⟩
theorem e83 : rFunc Tryz.prog Tryz.f83 = some r83 := by kernel_rfl
def r166 : RFunc := ⟨17, [.t 4, .t 5],
 (.seq
  (.reg [⟨(some 4), .v (.mov (.c (.int .u32 0))), none⟩, ⟨(some 5), .v (.mov (.c (.int .u32 0))), none⟩])
  (.seq
   (.reg [⟨(some 7), .v (.mov (.t 0)), none⟩, ⟨(some 8), .v (.conv .u64 (.t 7)), none⟩, ⟨(some 9), .v (.mov (.t 1)), none⟩, ⟨(some 10), .v (.conv .u64 (.t 9)), none⟩, ⟨(some 11), .v (.bin .mul (.t 8) (.t 10)), none⟩, ⟨(some 6), .v (.mov (.t 11)), none⟩])
   (.seq
    (.reg [⟨(some 12), .v (.mov (.t 6)), none⟩, ⟨(some 13), .v (.bin .shr (.t 12) (.c (.int .u64 32))), none⟩, ⟨(some 14), .v (.conv .u32 (.t 13)), none⟩, ⟨(some 15), .v (.mov (.t 6)), none⟩, ⟨(some 16), .v (.conv .u32 (.t 15)), none⟩, ⟨(some 4), .v (.mov (.t 14)), none⟩, ⟨(some 5), .v (.mov (.t 16)), none⟩])
    .ret)))⟩
theorem e166 : rFunc Tryz.prog Tryz.f166 = some r166 := by kernel_rfl
def r167 : RFunc := ⟨51, [.t 4, .t 5],
 (.seq
  (.reg [⟨(some 4), .v (.mov (.c (.int .u64 0))), none⟩, ⟨(some 5), .v (.mov (.c (.int .u64 0))), none⟩])
  (.seq
   (.reg [⟨(some 14), .v (.mov (.t 0)), none⟩, ⟨(some 15), .v (.bin .and (.t 14) (.c (.int .u64 4294967295))), none⟩, ⟨(some 6), .v (.mov (.t 15)), none⟩])
   (.seq
    (.reg [⟨(some 16), .v (.mov (.t 0)), none⟩, ⟨(some 17), .v (.bin .shr (.t 16) (.c (.int .u64 32))), none⟩, ⟨(some 7), .v (.mov (.t 17)), none⟩])
    (.seq
     (.reg [⟨(some 18), .v (.mov (.t 1)), none⟩, ⟨(some 19), .v (.bin .and (.t 18) (.c (.int .u64 4294967295))), none⟩, ⟨(some 8), .v (.mov (.t 19)), none⟩])
     (.seq
      (.reg [⟨(some 20), .v (.mov (.t 1)), none⟩, ⟨(some 21), .v (.bin .shr (.t 20) (.c (.int .u64 32))), none⟩, ⟨(some 9), .v (.mov (.t 21)), none⟩])
      (.seq
       (.reg [⟨(some 22), .v (.mov (.t 6)), none⟩, ⟨(some 23), .v (.mov (.t 8)), none⟩, ⟨(some 24), .v (.bin .mul (.t 22) (.t 23)), none⟩, ⟨(some 10), .v (.mov (.t 24)), none⟩])
       (.seq
        (.reg [⟨(some 25), .v (.mov (.t 7)), none⟩, ⟨(some 26), .v (.mov (.t 8)), none⟩, ⟨(some 27), .v (.bin .mul (.t 25) (.t 26)), none⟩, ⟨(some 28), .v (.mov (.t 10)), none⟩, ⟨(some 29), .v (.bin .shr (.t 28) (.c (.int .u64 32))), none⟩, ⟨(some 30), .v (.bin .add (.t 27) (.t 29)), none⟩, ⟨(some 11), .v (.mov (.t 30)), none⟩])
        (.seq
         (.reg [⟨(some 31), .v (.mov (.t 11)), none⟩, ⟨(some 32), .v (.bin .and (.t 31) (.c (.int .u64 4294967295))), none⟩, ⟨(some 12), .v (.mov (.t 32)), none⟩])
         (.seq
          (.reg [⟨(some 33), .v (.mov (.t 11)), none⟩, ⟨(some 34), .v (.bin .shr (.t 33) (.c (.int .u64 32))), none⟩, ⟨(some 13), .v (.mov (.t 34)), none⟩])
          (.seq
           (.reg [⟨(some 35), .v (.mov (.t 12)), none⟩, ⟨(some 36), .v (.mov (.t 6)), none⟩, ⟨(some 37), .v (.mov (.t 9)), none⟩, ⟨(some 38), .v (.bin .mul (.t 36) (.t 37)), none⟩, ⟨(some 39), .v (.bin .add (.t 35) (.t 38)), none⟩, ⟨(some 12), .v (.mov (.t 39)), none⟩])
           (.seq
            (.reg [⟨(some 40), .v (.mov (.t 7)), none⟩, ⟨(some 41), .v (.mov (.t 9)), none⟩, ⟨(some 42), .v (.bin .mul (.t 40) (.t 41)), none⟩, ⟨(some 43), .v (.mov (.t 13)), none⟩, ⟨(some 44), .v (.bin .add (.t 42) (.t 43)), none⟩, ⟨(some 45), .v (.mov (.t 12)), none⟩, ⟨(some 46), .v (.bin .shr (.t 45) (.c (.int .u64 32))), none⟩, ⟨(some 47), .v (.bin .add (.t 44) (.t 46)), none⟩, ⟨(some 4), .v (.mov (.t 47)), none⟩])
            (.seq
             (.reg [⟨(some 48), .v (.mov (.t 0)), none⟩, ⟨(some 49), .v (.mov (.t 1)), none⟩, ⟨(some 50), .v (.bin .mul (.t 48) (.t 49)), none⟩, ⟨(some 5), .v (.mov (.t 50)), none⟩])
             .ret))))))))))))⟩
theorem e167 : rFunc Tryz.prog Tryz.f167 = some r167 := by kernel_rfl
def r137 : RFunc := ⟨30, [.t 4, .t 5],
 (.seq
  (.reg [⟨(some 4), .v (.mov (.c (.int .u64 0))), none⟩, ⟨(some 5), .v (.mov (.c (.int .u64 0))), none⟩])
  (.seq
   (.cond (.c (.bool false))
    (.seq
     (.reg [⟨(some 11), .v (.mov (.t 0)), none⟩, ⟨(some 12), .v (.conv .u32 (.t 11)), none⟩, ⟨(some 13), .v (.mov (.t 1)), none⟩, ⟨(some 14), .v (.conv .u32 (.t 13)), none⟩, ⟨(some 15), .call 166 [(.t 12), (.t 14)], none⟩, ⟨(some 10), .v (.mov (.t 15)), none⟩, ⟨(some 16), .v (.ext (.t 10) 0), none⟩, ⟨(some 17), .v (.ext (.t 10) 1), none⟩, ⟨(some 6), .v (.mov (.t 16)), none⟩, ⟨(some 7), .v (.mov (.t 17)), none⟩])
     (.seq
      (.reg [⟨(some 18), .v (.mov (.t 6)), none⟩, ⟨(some 19), .v (.conv .u64 (.t 18)), none⟩, ⟨(some 20), .v (.mov (.t 7)), none⟩, ⟨(some 21), .v (.conv .u64 (.t 20)), none⟩, ⟨(some 4), .v (.mov (.t 19)), none⟩, ⟨(some 5), .v (.mov (.t 21)), none⟩])
      .ret))
    .skip)
   (.seq
    (.reg [⟨(some 23), .v (.mov (.t 0)), none⟩, ⟨(some 24), .v (.mov (.t 1)), none⟩, ⟨(some 25), .call 167 [(.t 23), (.t 24)], none⟩, ⟨(some 22), .v (.mov (.t 25)), none⟩, ⟨(some 26), .v (.ext (.t 22) 0), none⟩, ⟨(some 27), .v (.ext (.t 22) 1), none⟩, ⟨(some 8), .v (.mov (.t 26)), none⟩, ⟨(some 9), .v (.mov (.t 27)), none⟩])
    (.seq
     (.reg [⟨(some 28), .v (.mov (.t 8)), none⟩, ⟨(some 29), .v (.mov (.t 9)), none⟩, ⟨(some 4), .v (.mov (.t 28)), none⟩, ⟨(some 5), .v (.mov (.t 29)), none⟩])
     .ret))))⟩
theorem e137 : rFunc Tryz.prog Tryz.f137 = some r137 := by kernel_rfl
def r82 : RFunc := ⟨48, [.t 4],
 (.seq
  (.reg [⟨(some 4), .v (.mov (.c .nils)), none⟩])
  (.seq
   (.seq
    (.reg [⟨(some 9), .v (.mov (.t 1)), none⟩, ⟨(some 10), .v (.bin .lss (.t 9) (.c (.int .i64 0))), none⟩])
    (.cond (.t 10)
     (.reg [⟨(some 11), .dead, none⟩, ⟨none, .dead, none⟩])
     .skip))
   (.seq
    (.reg [⟨(some 13), .v (.mov (.t 0)), none⟩, ⟨(some 14), .v (.len (.t 13)), none⟩, ⟨(some 15), .v (.conv .u64 (.t 14)), none⟩, ⟨(some 16), .v (.mov (.t 1)), none⟩, ⟨(some 17), .v (.conv .u64 (.t 16)), none⟩, ⟨(some 18), .call 137 [(.t 15), (.t 17)], none⟩, ⟨(some 12), .v (.mov (.t 18)), none⟩, ⟨(some 19), .v (.ext (.t 12) 0), none⟩, ⟨(some 20), .v (.ext (.t 12) 1), none⟩, ⟨(some 5), .v (.mov (.t 19)), none⟩, ⟨(some 6), .v (.mov (.t 20)), none⟩])
    (.seq
     (.seq
      (.reg [⟨(some 21), .v (.mov (.t 5)), none⟩, ⟨(some 22), .v (.bin .gtr (.t 21) (.c (.int .u64 0))), none⟩, ⟨(some 23), .v (.mov (.t 22)), none⟩, ⟨(some 24), .v (.mov (.t 6)), (some (23, false))⟩, ⟨(some 25), .v (.bin .gtr (.t 24) (.c (.int .u64 9223372036854775807))), (some (23, false))⟩, ⟨(some 26), .v (.pick (.t 23) (.c (.bool true)) (.t 25)), none⟩])
      (.cond (.t 26)
       (.reg [⟨(some 27), .dead, none⟩, ⟨none, .dead, none⟩])
       .skip))
     (.seq
      (.reg [⟨(some 28), .v (.mov (.t 6)), none⟩, ⟨(some 29), .v (.conv .i64 (.t 28)), none⟩, ⟨(some 30), .m (.mks 1 1 [(.bool false)] (.t 29) (.t 29)), none⟩, ⟨(some 7), .v (.mov (.t 30)), none⟩])
      (.seq
       (.reg [⟨(some 31), .v (.mov (.t 7)), none⟩, ⟨(some 32), .v (.mov (.t 0)), none⟩, ⟨(some 33), .m (.cpy false 1 (.t 31) (.t 32)), none⟩, ⟨(some 8), .v (.mov (.t 33)), none⟩])
       (.seq
        (.block 0
         (.loop
          (.seq
           (.seq
            (.reg [⟨(some 34), .v (.mov (.t 8)), none⟩, ⟨(some 35), .v (.mov (.t 7)), none⟩, ⟨(some 36), .v (.len (.t 35)), none⟩, ⟨(some 37), .v (.bin .lss (.t 34) (.t 36)), none⟩])
            (.cond (.t 37)
             .skip
             (.exit 0)))
           (.block 1
            (.dreg (.fl ⟨(some 38), .v (.mov (.t 8)), none⟩ (.fl ⟨(some 39), .v (.mov (.t 7)), none⟩ (.fl ⟨(some 40), .v (.mov (.t 8)), none⟩ (.fl ⟨(some 41), .v (.slc 1 (.t 39) (some (.t 40)) none), none⟩ (.fl ⟨(some 42), .v (.mov (.t 7)), none⟩ (.fl ⟨(some 43), .v (.mov (.t 8)), none⟩ (.fl ⟨(some 44), .v (.slc 1 (.t 42) none (some (.t 43))), none⟩ (.nx ⟨(some 45), .m (.cpy false 1 (.t 41) (.t 44)), none⟩ (.fl ⟨(some 46), .v (.bin .add (.t 38) (.t 45)), none⟩ (.fl ⟨(some 8), .v (.mov (.t 46)), none⟩ .done)))))))))))))))
        (.seq
         (.reg [⟨(some 47), .v (.mov (.t 7)), none⟩, ⟨(some 4), .v (.mov (.t 47)), none⟩])
         .ret))))))))⟩
theorem e82 : rFunc Tryz.prog Tryz.f82 = some r82 := by kernel_rfl
def r85 : RFunc := ⟨8, [.t 3],
 (.seq
  (.reg [⟨(some 3), .v (.mov (.c (.bool false))), none⟩])
  (.seq
   (.reg [⟨(some 4), .v (.load false 1 (.t 1)), none⟩, ⟨(some 5), .v (.mov (.t 0)), none⟩, ⟨(some 6), .v (.iaddr 1 (.t 4) (.t 5)), none⟩, ⟨(some 7), .v (.load false 1 (.t 6)), none⟩, ⟨(some 3), .v (.mov (.t 7)), none⟩])
   .ret))⟩
theorem e85 : rFunc Tryz.prog Tryz.f85 = some r85 := by kernel_rfl
def r93 : RFunc := ⟨19, [.t 4],
 (.seq
  (.reg [⟨(some 4), .v (.mov (.c (.int .i64 0))), none⟩])
  (.seq
   (.seq
    (.reg [⟨(some 6), .v (.mov (.t 0)), none⟩, ⟨(some 7), .v (.len (.t 6)), none⟩, ⟨(some 8), .v (.mov (.c (.int .i64 0))), none⟩])
    (.block 0
     (.loop
      (.seq
       (.reg [⟨(some 9), .v (.bin .lss (.t 8) (.t 7)), none⟩])
       (.seq
        (.cond (.t 9)
         .skip
         (.exit 0))
        (.seq
         (.block 1
          (.seq
           (.reg [⟨(some 10), .v (.mov (.t 8)), none⟩, ⟨(some 5), .v (.mov (.t 10)), none⟩])
           (.seq
            (.reg [⟨(some 11), .v (.mov (.t 1)), none⟩, ⟨(some 12), .v (.mov (.t 0)), none⟩, ⟨(some 13), .v (.mov (.t 5)), none⟩, ⟨(some 14), .v (.iaddr 1 (.t 12) (.t 13)), none⟩, ⟨(some 15), .v (.load false 1 (.t 14)), none⟩, ⟨(some 16), .v (.bin .eql (.t 11) (.t 15)), none⟩])
            (.cond (.t 16)
             (.seq
              (.reg [⟨(some 17), .v (.mov (.t 5)), none⟩, ⟨(some 4), .v (.mov (.t 17)), none⟩])
              .ret)
             .skip))))
         (.reg [⟨(some 18), .v (.bin .add (.t 8) (.c (.int .i64 1))), none⟩, ⟨(some 8), .v (.mov (.t 18)), none⟩])))))))
   (.seq
    (.reg [⟨(some 4), .v (.mov (.c (.int .i64 (-1)))), none⟩])
    .ret)))⟩
theorem e93 : rFunc Tryz.prog Tryz.f93 = some r93 := by kernel_rfl
def r44 : RFunc := ⟨9, [.t 4],
 (.seq
  (.reg [⟨(some 4), .v (.mov (.c (.bool false))), none⟩])
  (.seq
   (.reg [⟨(some 5), .v (.mov (.t 0)), none⟩, ⟨(some 6), .v (.mov (.t 1)), none⟩, ⟨(some 7), .call 93 [(.t 5), (.t 6)], none⟩, ⟨(some 8), .v (.bin .geq (.t 7) (.c (.int .i64 0))), none⟩, ⟨(some 4), .v (.mov (.t 8)), none⟩])
   .ret))⟩
theorem e44 : rFunc Tryz.prog Tryz.f44 = some r44 := by kernel_rfl
def r86 : RFunc := ⟨11, [.t 4],
 (.seq
  (.reg [⟨(some 4), .v (.mov (.c (.bool false))), none⟩])
  (.seq
   (.dreg (.fl ⟨(some 5), .v (.load false 1 (.t 1)), none⟩ (.fl ⟨(some 6), .v (.load false 1 (.t 2)), none⟩ (.fl ⟨(some 7), .v (.mov (.t 0)), none⟩ (.fl ⟨(some 8), .v (.iaddr 1 (.t 6) (.t 7)), none⟩ (.fl ⟨(some 9), .v (.load false 1 (.t 8)), none⟩ (.nx ⟨(some 10), .call 44 [(.t 5), (.t 9)], none⟩ (.fl ⟨(some 4), .v (.mov (.t 10)), none⟩ .done))))))))
   .ret))⟩
theorem e86 : rFunc Tryz.prog Tryz.f86 = some r86 := by kernel_rfl
noncomputable def t37 : RT := treeOf Tryz.prog Tryz.f37 10
noncomputable def r37 : RFunc := ⟨50, [.cell true 5 2],
 (.seq
  (.reg [⟨(some 1), .m (.box (.t 0)), none⟩, ⟨(some 2), .m (.alloc [(.int .i64 0), .nils, (.int .i64 0), .nils, (.str [])]), none⟩])
  (.seq
   (.reg [⟨(some 8), .v (.load false 1 (.t 1)), none⟩, ⟨(some 9), .call 81 [(.t 8)], none⟩, ⟨(some 10), .m (.bsl 1 0 [(.bool false)] []), none⟩, ⟨(some 11), .m (.bsl 1 0 [(.int .u8 0)] []), none⟩, ⟨(some 3), .m (.alloc [.nils]), none⟩, ⟨(some 4), .m (.alloc [.nils]), none⟩, ⟨none, .m (.store 1 (.t 3) (.t 9)), none⟩, ⟨none, .m (.store 1 (.t 4) (.t 10)), none⟩, ⟨(some 5), .v (.mov (.t 11)), none⟩])
   (.seq
    (.seq
     (.reg [⟨(some 12), .v (.load false 1 (.t 3)), none⟩, ⟨(some 13), .v (.len (.t 12)), none⟩, ⟨(some 14), .v (.mov (.c (.int .i64 0))), none⟩])
     (.block 0
      (.loop
       (.seq
        (.reg [⟨(some 15), .v (.bin .lss (.t 14) (.t 13)), none⟩])
        (.seq
         (.cond (.t 15)
          .skip
          (.exit 0))
         (.seq
          (.block 1
           (.seq
            (.reg [⟨(some 16), .v (.mov (.t 14)), none⟩, ⟨(some 17), .v (.iaddr 1 (.t 12) (.t 14)), none⟩, ⟨(some 18), .v (.load false 1 (.t 17)), none⟩, ⟨(some 6), .v (.mov (.t 16)), none⟩, ⟨(some 7), .v (.mov (.t 18)), none⟩])
            (.seq
             (.dreg t37)
             (.seq
              (.reg [⟨(some 28), .v (.mov (.t 6)), none⟩, ⟨(some 29), .v (.bin .gtr (.t 28) (.c (.int .i64 0))), none⟩])
              (.cond (.t 29)
               (.reg [⟨(some 30), .v (.mov (.t 5)), none⟩, ⟨(some 31), .v (.mov (.t 7)), none⟩, ⟨(some 32), .v (.mov (.t 7)), none⟩, ⟨(some 33), .v (.lens (.t 32)), none⟩, ⟨(some 34), .v (.bin .sub (.t 33) (.c (.int .i64 1))), none⟩, ⟨(some 35), .v (.sidx (.t 31) (.t 34)), none⟩, ⟨(some 36), .m (.bsl 1 1 [(.int .u8 0)] [(0, 1, (.t 35))]), none⟩, ⟨(some 37), .m (.app false 1 1 (.t 30) (.t 36)), none⟩, ⟨(some 5), .v (.mov (.t 37)), none⟩])
               .skip)))))
          (.reg [⟨(some 38), .v (.bin .add (.t 14) (.c (.int .i64 1))), none⟩, ⟨(some 14), .v (.mov (.t 38)), none⟩])))))))
    (.seq
     (.dreg (.fl ⟨(some 41), .v (.mkfn 85 [(.t 4)]), none⟩ (.fl ⟨(some 45), .v (.mkfn 86 [(.t 1), (.t 3)]), none⟩ (.fl ⟨(some 47), .v (.mov (.t 5)), none⟩ (.fl ⟨(some 48), .v (.cbs (.t 47)), none⟩ (.both (.nx ⟨(some 39), .v (.load false 1 (.t 4)), none⟩ (.fl ⟨(some 40), .v (.len (.t 39)), none⟩ (.both (.nx ⟨(some 42), .call 84 [(.t 40), (.t 41)], none⟩ (.nx ⟨(some 43), .v (.load false 1 (.t 3)), none⟩ (.fl ⟨(some 44), .v (.len (.t 43)), none⟩ (.nx ⟨(some 46), .call 84 [(.t 44), (.t 45)], none⟩ (.fl ⟨(some 49), .v (.bld [(.int .i64 0), .nils, (.int .i64 0), .nils, (.str [])] [(0, 2, (.t 42)), (2, 2, (.t 46)), (4, 1, (.t 48))]), none⟩ (.nx ⟨none, .m (.store 5 (.t 2) (.t 49)), none⟩ .done)))))) (.nx ⟨(some 43), .v (.load false 1 (.t 3)), none⟩ (.fl ⟨(some 44), .v (.len (.t 43)), none⟩ (.nx ⟨(some 42), .call 84 [(.t 40), (.t 41)], none⟩ (.nx ⟨(some 46), .call 84 [(.t 44), (.t 45)], none⟩ (.fl ⟨(some 49), .v (.bld [(.int .i64 0), .nils, (.int .i64 0), .nils, (.str [])] [(0, 2, (.t 42)), (2, 2, (.t 46)), (4, 1, (.t 48))]), none⟩ (.nx ⟨none, .m (.store 5 (.t 2) (.t 49)), none⟩ .done))))))))) (.nx ⟨(some 43), .v (.load false 1 (.t 3)), none⟩ (.fl ⟨(some 44), .v (.len (.t 43)), none⟩ (.nx ⟨(some 39), .v (.load false 1 (.t 4)), none⟩ (.fl ⟨(some 40), .v (.len (.t 39)), none⟩ (.nx ⟨(some 42), .call 84 [(.t 40), (.t 41)], none⟩ (.nx ⟨(some 46), .call 84 [(.t 44), (.t 45)], none⟩ (.fl ⟨(some 49), .v (.bld [(.int .i64 0), .nils, (.int .i64 0), .nils, (.str [])] [(0, 2, (.t 42)), (2, 2, (.t 46)), (4, 1, (.t 48))]), none⟩ (.nx ⟨none, .m (.store 5 (.t 2) (.t 49)), none⟩ .done))))))))))))))
     .ret))))⟩
def o37 : List (RO × List Nat) := [(⟨(some 19), .v (.load false 1 (.t 4)), none⟩, []), (⟨(some 20), .m (.bsl 1 1 [(.bool false)] [(0, 1, (.c (.bool true)))]), none⟩, []), (⟨(some 21), .v (.load false 1 (.t 3)), none⟩, []), (⟨(some 22), .v (.mov (.t 7)), none⟩, []), (⟨(some 23), .call 83 [(.t 21), (.t 22)], none⟩, [2, 3]), (⟨(some 24), .call 82 [(.t 20), (.t 23)], none⟩, [1, 4, 4]), (⟨(some 25), .m (.app false 1 1 (.t 19) (.t 24)), none⟩, [0, 5, 5]), (⟨(some 26), .m (.bsl 1 1 [(.bool false)] [(0, 1, (.c (.bool false)))]), none⟩, []), (⟨(some 27), .m (.app false 1 1 (.t 25) (.t 26)), none⟩, [6, 7, 6]), (⟨none, .m (.store 1 (.t 4) (.t 27)), none⟩, [8, 8, 0, 1, 2, 3, 4, 5, 6, 7, 8])]
theorem k37 : RegOk Tryz.prog (Tryz.f37).ntmps (regOf Tryz.f37 10) o37 := ⟨by kernel_rfl, by kernel_rfl, by kernel_rfl, by kernel_rfl, by kernel_rfl, by kernel_rfl⟩
theorem b37 : rFuncB (bigAt 10 t37) Tryz.prog Tryz.f37 = some r37 := by kernel_rfl
theorem e37 : rFunc Tryz.prog Tryz.f37 = some r37 := rFunc_big k37 (by kernel_rfl) b37
def r94 : RFunc := ⟨26, [.t 4],
 (.seq
  (.reg [⟨(some 4), .v (.mov (.c (.bool false))), none⟩])
  (.seq
   (.seq
    (.reg [⟨(some 6), .v (.mov (.t 0)), none⟩, ⟨(some 7), .v (.len (.t 6)), none⟩, ⟨(some 8), .v (.mov (.t 1)), none⟩, ⟨(some 9), .v (.len (.t 8)), none⟩, ⟨(some 10), .v (.bin .neq (.t 7) (.t 9)), none⟩])
    (.cond (.t 10)
     (.seq
      (.reg [⟨(some 4), .v (.mov (.c (.bool false))), none⟩])
      .ret)
     .skip))
   (.seq
    (.seq
     (.reg [⟨(some 11), .v (.mov (.t 0)), none⟩, ⟨(some 12), .v (.len (.t 11)), none⟩, ⟨(some 13), .v (.mov (.c (.int .i64 0))), none⟩])
     (.block 0
      (.loop
       (.seq
        (.reg [⟨(some 14), .v (.bin .lss (.t 13) (.t 12)), none⟩])
        (.seq
         (.cond (.t 14)
          .skip
          (.exit 0))
         (.seq
          (.block 1
           (.seq
            (.reg [⟨(some 15), .v (.mov (.t 13)), none⟩, ⟨(some 5), .v (.mov (.t 15)), none⟩])
            (.seq
             (.dreg (.fl ⟨(some 16), .v (.mov (.t 0)), none⟩ (.fl ⟨(some 17), .v (.mov (.t 5)), none⟩ (.fl ⟨(some 18), .v (.iaddr 1 (.t 16) (.t 17)), none⟩ (.fl ⟨(some 19), .v (.load false 1 (.t 18)), none⟩ (.fl ⟨(some 20), .v (.mov (.t 1)), none⟩ (.fl ⟨(some 21), .v (.mov (.t 5)), none⟩ (.fl ⟨(some 22), .v (.iaddr 1 (.t 20) (.t 21)), none⟩ (.fl ⟨(some 23), .v (.load false 1 (.t 22)), none⟩ (.fl ⟨(some 24), .v (.bin .neq (.t 19) (.t 23)), none⟩ .done))))))))))
             (.cond (.t 24)
              (.seq
               (.reg [⟨(some 4), .v (.mov (.c (.bool false))), none⟩])
               .ret)
              .skip))))
          (.reg [⟨(some 25), .v (.bin .add (.t 13) (.c (.int .i64 1))), none⟩, ⟨(some 13), .v (.mov (.t 25)), none⟩])))))))
    (.seq
     (.reg [⟨(some 4), .v (.mov (.c (.bool true))), none⟩])
     .ret))))⟩
theorem e94 : rFunc Tryz.prog Tryz.f94 = some r94 := by kernel_rfl
def r140 : RFunc := ⟨17, [.t 4],
 (.seq
  (.reg [⟨(some 2), .m (.box (.t 0)), none⟩, ⟨(some 3), .m (.box (.t 1)), none⟩, ⟨(some 4), .v (.mov (.c (.bool false))), none⟩])
  (.seq
   (.reg [⟨(some 5), .v (.faddr 0 (.t 2)), none⟩, ⟨(some 6), .v (.load false 1 (.t 5)), none⟩, ⟨(some 7), .v (.faddr 0 (.t 3)), none⟩, ⟨(some 8), .v (.load false 1 (.t 7)), none⟩, ⟨(some 9), .v (.bin .eql (.t 6) (.t 8)), none⟩, ⟨(some 10), .v (.mov (.t 9)), none⟩, ⟨(some 11), .v (.faddr 1 (.t 2)), (some (10, true))⟩, ⟨(some 12), .v (.load false 1 (.t 11)), (some (10, true))⟩, ⟨(some 13), .v (.faddr 1 (.t 3)), (some (10, true))⟩, ⟨(some 14), .v (.load false 1 (.t 13)), (some (10, true))⟩, ⟨(some 15), .call 94 [(.t 12), (.t 14)], (some (10, true))⟩, ⟨(some 16), .v (.pick (.t 10) (.t 15) (.c (.bool false))), none⟩, ⟨(some 4), .v (.mov (.t 16)), none⟩])
   .ret))⟩
theorem e140 : rFunc Tryz.prog Tryz.f140 = some r140 := by kernel_rfl
def r91 : RFunc := ⟨156, [.t 2],
 (.seq
  (.reg [⟨(some 2), .v (.mov (.c .nils)), none⟩])
  (.seq
   (.seq
    (.dreg (.fl ⟨(some 8), .v (.mov (.t 0)), none⟩ (.fl ⟨(some 9), .v (.nchk (.t 8)), none⟩ (.fl ⟨(some 10), .v (.faddr 0 (.t 9)), none⟩ (.fl ⟨(some 11), .v (.load true 2 (.t 10)), none⟩ (.nx ⟨(some 12), .call 139 [(.t 11)], none⟩ (.fl ⟨(some 13), .v (.un .not (.t 12)), none⟩ (.fl ⟨(some 14), .v (.mov (.t 13)), none⟩ (.fl ⟨(some 15), .v (.mov (.t 0)), (some (14, false))⟩ (.fl ⟨(some 16), .v (.nchk (.t 15)), (some (14, false))⟩ (.fl ⟨(some 17), .v (.faddr 2 (.t 16)), (some (14, false))⟩ (.fl ⟨(some 18), .v (.load true 2 (.t 17)), (some (14, false))⟩ (.nx ⟨(some 19), .call 139 [(.t 18)], (some (14, false))⟩ (.fl ⟨(some 20), .v (.un .not (.t 19)), (some (14, false))⟩ (.fl ⟨(some 21), .v (.pick (.t 14) (.c (.bool true)) (.t 20)), none⟩ (.fl ⟨(some 22), .v (.mov (.t 21)), none⟩ (.fl ⟨(some 23), .v (.mov (.t 0)), (some (22, false))⟩ (.fl ⟨(some 24), .v (.nchk (.t 23)), (some (22, false))⟩ (.fl ⟨(some 25), .v (.faddr 0 (.t 24)), (some (22, false))⟩ (.fl ⟨(some 26), .v (.faddr 0 (.t 25)), (some (22, false))⟩ (.fl ⟨(some 27), .v (.load false 1 (.t 26)), (some (22, false))⟩ (.fl ⟨(some 28), .v (.mov (.t 0)), (some (22, false))⟩ (.fl ⟨(some 29), .v (.nchk (.t 28)), (some (22, false))⟩ (.fl ⟨(some 30), .v (.faddr 2 (.t 29)), (some (22, false))⟩ (.fl ⟨(some 31), .v (.faddr 0 (.t 30)), (some (22, false))⟩ (.fl ⟨(some 32), .v (.load false 1 (.t 31)), (some (22, false))⟩ (.fl ⟨(some 33), .v (.bin .mul (.c (.int .i64 2)) (.t 32)), (some (22, false))⟩ (.fl ⟨(some 34), .v (.bin .sub (.t 33) (.c (.int .i64 1))), (some (22, false))⟩ (.fl ⟨(some 35), .v (.bin .neq (.t 27) (.t 34)), (some (22, false))⟩ (.fl ⟨(some 36), .v (.pick (.t 22) (.c (.bool true)) (.t 35)), none⟩ (.fl ⟨(some 37), .v (.mov (.t 36)), none⟩ (.fl ⟨(some 38), .v (.mov (.t 0)), (some (37, false))⟩ (.fl ⟨(some 39), .v (.nchk (.t 38)), (some (37, false))⟩ (.fl ⟨(some 40), .v (.faddr 4 (.t 39)), (some (37, false))⟩ (.fl ⟨(some 41), .v (.load false 1 (.t 40)), (some (37, false))⟩ (.fl ⟨(some 42), .v (.lens (.t 41)), (some (37, false))⟩ (.fl ⟨(some 43), .v (.mov (.t 0)), (some (37, false))⟩ (.fl ⟨(some 44), .v (.nchk (.t 43)), (some (37, false))⟩ (.fl ⟨(some 45), .v (.faddr 2 (.t 44)), (some (37, false))⟩ (.fl ⟨(some 46), .v (.faddr 0 (.t 45)), (some (37, false))⟩ (.fl ⟨(some 47), .v (.load false 1 (.t 46)), (some (37, false))⟩ (.fl ⟨(some 48), .v (.bin .sub (.t 47) (.c (.int .i64 1))), (some (37, false))⟩ (.fl ⟨(some 49), .v (.bin .neq (.t 42) (.t 48)), (some (37, false))⟩ (.fl ⟨(some 50), .v (.pick (.t 37) (.c (.bool true)) (.t 49)), none⟩ .done))))))))))))))))))))))))))))))))))))))))))))
    (.cond (.t 50)
     (.seq
      (.reg [⟨(some 2), .v (.mov (.c .nils)), none⟩])
      .ret)
     .skip))
   (.seq
    (.reg [⟨(some 51), .m (.bsl 1 1 [(.str [])] [(0, 1, (.c (.str [])))]), none⟩, ⟨(some 3), .v (.mov (.t 51)), none⟩, ⟨(some 4), .v (.mov (.c (.int .i64 0))), none⟩])
    (.seq
     (.seq
      (.reg [⟨(some 52), .v (.mov (.t 0)), none⟩, ⟨(some 53), .v (.nchk (.t 52)), none⟩, ⟨(some 54), .v (.faddr 0 (.t 53)), none⟩, ⟨(some 55), .v (.faddr 0 (.t 54)), none⟩, ⟨(some 56), .v (.load false 1 (.t 55)), none⟩, ⟨(some 57), .v (.mov (.c (.int .i64 0))), none⟩])
      (.block 0
       (.loop
        (.seq
         (.reg [⟨(some 58), .v (.bin .lss (.t 57) (.t 56)), none⟩])
         (.seq
          (.cond (.t 58)
           .skip
           (.exit 0))
          (.seq
           (.block 1
            (.seq
             (.reg [⟨(some 59), .v (.mov (.t 57)), none⟩, ⟨(some 5), .v (.mov (.t 59)), none⟩])
             (.block 2
              (.seq
               (.reg [⟨(some 79), .v (.mov (.t 4)), none⟩, ⟨(some 80), .v (.mov (.t 3)), none⟩, ⟨(some 81), .v (.len (.t 80)), none⟩, ⟨(some 82), .v (.bin .geq (.t 79) (.t 81)), none⟩, ⟨(some 78), .v (.mov (.t 82)), none⟩])
               (.cond (.t 78)
                (.seq
                 (.reg [⟨(some 2), .v (.mov (.c .nils)), none⟩])
                 .ret)
                (.seq
                 (.reg [⟨(some 84), .v (.mov (.t 0)), none⟩, ⟨(some 85), .v (.nchk (.t 84)), none⟩, ⟨(some 86), .v (.faddr 0 (.t 85)), none⟩, ⟨(some 87), .v (.mov (.t 5)), none⟩, ⟨(some 88), .call 62 [(.t 86), (.t 87)], none⟩, ⟨(some 89), .v (.un .not (.t 88)), none⟩, ⟨(some 83), .v (.mov (.t 89)), none⟩])
                 (.cond (.t 83)
                  (.reg [⟨(some 90), .v (.mov (.t 4)), none⟩, ⟨(some 91), .v (.bin .add (.t 90) (.c (.int .i64 1))), none⟩, ⟨(some 4), .v (.mov (.t 91)), none⟩])
                  (.seq
                   (.reg [⟨(some 93), .v (.mov (.t 3)), none⟩, ⟨(some 94), .v (.len (.t 93)), none⟩, ⟨(some 95), .v (.mov (.t 0)), none⟩, ⟨(some 96), .v (.nchk (.t 95)), none⟩, ⟨(some 97), .v (.faddr 4 (.t 96)), none⟩, ⟨(some 98), .v (.load false 1 (.t 97)), none⟩, ⟨(some 99), .v (.lens (.t 98)), none⟩, ⟨(some 100), .v (.bin .gtr (.t 94) (.t 99)), none⟩, ⟨(some 101), .v (.mov (.t 100)), none⟩, ⟨(some 102), .v (.mov (.t 3)), (some (101, false))⟩, ⟨(some 103), .v (.mov (.t 4)), (some (101, false))⟩, ⟨(some 104), .v (.iaddr 1 (.t 102) (.t 103)), (some (101, false))⟩, ⟨(some 105), .v (.load false 1 (.t 104)), (some (101, false))⟩, ⟨(some 106), .v (.lens (.t 105)), (some (101, false))⟩, ⟨(some 107), .v (.bin .eql (.t 106) (.c (.int .i64 12))), (some (101, false))⟩, ⟨(some 108), .v (.pick (.t 101) (.c (.bool true)) (.t 107)), none⟩, ⟨(some 92), .v (.mov (.t 108)), none⟩])
                   (.cond (.t 92)
                    (.seq
                     (.reg [⟨(some 2), .v (.mov (.c .nils)), none⟩])
                     .ret)
                    (.dreg (.fl ⟨(some 60), .v (.mov (.t 3)), none⟩ (.fl ⟨(some 61), .v (.mov (.t 3)), none⟩ (.fl ⟨(some 62), .v (.mov (.t 4)), none⟩ (.fl ⟨(some 63), .v (.iaddr 1 (.t 61) (.t 62)), none⟩ (.fl ⟨(some 65), .v (.mov (.t 0)), none⟩ (.fl ⟨(some 66), .v (.nchk (.t 65)), none⟩ (.fl ⟨(some 67), .v (.faddr 4 (.t 66)), none⟩ (.fl ⟨(some 69), .v (.mov (.t 3)), none⟩ (.fl ⟨(some 70), .v (.len (.t 69)), none⟩ (.fl ⟨(some 71), .v (.bin .sub (.t 70) (.c (.int .i64 1))), none⟩ (.fl ⟨(some 72), .v (.mov (.t 3)), none⟩ (.fl ⟨(some 73), .v (.len (.t 72)), none⟩ (.both (.nx ⟨(some 64), .v (.load false 1 (.t 63)), none⟩ (.nx ⟨(some 68), .v (.load false 1 (.t 67)), none⟩ (.fl ⟨(some 74), .v (.sstr (.t 68) (some (.t 71)) (some (.t 73))), none⟩ (.fl ⟨(some 75), .v (.bin .add (.t 64) (.t 74)), none⟩ (.nx ⟨(some 76), .m (.bsl 1 1 [(.str [])] [(0, 1, (.t 75))]), none⟩ (.nx ⟨(some 77), .m (.app false 1 16 (.t 60) (.t 76)), none⟩ (.fl ⟨(some 3), .v (.mov (.t 77)), none⟩ .done))))))) (.nx ⟨(some 68), .v (.load false 1 (.t 67)), none⟩ (.fl ⟨(some 74), .v (.sstr (.t 68) (some (.t 71)) (some (.t 73))), none⟩ (.nx ⟨(some 64), .v (.load false 1 (.t 63)), none⟩ (.fl ⟨(some 75), .v (.bin .add (.t 64) (.t 74)), none⟩ (.nx ⟨(some 76), .m (.bsl 1 1 [(.str [])] [(0, 1, (.t 75))]), none⟩ (.nx ⟨(some 77), .m (.app false 1 16 (.t 60) (.t 76)), none⟩ (.fl ⟨(some 3), .v (.mov (.t 77)), none⟩ .done))))))))))))))))))))))))))))))
           (.reg [⟨(some 109), .v (.bin .add (.t 57) (.c (.int .i64 1))), none⟩, ⟨(some 57), .v (.mov (.t 109)), none⟩])))))))
     (.seq
      (.reg [⟨(some 110), .v (.mov (.t 0)), none⟩, ⟨(some 111), .v (.mov (.t 3)), none⟩, ⟨(some 112), .call 92 [(.t 110), (.t 111)], none⟩, ⟨(some 6), .v (.mov (.t 112)), none⟩])
      (.seq
       (.seq
        (.reg [⟨(some 113), .v (.mov (.t 3)), none⟩, ⟨(some 114), .v (.len (.t 113)), none⟩, ⟨(some 115), .v (.mov (.t 0)), none⟩, ⟨(some 116), .v (.nchk (.t 115)), none⟩, ⟨(some 117), .v (.faddr 2 (.t 116)), none⟩, ⟨(some 118), .v (.faddr 0 (.t 117)), none⟩, ⟨(some 119), .v (.load false 1 (.t 118)), none⟩, ⟨(some 120), .v (.bin .neq (.t 114) (.t 119)), none⟩, ⟨(some 121), .v (.mov (.t 120)), none⟩, ⟨(some 122), .v (.mov (.t 6)), (some (121, false))⟩, ⟨(some 123), .call 36 [(.t 122)], (some (121, false))⟩, ⟨(some 124), .v (.un .not (.t 123)), (some (121, false))⟩, ⟨(some 125), .v (.pick (.t 121) (.c (.bool true)) (.t 124)), none⟩])
        (.cond (.t 125)
         (.seq
          (.reg [⟨(some 2), .v (.mov (.c .nils)), none⟩])
          .ret)
         .skip))
       (.seq
        (.reg [⟨(some 126), .v (.mov (.t 6)), none⟩, ⟨(some 127), .call 37 [(.t 126)], none⟩, ⟨(some 7), .m (.alloc [(.int .i64 0), .nils, (.int .i64 0), .nils, (.str [])]), none⟩, ⟨none, .m (.store 5 (.t 7) (.t 127)), none⟩])
        (.seq
         (.seq
          (.dreg (.fl ⟨(some 128), .v (.faddr 0 (.t 7)), none⟩ (.fl ⟨(some 129), .v (.load true 2 (.t 128)), none⟩ (.fl ⟨(some 130), .v (.mov (.t 0)), none⟩ (.fl ⟨(some 131), .v (.nchk (.t 130)), none⟩ (.fl ⟨(some 132), .v (.faddr 0 (.t 131)), none⟩ (.fl ⟨(some 133), .v (.load true 2 (.t 132)), none⟩ (.nx ⟨(some 134), .call 140 [(.t 129), (.t 133)], none⟩ (.fl ⟨(some 135), .v (.un .not (.t 134)), none⟩ (.fl ⟨(some 136), .v (.mov (.t 135)), none⟩ (.fl ⟨(some 137), .v (.faddr 2 (.t 7)), (some (136, false))⟩ (.fl ⟨(some 138), .v (.load true 2 (.t 137)), (some (136, false))⟩ (.fl ⟨(some 139), .v (.mov (.t 0)), (some (136, false))⟩ (.fl ⟨(some 140), .v (.nchk (.t 139)), (some (136, false))⟩ (.fl ⟨(some 141), .v (.faddr 2 (.t 140)), (some (136, false))⟩ (.fl ⟨(some 142), .v (.load true 2 (.t 141)), (some (136, false))⟩ (.nx ⟨(some 143), .call 140 [(.t 138), (.t 142)], (some (136, false))⟩ (.fl ⟨(some 144), .v (.un .not (.t 143)), (some (136, false))⟩ (.fl ⟨(some 145), .v (.pick (.t 136) (.c (.bool true)) (.t 144)), none⟩ (.fl ⟨(some 146), .v (.mov (.t 145)), none⟩ (.fl ⟨(some 147), .v (.faddr 4 (.t 7)), (some (146, false))⟩ (.fl ⟨(some 148), .v (.load false 1 (.t 147)), (some (146, false))⟩ (.fl ⟨(some 149), .v (.mov (.t 0)), (some (146, false))⟩ (.fl ⟨(some 150), .v (.nchk (.t 149)), (some (146, false))⟩ (.fl ⟨(some 151), .v (.faddr 4 (.t 150)), (some (146, false))⟩ (.fl ⟨(some 152), .v (.load false 1 (.t 151)), (some (146, false))⟩ (.fl ⟨(some 153), .v (.bin .neq (.t 148) (.t 152)), (some (146, false))⟩ (.fl ⟨(some 154), .v (.pick (.t 146) (.c (.bool true)) (.t 153)), none⟩ .done))))))))))))))))))))))))))))
          (.cond (.t 154)
           (.seq
            (.reg [⟨(some 2), .v (.mov (.c .nils)), none⟩])
            .ret)
           .skip))
         (.seq
          (.reg [⟨(some 155), .v (.mov (.t 3)), none⟩, ⟨(some 2), .v (.mov (.t 155)), none⟩])
          .ret)))))))))⟩
theorem e91 : rFunc Tryz.prog Tryz.f91 = some r91 := by kernel_rfl
end Go.Proofs.YtdkgoaiodjokpaaGreat.M

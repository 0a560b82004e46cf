/-
  The resolved text of the functions, each tied to the program's own by the kernel.
-/
import Derived.Test.YtjfgmimgmapeeaaGreatProg
import Derived.Test.YtjfgmimgmapeeaaGreatFye
namespace Go.Proofs.YtjfgmimgmapeeaaGreat.M
open Go Go.RowKit
set_option maxRecDepth 100000

def r55 : RFunc := ⟨34, [.t 2],
 (.seq
  (.reg [⟨(some 1), .m (.box (.t 0)), none⟩, ⟨(some 2), .v (.mov (.c (.bool false))), none⟩])
  (.seq
   (.dreg (.fl ⟨(some 3), .v (.faddr 0 (.t 1)), none⟩ (.fl ⟨(some 4), .v (.load false 1 (.t 3)), none⟩ (.nx ⟨(some 5), .call 57 [(.t 4), (.c (.int .i64 0)), (.c (.int .i64 9999))], none⟩ (.fl ⟨(some 6), .v (.mov (.t 5)), none⟩ (.fl ⟨(some 7), .v (.faddr 1 (.t 1)), (some (6, true))⟩ (.fl ⟨(some 8), .v (.load false 1 (.t 7)), (some (6, true))⟩ (.nx ⟨(some 9), .call 57 [(.t 8), (.c (.int .i64 1)), (.c (.int .i64 24))], (some (6, true))⟩ (.fl ⟨(some 10), .v (.pick (.t 6) (.t 9) (.c (.bool false))), none⟩ (.fl ⟨(some 11), .v (.mov (.t 10)), none⟩ (.fl ⟨(some 12), .v (.faddr 2 (.t 1)), (some (11, true))⟩ (.fl ⟨(some 13), .v (.load false 1 (.t 12)), (some (11, true))⟩ (.nx ⟨(some 14), .call 125 [(.t 13)], (some (11, true))⟩ (.fl ⟨(some 15), .v (.pick (.t 11) (.t 14) (.c (.bool false))), none⟩ (.fl ⟨(some 16), .v (.mov (.t 15)), none⟩ (.fl ⟨(some 17), .v (.faddr 3 (.t 1)), (some (16, true))⟩ (.fl ⟨(some 18), .v (.load false 1 (.t 17)), (some (16, true))⟩ (.fl ⟨(some 19), .v (.len (.t 18)), (some (16, true))⟩ (.fl ⟨(some 20), .v (.faddr 1 (.t 1)), (some (16, true))⟩ (.fl ⟨(some 21), .v (.load false 1 (.t 20)), (some (16, true))⟩ (.fl ⟨(some 22), .v (.bin .mul (.c (.int .i64 3)) (.t 21)), (some (16, true))⟩ (.fl ⟨(some 23), .v (.bin .eql (.t 19) (.t 22)), (some (16, true))⟩ (.fl ⟨(some 24), .v (.pick (.t 16) (.t 23) (.c (.bool false))), none⟩ (.fl ⟨(some 25), .v (.mov (.t 24)), none⟩ (.fl ⟨(some 26), .v (.faddr 3 (.t 1)), (some (25, true))⟩ (.fl ⟨(some 27), .v (.load false 1 (.t 26)), (some (25, true))⟩ (.fl ⟨(some 28), .v (.faddr 2 (.t 1)), (some (25, true))⟩ (.fl ⟨(some 29), .v (.load false 1 (.t 28)), (some (25, true))⟩ (.nx ⟨(some 30), .call 58 [(.t 29)], (some (25, true))⟩ (.fl ⟨(some 31), .v (.bin .sub (.t 30) (.c (.int .i64 1))), (some (25, true))⟩ (.nx ⟨(some 32), .call 126 [(.t 27), (.c (.int .i64 0)), (.t 31)], (some (25, true))⟩ (.fl ⟨(some 33), .v (.pick (.t 25) (.t 32) (.c (.bool false))), none⟩ (.fl ⟨(some 2), .v (.mov (.t 33)), none⟩ .done)))))))))))))))))))))))))))))))))
   .ret))⟩
theorem e55 : rFunc Tryz.prog Tryz.f55 = some r55 := by kernel_rfl
def r96 : RFunc := ⟨11, [.t 3],
 (.seq
  (.reg [⟨(some 3), .v (.mov (.c (.bool false))), none⟩])
  (.seq
   (.reg [⟨(some 4), .v (.mov (.t 0)), none⟩, ⟨(some 5), .v (.faddr 2 (.t 1)), none⟩, ⟨(some 6), .v (.load false 1 (.t 5)), none⟩, ⟨(some 7), .v (.bin .shl (.c (.int .i64 1)) (.t 6)), none⟩, ⟨(some 8), .v (.bin .sub (.t 7) (.c (.int .i64 1))), none⟩, ⟨(some 9), .call 63 [(.t 4), (.c (.int .i64 0)), (.t 8)], none⟩, ⟨(some 10), .v (.un .not (.t 9)), none⟩, ⟨(some 3), .v (.mov (.t 10)), none⟩])
   .ret))⟩
theorem e96 : rFunc Tryz.prog Tryz.f96 = some r96 := by kernel_rfl
def r34 : RFunc := ⟨33, [.t 2],
 (.seq
  (.reg [⟨(some 1), .m (.box (.t 0)), none⟩, ⟨(some 2), .v (.mov (.c (.bool false))), none⟩])
  (.seq
   (.seq
    (.reg [⟨(some 3), .v (.faddr 0 (.t 1)), none⟩, ⟨(some 4), .v (.load false 1 (.t 3)), none⟩, ⟨(some 5), .call 92 [(.t 4)], none⟩, ⟨(some 6), .v (.un .not (.t 5)), none⟩, ⟨(some 7), .v (.mov (.t 6)), none⟩, ⟨(some 8), .v (.faddr 1 (.t 1)), (some (7, false))⟩, ⟨(some 9), .v (.load false 1 (.t 8)), (some (7, false))⟩, ⟨(some 10), .call 93 [(.t 9)], (some (7, false))⟩, ⟨(some 11), .v (.un .not (.t 10)), (some (7, false))⟩, ⟨(some 12), .v (.pick (.t 7) (.c (.bool true)) (.t 11)), none⟩, ⟨(some 13), .v (.mov (.t 12)), none⟩, ⟨(some 14), .v (.faddr 2 (.t 1)), (some (13, false))⟩, ⟨(some 15), .v (.load false 1 (.t 14)), (some (13, false))⟩, ⟨(some 16), .call 94 [(.t 15)], (some (13, false))⟩, ⟨(some 17), .v (.un .not (.t 16)), (some (13, false))⟩, ⟨(some 18), .v (.pick (.t 13) (.c (.bool true)) (.t 17)), none⟩, ⟨(some 19), .v (.mov (.t 18)), none⟩, ⟨(some 20), .v (.faddr 3 (.t 1)), (some (19, false))⟩, ⟨(some 21), .v (.load false 1 (.t 20)), (some (19, false))⟩, ⟨(some 22), .v (.len (.t 21)), (some (19, false))⟩, ⟨(some 23), .v (.faddr 1 (.t 1)), (some (19, false))⟩, ⟨(some 24), .v (.load false 1 (.t 23)), (some (19, false))⟩, ⟨(some 25), .v (.bin .mul (.c (.int .i64 3)) (.t 24)), (some (19, false))⟩, ⟨(some 26), .v (.bin .neq (.t 22) (.t 25)), (some (19, false))⟩, ⟨(some 27), .v (.pick (.t 19) (.c (.bool true)) (.t 26)), none⟩])
    (.cond (.t 27)
     (.seq
      (.reg [⟨(some 2), .v (.mov (.c (.bool false))), none⟩])
      .ret)
     .skip))
   (.seq
    (.reg [⟨(some 28), .v (.faddr 3 (.t 1)), none⟩, ⟨(some 29), .v (.load false 1 (.t 28)), none⟩, ⟨(some 30), .v (.mkfn 96 [(.t 1)]), none⟩, ⟨(some 31), .call 95 [(.t 29), (.t 30)], none⟩, ⟨(some 32), .v (.un .not (.t 31)), none⟩, ⟨(some 2), .v (.mov (.t 32)), none⟩])
    .ret)))⟩
theorem e34 : rFunc Tryz.prog Tryz.f34 = some r34 := by kernel_rfl
def r59 : RFunc := ⟨28, [.t 4],
 (.seq
  (.reg [⟨(some 2), .m (.box (.t 0)), none⟩, ⟨(some 4), .v (.mov (.c (.int .i64 0))), none⟩])
  (.seq
   (.reg [⟨(some 5), .v (.mov (.c (.int .i64 0))), none⟩])
   (.seq
    (.seq
     (.reg [⟨(some 8), .v (.faddr 0 (.t 2)), none⟩, ⟨(some 9), .v (.load false 1 (.t 8)), none⟩, ⟨(some 10), .v (.mov (.t 1)), none⟩, ⟨(some 11), .v (.faddr 1 (.t 2)), none⟩, ⟨(some 12), .v (.load false 1 (.t 11)), none⟩, ⟨(some 13), .call 127 [(.t 9), (.t 10), (.t 12)], none⟩, ⟨(some 14), .v (.len (.t 13)), none⟩, ⟨(some 15), .v (.mov (.c (.int .i64 0))), none⟩])
     (.block 0
      (.loop
       (.seq
        (.reg [⟨(some 16), .v (.bin .lss (.t 15) (.t 14)), none⟩])
        (.seq
         (.cond (.t 16)
          .skip
          (.exit 0))
         (.seq
          (.block 1
           (.seq
            (.reg [⟨(some 17), .v (.iaddr 1 (.t 13) (.t 15)), none⟩, ⟨(some 18), .v (.load false 1 (.t 17)), none⟩, ⟨(some 7), .v (.mov (.t 18)), none⟩])
            (.reg [⟨(some 19), .v (.mov (.t 5)), none⟩, ⟨(some 20), .v (.faddr 3 (.t 2)), none⟩, ⟨(some 21), .v (.load false 1 (.t 20)), none⟩, ⟨(some 22), .v (.mov (.t 7)), none⟩, ⟨(some 23), .v (.iaddr 1 (.t 21) (.t 22)), none⟩, ⟨(some 24), .v (.load false 1 (.t 23)), none⟩, ⟨(some 25), .v (.bin .xor (.t 19) (.t 24)), none⟩, ⟨(some 5), .v (.mov (.t 25)), none⟩])))
          (.reg [⟨(some 26), .v (.bin .add (.t 15) (.c (.int .i64 1))), none⟩, ⟨(some 15), .v (.mov (.t 26)), none⟩])))))))
    (.seq
     (.reg [⟨(some 27), .v (.mov (.t 5)), none⟩, ⟨(some 4), .v (.mov (.t 27)), none⟩])
     .ret))))⟩
theorem e59 : rFunc Tryz.prog Tryz.f59 = some r59 := by kernel_rfl
def r84 : RFunc := ⟨34, [.t 4],
 (.seq
  (.reg [⟨(some 4), .v (.mov (.c (.int .i64 0))), none⟩])
  (.seq
   (.dreg (.fl ⟨(some 5), .v (.mov (.t 0)), none⟩ (.fl ⟨(some 6), .v (.nchk (.t 5)), none⟩ (.fl ⟨(some 7), .v (.faddr 3 (.t 6)), none⟩ (.fl ⟨(some 8), .v (.load false 1 (.t 7)), none⟩ (.fl ⟨(some 9), .v (.mov (.t 1)), none⟩ (.fl ⟨(some 10), .v (.iaddr 1 (.t 9) (.c (.int .i64 0))), none⟩ (.fl ⟨(some 11), .v (.load false 1 (.t 10)), none⟩ (.fl ⟨(some 12), .v (.iaddr 1 (.t 8) (.t 11)), none⟩ (.fl ⟨(some 13), .v (.load false 1 (.t 12)), none⟩ (.fl ⟨(some 14), .v (.mov (.t 0)), none⟩ (.fl ⟨(some 15), .v (.nchk (.t 14)), none⟩ (.fl ⟨(some 16), .v (.faddr 3 (.t 15)), none⟩ (.fl ⟨(some 17), .v (.load false 1 (.t 16)), none⟩ (.fl ⟨(some 18), .v (.mov (.t 1)), none⟩ (.fl ⟨(some 19), .v (.iaddr 1 (.t 18) (.c (.int .i64 1))), none⟩ (.fl ⟨(some 20), .v (.load false 1 (.t 19)), none⟩ (.fl ⟨(some 21), .v (.iaddr 1 (.t 17) (.t 20)), none⟩ (.fl ⟨(some 22), .v (.load false 1 (.t 21)), none⟩ (.fl ⟨(some 23), .v (.bin .xor (.t 13) (.t 22)), none⟩ (.fl ⟨(some 24), .v (.mov (.t 0)), none⟩ (.fl ⟨(some 25), .v (.nchk (.t 24)), none⟩ (.fl ⟨(some 26), .v (.faddr 3 (.t 25)), none⟩ (.fl ⟨(some 27), .v (.load false 1 (.t 26)), none⟩ (.fl ⟨(some 28), .v (.mov (.t 1)), none⟩ (.fl ⟨(some 29), .v (.iaddr 1 (.t 28) (.c (.int .i64 2))), none⟩ (.fl ⟨(some 30), .v (.load false 1 (.t 29)), none⟩ (.fl ⟨(some 31), .v (.iaddr 1 (.t 27) (.t 30)), none⟩ (.fl ⟨(some 32), .v (.load false 1 (.t 31)), none⟩ (.fl ⟨(some 33), .v (.bin .xor (.t 23) (.t 32)), none⟩ (.fl ⟨(some 4), .v (.mov (.t 33)), none⟩ .done)))))))))))))))))))))))))))))))
   .ret))⟩
theorem e84 : rFunc Tryz.prog Tryz.f84 = some r84 := by kernel_rfl
def r64 : RFunc := ⟨17, [.t 4],
 (.seq
  (.reg [⟨(some 4), .v (.mov (.c (.int .i64 0))), none⟩])
  (.seq
   (.dreg (.fl ⟨(some 5), .v (.mov (.t 0)), none⟩ (.fl ⟨(some 6), .v (.mov (.t 0)), none⟩ (.fl ⟨(some 7), .v (.nchk (.t 6)), none⟩ (.fl ⟨(some 8), .v (.faddr 0 (.t 7)), none⟩ (.fl ⟨(some 9), .v (.load false 1 (.t 8)), none⟩ (.fl ⟨(some 10), .v (.mov (.t 1)), none⟩ (.fl ⟨(some 11), .v (.mov (.t 0)), none⟩ (.fl ⟨(some 12), .v (.nchk (.t 11)), none⟩ (.fl ⟨(some 13), .v (.faddr 1 (.t 12)), none⟩ (.fl ⟨(some 14), .v (.load false 1 (.t 13)), none⟩ (.nx ⟨(some 15), .call 129 [(.t 9), (.t 10), (.t 14)], none⟩ (.nx ⟨(some 16), .call 84 [(.t 5), (.t 15)], none⟩ (.fl ⟨(some 4), .v (.mov (.t 16)), none⟩ .done))))))))))))))
   .ret))⟩
theorem e64 : rFunc Tryz.prog Tryz.f64 = some r64 := by kernel_rfl
end Go.Proofs.YtjfgmimgmapeeaaGreat.M

/- The abstract code of the functions that the law reaches; no conditions. -/
import Derived.Test.YtjkgohbljmmmdaaDeframeSamplesA2
set_option linter.unusedSectionVars false
set_option linter.unusedSimpArgs false
set_option linter.unusedVariables false
namespace Go.Am

def ac_cadenzalaw36_PushencChecks (f_cadenzaref36_Great f_pushenc_New f_cadenzaref36_New f_pushenc_Check f_cadenzaref36_Check f_cadenzaref36_Same t0 t1 : Nat) : AC :=
  .seq (.reg [⟨(some 4), none, .op (.box t0 10 (.tmp 0))⟩,
     ⟨(some 5), none, .op (.box t1 2 (.tmp 1))⟩,
     ⟨(some 8), none, .op (.mv (.const (.bool false)))⟩])
  (.seq (.seq (.reg [⟨(some 13), none, .op (.load (some 10) (.tmp 4))⟩,
      ⟨(some 14), none, .call f_cadenzaref36_Great [(.tmp 13)]⟩,
      ⟨(some 15), none, .op (.mv (.tmp 14))⟩,
      ⟨(some 16), (some (15, false)), .op (.mv (.tmp 3))⟩,
      ⟨(some 17), (some (15, false)), .op (.len (some none) (.tmp 16))⟩,
      ⟨(some 18), (some (15, false)), .op (.bin .gtr (.tmp 17) (.const (.int .i64 100)))⟩,
      ⟨(some 19), none, .op (.pick (.tmp 15) (.const (.bool true)) (.tmp 18))⟩])
   (.cond (.tmp 19)
     (.seq (.reg [⟨(some 8), none, .op (.mv (.const (.bool true)))⟩])
     (.ret))
     (.skip)))
  (.seq (.reg [⟨(some 21), none, .op (.load (some 2) (.tmp 5))⟩,
     ⟨(some 22), none, .op (.mv (.tmp 2))⟩,
     ⟨(some 23), none, .op (.mv (.tmp 3))⟩,
     ⟨(some 24), none, .call f_pushenc_New [(.tmp 21), (.tmp 22), (.tmp 23)]⟩,
     ⟨(some 20), none, .op (.mv (.tmp 24))⟩,
     ⟨(some 25), none, .op (.extract (.tmp 20) 0)⟩,
     ⟨(some 26), none, .op (.extract (.tmp 20) 1)⟩,
     ⟨(some 9), none, .op (.alloc t0 [.int .i64 0, .int .i64 0, .int .i64 0, .str [], .emp true, .emp true, .emp true, .emp true, .bool false, .int .i64 0])⟩,
     ⟨none, none, .op (.store 10 (.tmp 9) (.tmp 25))⟩,
     ⟨(some 10), none, .op (.mv (.tmp 26))⟩])
  (.seq (.reg [⟨(some 28), none, .op (.load (some 2) (.tmp 5))⟩,
     ⟨(some 29), none, .op (.mv (.tmp 2))⟩,
     ⟨(some 30), none, .op (.mv (.tmp 3))⟩,
     ⟨(some 31), none, .call f_cadenzaref36_New [(.tmp 28), (.tmp 29), (.tmp 30)]⟩,
     ⟨(some 27), none, .op (.mv (.tmp 31))⟩,
     ⟨(some 32), none, .op (.extract (.tmp 27) 0)⟩,
     ⟨(some 33), none, .op (.extract (.tmp 27) 1)⟩,
     ⟨(some 11), none, .op (.alloc t0 [.int .i64 0, .int .i64 0, .int .i64 0, .str [], .emp true, .emp true, .emp true, .emp true, .bool false, .int .i64 0])⟩,
     ⟨none, none, .op (.store 10 (.tmp 11) (.tmp 32))⟩,
     ⟨(some 12), none, .op (.mv (.tmp 33))⟩])
  (.seq (.draw [⟨0, false, ⟨(some 34), none, .op (.load (some 10) (.tmp 4))⟩⟩,
     ⟨0, false, ⟨(some 35), none, .call f_pushenc_Check [(.tmp 34)]⟩⟩,
     ⟨0, false, ⟨(some 36), none, .op (.load (some 10) (.tmp 4))⟩⟩,
     ⟨0, false, ⟨(some 37), none, .call f_cadenzaref36_Check [(.tmp 36)]⟩⟩,
     ⟨0, false, ⟨(some 38), none, .op (.bin .eql (.tmp 35) (.tmp 37))⟩⟩,
     ⟨0, false, ⟨(some 39), none, .op (.mv (.tmp 38))⟩⟩,
     ⟨0, false, ⟨(some 40), (some (39, true)), .op (.load (some 10) (.tmp 9))⟩⟩,
     ⟨0, false, ⟨(some 41), (some (39, true)), .op (.load (some 10) (.tmp 11))⟩⟩,
     ⟨0, false, ⟨(some 42), (some (39, true)), .call f_cadenzaref36_Same [(.tmp 40), (.tmp 41)]⟩⟩,
     ⟨0, false, ⟨(some 43), none, .op (.pick (.tmp 39) (.tmp 42) (.const (.bool false)))⟩⟩,
     ⟨0, false, ⟨(some 44), none, .op (.mv (.tmp 43))⟩⟩,
     ⟨0, false, ⟨(some 45), (some (44, true)), .op (.mv (.tmp 10))⟩⟩,
     ⟨0, false, ⟨(some 46), (some (44, true)), .op (.mv (.tmp 12))⟩⟩,
     ⟨0, false, ⟨(some 47), (some (44, true)), .op (.bin .eql (.tmp 45) (.tmp 46))⟩⟩,
     ⟨0, false, ⟨(some 48), none, .op (.pick (.tmp 44) (.tmp 47) (.const (.bool false)))⟩⟩,
     ⟨0, false, ⟨(some 8), none, .op (.mv (.tmp 48))⟩⟩] [])
  (.ret)))))

def ac_cadenzalaw20_EnframeValues (f_cadenzaref20_Great f_enframe_Values f_cadenzaref20_Values f_enframe_Check f_cadenzaref20_Check f_cadenzaref05_Same f_cadenzaref13_Same t0 t1 t2 : Nat) : AC :=
  .seq (.reg [⟨(some 3), none, .op (.box t0 2 (.tmp 0))⟩,
     ⟨(some 4), none, .op (.box t1 16 (.tmp 1))⟩,
     ⟨(some 6), none, .op (.mv (.const (.bool false)))⟩])
  (.seq (.seq (.reg [⟨(some 12), none, .op (.mv (.tmp 2))⟩,
      ⟨(some 13), none, .call f_cadenzaref20_Great [(.tmp 12)]⟩])
   (.cond (.tmp 13)
     (.seq (.reg [⟨(some 6), none, .op (.mv (.const (.bool true)))⟩])
     (.ret))
     (.skip)))
  (.seq (.reg [⟨(some 14), none, .op (.bslice t2 1 0 [.int .i32 0] [])⟩,
     ⟨(some 15), none, .op (.mv (.tmp 2))⟩,
     ⟨(some 16), none, .op (.append t2 1 4 false (.tmp 14) (.tmp 15))⟩,
     ⟨(some 7), none, .op (.mv (.tmp 16))⟩])
  (.seq (.reg [⟨(some 18), none, .op (.load (some 2) (.tmp 3))⟩,
     ⟨(some 19), none, .op (.load (some 16) (.tmp 4))⟩,
     ⟨(some 20), none, .op (.mv (.tmp 7))⟩,
     ⟨(some 21), none, .call f_enframe_Values [(.tmp 18), (.tmp 19), (.tmp 20)]⟩,
     ⟨(some 17), none, .op (.mv (.tmp 21))⟩,
     ⟨(some 22), none, .op (.extract (.tmp 17) 0)⟩,
     ⟨(some 23), none, .op (.extract (.tmp 17) 1)⟩,
     ⟨(some 8), none, .op (.mv (.tmp 22))⟩,
     ⟨(some 9), none, .op (.mv (.tmp 23))⟩])
  (.seq (.reg [⟨(some 25), none, .op (.load (some 2) (.tmp 3))⟩,
     ⟨(some 26), none, .op (.load (some 16) (.tmp 4))⟩,
     ⟨(some 27), none, .op (.mv (.tmp 2))⟩,
     ⟨(some 28), none, .call f_cadenzaref20_Values [(.tmp 25), (.tmp 26), (.tmp 27)]⟩,
     ⟨(some 24), none, .op (.mv (.tmp 28))⟩,
     ⟨(some 29), none, .op (.extract (.tmp 24) 0)⟩,
     ⟨(some 30), none, .op (.extract (.tmp 24) 1)⟩,
     ⟨(some 10), none, .op (.mv (.tmp 29))⟩,
     ⟨(some 11), none, .op (.mv (.tmp 30))⟩])
  (.seq (.draw [⟨0, false, ⟨(some 31), none, .op (.load (some 2) (.tmp 3))⟩⟩,
     ⟨0, false, ⟨(some 32), none, .call f_enframe_Check [(.tmp 31)]⟩⟩,
     ⟨0, false, ⟨(some 33), none, .op (.load (some 2) (.tmp 3))⟩⟩,
     ⟨0, false, ⟨(some 34), none, .call f_cadenzaref20_Check [(.tmp 33)]⟩⟩,
     ⟨0, false, ⟨(some 35), none, .op (.bin .eql (.tmp 32) (.tmp 34))⟩⟩,
     ⟨0, false, ⟨(some 36), none, .op (.mv (.tmp 35))⟩⟩,
     ⟨0, false, ⟨(some 37), (some (36, true)), .op (.mv (.tmp 8))⟩⟩,
     ⟨0, false, ⟨(some 38), (some (36, true)), .op (.mv (.tmp 10))⟩⟩,
     ⟨0, false, ⟨(some 39), (some (36, true)), .call f_cadenzaref05_Same [(.tmp 37), (.tmp 38)]⟩⟩,
     ⟨0, false, ⟨(some 40), none, .op (.pick (.tmp 36) (.tmp 39) (.const (.bool false)))⟩⟩,
     ⟨0, false, ⟨(some 41), none, .op (.mv (.tmp 40))⟩⟩,
     ⟨0, false, ⟨(some 42), (some (41, true)), .op (.mv (.tmp 9))⟩⟩,
     ⟨0, false, ⟨(some 43), (some (41, true)), .op (.mv (.tmp 11))⟩⟩,
     ⟨0, false, ⟨(some 44), (some (41, true)), .op (.bin .eql (.tmp 42) (.tmp 43))⟩⟩,
     ⟨0, false, ⟨(some 45), none, .op (.pick (.tmp 41) (.tmp 44) (.const (.bool false)))⟩⟩,
     ⟨0, false, ⟨(some 46), none, .op (.mv (.tmp 45))⟩⟩,
     ⟨0, false, ⟨(some 47), (some (46, true)), .op (.mv (.tmp 7))⟩⟩,
     ⟨0, false, ⟨(some 48), (some (46, true)), .op (.mv (.tmp 2))⟩⟩,
     ⟨0, false, ⟨(some 49), (some (46, true)), .call f_cadenzaref13_Same [(.tmp 47), (.tmp 48)]⟩⟩,
     ⟨0, false, ⟨(some 50), none, .op (.pick (.tmp 46) (.tmp 49) (.const (.bool false)))⟩⟩,
     ⟨0, false, ⟨(some 6), none, .op (.mv (.tmp 50))⟩⟩] [])
  (.ret))))))

def ac_cadenzalaw21_DeframeSamples (f_deframe_Samples f_cadenzaref21_Samples f_cadenzaref13_Same f_cadenzaref05_Same t0 t1 t2 : Nat) : AC :=
  .seq (.reg [⟨(some 3), none, .op (.box t0 2 (.tmp 0))⟩,
     ⟨(some 4), none, .op (.box t1 16 (.tmp 1))⟩,
     ⟨(some 6), none, .op (.mv (.const (.bool false)))⟩])
  (.seq (.seq (.reg [⟨(some 12), none, .op (.mv (.tmp 2))⟩,
      ⟨(some 13), none, .op (.len none (.tmp 12))⟩,
      ⟨(some 14), none, .op (.bin .gtr (.tmp 13) (.const (.int .i64 600)))⟩,
      ⟨(some 15), none, .op (.mv (.tmp 14))⟩,
      ⟨(some 16), (some (15, true)), .op (.mv (.tmp 2))⟩,
      ⟨(some 17), (some (15, true)), .op (.len none (.tmp 16))⟩,
      ⟨(some 18), (some (15, true)), .op (.bin .leq (.tmp 17) (.const (.int .i64 4000)))⟩,
      ⟨(some 19), none, .op (.pick (.tmp 15) (.tmp 18) (.const (.bool false)))⟩,
      ⟨(some 20), none, .op (.mv (.tmp 19))⟩,
      ⟨(some 21), (some (20, false)), .op (.mv (.tmp 2))⟩,
      ⟨(some 22), (some (20, false)), .op (.len none (.tmp 21))⟩,
      ⟨(some 23), (some (20, false)), .op (.bin .gtr (.tmp 22) (.const (.int .i64 4100)))⟩,
      ⟨(some 24), none, .op (.pick (.tmp 20) (.const (.bool true)) (.tmp 23))⟩])
   (.cond (.tmp 24)
     (.seq (.reg [⟨(some 6), none, .op (.mv (.const (.bool true)))⟩])
     (.ret))
     (.skip)))
  (.seq (.reg [⟨(some 25), none, .op (.bslice t2 1 0 [.int .u32 0] [])⟩,
     ⟨(some 26), none, .op (.mv (.tmp 2))⟩,
     ⟨(some 27), none, .op (.append t2 1 4 false (.tmp 25) (.tmp 26))⟩,
     ⟨(some 7), none, .op (.mv (.tmp 27))⟩])
  (.seq (.reg [⟨(some 29), none, .op (.load (some 2) (.tmp 3))⟩,
     ⟨(some 30), none, .op (.load (some 16) (.tmp 4))⟩,
     ⟨(some 31), none, .op (.mv (.tmp 7))⟩,
     ⟨(some 32), none, .call f_deframe_Samples [(.tmp 29), (.tmp 30), (.tmp 31)]⟩,
     ⟨(some 28), none, .op (.mv (.tmp 32))⟩,
     ⟨(some 33), none, .op (.extract (.tmp 28) 0)⟩,
     ⟨(some 34), none, .op (.extract (.tmp 28) 1)⟩,
     ⟨(some 8), none, .op (.mv (.tmp 33))⟩,
     ⟨(some 9), none, .op (.mv (.tmp 34))⟩])
  (.seq (.reg [⟨(some 36), none, .op (.load (some 2) (.tmp 3))⟩,
     ⟨(some 37), none, .op (.load (some 16) (.tmp 4))⟩,
     ⟨(some 38), none, .op (.mv (.tmp 2))⟩,
     ⟨(some 39), none, .call f_cadenzaref21_Samples [(.tmp 36), (.tmp 37), (.tmp 38)]⟩,
     ⟨(some 35), none, .op (.mv (.tmp 39))⟩,
     ⟨(some 40), none, .op (.extract (.tmp 35) 0)⟩,
     ⟨(some 41), none, .op (.extract (.tmp 35) 1)⟩,
     ⟨(some 10), none, .op (.mv (.tmp 40))⟩,
     ⟨(some 11), none, .op (.mv (.tmp 41))⟩])
  (.seq (.reg [⟨(some 42), none, .op (.mv (.tmp 8))⟩,
     ⟨(some 43), none, .op (.mv (.tmp 10))⟩,
     ⟨(some 44), none, .call f_cadenzaref13_Same [(.tmp 42), (.tmp 43)]⟩,
     ⟨(some 45), none, .op (.mv (.tmp 44))⟩,
     ⟨(some 46), (some (45, true)), .op (.mv (.tmp 9))⟩,
     ⟨(some 47), (some (45, true)), .op (.mv (.tmp 11))⟩,
     ⟨(some 48), (some (45, true)), .op (.bin .eql (.tmp 46) (.tmp 47))⟩,
     ⟨(some 49), none, .op (.pick (.tmp 45) (.tmp 48) (.const (.bool false)))⟩,
     ⟨(some 50), none, .op (.mv (.tmp 49))⟩,
     ⟨(some 51), (some (50, true)), .op (.mv (.tmp 7))⟩,
     ⟨(some 52), (some (50, true)), .op (.mv (.tmp 2))⟩,
     ⟨(some 53), (some (50, true)), .call f_cadenzaref05_Same [(.tmp 51), (.tmp 52)]⟩,
     ⟨(some 54), none, .op (.pick (.tmp 50) (.tmp 53) (.const (.bool false)))⟩,
     ⟨(some 6), none, .op (.mv (.tmp 54))⟩])
  (.ret))))))

def ac_cadenzaref36_Great (t0 : Nat) : AC :=
  .seq (.reg [⟨(some 1), none, .op (.box t0 10 (.tmp 0))⟩,
     ⟨(some 2), none, .op (.mv (.const (.bool false)))⟩])
  (.seq (.seq (.reg [⟨(some 5), none, .op (.faddr 5 (.tmp 1))⟩,
      ⟨(some 6), none, .op (.load none (.tmp 5))⟩,
      ⟨(some 7), none, .op (.len none (.tmp 6))⟩,
      ⟨(some 8), none, .op (.bin .gtr (.tmp 7) (.const (.int .i64 400)))⟩,
      ⟨(some 9), none, .op (.mv (.tmp 8))⟩,
      ⟨(some 10), (some (9, false)), .op (.faddr 6 (.tmp 1))⟩,
      ⟨(some 11), (some (9, false)), .op (.load none (.tmp 10))⟩,
      ⟨(some 12), (some (9, false)), .op (.len none (.tmp 11))⟩,
      ⟨(some 13), (some (9, false)), .op (.bin .gtr (.tmp 12) (.const (.int .i64 1010)))⟩,
      ⟨(some 14), none, .op (.pick (.tmp 9) (.const (.bool true)) (.tmp 13))⟩,
      ⟨(some 15), none, .op (.mv (.tmp 14))⟩,
      ⟨(some 16), (some (15, false)), .op (.faddr 4 (.tmp 1))⟩,
      ⟨(some 17), (some (15, false)), .op (.load none (.tmp 16))⟩,
      ⟨(some 18), (some (15, false)), .op (.len none (.tmp 17))⟩,
      ⟨(some 19), (some (15, false)), .op (.bin .gtr (.tmp 18) (.const (.int .i64 40)))⟩,
      ⟨(some 20), none, .op (.pick (.tmp 15) (.const (.bool true)) (.tmp 19))⟩,
      ⟨(some 21), none, .op (.mv (.tmp 20))⟩,
      ⟨(some 22), (some (21, false)), .op (.faddr 3 (.tmp 1))⟩,
      ⟨(some 23), (some (21, false)), .op (.load none (.tmp 22))⟩,
      ⟨(some 24), (some (21, false)), .op (.len (some none) (.tmp 23))⟩,
      ⟨(some 25), (some (21, false)), .op (.bin .gtr (.tmp 24) (.const (.int .i64 100)))⟩,
      ⟨(some 26), none, .op (.pick (.tmp 21) (.const (.bool true)) (.tmp 25))⟩,
      ⟨(some 27), none, .op (.mv (.tmp 26))⟩,
      ⟨(some 28), (some (27, false)), .op (.faddr 7 (.tmp 1))⟩,
      ⟨(some 29), (some (27, false)), .op (.load none (.tmp 28))⟩,
      ⟨(some 30), (some (27, false)), .op (.len none (.tmp 29))⟩,
      ⟨(some 31), (some (27, false)), .op (.bin .gtr (.tmp 30) (.const (.int .i64 3000)))⟩,
      ⟨(some 32), (some (27, false)), .op (.mv (.tmp 31))⟩,
      ⟨(some 33), (some (32, true)), .op (.faddr 7 (.tmp 1))⟩,
      ⟨(some 34), (some (32, true)), .op (.load none (.tmp 33))⟩,
      ⟨(some 35), (some (32, true)), .op (.len none (.tmp 34))⟩,
      ⟨(some 36), (some (32, true)), .op (.bin .leq (.tmp 35) (.const (.int .i64 100000)))⟩,
      ⟨(some 37), (some (27, false)), .op (.pick (.tmp 32) (.tmp 36) (.const (.bool false)))⟩,
      ⟨(some 38), none, .op (.pick (.tmp 27) (.const (.bool true)) (.tmp 37))⟩,
      ⟨(some 39), none, .op (.mv (.tmp 38))⟩,
      ⟨(some 40), (some (39, false)), .op (.faddr 7 (.tmp 1))⟩,
      ⟨(some 41), (some (39, false)), .op (.load none (.tmp 40))⟩,
      ⟨(some 42), (some (39, false)), .op (.len none (.tmp 41))⟩,
      ⟨(some 43), (some (39, false)), .op (.bin .gtr (.tmp 42) (.const (.int .i64 100100)))⟩,
      ⟨(some 44), none, .op (.pick (.tmp 39) (.const (.bool true)) (.tmp 43))⟩])
   (.cond (.tmp 44)
     (.seq (.reg [⟨(some 2), none, .op (.mv (.const (.bool true)))⟩])
     (.ret))
     (.skip)))
  (.seq (.reg [⟨(some 3), none, .op (.mv (.const (.int .i64 0)))⟩])
  (.seq (.seq (.reg [⟨(some 4), none, .op (.mv (.const (.int .i64 0)))⟩])
   (.block 0 (.loop (.seq (.seq (.reg [⟨(some 45), none, .op (.mv (.tmp 4))⟩,
         ⟨(some 46), none, .op (.faddr 6 (.tmp 1))⟩,
         ⟨(some 47), none, .op (.load none (.tmp 46))⟩,
         ⟨(some 48), none, .op (.len none (.tmp 47))⟩,
         ⟨(some 49), none, .op (.bin .lss (.tmp 45) (.tmp 48))⟩,
         ⟨(some 50), none, .op (.mv (.tmp 49))⟩,
         ⟨(some 51), (some (50, true)), .op (.mv (.tmp 3))⟩,
         ⟨(some 52), (some (50, true)), .op (.bin .leq (.tmp 51) (.const (.int .i64 60000)))⟩,
         ⟨(some 53), none, .op (.pick (.tmp 50) (.tmp 52) (.const (.bool false)))⟩])
      (.cond (.tmp 53)
        (.skip)
        (.exit 0)))
     (.seq (.block 1 (.reg [⟨(some 56), none, .op (.mv (.tmp 3))⟩,
         ⟨(some 57), none, .op (.faddr 6 (.tmp 1))⟩,
         ⟨(some 58), none, .op (.load none (.tmp 57))⟩,
         ⟨(some 59), none, .op (.mv (.tmp 4))⟩,
         ⟨(some 60), none, .op (.iaddr (.slice 1) (.tmp 58) (.tmp 59))⟩,
         ⟨(some 61), none, .op (.load none (.tmp 60))⟩,
         ⟨(some 62), none, .op (.len none (.tmp 61))⟩,
         ⟨(some 63), none, .op (.bin .add (.tmp 56) (.tmp 62))⟩,
         ⟨(some 3), none, .op (.mv (.tmp 63))⟩]))
     (.reg [⟨(some 54), none, .op (.mv (.tmp 4))⟩,
       ⟨(some 55), none, .op (.bin .add (.tmp 54) (.const (.int .i64 1)))⟩,
       ⟨(some 4), none, .op (.mv (.tmp 55))⟩]))))))
  (.seq (.reg [⟨(some 64), none, .op (.mv (.tmp 3))⟩,
     ⟨(some 65), none, .op (.bin .gtr (.tmp 64) (.const (.int .i64 4000)))⟩,
     ⟨(some 66), none, .op (.mv (.tmp 65))⟩,
     ⟨(some 67), (some (66, true)), .op (.mv (.tmp 3))⟩,
     ⟨(some 68), (some (66, true)), .op (.bin .leq (.tmp 67) (.const (.int .i64 50000)))⟩,
     ⟨(some 69), none, .op (.pick (.tmp 66) (.tmp 68) (.const (.bool false)))⟩,
     ⟨(some 70), none, .op (.mv (.tmp 69))⟩,
     ⟨(some 71), (some (70, false)), .op (.mv (.tmp 3))⟩,
     ⟨(some 72), (some (70, false)), .op (.bin .gtr (.tmp 71) (.const (.int .i64 50100)))⟩,
     ⟨(some 73), none, .op (.pick (.tmp 70) (.const (.bool true)) (.tmp 72))⟩,
     ⟨(some 2), none, .op (.mv (.tmp 73))⟩])
  (.ret)))))

def ac_pushenc_New (f_pushenc_right t0 t1 : Nat) : AC :=
  .seq (.reg [⟨(some 3), none, .op (.box t0 2 (.tmp 0))⟩,
     ⟨(some 6), none, .op (.alloc t1 [.int .i64 0, .int .i64 0, .int .i64 0, .str [], .emp true, .emp true, .emp true, .emp true, .bool false, .int .i64 0])⟩,
     ⟨(some 7), none, .op (.mv (.const (.int .i64 0)))⟩])
  (.seq (.seq (.reg [⟨(some 11), none, .op (.load (some 2) (.tmp 3))⟩,
      ⟨(some 12), none, .op (.mv (.tmp 1))⟩,
      ⟨(some 13), none, .op (.mv (.tmp 2))⟩,
      ⟨(some 14), none, .call f_pushenc_right [(.tmp 11), (.tmp 12), (.tmp 13)]⟩,
      ⟨(some 10), none, .op (.mv (.tmp 14))⟩,
      ⟨(some 15), none, .op (.extract (.tmp 10) 0)⟩,
      ⟨(some 16), none, .op (.extract (.tmp 10) 1)⟩,
      ⟨(some 8), none, .op (.mv (.tmp 15))⟩,
      ⟨(some 9), none, .op (.mv (.tmp 16))⟩])
   (.seq (.reg [⟨(some 17), none, .op (.mv (.tmp 9))⟩,
      ⟨(some 18), none, .op (.un .not (.tmp 17))⟩])
   (.cond (.tmp 18)
     (.seq (.reg [⟨(some 19), none, .op (.build [.int .i64 0, .int .i64 0, .int .i64 0, .str [], .emp true, .emp true, .emp true, .emp true, .bool false, .int .i64 0] [])⟩,
        ⟨none, none, .op (.store 10 (.tmp 6) (.tmp 19))⟩,
        ⟨(some 7), none, .op (.mv (.const (.int .i64 2)))⟩])
     (.ret))
     (.skip))))
  (.seq (.reg [⟨(some 20), none, .op (.load (some 2) (.tmp 3))⟩,
     ⟨(some 21), none, .op (.mv (.tmp 1))⟩,
     ⟨(some 22), none, .op (.mv (.tmp 2))⟩,
     ⟨(some 23), none, .op (.build [.int .i64 0, .int .i64 0, .int .i64 0, .str [], .emp true, .emp true, .emp true, .emp true, .bool false, .int .i64 0] [(0, 2, (.tmp 20)), (2, 1, (.tmp 21)), (3, 1, (.tmp 22))])⟩,
     ⟨none, none, .op (.store 10 (.tmp 6) (.tmp 23))⟩,
     ⟨(some 7), none, .op (.mv (.const (.int .i64 0)))⟩])
  (.ret)))

def ac_cadenzaref36_New (f_cadenzaref36_Asked t0 t1 : Nat) : AC :=
  .seq (.reg [⟨(some 3), none, .op (.box t0 2 (.tmp 0))⟩,
     ⟨(some 6), none, .op (.alloc t1 [.int .i64 0, .int .i64 0, .int .i64 0, .str [], .emp true, .emp true, .emp true, .emp true, .bool false, .int .i64 0])⟩,
     ⟨(some 7), none, .op (.mv (.const (.int .i64 0)))⟩])
  (.seq (.seq (.reg [⟨(some 9), none, .op (.load (some 2) (.tmp 3))⟩,
      ⟨(some 10), none, .op (.mv (.tmp 1))⟩,
      ⟨(some 11), none, .op (.mv (.tmp 2))⟩,
      ⟨(some 12), none, .call f_cadenzaref36_Asked [(.tmp 9), (.tmp 10), (.tmp 11)]⟩,
      ⟨(some 8), none, .op (.mv (.tmp 12))⟩])
   (.seq (.reg [⟨(some 13), none, .op (.mv (.tmp 8))⟩,
      ⟨(some 14), none, .op (.bin .neq (.tmp 13) (.const (.int .i64 0)))⟩])
   (.cond (.tmp 14)
     (.seq (.reg [⟨(some 15), none, .op (.build [.int .i64 0, .int .i64 0, .int .i64 0, .str [], .emp true, .emp true, .emp true, .emp true, .bool false, .int .i64 0] [])⟩,
        ⟨(some 16), none, .op (.mv (.tmp 8))⟩,
        ⟨none, none, .op (.store 10 (.tmp 6) (.tmp 15))⟩,
        ⟨(some 7), none, .op (.mv (.tmp 16))⟩])
     (.ret))
     (.skip))))
  (.seq (.reg [⟨(some 17), none, .op (.load (some 2) (.tmp 3))⟩,
     ⟨(some 18), none, .op (.mv (.tmp 1))⟩,
     ⟨(some 19), none, .op (.mv (.tmp 2))⟩,
     ⟨(some 20), none, .op (.build [.int .i64 0, .int .i64 0, .int .i64 0, .str [], .emp true, .emp true, .emp true, .emp true, .bool false, .int .i64 0] [(0, 2, (.tmp 17)), (2, 1, (.tmp 18)), (3, 1, (.tmp 19))])⟩,
     ⟨none, none, .op (.store 10 (.tmp 6) (.tmp 20))⟩,
     ⟨(some 7), none, .op (.mv (.const (.int .i64 0)))⟩])
  (.ret)))

def ac_pushenc_Check (f_pushenc_right f_pushenc_feeding t0 : Nat) : AC :=
  .seq (.reg [⟨(some 1), none, .op (.box t0 10 (.tmp 0))⟩,
     ⟨(some 2), none, .op (.mv (.const (.int .i64 0)))⟩])
  (.seq (.reg [⟨(some 7), none, .op (.faddr 0 (.tmp 1))⟩,
     ⟨(some 8), none, .op (.load (some 2) (.tmp 7))⟩,
     ⟨(some 9), none, .op (.faddr 2 (.tmp 1))⟩,
     ⟨(some 10), none, .op (.load none (.tmp 9))⟩,
     ⟨(some 11), none, .op (.faddr 3 (.tmp 1))⟩,
     ⟨(some 12), none, .op (.load none (.tmp 11))⟩,
     ⟨(some 13), none, .call f_pushenc_right [(.tmp 8), (.tmp 10), (.tmp 12)]⟩,
     ⟨(some 6), none, .op (.mv (.tmp 13))⟩,
     ⟨(some 14), none, .op (.extract (.tmp 6) 0)⟩,
     ⟨(some 15), none, .op (.extract (.tmp 6) 1)⟩,
     ⟨(some 3), none, .op (.mv (.tmp 14))⟩,
     ⟨(some 4), none, .op (.mv (.tmp 15))⟩])
  (.seq (.seq (.reg [⟨(some 16), none, .op (.mv (.tmp 4))⟩,
      ⟨(some 17), none, .op (.un .not (.tmp 16))⟩])
   (.cond (.tmp 17)
     (.seq (.reg [⟨(some 2), none, .op (.mv (.const (.int .i64 8)))⟩])
     (.ret))
     (.skip)))
  (.seq (.reg [⟨(some 18), none, .op (.faddr 4 (.tmp 1))⟩,
     ⟨(some 19), none, .op (.load none (.tmp 18))⟩,
     ⟨(some 20), none, .op (.len none (.tmp 19))⟩,
     ⟨(some 21), none, .op (.faddr 5 (.tmp 1))⟩,
     ⟨(some 22), none, .op (.load none (.tmp 21))⟩,
     ⟨(some 23), none, .op (.len none (.tmp 22))⟩,
     ⟨(some 24), none, .op (.bin .add (.tmp 20) (.tmp 23))⟩,
     ⟨(some 25), none, .op (.faddr 6 (.tmp 1))⟩,
     ⟨(some 26), none, .op (.load none (.tmp 25))⟩,
     ⟨(some 27), none, .op (.len none (.tmp 26))⟩,
     ⟨(some 28), none, .op (.bin .add (.tmp 24) (.tmp 27))⟩,
     ⟨(some 29), none, .op (.bin .eql (.tmp 28) (.const (.int .i64 0)))⟩,
     ⟨(some 5), none, .op (.mv (.tmp 29))⟩])
  (.seq (.block 0 (.seq (.reg [⟨(some 34), none, .op (.faddr 9 (.tmp 1))⟩,
       ⟨(some 35), none, .op (.load none (.tmp 34))⟩,
       ⟨(some 36), none, .op (.bin .neq (.tmp 35) (.const (.int .i64 0)))⟩,
       ⟨(some 33), none, .op (.mv (.tmp 36))⟩])
    (.cond (.tmp 33)
      (.reg [⟨(some 37), none, .op (.faddr 9 (.tmp 1))⟩,
        ⟨(some 38), none, .op (.load none (.tmp 37))⟩,
        ⟨(some 39), none, .op (.bin .eql (.tmp 38) (.const (.int .i64 18)))⟩,
        ⟨(some 40), none, .op (.mv (.tmp 39))⟩,
        ⟨(some 41), (some (40, false)), .op (.faddr 9 (.tmp 1))⟩,
        ⟨(some 42), (some (40, false)), .op (.load none (.tmp 41))⟩,
        ⟨(some 43), (some (40, false)), .op (.bin .eql (.tmp 42) (.const (.int .i64 24)))⟩,
        ⟨(some 44), none, .op (.pick (.tmp 40) (.const (.bool true)) (.tmp 43))⟩,
        ⟨(some 45), none, .op (.mv (.tmp 44))⟩,
        ⟨(some 46), (some (45, true)), .op (.faddr 8 (.tmp 1))⟩,
        ⟨(some 47), (some (45, true)), .op (.load none (.tmp 46))⟩,
        ⟨(some 48), (some (45, true)), .op (.un .not (.tmp 47))⟩,
        ⟨(some 49), none, .op (.pick (.tmp 45) (.tmp 48) (.const (.bool false)))⟩,
        ⟨(some 50), none, .op (.mv (.tmp 49))⟩,
        ⟨(some 51), (some (50, true)), .op (.mv (.tmp 5))⟩,
        ⟨(some 52), none, .op (.pick (.tmp 50) (.tmp 51) (.const (.bool false)))⟩,
        ⟨(some 53), none, .op (.mv (.tmp 52))⟩,
        ⟨(some 54), (some (53, true)), .op (.faddr 7 (.tmp 1))⟩,
        ⟨(some 55), (some (53, true)), .op (.load none (.tmp 54))⟩,
        ⟨(some 56), (some (53, true)), .op (.len none (.tmp 55))⟩,
        ⟨(some 57), (some (53, true)), .op (.bin .eql (.tmp 56) (.const (.int .i64 0)))⟩,
        ⟨(some 58), none, .op (.pick (.tmp 53) (.tmp 57) (.const (.bool false)))⟩,
        ⟨(some 4), none, .op (.mv (.tmp 58))⟩])
      (.seq (.reg [⟨(some 60), none, .op (.faddr 8 (.tmp 1))⟩,
         ⟨(some 61), none, .op (.load none (.tmp 60))⟩,
         ⟨(some 59), none, .op (.mv (.tmp 61))⟩])
      (.cond (.tmp 59)
        (.reg [⟨(some 62), none, .op (.mv (.tmp 5))⟩,
          ⟨(some 63), none, .op (.mv (.tmp 62))⟩,
          ⟨(some 64), (some (63, true)), .op (.faddr 7 (.tmp 1))⟩,
          ⟨(some 65), (some (63, true)), .op (.load none (.tmp 64))⟩,
          ⟨(some 66), (some (63, true)), .op (.len none (.tmp 65))⟩,
          ⟨(some 67), (some (63, true)), .op (.bin .leq (.tmp 66) (.const (.int .i64 100000)))⟩,
          ⟨(some 68), none, .op (.pick (.tmp 63) (.tmp 67) (.const (.bool false)))⟩,
          ⟨(some 4), none, .op (.mv (.tmp 68))⟩])
        (.reg [⟨(some 30), none, .op (.load (some 10) (.tmp 1))⟩,
          ⟨(some 31), none, .op (.mv (.tmp 3))⟩,
          ⟨(some 32), none, .call f_pushenc_feeding [(.tmp 30), (.tmp 31)]⟩,
          ⟨(some 4), none, .op (.mv (.tmp 32))⟩]))))))
  (.seq (.seq (.reg [⟨(some 69), none, .op (.mv (.tmp 4))⟩,
      ⟨(some 70), none, .op (.un .not (.tmp 69))⟩])
   (.cond (.tmp 70)
     (.seq (.reg [⟨(some 2), none, .op (.mv (.const (.int .i64 8)))⟩])
     (.ret))
     (.skip)))
  (.seq (.reg [⟨(some 2), none, .op (.mv (.const (.int .i64 0)))⟩])
  (.ret)))))))

def ac_cadenzaref36_Check (f_cadenzaref36_Asked f_cadenzaref36_feeding t0 : Nat) : AC :=
  .seq (.reg [⟨(some 1), none, .op (.box t0 10 (.tmp 0))⟩,
     ⟨(some 2), none, .op (.mv (.const (.int .i64 0)))⟩])
  (.seq (.seq (.reg [⟨(some 4), none, .op (.faddr 0 (.tmp 1))⟩,
      ⟨(some 5), none, .op (.load (some 2) (.tmp 4))⟩,
      ⟨(some 6), none, .op (.faddr 2 (.tmp 1))⟩,
      ⟨(some 7), none, .op (.load none (.tmp 6))⟩,
      ⟨(some 8), none, .op (.faddr 3 (.tmp 1))⟩,
      ⟨(some 9), none, .op (.load none (.tmp 8))⟩,
      ⟨(some 10), none, .call f_cadenzaref36_Asked [(.tmp 5), (.tmp 7), (.tmp 9)]⟩,
      ⟨(some 11), none, .op (.bin .neq (.tmp 10) (.const (.int .i64 0)))⟩])
   (.cond (.tmp 11)
     (.seq (.reg [⟨(some 2), none, .op (.mv (.const (.int .i64 8)))⟩])
     (.ret))
     (.skip)))
  (.seq (.reg [⟨(some 12), none, .op (.faddr 4 (.tmp 1))⟩,
     ⟨(some 13), none, .op (.load none (.tmp 12))⟩,
     ⟨(some 14), none, .op (.len none (.tmp 13))⟩,
     ⟨(some 15), none, .op (.bin .eql (.tmp 14) (.const (.int .i64 0)))⟩,
     ⟨(some 16), none, .op (.mv (.tmp 15))⟩,
     ⟨(some 17), (some (16, true)), .op (.faddr 5 (.tmp 1))⟩,
     ⟨(some 18), (some (16, true)), .op (.load none (.tmp 17))⟩,
     ⟨(some 19), (some (16, true)), .op (.len none (.tmp 18))⟩,
     ⟨(some 20), (some (16, true)), .op (.bin .eql (.tmp 19) (.const (.int .i64 0)))⟩,
     ⟨(some 21), none, .op (.pick (.tmp 16) (.tmp 20) (.const (.bool false)))⟩,
     ⟨(some 22), none, .op (.mv (.tmp 21))⟩,
     ⟨(some 23), (some (22, true)), .op (.faddr 6 (.tmp 1))⟩,
     ⟨(some 24), (some (22, true)), .op (.load none (.tmp 23))⟩,
     ⟨(some 25), (some (22, true)), .op (.len none (.tmp 24))⟩,
     ⟨(some 26), (some (22, true)), .op (.bin .eql (.tmp 25) (.const (.int .i64 0)))⟩,
     ⟨(some 27), none, .op (.pick (.tmp 22) (.tmp 26) (.const (.bool false)))⟩,
     ⟨(some 3), none, .op (.mv (.tmp 27))⟩])
  (.seq (.block 0 (.seq (.reg [⟨(some 29), none, .op (.faddr 9 (.tmp 1))⟩,
       ⟨(some 30), none, .op (.load none (.tmp 29))⟩,
       ⟨(some 31), none, .op (.bin .neq (.tmp 30) (.const (.int .i64 0)))⟩,
       ⟨(some 28), none, .op (.mv (.tmp 31))⟩])
    (.cond (.tmp 28)
      (.seq (.reg [⟨(some 32), none, .op (.faddr 9 (.tmp 1))⟩,
         ⟨(some 33), none, .op (.load none (.tmp 32))⟩,
         ⟨(some 34), none, .op (.bin .neq (.tmp 33) (.const (.int .i64 18)))⟩,
         ⟨(some 35), none, .op (.mv (.tmp 34))⟩,
         ⟨(some 36), (some (35, true)), .op (.faddr 9 (.tmp 1))⟩,
         ⟨(some 37), (some (35, true)), .op (.load none (.tmp 36))⟩,
         ⟨(some 38), (some (35, true)), .op (.bin .neq (.tmp 37) (.const (.int .i64 24)))⟩,
         ⟨(some 39), none, .op (.pick (.tmp 35) (.tmp 38) (.const (.bool false)))⟩,
         ⟨(some 40), none, .op (.mv (.tmp 39))⟩,
         ⟨(some 41), (some (40, false)), .op (.faddr 8 (.tmp 1))⟩,
         ⟨(some 42), (some (40, false)), .op (.load none (.tmp 41))⟩,
         ⟨(some 43), none, .op (.pick (.tmp 40) (.const (.bool true)) (.tmp 42))⟩,
         ⟨(some 44), none, .op (.mv (.tmp 43))⟩,
         ⟨(some 45), (some (44, false)), .op (.mv (.tmp 3))⟩,
         ⟨(some 46), (some (44, false)), .op (.un .not (.tmp 45))⟩,
         ⟨(some 47), none, .op (.pick (.tmp 44) (.const (.bool true)) (.tmp 46))⟩,
         ⟨(some 48), none, .op (.mv (.tmp 47))⟩,
         ⟨(some 49), (some (48, false)), .op (.faddr 7 (.tmp 1))⟩,
         ⟨(some 50), (some (48, false)), .op (.load none (.tmp 49))⟩,
         ⟨(some 51), (some (48, false)), .op (.len none (.tmp 50))⟩,
         ⟨(some 52), (some (48, false)), .op (.bin .gtr (.tmp 51) (.const (.int .i64 0)))⟩,
         ⟨(some 53), none, .op (.pick (.tmp 48) (.const (.bool true)) (.tmp 52))⟩])
      (.cond (.tmp 53)
        (.seq (.reg [⟨(some 2), none, .op (.mv (.const (.int .i64 8)))⟩])
        (.ret))
        (.skip)))
      (.seq (.reg [⟨(some 55), none, .op (.faddr 8 (.tmp 1))⟩,
         ⟨(some 56), none, .op (.load none (.tmp 55))⟩,
         ⟨(some 54), none, .op (.mv (.tmp 56))⟩])
      (.cond (.tmp 54)
        (.seq (.reg [⟨(some 57), none, .op (.mv (.tmp 3))⟩,
           ⟨(some 58), none, .op (.un .not (.tmp 57))⟩,
           ⟨(some 59), none, .op (.mv (.tmp 58))⟩,
           ⟨(some 60), (some (59, false)), .op (.faddr 7 (.tmp 1))⟩,
           ⟨(some 61), (some (59, false)), .op (.load none (.tmp 60))⟩,
           ⟨(some 62), (some (59, false)), .op (.len none (.tmp 61))⟩,
           ⟨(some 63), (some (59, false)), .op (.bin .gtr (.tmp 62) (.const (.int .i64 100000)))⟩,
           ⟨(some 64), none, .op (.pick (.tmp 59) (.const (.bool true)) (.tmp 63))⟩])
        (.cond (.tmp 64)
          (.seq (.reg [⟨(some 2), none, .op (.mv (.const (.int .i64 8)))⟩])
          (.ret))
          (.skip)))
        (.seq (.reg [⟨(some 66), none, .op (.load (some 10) (.tmp 1))⟩,
           ⟨(some 67), none, .call f_cadenzaref36_feeding [(.tmp 66)]⟩,
           ⟨(some 68), none, .op (.un .not (.tmp 67))⟩,
           ⟨(some 65), none, .op (.mv (.tmp 68))⟩])
        (.cond (.tmp 65)
          (.seq (.reg [⟨(some 2), none, .op (.mv (.const (.int .i64 8)))⟩])
          (.ret))
          (.skip))))))))
  (.seq (.reg [⟨(some 2), none, .op (.mv (.const (.int .i64 0)))⟩])
  (.ret)))))

def ac_cadenzaref36_Same (t0 : Nat) : AC :=
  .seq (.reg [⟨(some 2), none, .op (.box t0 10 (.tmp 0))⟩,
     ⟨(some 3), none, .op (.box t0 10 (.tmp 1))⟩,
     ⟨(some 4), none, .op (.mv (.const (.bool false)))⟩])
  (.seq (.seq (.reg [⟨(some 7), none, .op (.faddr 0 (.tmp 2))⟩,
      ⟨(some 8), none, .op (.load (some 2) (.tmp 7))⟩,
      ⟨(some 9), none, .op (.faddr 0 (.tmp 3))⟩,
      ⟨(some 10), none, .op (.load (some 2) (.tmp 9))⟩,
      ⟨(some 11), none, .op (.aggeq true [(0, 0), (1, 0)] (.tmp 8) (.tmp 10))⟩,
      ⟨(some 12), none, .op (.mv (.tmp 11))⟩,
      ⟨(some 13), (some (12, false)), .op (.faddr 2 (.tmp 2))⟩,
      ⟨(some 14), (some (12, false)), .op (.load none (.tmp 13))⟩,
      ⟨(some 15), (some (12, false)), .op (.faddr 2 (.tmp 3))⟩,
      ⟨(some 16), (some (12, false)), .op (.load none (.tmp 15))⟩,
      ⟨(some 17), (some (12, false)), .op (.bin .neq (.tmp 14) (.tmp 16))⟩,
      ⟨(some 18), none, .op (.pick (.tmp 12) (.const (.bool true)) (.tmp 17))⟩,
      ⟨(some 19), none, .op (.mv (.tmp 18))⟩,
      ⟨(some 20), (some (19, false)), .op (.faddr 3 (.tmp 2))⟩,
      ⟨(some 21), (some (19, false)), .op (.load none (.tmp 20))⟩,
      ⟨(some 22), (some (19, false)), .op (.faddr 3 (.tmp 3))⟩,
      ⟨(some 23), (some (19, false)), .op (.load none (.tmp 22))⟩,
      ⟨(some 24), (some (19, false)), .op (.bin .neq (.tmp 21) (.tmp 23))⟩,
      ⟨(some 25), none, .op (.pick (.tmp 19) (.const (.bool true)) (.tmp 24))⟩,
      ⟨(some 26), none, .op (.mv (.tmp 25))⟩,
      ⟨(some 27), (some (26, false)), .op (.faddr 4 (.tmp 2))⟩,
      ⟨(some 28), (some (26, false)), .op (.load none (.tmp 27))⟩,
      ⟨(some 29), (some (26, false)), .op (.conv .toStr (.tmp 28))⟩,
      ⟨(some 30), (some (26, false)), .op (.faddr 4 (.tmp 3))⟩,
      ⟨(some 31), (some (26, false)), .op (.load none (.tmp 30))⟩,
      ⟨(some 32), (some (26, false)), .op (.conv .toStr (.tmp 31))⟩,
      ⟨(some 33), (some (26, false)), .op (.bin .neq (.tmp 29) (.tmp 32))⟩,
      ⟨(some 34), none, .op (.pick (.tmp 26) (.const (.bool true)) (.tmp 33))⟩,
      ⟨(some 35), none, .op (.mv (.tmp 34))⟩,
      ⟨(some 36), (some (35, false)), .op (.faddr 7 (.tmp 2))⟩,
      ⟨(some 37), (some (35, false)), .op (.load none (.tmp 36))⟩,
      ⟨(some 38), (some (35, false)), .op (.conv .toStr (.tmp 37))⟩,
      ⟨(some 39), (some (35, false)), .op (.faddr 7 (.tmp 3))⟩,
      ⟨(some 40), (some (35, false)), .op (.load none (.tmp 39))⟩,
      ⟨(some 41), (some (35, false)), .op (.conv .toStr (.tmp 40))⟩,
      ⟨(some 42), (some (35, false)), .op (.bin .neq (.tmp 38) (.tmp 41))⟩,
      ⟨(some 43), none, .op (.pick (.tmp 35) (.const (.bool true)) (.tmp 42))⟩,
      ⟨(some 44), none, .op (.mv (.tmp 43))⟩,
      ⟨(some 45), (some (44, false)), .op (.faddr 8 (.tmp 2))⟩,
      ⟨(some 46), (some (44, false)), .op (.load none (.tmp 45))⟩,
      ⟨(some 47), (some (44, false)), .op (.faddr 8 (.tmp 3))⟩,
      ⟨(some 48), (some (44, false)), .op (.load none (.tmp 47))⟩,
      ⟨(some 49), (some (44, false)), .op (.beq true (.tmp 46) (.tmp 48))⟩,
      ⟨(some 50), none, .op (.pick (.tmp 44) (.const (.bool true)) (.tmp 49))⟩,
      ⟨(some 51), none, .op (.mv (.tmp 50))⟩,
      ⟨(some 52), (some (51, false)), .op (.faddr 9 (.tmp 2))⟩,
      ⟨(some 53), (some (51, false)), .op (.load none (.tmp 52))⟩,
      ⟨(some 54), (some (51, false)), .op (.faddr 9 (.tmp 3))⟩,
      ⟨(some 55), (some (51, false)), .op (.load none (.tmp 54))⟩,
      ⟨(some 56), (some (51, false)), .op (.bin .neq (.tmp 53) (.tmp 55))⟩,
      ⟨(some 57), none, .op (.pick (.tmp 51) (.const (.bool true)) (.tmp 56))⟩,
      ⟨(some 58), none, .op (.mv (.tmp 57))⟩,
      ⟨(some 59), (some (58, false)), .op (.faddr 5 (.tmp 2))⟩,
      ⟨(some 60), (some (58, false)), .op (.load none (.tmp 59))⟩,
      ⟨(some 61), (some (58, false)), .op (.len none (.tmp 60))⟩,
      ⟨(some 62), (some (58, false)), .op (.faddr 5 (.tmp 3))⟩,
      ⟨(some 63), (some (58, false)), .op (.load none (.tmp 62))⟩,
      ⟨(some 64), (some (58, false)), .op (.len none (.tmp 63))⟩,
      ⟨(some 65), (some (58, false)), .op (.bin .neq (.tmp 61) (.tmp 64))⟩,
      ⟨(some 66), none, .op (.pick (.tmp 58) (.const (.bool true)) (.tmp 65))⟩,
      ⟨(some 67), none, .op (.mv (.tmp 66))⟩,
      ⟨(some 68), (some (67, false)), .op (.faddr 6 (.tmp 2))⟩,
      ⟨(some 69), (some (67, false)), .op (.load none (.tmp 68))⟩,
      ⟨(some 70), (some (67, false)), .op (.len none (.tmp 69))⟩,
      ⟨(some 71), (some (67, false)), .op (.faddr 6 (.tmp 3))⟩,
      ⟨(some 72), (some (67, false)), .op (.load none (.tmp 71))⟩,
      ⟨(some 73), (some (67, false)), .op (.len none (.tmp 72))⟩,
      ⟨(some 74), (some (67, false)), .op (.bin .neq (.tmp 70) (.tmp 73))⟩,
      ⟨(some 75), none, .op (.pick (.tmp 67) (.const (.bool true)) (.tmp 74))⟩])
   (.cond (.tmp 75)
     (.seq (.reg [⟨(some 4), none, .op (.mv (.const (.bool false)))⟩])
     (.ret))
     (.skip)))
  (.seq (.seq (.reg [⟨(some 5), none, .op (.mv (.const (.int .i64 0)))⟩])
   (.block 0 (.loop (.seq (.seq (.reg [⟨(some 76), none, .op (.mv (.tmp 5))⟩,
         ⟨(some 77), none, .op (.faddr 5 (.tmp 2))⟩,
         ⟨(some 78), none, .op (.load none (.tmp 77))⟩,
         ⟨(some 79), none, .op (.len none (.tmp 78))⟩,
         ⟨(some 80), none, .op (.bin .lss (.tmp 76) (.tmp 79))⟩])
      (.cond (.tmp 80)
        (.skip)
        (.exit 0)))
     (.seq (.block 1 (.seq (.draw [⟨0, false, ⟨(some 83), none, .op (.faddr 5 (.tmp 2))⟩⟩,
          ⟨0, false, ⟨(some 84), none, .op (.load none (.tmp 83))⟩⟩,
          ⟨0, false, ⟨(some 85), none, .op (.mv (.tmp 5))⟩⟩,
          ⟨0, false, ⟨(some 86), none, .op (.iaddr (.slice 1) (.tmp 84) (.tmp 85))⟩⟩,
          ⟨0, false, ⟨(some 87), none, .op (.load none (.tmp 86))⟩⟩,
          ⟨0, false, ⟨(some 88), none, .op (.faddr 5 (.tmp 3))⟩⟩,
          ⟨0, false, ⟨(some 89), none, .op (.load none (.tmp 88))⟩⟩,
          ⟨0, false, ⟨(some 90), none, .op (.mv (.tmp 5))⟩⟩,
          ⟨0, false, ⟨(some 91), none, .op (.iaddr (.slice 1) (.tmp 89) (.tmp 90))⟩⟩,
          ⟨0, false, ⟨(some 92), none, .op (.load none (.tmp 91))⟩⟩,
          ⟨0, false, ⟨(some 93), none, .op (.bin .neq (.tmp 87) (.tmp 92))⟩⟩] [])
       (.cond (.tmp 93)
         (.seq (.reg [⟨(some 4), none, .op (.mv (.const (.bool false)))⟩])
         (.ret))
         (.skip))))
     (.reg [⟨(some 81), none, .op (.mv (.tmp 5))⟩,
       ⟨(some 82), none, .op (.bin .add (.tmp 81) (.const (.int .i64 1)))⟩,
       ⟨(some 5), none, .op (.mv (.tmp 82))⟩]))))))
  (.seq (.seq (.reg [⟨(some 6), none, .op (.mv (.const (.int .i64 0)))⟩])
   (.block 2 (.loop (.seq (.seq (.reg [⟨(some 94), none, .op (.mv (.tmp 6))⟩,
         ⟨(some 95), none, .op (.faddr 6 (.tmp 2))⟩,
         ⟨(some 96), none, .op (.load none (.tmp 95))⟩,
         ⟨(some 97), none, .op (.len none (.tmp 96))⟩,
         ⟨(some 98), none, .op (.bin .lss (.tmp 94) (.tmp 97))⟩])
      (.cond (.tmp 98)
        (.skip)
        (.exit 2)))
     (.seq (.block 3 (.seq (.draw [⟨0, false, ⟨(some 101), none, .op (.faddr 6 (.tmp 2))⟩⟩,
          ⟨0, false, ⟨(some 102), none, .op (.load none (.tmp 101))⟩⟩,
          ⟨0, false, ⟨(some 103), none, .op (.mv (.tmp 6))⟩⟩,
          ⟨0, false, ⟨(some 104), none, .op (.iaddr (.slice 1) (.tmp 102) (.tmp 103))⟩⟩,
          ⟨0, false, ⟨(some 105), none, .op (.load none (.tmp 104))⟩⟩,
          ⟨0, false, ⟨(some 106), none, .op (.conv .toStr (.tmp 105))⟩⟩,
          ⟨0, false, ⟨(some 107), none, .op (.faddr 6 (.tmp 3))⟩⟩,
          ⟨0, false, ⟨(some 108), none, .op (.load none (.tmp 107))⟩⟩,
          ⟨0, false, ⟨(some 109), none, .op (.mv (.tmp 6))⟩⟩,
          ⟨0, false, ⟨(some 110), none, .op (.iaddr (.slice 1) (.tmp 108) (.tmp 109))⟩⟩,
          ⟨0, false, ⟨(some 111), none, .op (.load none (.tmp 110))⟩⟩,
          ⟨0, false, ⟨(some 112), none, .op (.conv .toStr (.tmp 111))⟩⟩,
          ⟨0, false, ⟨(some 113), none, .op (.bin .neq (.tmp 106) (.tmp 112))⟩⟩] [])
       (.cond (.tmp 113)
         (.seq (.reg [⟨(some 4), none, .op (.mv (.const (.bool false)))⟩])
         (.ret))
         (.skip))))
     (.reg [⟨(some 99), none, .op (.mv (.tmp 6))⟩,
       ⟨(some 100), none, .op (.bin .add (.tmp 99) (.const (.int .i64 1)))⟩,
       ⟨(some 6), none, .op (.mv (.tmp 100))⟩]))))))
  (.seq (.reg [⟨(some 4), none, .op (.mv (.const (.bool true)))⟩])
  (.ret)))))

def ac_cadenzaref13_Great : AC :=
  .seq (.reg [⟨(some 2), none, .op (.mv (.const (.bool false)))⟩])
  (.seq (.reg [⟨(some 3), none, .op (.mv (.tmp 0))⟩,
     ⟨(some 4), none, .op (.len none (.tmp 3))⟩,
     ⟨(some 5), none, .op (.bin .gtr (.tmp 4) (.const (.int .i64 600)))⟩,
     ⟨(some 6), none, .op (.mv (.tmp 5))⟩,
     ⟨(some 7), (some (6, true)), .op (.mv (.tmp 0))⟩,
     ⟨(some 8), (some (6, true)), .op (.len none (.tmp 7))⟩,
     ⟨(some 9), (some (6, true)), .op (.bin .leq (.tmp 8) (.const (.int .i64 4000)))⟩,
     ⟨(some 10), none, .op (.pick (.tmp 6) (.tmp 9) (.const (.bool false)))⟩,
     ⟨(some 11), none, .op (.mv (.tmp 10))⟩,
     ⟨(some 12), (some (11, false)), .op (.mv (.tmp 0))⟩,
     ⟨(some 13), (some (11, false)), .op (.len none (.tmp 12))⟩,
     ⟨(some 14), (some (11, false)), .op (.bin .gtr (.tmp 13) (.const (.int .i64 4100)))⟩,
     ⟨(some 15), none, .op (.pick (.tmp 11) (.const (.bool true)) (.tmp 14))⟩,
     ⟨(some 2), none, .op (.mv (.tmp 15))⟩])
  (.ret))

def ac_cadenzaref13_Same : AC :=
  .seq (.reg [⟨(some 4), none, .op (.mv (.const (.bool false)))⟩])
  (.seq (.seq (.reg [⟨(some 6), none, .op (.mv (.tmp 0))⟩,
      ⟨(some 7), none, .op (.len none (.tmp 6))⟩,
      ⟨(some 8), none, .op (.mv (.tmp 1))⟩,
      ⟨(some 9), none, .op (.len none (.tmp 8))⟩,
      ⟨(some 10), none, .op (.bin .neq (.tmp 7) (.tmp 9))⟩])
   (.cond (.tmp 10)
     (.seq (.reg [⟨(some 4), none, .op (.mv (.const (.bool false)))⟩])
     (.ret))
     (.skip)))
  (.seq (.seq (.reg [⟨(some 5), none, .op (.mv (.const (.int .i64 0)))⟩])
   (.block 0 (.loop (.seq (.seq (.reg [⟨(some 11), none, .op (.mv (.tmp 5))⟩,
         ⟨(some 12), none, .op (.mv (.tmp 0))⟩,
         ⟨(some 13), none, .op (.len none (.tmp 12))⟩,
         ⟨(some 14), none, .op (.bin .lss (.tmp 11) (.tmp 13))⟩])
      (.cond (.tmp 14)
        (.skip)
        (.exit 0)))
     (.seq (.block 1 (.seq (.draw [⟨0, false, ⟨(some 17), none, .op (.mv (.tmp 0))⟩⟩,
          ⟨0, false, ⟨(some 18), none, .op (.mv (.tmp 5))⟩⟩,
          ⟨0, false, ⟨(some 19), none, .op (.iaddr (.slice 1) (.tmp 17) (.tmp 18))⟩⟩,
          ⟨0, false, ⟨(some 20), none, .op (.load none (.tmp 19))⟩⟩,
          ⟨0, false, ⟨(some 21), none, .op (.mv (.tmp 1))⟩⟩,
          ⟨0, false, ⟨(some 22), none, .op (.mv (.tmp 5))⟩⟩,
          ⟨0, false, ⟨(some 23), none, .op (.iaddr (.slice 1) (.tmp 21) (.tmp 22))⟩⟩,
          ⟨0, false, ⟨(some 24), none, .op (.load none (.tmp 23))⟩⟩,
          ⟨0, false, ⟨(some 25), none, .op (.bin .neq (.tmp 20) (.tmp 24))⟩⟩] [])
       (.cond (.tmp 25)
         (.seq (.reg [⟨(some 4), none, .op (.mv (.const (.bool false)))⟩])
         (.ret))
         (.skip))))
     (.reg [⟨(some 15), none, .op (.mv (.tmp 5))⟩,
       ⟨(some 16), none, .op (.bin .add (.tmp 15) (.const (.int .i64 1)))⟩,
       ⟨(some 5), none, .op (.mv (.tmp 16))⟩]))))))
  (.seq (.reg [⟨(some 4), none, .op (.mv (.const (.bool true)))⟩])
  (.ret))))

def ac_cadenzaref20_Great (f_cadenzaref13_Great : Nat) : AC :=
  .seq (.reg [⟨(some 2), none, .op (.mv (.const (.bool false)))⟩])
  (.seq (.reg [⟨(some 3), none, .op (.mv (.tmp 0))⟩,
     ⟨(some 4), none, .call f_cadenzaref13_Great [(.tmp 3)]⟩,
     ⟨(some 2), none, .op (.mv (.tmp 4))⟩])
  (.ret))

def ac_enframe_Values (f_enframe_check f_mix_All f_chain_New f_chain_Forward f_fold_Fold t0 t1 t2 t3 t4 : Nat) : AC :=
  .seq (.reg [⟨(some 3), none, .op (.box t0 2 (.tmp 0))⟩,
     ⟨(some 4), none, .op (.box t1 16 (.tmp 1))⟩,
     ⟨(some 6), none, .op (.mv (.const (.slice none 0 0)))⟩,
     ⟨(some 7), none, .op (.mv (.const (.int .i64 0)))⟩])
  (.seq (.seq (.reg [⟨(some 20), none, .op (.load (some 2) (.tmp 3))⟩,
      ⟨(some 21), none, .op (.mv (.tmp 2))⟩,
      ⟨(some 22), none, .call f_enframe_check [(.tmp 20), (.tmp 21)]⟩,
      ⟨(some 8), none, .op (.mv (.tmp 22))⟩])
   (.seq (.reg [⟨(some 23), none, .op (.mv (.tmp 8))⟩,
      ⟨(some 24), none, .op (.bin .neq (.tmp 23) (.const (.int .i64 0)))⟩])
   (.cond (.tmp 24)
     (.seq (.reg [⟨(some 25), none, .op (.mv (.tmp 8))⟩,
        ⟨(some 6), none, .op (.mv (.const (.slice none 0 0)))⟩,
        ⟨(some 7), none, .op (.mv (.tmp 25))⟩])
     (.ret))
     (.skip))))
  (.seq (.reg [⟨(some 27), none, .op (.faddr 0 (.tmp 3))⟩,
     ⟨(some 28), none, .op (.load none (.tmp 27))⟩,
     ⟨(some 29), none, .op (.mv (.tmp 2))⟩,
     ⟨(some 30), none, .call f_mix_All [(.tmp 28), (.tmp 29)]⟩,
     ⟨(some 26), none, .op (.mv (.tmp 30))⟩,
     ⟨(some 31), none, .op (.extract (.tmp 26) 0)⟩,
     ⟨(some 32), none, .op (.extract (.tmp 26) 1)⟩,
     ⟨(some 9), none, .op (.mv (.tmp 31))⟩,
     ⟨(some 10), none, .op (.mv (.tmp 32))⟩])
  (.seq (.seq (.reg [⟨(some 33), none, .op (.mv (.tmp 10))⟩,
      ⟨(some 34), none, .op (.bin .neq (.tmp 33) (.const (.int .i64 0)))⟩])
   (.cond (.tmp 34)
     (.seq (.reg [⟨(some 35), none, .op (.mv (.tmp 10))⟩,
        ⟨(some 6), none, .op (.mv (.const (.slice none 0 0)))⟩,
        ⟨(some 7), none, .op (.mv (.tmp 35))⟩])
     (.ret))
     (.skip)))
  (.seq (.reg [⟨(some 11), none, .op (.alloc t2 [.int .i64 0, .int .i32 0, .int .i64 0, .int .i32 0, .int .i32 0, .int .i32 0, .int .i32 0, .int .i32 0, .int .i32 0, .int .i32 0, .int .i32 0, .int .i32 0, .int .i32 0, .int .i32 0, .int .i32 0, .int .i32 0, .int .i32 0, .int .i32 0, .int .i32 0, .int .i32 0, .int .i32 0, .int .i32 0, .int .i32 0, .int .i32 0, .int .i32 0, .int .i32 0, .int .i32 0, .int .i32 0, .int .i32 0, .int .i32 0, .int .i32 0, .int .i32 0, .int .i32 0, .int .i32 0, .int .i32 0, .int .i64 0, .int .i32 0, .int .i64 0, .int .i32 0, .int .i32 0, .int .i32 0, .int .i32 0, .int .i32 0, .int .i32 0, .int .i32 0, .int .i32 0, .int .i32 0, .int .i32 0, .int .i32 0, .int .i32 0, .int .i32 0, .int .i32 0, .int .i32 0, .int .i32 0, .int .i32 0, .int .i32 0, .int .i32 0, .int .i32 0, .int .i32 0, .int .i32 0, .int .i32 0, .int .i32 0, .int .i32 0, .int .i32 0, .int .i32 0, .int .i32 0, .int .i32 0, .int .i32 0, .int .i32 0, .int .i32 0, .int .i64 0, .int .i32 0, .int .i64 0, .int .i32 0, .int .i32 0, .int .i32 0, .int .i32 0, .int .i32 0, .int .i32 0, .int .i32 0, .int .i32 0, .int .i32 0, .int .i32 0, .int .i32 0, .int .i32 0, .int .i32 0, .int .i32 0, .int .i32 0, .int .i32 0, .int .i32 0, .int .i32 0, .int .i32 0, .int .i32 0, .int .i32 0, .int .i32 0, .int .i32 0, .int .i32 0, .int .i32 0, .int .i32 0, .int .i32 0, .int .i32 0, .int .i32 0, .int .i32 0, .int .i32 0, .int .i32 0, .int .i64 0, .int .i32 0, .int .i64 0, .int .i32 0, .int .i32 0, .int .i32 0, .int .i32 0, .int .i32 0, .int .i32 0, .int .i32 0, .int .i32 0, .int .i32 0, .int .i32 0, .int .i32 0, .int .i32 0, .int .i32 0, .int .i32 0, .int .i32 0, .int .i32 0, .int .i32 0, .int .i32 0, .int .i32 0, .int .i32 0, .int .i32 0, .int .i32 0, .int .i32 0, .int .i32 0, .int .i32 0, .int .i32 0, .int .i32 0, .int .i32 0, .int .i32 0, .int .i32 0, .int .i32 0, .int .i32 0, .int .i64 0, .int .i32 0, .int .i64 0, .int .i32 0, .int .i32 0, .int .i32 0, .int .i32 0, .int .i32 0, .int .i32 0, .int .i32 0, .int .i32 0, .int .i32 0, .int .i32 0, .int .i32 0, .int .i32 0, .int .i32 0, .int .i32 0, .int .i32 0, .int .i32 0, .int .i32 0, .int .i32 0, .int .i32 0, .int .i32 0, .int .i32 0, .int .i32 0, .int .i32 0, .int .i32 0, .int .i32 0, .int .i32 0, .int .i32 0, .int .i32 0, .int .i32 0, .int .i32 0, .int .i32 0, .int .i32 0, .int .i64 0, .int .i32 0, .int .i64 0, .int .i32 0, .int .i32 0, .int .i32 0, .int .i32 0, .int .i32 0, .int .i32 0, .int .i32 0, .int .i32 0, .int .i32 0, .int .i32 0, .int .i32 0, .int .i32 0, .int .i32 0, .int .i32 0, .int .i32 0, .int .i32 0, .int .i32 0, .int .i32 0, .int .i32 0, .int .i32 0, .int .i32 0, .int .i32 0, .int .i32 0, .int .i32 0, .int .i32 0, .int .i32 0, .int .i32 0, .int .i32 0, .int .i32 0, .int .i32 0, .int .i32 0, .int .i32 0])⟩])
  (.seq (.seq (.reg [⟨(some 36), none, .op (.mv (.const (.int .i64 0)))⟩])
   (.block 0 (.loop (.seq (.reg [⟨(some 37), none, .op (.bin .lss (.tmp 36) (.const (.int .i64 6)))⟩])
     (.seq (.cond (.tmp 37)
        (.skip)
        (.exit 0))
     (.seq (.block 1 (.seq (.reg [⟨(some 38), none, .op (.mv (.tmp 36))⟩,
          ⟨(some 12), none, .op (.mv (.tmp 38))⟩])
       (.reg [⟨(some 40), none, .op (.mv (.tmp 12))⟩,
         ⟨(some 41), none, .op (.faddr 1 (.tmp 3))⟩,
         ⟨(some 42), none, .op (.load none (.tmp 41))⟩,
         ⟨(some 43), none, .op (.load (some 16) (.tmp 4))⟩,
         ⟨(some 44), none, .call f_chain_New [(.tmp 42), (.tmp 43)]⟩,
         ⟨(some 39), none, .op (.mv (.tmp 44))⟩,
         ⟨(some 45), none, .op (.extract (.tmp 39) 0)⟩,
         ⟨(some 46), none, .op (.extract (.tmp 39) 1)⟩,
         ⟨(some 47), none, .op (.iaddr (.arr 6 35) (.tmp 11) (.tmp 40))⟩,
         ⟨none, none, .op (.store 35 (.tmp 47) (.tmp 45))⟩])))
     (.reg [⟨(some 48), none, .op (.bin .add (.tmp 36) (.const (.int .i64 1)))⟩,
       ⟨(some 36), none, .op (.mv (.tmp 48))⟩])))))))
  (.seq (.reg [⟨(some 13), none, .op (.mv (.const (.slice none 0 0)))⟩])
  (.seq (.seq (.reg [⟨(some 49), none, .op (.mv (.tmp 9))⟩,
      ⟨(some 50), none, .op (.len none (.tmp 49))⟩,
      ⟨(some 51), none, .op (.mv (.const (.int .i64 0)))⟩])
   (.block 2 (.loop (.seq (.reg [⟨(some 52), none, .op (.bin .lss (.tmp 51) (.tmp 50))⟩])
     (.seq (.cond (.tmp 52)
        (.skip)
        (.exit 2))
     (.seq (.block 3 (.seq (.reg [⟨(some 53), none, .op (.mv (.tmp 51))⟩,
          ⟨(some 54), none, .op (.iaddr (.slice 1) (.tmp 49) (.tmp 51))⟩,
          ⟨(some 55), none, .op (.load none (.tmp 54))⟩,
          ⟨(some 14), none, .op (.mv (.tmp 53))⟩,
          ⟨(some 15), none, .op (.mv (.tmp 55))⟩])
       (.seq (.reg [⟨(some 56), none, .op (.mv (.tmp 14))⟩,
          ⟨(some 57), none, .op (.faddr 0 (.tmp 3))⟩,
          ⟨(some 58), none, .op (.load none (.tmp 57))⟩,
          ⟨(some 59), none, .op (.bin .rem (.tmp 56) (.tmp 58))⟩,
          ⟨(some 60), none, .op (.iaddr (.arr 6 35) (.tmp 11) (.tmp 59))⟩,
          ⟨(some 16), none, .op (.mv (.tmp 60))⟩])
       (.seq (.reg [⟨(some 62), none, .op (.mv (.tmp 16))⟩,
          ⟨(some 63), none, .op (.nilck (.tmp 62))⟩,
          ⟨(some 64), none, .op (.load (some 35) (.tmp 63))⟩,
          ⟨(some 65), none, .op (.mv (.tmp 15))⟩,
          ⟨(some 66), none, .call f_chain_Forward [(.tmp 64), (.tmp 65)]⟩,
          ⟨(some 61), none, .op (.mv (.tmp 66))⟩,
          ⟨(some 67), none, .op (.extract (.tmp 61) 0)⟩,
          ⟨(some 68), none, .op (.extract (.tmp 61) 1)⟩,
          ⟨(some 69), none, .op (.extract (.tmp 61) 2)⟩,
          ⟨(some 18), none, .op (.alloc t3 [.int .i64 0, .int .i32 0, .int .i64 0, .int .i32 0, .int .i32 0, .int .i32 0, .int .i32 0, .int .i32 0, .int .i32 0, .int .i32 0, .int .i32 0, .int .i32 0, .int .i32 0, .int .i32 0, .int .i32 0, .int .i32 0, .int .i32 0, .int .i32 0, .int .i32 0, .int .i32 0, .int .i32 0, .int .i32 0, .int .i32 0, .int .i32 0, .int .i32 0, .int .i32 0, .int .i32 0, .int .i32 0, .int .i32 0, .int .i32 0, .int .i32 0, .int .i32 0, .int .i32 0, .int .i32 0, .int .i32 0])⟩,
          ⟨(some 17), none, .op (.mv (.tmp 67))⟩,
          ⟨none, none, .op (.store 35 (.tmp 18) (.tmp 68))⟩,
          ⟨(some 19), none, .op (.mv (.tmp 69))⟩])
       (.seq (.seq (.reg [⟨(some 70), none, .op (.mv (.tmp 19))⟩,
           ⟨(some 71), none, .op (.bin .neq (.tmp 70) (.const (.int .i64 0)))⟩])
        (.cond (.tmp 71)
          (.seq (.reg [⟨(some 72), none, .op (.mv (.tmp 19))⟩,
             ⟨(some 6), none, .op (.mv (.const (.slice none 0 0)))⟩,
             ⟨(some 7), none, .op (.mv (.tmp 72))⟩])
          (.ret))
          (.skip)))
       (.seq (.reg [⟨(some 73), none, .op (.mv (.tmp 16))⟩,
          ⟨(some 74), none, .op (.load (some 35) (.tmp 18))⟩,
          ⟨(some 75), none, .op (.nilck (.tmp 73))⟩,
          ⟨none, none, .op (.store 35 (.tmp 75) (.tmp 74))⟩])
       (.reg [⟨(some 76), none, .op (.mv (.tmp 13))⟩,
         ⟨(some 77), none, .op (.mv (.tmp 17))⟩,
         ⟨(some 78), none, .call f_fold_Fold [(.tmp 77)]⟩,
         ⟨(some 79), none, .op (.bslice t4 1 1 [.int .u32 0] [(0, 1, (.tmp 78))])⟩,
         ⟨(some 80), none, .op (.append t4 1 4 false (.tmp 76) (.tmp 79))⟩,
         ⟨(some 13), none, .op (.mv (.tmp 80))⟩])))))))
     (.reg [⟨(some 81), none, .op (.bin .add (.tmp 51) (.const (.int .i64 1)))⟩,
       ⟨(some 51), none, .op (.mv (.tmp 81))⟩])))))))
  (.seq (.reg [⟨(some 82), none, .op (.mv (.tmp 13))⟩,
     ⟨(some 6), none, .op (.mv (.tmp 82))⟩,
     ⟨(some 7), none, .op (.mv (.const (.int .i64 0)))⟩])
  (.ret)))))))))

def ac_cadenzaref20_Values (f_cadenzaref20_Asked f_cadenzaref20_Coded t0 t1 : Nat) : AC :=
  .seq (.reg [⟨(some 3), none, .op (.box t0 2 (.tmp 0))⟩,
     ⟨(some 4), none, .op (.box t1 16 (.tmp 1))⟩,
     ⟨(some 6), none, .op (.mv (.const (.slice none 0 0)))⟩,
     ⟨(some 7), none, .op (.mv (.const (.int .i64 0)))⟩])
  (.seq (.seq (.reg [⟨(some 8), none, .op (.load (some 2) (.tmp 3))⟩,
      ⟨(some 9), none, .op (.mv (.tmp 2))⟩,
      ⟨(some 10), none, .call f_cadenzaref20_Asked [(.tmp 8), (.tmp 9)]⟩,
      ⟨(some 11), none, .op (.bin .neq (.tmp 10) (.const (.int .i64 0)))⟩])
   (.cond (.tmp 11)
     (.seq (.reg [⟨(some 12), none, .op (.load (some 2) (.tmp 3))⟩,
        ⟨(some 13), none, .op (.mv (.tmp 2))⟩,
        ⟨(some 14), none, .call f_cadenzaref20_Asked [(.tmp 12), (.tmp 13)]⟩,
        ⟨(some 6), none, .op (.mv (.const (.slice none 0 0)))⟩,
        ⟨(some 7), none, .op (.mv (.tmp 14))⟩])
     (.ret))
     (.skip)))
  (.seq (.reg [⟨(some 15), none, .op (.load (some 2) (.tmp 3))⟩,
     ⟨(some 16), none, .op (.load (some 16) (.tmp 4))⟩,
     ⟨(some 17), none, .op (.mv (.tmp 2))⟩,
     ⟨(some 18), none, .call f_cadenzaref20_Coded [(.tmp 15), (.tmp 16), (.tmp 17)]⟩,
     ⟨(some 6), none, .op (.mv (.tmp 18))⟩,
     ⟨(some 7), none, .op (.mv (.const (.int .i64 0)))⟩])
  (.ret)))

def ac_enframe_Check (f_width_Range t0 : Nat) : AC :=
  .seq (.reg [⟨(some 1), none, .op (.box t0 2 (.tmp 0))⟩,
     ⟨(some 2), none, .op (.mv (.const (.int .i64 0)))⟩])
  (.seq (.seq (.reg [⟨(some 7), none, .op (.faddr 1 (.tmp 1))⟩,
      ⟨(some 8), none, .op (.load none (.tmp 7))⟩,
      ⟨(some 9), none, .call f_width_Range [(.tmp 8)]⟩,
      ⟨(some 6), none, .op (.mv (.tmp 9))⟩,
      ⟨(some 10), none, .op (.extract (.tmp 6) 0)⟩,
      ⟨(some 11), none, .op (.extract (.tmp 6) 1)⟩,
      ⟨(some 12), none, .op (.extract (.tmp 6) 2)⟩,
      ⟨(some 3), none, .op (.mv (.tmp 10))⟩,
      ⟨(some 4), none, .op (.mv (.tmp 11))⟩,
      ⟨(some 5), none, .op (.mv (.tmp 12))⟩])
   (.seq (.reg [⟨(some 13), none, .op (.mv (.tmp 5))⟩,
      ⟨(some 14), none, .op (.bin .neq (.tmp 13) (.const (.int .i64 0)))⟩,
      ⟨(some 15), none, .op (.mv (.tmp 14))⟩,
      ⟨(some 16), (some (15, false)), .op (.faddr 0 (.tmp 1))⟩,
      ⟨(some 17), (some (15, false)), .op (.load none (.tmp 16))⟩,
      ⟨(some 18), (some (15, false)), .op (.bin .lss (.tmp 17) (.const (.int .i64 1)))⟩,
      ⟨(some 19), none, .op (.pick (.tmp 15) (.const (.bool true)) (.tmp 18))⟩,
      ⟨(some 20), none, .op (.mv (.tmp 19))⟩,
      ⟨(some 21), (some (20, false)), .op (.faddr 0 (.tmp 1))⟩,
      ⟨(some 22), (some (20, false)), .op (.load none (.tmp 21))⟩,
      ⟨(some 23), (some (20, false)), .op (.bin .gtr (.tmp 22) (.const (.int .i64 6)))⟩,
      ⟨(some 24), none, .op (.pick (.tmp 20) (.const (.bool true)) (.tmp 23))⟩])
   (.cond (.tmp 24)
     (.seq (.reg [⟨(some 2), none, .op (.mv (.const (.int .i64 2)))⟩])
     (.ret))
     (.skip))))
  (.seq (.reg [⟨(some 2), none, .op (.mv (.const (.int .i64 0)))⟩])
  (.ret)))

def ac_cadenzaref20_Check (f_cadenzaref18_Half t0 : Nat) : AC :=
  .seq (.reg [⟨(some 1), none, .op (.box t0 2 (.tmp 0))⟩,
     ⟨(some 2), none, .op (.mv (.const (.int .i64 0)))⟩])
  (.seq (.seq (.reg [⟨(some 3), none, .op (.faddr 0 (.tmp 1))⟩,
      ⟨(some 4), none, .op (.load none (.tmp 3))⟩,
      ⟨(some 5), none, .op (.bin .lss (.tmp 4) (.const (.int .i64 1)))⟩,
      ⟨(some 6), none, .op (.mv (.tmp 5))⟩,
      ⟨(some 7), (some (6, false)), .op (.faddr 0 (.tmp 1))⟩,
      ⟨(some 8), (some (6, false)), .op (.load none (.tmp 7))⟩,
      ⟨(some 9), (some (6, false)), .op (.bin .gtr (.tmp 8) (.const (.int .i64 6)))⟩,
      ⟨(some 10), none, .op (.pick (.tmp 6) (.const (.bool true)) (.tmp 9))⟩,
      ⟨(some 11), none, .op (.mv (.tmp 10))⟩,
      ⟨(some 12), (some (11, false)), .op (.faddr 1 (.tmp 1))⟩,
      ⟨(some 13), (some (11, false)), .op (.load none (.tmp 12))⟩,
      ⟨(some 14), (some (11, false)), .call f_cadenzaref18_Half [(.tmp 13)]⟩,
      ⟨(some 15), (some (11, false)), .op (.bin .eql (.tmp 14) (.const (.int .i64 0)))⟩,
      ⟨(some 16), none, .op (.pick (.tmp 11) (.const (.bool true)) (.tmp 15))⟩])
   (.cond (.tmp 16)
     (.seq (.reg [⟨(some 2), none, .op (.mv (.const (.int .i64 2)))⟩])
     (.ret))
     (.skip)))
  (.seq (.reg [⟨(some 2), none, .op (.mv (.const (.int .i64 0)))⟩])
  (.ret)))

def ac_cadenzaref05_Same : AC :=
  .seq (.reg [⟨(some 4), none, .op (.mv (.const (.bool false)))⟩])
  (.seq (.seq (.reg [⟨(some 6), none, .op (.mv (.tmp 0))⟩,
      ⟨(some 7), none, .op (.len none (.tmp 6))⟩,
      ⟨(some 8), none, .op (.mv (.tmp 1))⟩,
      ⟨(some 9), none, .op (.len none (.tmp 8))⟩,
      ⟨(some 10), none, .op (.bin .neq (.tmp 7) (.tmp 9))⟩])
   (.cond (.tmp 10)
     (.seq (.reg [⟨(some 4), none, .op (.mv (.const (.bool false)))⟩])
     (.ret))
     (.skip)))
  (.seq (.seq (.reg [⟨(some 5), none, .op (.mv (.const (.int .i64 0)))⟩])
   (.block 0 (.loop (.seq (.seq (.reg [⟨(some 11), none, .op (.mv (.tmp 5))⟩,
         ⟨(some 12), none, .op (.mv (.tmp 0))⟩,
         ⟨(some 13), none, .op (.len none (.tmp 12))⟩,
         ⟨(some 14), none, .op (.bin .lss (.tmp 11) (.tmp 13))⟩])
      (.cond (.tmp 14)
        (.skip)
        (.exit 0)))
     (.seq (.block 1 (.seq (.draw [⟨0, false, ⟨(some 17), none, .op (.mv (.tmp 0))⟩⟩,
          ⟨0, false, ⟨(some 18), none, .op (.mv (.tmp 5))⟩⟩,
          ⟨0, false, ⟨(some 19), none, .op (.iaddr (.slice 1) (.tmp 17) (.tmp 18))⟩⟩,
          ⟨0, false, ⟨(some 20), none, .op (.load none (.tmp 19))⟩⟩,
          ⟨0, false, ⟨(some 21), none, .op (.mv (.tmp 1))⟩⟩,
          ⟨0, false, ⟨(some 22), none, .op (.mv (.tmp 5))⟩⟩,
          ⟨0, false, ⟨(some 23), none, .op (.iaddr (.slice 1) (.tmp 21) (.tmp 22))⟩⟩,
          ⟨0, false, ⟨(some 24), none, .op (.load none (.tmp 23))⟩⟩,
          ⟨0, false, ⟨(some 25), none, .op (.bin .neq (.tmp 20) (.tmp 24))⟩⟩] [])
       (.cond (.tmp 25)
         (.seq (.reg [⟨(some 4), none, .op (.mv (.const (.bool false)))⟩])
         (.ret))
         (.skip))))
     (.reg [⟨(some 15), none, .op (.mv (.tmp 5))⟩,
       ⟨(some 16), none, .op (.bin .add (.tmp 15) (.const (.int .i64 1)))⟩,
       ⟨(some 5), none, .op (.mv (.tmp 16))⟩]))))))
  (.seq (.reg [⟨(some 4), none, .op (.mv (.const (.bool true)))⟩])
  (.ret))))

def ac_deframe_Samples (f_enframe_Check f_deframe_samples t0 t1 : Nat) : AC :=
  .seq (.reg [⟨(some 3), none, .op (.box t0 2 (.tmp 0))⟩,
     ⟨(some 4), none, .op (.box t1 16 (.tmp 1))⟩,
     ⟨(some 6), none, .op (.mv (.const (.slice none 0 0)))⟩,
     ⟨(some 7), none, .op (.mv (.const (.int .i64 0)))⟩])
  (.seq (.seq (.reg [⟨(some 9), none, .op (.load (some 2) (.tmp 3))⟩,
      ⟨(some 10), none, .call f_enframe_Check [(.tmp 9)]⟩,
      ⟨(some 8), none, .op (.mv (.tmp 10))⟩])
   (.seq (.reg [⟨(some 11), none, .op (.mv (.tmp 8))⟩,
      ⟨(some 12), none, .op (.bin .neq (.tmp 11) (.const (.int .i64 0)))⟩])
   (.cond (.tmp 12)
     (.seq (.reg [⟨(some 13), none, .op (.mv (.tmp 8))⟩,
        ⟨(some 6), none, .op (.mv (.const (.slice none 0 0)))⟩,
        ⟨(some 7), none, .op (.mv (.tmp 13))⟩])
     (.ret))
     (.skip))))
  (.seq (.seq (.reg [⟨(some 14), none, .op (.mv (.tmp 2))⟩,
      ⟨(some 15), none, .op (.len none (.tmp 14))⟩,
      ⟨(some 16), none, .op (.bin .gtr (.tmp 15) (.const (.int .i64 4000)))⟩])
   (.cond (.tmp 16)
     (.seq (.reg [⟨(some 6), none, .op (.mv (.const (.slice none 0 0)))⟩,
        ⟨(some 7), none, .op (.mv (.const (.int .i64 4)))⟩])
     (.ret))
     (.skip)))
  (.seq (.seq (.reg [⟨(some 17), none, .op (.mv (.tmp 2))⟩,
      ⟨(some 18), none, .op (.len none (.tmp 17))⟩,
      ⟨(some 19), none, .op (.bin .eql (.tmp 18) (.const (.int .i64 0)))⟩,
      ⟨(some 20), none, .op (.mv (.tmp 19))⟩,
      ⟨(some 21), (some (20, false)), .op (.mv (.tmp 2))⟩,
      ⟨(some 22), (some (20, false)), .op (.len none (.tmp 21))⟩,
      ⟨(some 23), (some (20, false)), .op (.faddr 0 (.tmp 3))⟩,
      ⟨(some 24), (some (20, false)), .op (.load none (.tmp 23))⟩,
      ⟨(some 25), (some (20, false)), .op (.bin .rem (.tmp 22) (.tmp 24))⟩,
      ⟨(some 26), (some (20, false)), .op (.bin .neq (.tmp 25) (.const (.int .i64 0)))⟩,
      ⟨(some 27), none, .op (.pick (.tmp 20) (.const (.bool true)) (.tmp 26))⟩])
   (.cond (.tmp 27)
     (.seq (.reg [⟨(some 6), none, .op (.mv (.const (.slice none 0 0)))⟩,
        ⟨(some 7), none, .op (.mv (.const (.int .i64 2)))⟩])
     (.ret))
     (.skip)))
  (.seq (.reg [⟨(some 28), none, .op (.load (some 2) (.tmp 3))⟩,
     ⟨(some 29), none, .op (.load (some 16) (.tmp 4))⟩,
     ⟨(some 30), none, .op (.mv (.tmp 2))⟩,
     ⟨(some 31), none, .call f_deframe_samples [(.tmp 28), (.tmp 29), (.tmp 30)]⟩,
     ⟨(some 32), none, .op (.extract (.tmp 31) 0)⟩,
     ⟨(some 33), none, .op (.extract (.tmp 31) 1)⟩,
     ⟨(some 6), none, .op (.mv (.tmp 32))⟩,
     ⟨(some 7), none, .op (.mv (.tmp 33))⟩])
  (.ret)))))

def ac_cadenzaref21_Samples (f_cadenzaref20_Check f_cadenzaref21_Undone f_cadenzaref21_ranged t0 t1 : Nat) : AC :=
  .seq (.reg [⟨(some 3), none, .op (.box t0 2 (.tmp 0))⟩,
     ⟨(some 4), none, .op (.box t1 16 (.tmp 1))⟩,
     ⟨(some 6), none, .op (.mv (.const (.slice none 0 0)))⟩,
     ⟨(some 7), none, .op (.mv (.const (.int .i64 0)))⟩])
  (.seq (.seq (.reg [⟨(some 8), none, .op (.load (some 2) (.tmp 3))⟩,
      ⟨(some 9), none, .call f_cadenzaref20_Check [(.tmp 8)]⟩,
      ⟨(some 10), none, .op (.bin .neq (.tmp 9) (.const (.int .i64 0)))⟩])
   (.cond (.tmp 10)
     (.seq (.reg [⟨(some 6), none, .op (.mv (.const (.slice none 0 0)))⟩,
        ⟨(some 7), none, .op (.mv (.const (.int .i64 2)))⟩])
     (.ret))
     (.skip)))
  (.seq (.seq (.reg [⟨(some 11), none, .op (.mv (.tmp 2))⟩,
      ⟨(some 12), none, .op (.len none (.tmp 11))⟩,
      ⟨(some 13), none, .op (.bin .gtr (.tmp 12) (.const (.int .i64 4000)))⟩])
   (.cond (.tmp 13)
     (.seq (.reg [⟨(some 6), none, .op (.mv (.const (.slice none 0 0)))⟩,
        ⟨(some 7), none, .op (.mv (.const (.int .i64 4)))⟩])
     (.ret))
     (.skip)))
  (.seq (.seq (.reg [⟨(some 14), none, .op (.mv (.tmp 2))⟩,
      ⟨(some 15), none, .op (.len none (.tmp 14))⟩,
      ⟨(some 16), none, .op (.bin .lss (.tmp 15) (.const (.int .i64 1)))⟩,
      ⟨(some 17), none, .op (.mv (.tmp 16))⟩,
      ⟨(some 18), (some (17, false)), .op (.mv (.tmp 2))⟩,
      ⟨(some 19), (some (17, false)), .op (.len none (.tmp 18))⟩,
      ⟨(some 20), (some (17, false)), .op (.faddr 0 (.tmp 3))⟩,
      ⟨(some 21), (some (17, false)), .op (.load none (.tmp 20))⟩,
      ⟨(some 22), (some (17, false)), .op (.bin .rem (.tmp 19) (.tmp 21))⟩,
      ⟨(some 23), (some (17, false)), .op (.bin .gtr (.tmp 22) (.const (.int .i64 0)))⟩,
      ⟨(some 24), none, .op (.pick (.tmp 17) (.const (.bool true)) (.tmp 23))⟩])
   (.cond (.tmp 24)
     (.seq (.reg [⟨(some 6), none, .op (.mv (.const (.slice none 0 0)))⟩,
        ⟨(some 7), none, .op (.mv (.const (.int .i64 2)))⟩])
     (.ret))
     (.skip)))
  (.seq (.draw [⟨0, false, ⟨(some 25), none, .op (.load (some 2) (.tmp 3))⟩⟩,
     ⟨0, false, ⟨(some 26), none, .op (.load (some 2) (.tmp 3))⟩⟩,
     ⟨0, false, ⟨(some 27), none, .op (.load (some 16) (.tmp 4))⟩⟩,
     ⟨0, false, ⟨(some 28), none, .op (.mv (.tmp 2))⟩⟩,
     ⟨0, false, ⟨(some 29), none, .call f_cadenzaref21_Undone [(.tmp 26), (.tmp 27), (.tmp 28)]⟩⟩,
     ⟨0, false, ⟨(some 30), none, .call f_cadenzaref21_ranged [(.tmp 25), (.tmp 29)]⟩⟩,
     ⟨0, false, ⟨(some 31), none, .op (.extract (.tmp 30) 0)⟩⟩,
     ⟨0, false, ⟨(some 32), none, .op (.extract (.tmp 30) 1)⟩⟩,
     ⟨0, false, ⟨(some 6), none, .op (.mv (.tmp 31))⟩⟩,
     ⟨0, false, ⟨(some 7), none, .op (.mv (.tmp 32))⟩⟩] [])
  (.ret)))))

def ac_pushenc_right (f_lengths_Long f_enframe_Check t0 : Nat) : AC :=
  .seq (.reg [⟨(some 3), none, .op (.box t0 2 (.tmp 0))⟩,
     ⟨(some 6), none, .op (.mv (.const (.int .i64 0)))⟩,
     ⟨(some 7), none, .op (.mv (.const (.bool false)))⟩])
  (.seq (.reg [⟨(some 11), none, .op (.mv (.tmp 1))⟩,
     ⟨(some 12), none, .call f_lengths_Long [(.tmp 11)]⟩,
     ⟨(some 10), none, .op (.mv (.tmp 12))⟩,
     ⟨(some 13), none, .op (.extract (.tmp 10) 0)⟩,
     ⟨(some 14), none, .op (.extract (.tmp 10) 1)⟩,
     ⟨(some 8), none, .op (.mv (.tmp 13))⟩,
     ⟨(some 9), none, .op (.mv (.tmp 14))⟩])
  (.seq (.reg [⟨(some 15), none, .op (.mv (.tmp 8))⟩,
     ⟨(some 16), none, .op (.load (some 2) (.tmp 3))⟩,
     ⟨(some 17), none, .call f_enframe_Check [(.tmp 16)]⟩,
     ⟨(some 18), none, .op (.bin .eql (.tmp 17) (.const (.int .i64 0)))⟩,
     ⟨(some 19), none, .op (.mv (.tmp 18))⟩,
     ⟨(some 20), (some (19, true)), .op (.mv (.tmp 9))⟩,
     ⟨(some 21), (some (19, true)), .op (.bin .eql (.tmp 20) (.const (.int .i64 0)))⟩,
     ⟨(some 22), none, .op (.pick (.tmp 19) (.tmp 21) (.const (.bool false)))⟩,
     ⟨(some 23), none, .op (.mv (.tmp 22))⟩,
     ⟨(some 24), (some (23, true)), .op (.mv (.tmp 2))⟩,
     ⟨(some 25), (some (23, true)), .op (.len (some none) (.tmp 24))⟩,
     ⟨(some 26), (some (23, true)), .op (.bin .leq (.tmp 25) (.const (.int .i64 64)))⟩,
     ⟨(some 27), none, .op (.pick (.tmp 23) (.tmp 26) (.const (.bool false)))⟩,
     ⟨(some 6), none, .op (.mv (.tmp 15))⟩,
     ⟨(some 7), none, .op (.mv (.tmp 27))⟩])
  (.ret)))

def ac_cadenzaref36_Asked (f_cadenzaref22_Long f_cadenzaref20_Check t0 : Nat) : AC :=
  .seq (.reg [⟨(some 3), none, .op (.box t0 2 (.tmp 0))⟩,
     ⟨(some 6), none, .op (.mv (.const (.int .i64 0)))⟩])
  (.seq (.reg [⟨(some 10), none, .op (.mv (.tmp 1))⟩,
     ⟨(some 11), none, .call f_cadenzaref22_Long [(.tmp 10)]⟩,
     ⟨(some 9), none, .op (.mv (.tmp 11))⟩,
     ⟨(some 12), none, .op (.extract (.tmp 9) 0)⟩,
     ⟨(some 13), none, .op (.extract (.tmp 9) 1)⟩,
     ⟨(some 7), none, .op (.mv (.tmp 12))⟩,
     ⟨(some 8), none, .op (.mv (.tmp 13))⟩])
  (.seq (.seq (.reg [⟨(some 14), none, .op (.load (some 2) (.tmp 3))⟩,
      ⟨(some 15), none, .call f_cadenzaref20_Check [(.tmp 14)]⟩,
      ⟨(some 16), none, .op (.bin .neq (.tmp 15) (.const (.int .i64 0)))⟩,
      ⟨(some 17), none, .op (.mv (.tmp 16))⟩,
      ⟨(some 18), (some (17, false)), .op (.mv (.tmp 8))⟩,
      ⟨(some 19), (some (17, false)), .op (.bin .neq (.tmp 18) (.const (.int .i64 0)))⟩,
      ⟨(some 20), none, .op (.pick (.tmp 17) (.const (.bool true)) (.tmp 19))⟩,
      ⟨(some 21), none, .op (.mv (.tmp 20))⟩,
      ⟨(some 22), (some (21, false)), .op (.mv (.tmp 2))⟩,
      ⟨(some 23), (some (21, false)), .op (.len (some none) (.tmp 22))⟩,
      ⟨(some 24), (some (21, false)), .op (.bin .gtr (.tmp 23) (.const (.int .i64 64)))⟩,
      ⟨(some 25), none, .op (.pick (.tmp 21) (.const (.bool true)) (.tmp 24))⟩])
   (.cond (.tmp 25)
     (.seq (.reg [⟨(some 6), none, .op (.mv (.const (.int .i64 2)))⟩])
     (.ret))
     (.skip)))
  (.seq (.reg [⟨(some 6), none, .op (.mv (.const (.int .i64 0)))⟩])
  (.ret))))

def ac_pushenc_feeding (f_pushenc_moment f_width_Check f_pushenc_count f_pushenc_room f_pushenc_feeding_1 f_slices_ContainsFunc_byte_byte t0 t1 : Nat) : AC :=
  .seq (.reg [⟨(some 2), none, .op (.box t0 10 (.tmp 0))⟩,
     ⟨(some 4), none, .op (.mv (.const (.bool false)))⟩])
  (.seq (.reg [⟨(some 8), none, .op (.faddr 0 (.tmp 2))⟩,
     ⟨(some 9), none, .op (.faddr 0 (.tmp 8))⟩,
     ⟨(some 10), none, .op (.load none (.tmp 9))⟩,
     ⟨(some 5), none, .op (.mv (.tmp 10))⟩])
  (.seq (.seq (.draw [⟨0, false, ⟨(some 11), none, .op (.faddr 7 (.tmp 2))⟩⟩,
      ⟨0, false, ⟨(some 12), none, .op (.load none (.tmp 11))⟩⟩,
      ⟨0, false, ⟨(some 13), none, .op (.len none (.tmp 12))⟩⟩,
      ⟨0, false, ⟨(some 14), none, .op (.bin .gtr (.tmp 13) (.const (.int .i64 0)))⟩⟩,
      ⟨0, false, ⟨(some 15), none, .op (.mv (.tmp 14))⟩⟩,
      ⟨0, false, ⟨(some 16), (some (15, false)), .op (.faddr 4 (.tmp 2))⟩⟩,
      ⟨0, false, ⟨(some 17), (some (15, false)), .op (.load none (.tmp 16))⟩⟩,
      ⟨0, false, ⟨(some 18), (some (15, false)), .op (.len none (.tmp 17))⟩⟩,
      ⟨0, false, ⟨(some 19), (some (15, false)), .op (.faddr 0 (.tmp 2))⟩⟩,
      ⟨0, false, ⟨(some 20), (some (15, false)), .op (.load (some 2) (.tmp 19))⟩⟩,
      ⟨0, false, ⟨(some 21), (some (15, false)), .call f_pushenc_moment [(.tmp 20)]⟩⟩,
      ⟨0, false, ⟨(some 22), (some (15, false)), .op (.bin .geq (.tmp 18) (.tmp 21))⟩⟩,
      ⟨0, false, ⟨(some 23), none, .op (.pick (.tmp 15) (.const (.bool true)) (.tmp 22))⟩⟩,
      ⟨0, false, ⟨(some 24), none, .op (.mv (.tmp 23))⟩⟩,
      ⟨0, false, ⟨(some 25), (some (24, false)), .op (.faddr 5 (.tmp 2))⟩⟩,
      ⟨0, false, ⟨(some 26), (some (24, false)), .op (.load none (.tmp 25))⟩⟩,
      ⟨0, false, ⟨(some 27), (some (24, false)), .op (.len none (.tmp 26))⟩⟩,
      ⟨0, false, ⟨(some 28), (some (24, false)), .op (.mv (.tmp 5))⟩⟩,
      ⟨0, false, ⟨(some 29), (some (24, false)), .op (.bin .rem (.tmp 27) (.tmp 28))⟩⟩,
      ⟨0, false, ⟨(some 30), (some (24, false)), .op (.bin .neq (.tmp 29) (.const (.int .i64 0)))⟩⟩,
      ⟨0, false, ⟨(some 31), none, .op (.pick (.tmp 24) (.const (.bool true)) (.tmp 30))⟩⟩,
      ⟨0, false, ⟨(some 32), none, .op (.mv (.tmp 31))⟩⟩,
      ⟨0, false, ⟨(some 33), (some (32, false)), .op (.faddr 5 (.tmp 2))⟩⟩,
      ⟨0, false, ⟨(some 34), (some (32, false)), .op (.load none (.tmp 33))⟩⟩,
      ⟨0, false, ⟨(some 35), (some (32, false)), .op (.len none (.tmp 34))⟩⟩,
      ⟨0, false, ⟨(some 36), (some (32, false)), .op (.mv (.tmp 5))⟩⟩,
      ⟨0, false, ⟨(some 37), (some (32, false)), .op (.bin .quo (.tmp 35) (.tmp 36))⟩⟩,
      ⟨0, false, ⟨(some 38), (some (32, false)), .op (.mv (.tmp 1))⟩⟩,
      ⟨0, false, ⟨(some 39), (some (32, false)), .op (.bin .geq (.tmp 37) (.tmp 38))⟩⟩,
      ⟨0, false, ⟨(some 40), none, .op (.pick (.tmp 32) (.const (.bool true)) (.tmp 39))⟩⟩,
      ⟨0, false, ⟨(some 41), none, .op (.mv (.tmp 40))⟩⟩,
      ⟨0, false, ⟨(some 42), (some (41, false)), .op (.faddr 6 (.tmp 2))⟩⟩,
      ⟨0, false, ⟨(some 43), (some (41, false)), .op (.load none (.tmp 42))⟩⟩,
      ⟨0, false, ⟨(some 44), (some (41, false)), .op (.len none (.tmp 43))⟩⟩,
      ⟨0, false, ⟨(some 45), (some (41, false)), .op (.bin .gtr (.tmp 44) (.const (.int .i64 1000)))⟩⟩,
      ⟨0, false, ⟨(some 46), none, .op (.pick (.tmp 41) (.const (.bool true)) (.tmp 45))⟩⟩] [])
   (.cond (.tmp 46)
     (.seq (.reg [⟨(some 4), none, .op (.mv (.const (.bool false)))⟩])
     (.ret))
     (.skip)))
  (.seq (.seq (.reg [⟨(some 47), none, .op (.faddr 0 (.tmp 2))⟩,
      ⟨(some 48), none, .op (.faddr 1 (.tmp 47))⟩,
      ⟨(some 49), none, .op (.load none (.tmp 48))⟩,
      ⟨(some 50), none, .op (.faddr 5 (.tmp 2))⟩,
      ⟨(some 51), none, .op (.load none (.tmp 50))⟩,
      ⟨(some 52), none, .call f_width_Check [(.tmp 49), (.tmp 51)]⟩,
      ⟨(some 53), none, .op (.bin .neq (.tmp 52) (.const (.int .i64 0)))⟩])
   (.cond (.tmp 53)
     (.seq (.reg [⟨(some 4), none, .op (.mv (.const (.bool false)))⟩])
     (.ret))
     (.skip)))
  (.seq (.reg [⟨(some 54), none, .op (.faddr 6 (.tmp 2))⟩,
     ⟨(some 55), none, .op (.load none (.tmp 54))⟩,
     ⟨(some 56), none, .op (.len none (.tmp 55))⟩,
     ⟨(some 6), none, .op (.mv (.tmp 56))⟩])
  (.seq (.seq (.reg [⟨(some 57), none, .op (.faddr 5 (.tmp 2))⟩,
      ⟨(some 58), none, .op (.load none (.tmp 57))⟩,
      ⟨(some 59), none, .op (.len none (.tmp 58))⟩,
      ⟨(some 60), none, .op (.bin .gtr (.tmp 59) (.const (.int .i64 0)))⟩])
   (.cond (.tmp 60)
     (.reg [⟨(some 61), none, .op (.mv (.tmp 6))⟩,
       ⟨(some 62), none, .op (.bin .add (.tmp 61) (.const (.int .i64 1)))⟩,
       ⟨(some 6), none, .op (.mv (.tmp 62))⟩])
     (.skip)))
  (.seq (.seq (.draw [⟨0, false, ⟨(some 63), none, .op (.load (some 10) (.tmp 2))⟩⟩,
      ⟨0, false, ⟨(some 64), none, .op (.mv (.tmp 6))⟩⟩,
      ⟨0, false, ⟨(some 65), none, .op (.load (some 10) (.tmp 2))⟩⟩,
      ⟨0, false, ⟨(some 66), none, .op (.mv (.tmp 1))⟩⟩,
      ⟨0, false, ⟨(some 67), none, .call f_pushenc_count [(.tmp 65), (.tmp 66)]⟩⟩,
      ⟨0, false, ⟨(some 68), none, .call f_pushenc_room [(.tmp 63), (.tmp 64), (.tmp 67)]⟩⟩,
      ⟨0, false, ⟨(some 69), none, .op (.un .not (.tmp 68))⟩⟩] [])
   (.cond (.tmp 69)
     (.seq (.reg [⟨(some 4), none, .op (.mv (.const (.bool false)))⟩])
     (.ret))
     (.skip)))
  (.seq (.reg [⟨(some 70), none, .op (.mv (.tmp 1))⟩,
     ⟨(some 71), none, .op (.bin .mul (.const (.int .i64 81)) (.tmp 70))⟩,
     ⟨(some 72), none, .op (.mv (.tmp 5))⟩,
     ⟨(some 73), none, .op (.bin .mul (.tmp 71) (.tmp 72))⟩,
     ⟨(some 74), none, .op (.bin .add (.tmp 73) (.const (.int .i64 7)))⟩,
     ⟨(some 75), none, .op (.bin .quo (.tmp 74) (.const (.int .i64 8)))⟩,
     ⟨(some 76), none, .op (.bin .add (.tmp 75) (.const (.int .i64 4)))⟩,
     ⟨(some 7), none, .op (.alloc t1 [.int .i64 0])⟩,
     ⟨none, none, .op (.store 1 (.tmp 7) (.tmp 76))⟩])
  (.seq (.reg [⟨(some 77), none, .op (.faddr 6 (.tmp 2))⟩,
     ⟨(some 78), none, .op (.load none (.tmp 77))⟩,
     ⟨(some 79), none, .op (.mkfn (.func f_pushenc_feeding_1) [] [(.tmp 7)])⟩,
     ⟨(some 80), none, .call f_slices_ContainsFunc_byte_byte [(.tmp 78), (.tmp 79)]⟩,
     ⟨(some 81), none, .op (.un .not (.tmp 80))⟩,
     ⟨(some 4), none, .op (.mv (.tmp 81))⟩])
  (.ret)))))))))

def ac_cadenzaref36_feeding (f_cadenzaref36_long f_cadenzaref36_Moment f_cadenzaref18_Check f_cadenzaref36_Count f_cadenzaref36_fits t0 : Nat) : AC :=
  .seq (.reg [⟨(some 1), none, .op (.box t0 10 (.tmp 0))⟩,
     ⟨(some 2), none, .op (.mv (.const (.bool false)))⟩])
  (.seq (.reg [⟨(some 6), none, .op (.load (some 10) (.tmp 1))⟩,
     ⟨(some 7), none, .call f_cadenzaref36_long [(.tmp 6)]⟩,
     ⟨(some 3), none, .op (.mv (.tmp 7))⟩])
  (.seq (.seq (.draw [⟨0, false, ⟨(some 8), none, .op (.faddr 7 (.tmp 1))⟩⟩,
      ⟨0, false, ⟨(some 9), none, .op (.load none (.tmp 8))⟩⟩,
      ⟨0, false, ⟨(some 10), none, .op (.len none (.tmp 9))⟩⟩,
      ⟨0, false, ⟨(some 11), none, .op (.bin .gtr (.tmp 10) (.const (.int .i64 0)))⟩⟩,
      ⟨0, false, ⟨(some 12), none, .op (.mv (.tmp 11))⟩⟩,
      ⟨0, false, ⟨(some 13), (some (12, false)), .op (.faddr 4 (.tmp 1))⟩⟩,
      ⟨0, false, ⟨(some 14), (some (12, false)), .op (.load none (.tmp 13))⟩⟩,
      ⟨0, false, ⟨(some 15), (some (12, false)), .op (.len none (.tmp 14))⟩⟩,
      ⟨0, false, ⟨(some 16), (some (12, false)), .op (.faddr 0 (.tmp 1))⟩⟩,
      ⟨0, false, ⟨(some 17), (some (12, false)), .op (.load (some 2) (.tmp 16))⟩⟩,
      ⟨0, false, ⟨(some 18), (some (12, false)), .call f_cadenzaref36_Moment [(.tmp 17)]⟩⟩,
      ⟨0, false, ⟨(some 19), (some (12, false)), .op (.bin .geq (.tmp 15) (.tmp 18))⟩⟩,
      ⟨0, false, ⟨(some 20), none, .op (.pick (.tmp 12) (.const (.bool true)) (.tmp 19))⟩⟩,
      ⟨0, false, ⟨(some 21), none, .op (.mv (.tmp 20))⟩⟩,
      ⟨0, false, ⟨(some 22), (some (21, false)), .op (.faddr 5 (.tmp 1))⟩⟩,
      ⟨0, false, ⟨(some 23), (some (21, false)), .op (.load none (.tmp 22))⟩⟩,
      ⟨0, false, ⟨(some 24), (some (21, false)), .op (.len none (.tmp 23))⟩⟩,
      ⟨0, false, ⟨(some 25), (some (21, false)), .op (.faddr 0 (.tmp 1))⟩⟩,
      ⟨0, false, ⟨(some 26), (some (21, false)), .op (.faddr 0 (.tmp 25))⟩⟩,
      ⟨0, false, ⟨(some 27), (some (21, false)), .op (.load none (.tmp 26))⟩⟩,
      ⟨0, false, ⟨(some 28), (some (21, false)), .op (.bin .rem (.tmp 24) (.tmp 27))⟩⟩,
      ⟨0, false, ⟨(some 29), (some (21, false)), .op (.bin .neq (.tmp 28) (.const (.int .i64 0)))⟩⟩,
      ⟨0, false, ⟨(some 30), none, .op (.pick (.tmp 21) (.const (.bool true)) (.tmp 29))⟩⟩,
      ⟨0, false, ⟨(some 31), none, .op (.mv (.tmp 30))⟩⟩,
      ⟨0, false, ⟨(some 32), (some (31, false)), .op (.faddr 5 (.tmp 1))⟩⟩,
      ⟨0, false, ⟨(some 33), (some (31, false)), .op (.load none (.tmp 32))⟩⟩,
      ⟨0, false, ⟨(some 34), (some (31, false)), .op (.len none (.tmp 33))⟩⟩,
      ⟨0, false, ⟨(some 35), (some (31, false)), .op (.mv (.tmp 3))⟩⟩,
      ⟨0, false, ⟨(some 36), (some (31, false)), .op (.faddr 0 (.tmp 1))⟩⟩,
      ⟨0, false, ⟨(some 37), (some (31, false)), .op (.faddr 0 (.tmp 36))⟩⟩,
      ⟨0, false, ⟨(some 38), (some (31, false)), .op (.load none (.tmp 37))⟩⟩,
      ⟨0, false, ⟨(some 39), (some (31, false)), .op (.bin .mul (.tmp 35) (.tmp 38))⟩⟩,
      ⟨0, false, ⟨(some 40), (some (31, false)), .op (.bin .geq (.tmp 34) (.tmp 39))⟩⟩,
      ⟨0, false, ⟨(some 41), none, .op (.pick (.tmp 31) (.const (.bool true)) (.tmp 40))⟩⟩,
      ⟨0, false, ⟨(some 42), none, .op (.mv (.tmp 41))⟩⟩,
      ⟨0, false, ⟨(some 43), (some (42, false)), .op (.faddr 0 (.tmp 1))⟩⟩,
      ⟨0, false, ⟨(some 44), (some (42, false)), .op (.faddr 1 (.tmp 43))⟩⟩,
      ⟨0, false, ⟨(some 45), (some (42, false)), .op (.load none (.tmp 44))⟩⟩,
      ⟨0, false, ⟨(some 46), (some (42, false)), .op (.faddr 5 (.tmp 1))⟩⟩,
      ⟨0, false, ⟨(some 47), (some (42, false)), .op (.load none (.tmp 46))⟩⟩,
      ⟨0, false, ⟨(some 48), (some (42, false)), .call f_cadenzaref18_Check [(.tmp 45), (.tmp 47)]⟩⟩,
      ⟨0, false, ⟨(some 49), (some (42, false)), .op (.bin .neq (.tmp 48) (.const (.int .i64 0)))⟩⟩,
      ⟨0, false, ⟨(some 50), none, .op (.pick (.tmp 42) (.const (.bool true)) (.tmp 49))⟩⟩,
      ⟨0, false, ⟨(some 51), none, .op (.mv (.tmp 50))⟩⟩,
      ⟨0, false, ⟨(some 52), (some (51, false)), .op (.faddr 6 (.tmp 1))⟩⟩,
      ⟨0, false, ⟨(some 53), (some (51, false)), .op (.load none (.tmp 52))⟩⟩,
      ⟨0, false, ⟨(some 54), (some (51, false)), .op (.len none (.tmp 53))⟩⟩,
      ⟨0, false, ⟨(some 55), (some (51, false)), .op (.bin .gtr (.tmp 54) (.const (.int .i64 1000)))⟩⟩,
      ⟨0, false, ⟨(some 56), none, .op (.pick (.tmp 51) (.const (.bool true)) (.tmp 55))⟩⟩] [])
   (.cond (.tmp 56)
     (.seq (.reg [⟨(some 2), none, .op (.mv (.const (.bool false)))⟩])
     (.ret))
     (.skip)))
  (.seq (.reg [⟨(some 57), none, .op (.faddr 6 (.tmp 1))⟩,
     ⟨(some 58), none, .op (.load none (.tmp 57))⟩,
     ⟨(some 59), none, .op (.len none (.tmp 58))⟩,
     ⟨(some 4), none, .op (.mv (.tmp 59))⟩])
  (.seq (.seq (.reg [⟨(some 60), none, .op (.faddr 5 (.tmp 1))⟩,
      ⟨(some 61), none, .op (.load none (.tmp 60))⟩,
      ⟨(some 62), none, .op (.len none (.tmp 61))⟩,
      ⟨(some 63), none, .op (.bin .gtr (.tmp 62) (.const (.int .i64 0)))⟩])
   (.cond (.tmp 63)
     (.reg [⟨(some 64), none, .op (.mv (.tmp 4))⟩,
       ⟨(some 65), none, .op (.bin .add (.tmp 64) (.const (.int .i64 1)))⟩,
       ⟨(some 4), none, .op (.mv (.tmp 65))⟩])
     (.skip)))
  (.seq (.seq (.draw [⟨0, false, ⟨(some 66), none, .op (.load (some 10) (.tmp 1))⟩⟩,
      ⟨0, false, ⟨(some 67), none, .op (.mv (.tmp 4))⟩⟩,
      ⟨0, false, ⟨(some 68), none, .op (.load (some 10) (.tmp 1))⟩⟩,
      ⟨0, false, ⟨(some 69), none, .call f_cadenzaref36_Count [(.tmp 68)]⟩⟩,
      ⟨0, false, ⟨(some 70), none, .call f_cadenzaref36_fits [(.tmp 66), (.tmp 67), (.tmp 69)]⟩⟩,
      ⟨0, false, ⟨(some 71), none, .op (.un .not (.tmp 70))⟩⟩] [])
   (.cond (.tmp 71)
     (.seq (.reg [⟨(some 2), none, .op (.mv (.const (.bool false)))⟩])
     (.ret))
     (.skip)))
  (.seq (.seq (.reg [⟨(some 5), none, .op (.mv (.const (.int .i64 0)))⟩])
   (.block 0 (.loop (.seq (.seq (.reg [⟨(some 72), none, .op (.mv (.tmp 5))⟩,
         ⟨(some 73), none, .op (.faddr 6 (.tmp 1))⟩,
         ⟨(some 74), none, .op (.load none (.tmp 73))⟩,
         ⟨(some 75), none, .op (.len none (.tmp 74))⟩,
         ⟨(some 76), none, .op (.bin .lss (.tmp 72) (.tmp 75))⟩])
      (.cond (.tmp 76)
        (.skip)
        (.exit 0)))
     (.seq (.block 1 (.seq (.draw [⟨0, false, ⟨(some 79), none, .op (.faddr 6 (.tmp 1))⟩⟩,
          ⟨0, false, ⟨(some 80), none, .op (.load none (.tmp 79))⟩⟩,
          ⟨0, false, ⟨(some 81), none, .op (.mv (.tmp 5))⟩⟩,
          ⟨0, false, ⟨(some 82), none, .op (.iaddr (.slice 1) (.tmp 80) (.tmp 81))⟩⟩,
          ⟨0, false, ⟨(some 83), none, .op (.load none (.tmp 82))⟩⟩,
          ⟨0, false, ⟨(some 84), none, .op (.len none (.tmp 83))⟩⟩,
          ⟨0, false, ⟨(some 85), none, .op (.bin .lss (.tmp 84) (.const (.int .i64 5)))⟩⟩,
          ⟨0, false, ⟨(some 86), none, .op (.mv (.tmp 85))⟩⟩,
          ⟨0, false, ⟨(some 87), (some (86, false)), .op (.faddr 6 (.tmp 1))⟩⟩,
          ⟨0, false, ⟨(some 88), (some (86, false)), .op (.load none (.tmp 87))⟩⟩,
          ⟨0, false, ⟨(some 89), (some (86, false)), .op (.mv (.tmp 5))⟩⟩,
          ⟨0, false, ⟨(some 90), (some (86, false)), .op (.iaddr (.slice 1) (.tmp 88) (.tmp 89))⟩⟩,
          ⟨0, false, ⟨(some 91), (some (86, false)), .op (.load none (.tmp 90))⟩⟩,
          ⟨0, false, ⟨(some 92), (some (86, false)), .op (.len none (.tmp 91))⟩⟩,
          ⟨0, false, ⟨(some 93), (some (86, false)), .op (.mv (.tmp 3))⟩⟩,
          ⟨0, false, ⟨(some 94), (some (86, false)), .op (.bin .mul (.const (.int .i64 81)) (.tmp 93))⟩⟩,
          ⟨0, false, ⟨(some 95), (some (86, false)), .op (.faddr 0 (.tmp 1))⟩⟩,
          ⟨0, false, ⟨(some 96), (some (86, false)), .op (.faddr 0 (.tmp 95))⟩⟩,
          ⟨0, false, ⟨(some 97), (some (86, false)), .op (.load none (.tmp 96))⟩⟩,
          ⟨0, false, ⟨(some 98), (some (86, false)), .op (.bin .mul (.tmp 94) (.tmp 97))⟩⟩,
          ⟨0, false, ⟨(some 99), (some (86, false)), .op (.bin .add (.tmp 98) (.const (.int .i64 7)))⟩⟩,
          ⟨0, false, ⟨(some 100), (some (86, false)), .op (.bin .quo (.tmp 99) (.const (.int .i64 8)))⟩⟩,
          ⟨0, false, ⟨(some 101), (some (86, false)), .op (.bin .add (.tmp 100) (.const (.int .i64 4)))⟩⟩,
          ⟨0, false, ⟨(some 102), (some (86, false)), .op (.bin .gtr (.tmp 92) (.tmp 101))⟩⟩,
          ⟨0, false, ⟨(some 103), none, .op (.pick (.tmp 86) (.const (.bool true)) (.tmp 102))⟩⟩] [])
       (.cond (.tmp 103)
         (.seq (.reg [⟨(some 2), none, .op (.mv (.const (.bool false)))⟩])
         (.ret))
         (.skip))))
     (.reg [⟨(some 77), none, .op (.mv (.tmp 5))⟩,
       ⟨(some 78), none, .op (.bin .add (.tmp 77) (.const (.int .i64 1)))⟩,
       ⟨(some 5), none, .op (.mv (.tmp 78))⟩]))))))
  (.seq (.reg [⟨(some 2), none, .op (.mv (.const (.bool true)))⟩])
  (.ret))))))))

def ac_slices_Clone_int32_int32 (t0 : Nat) : AC :=
  .seq (.reg [⟨(some 2), none, .op (.mv (.const (.slice none 0 0)))⟩])
  (.seq (.seq (.reg [⟨(some 3), none, .op (.mv (.tmp 0))⟩,
      ⟨(some 4), none, .op (.nileq false (.tmp 3))⟩])
   (.cond (.tmp 4)
     (.seq (.reg [⟨(some 2), none, .op (.mv (.const (.slice none 0 0)))⟩])
     (.ret))
     (.skip)))
  (.seq (.reg [⟨(some 5), none, .op (.bslice t0 1 0 [.int .i32 0] [])⟩,
     ⟨(some 6), none, .op (.mv (.tmp 0))⟩,
     ⟨(some 7), none, .op (.append t0 1 4 false (.tmp 5) (.tmp 6))⟩,
     ⟨(some 2), none, .op (.mv (.tmp 7))⟩])
  (.ret)))

def ac_width_Check (f_width_Range : Nat) : AC :=
  .seq (.reg [⟨(some 4), none, .op (.mv (.const (.int .i64 0)))⟩])
  (.seq (.reg [⟨(some 11), none, .op (.mv (.tmp 0))⟩,
     ⟨(some 12), none, .call f_width_Range [(.tmp 11)]⟩,
     ⟨(some 10), none, .op (.mv (.tmp 12))⟩,
     ⟨(some 13), none, .op (.extract (.tmp 10) 0)⟩,
     ⟨(some 14), none, .op (.extract (.tmp 10) 1)⟩,
     ⟨(some 15), none, .op (.extract (.tmp 10) 2)⟩,
     ⟨(some 5), none, .op (.mv (.tmp 13))⟩,
     ⟨(some 6), none, .op (.mv (.tmp 14))⟩,
     ⟨(some 7), none, .op (.mv (.tmp 15))⟩])
  (.seq (.seq (.reg [⟨(some 16), none, .op (.mv (.tmp 7))⟩,
      ⟨(some 17), none, .op (.bin .neq (.tmp 16) (.const (.int .i64 0)))⟩])
   (.cond (.tmp 17)
     (.seq (.reg [⟨(some 18), none, .op (.mv (.tmp 7))⟩,
        ⟨(some 4), none, .op (.mv (.tmp 18))⟩])
     (.ret))
     (.skip)))
  (.seq (.seq (.reg [⟨(some 19), none, .op (.mv (.tmp 1))⟩,
      ⟨(some 20), none, .op (.len none (.tmp 19))⟩,
      ⟨(some 21), none, .op (.bin .gtr (.tmp 20) (.const (.int .i64 4000)))⟩])
   (.cond (.tmp 21)
     (.seq (.reg [⟨(some 4), none, .op (.mv (.const (.int .i64 4)))⟩])
     (.ret))
     (.skip)))
  (.seq (.seq (.reg [⟨(some 22), none, .op (.mv (.tmp 1))⟩,
      ⟨(some 23), none, .op (.len none (.tmp 22))⟩,
      ⟨(some 24), none, .op (.mv (.const (.int .i64 0)))⟩])
   (.block 0 (.loop (.seq (.reg [⟨(some 25), none, .op (.bin .lss (.tmp 24) (.tmp 23))⟩])
     (.seq (.cond (.tmp 25)
        (.skip)
        (.exit 0))
     (.seq (.block 1 (.seq (.reg [⟨(some 26), none, .op (.iaddr (.slice 1) (.tmp 22) (.tmp 24))⟩,
          ⟨(some 27), none, .op (.load none (.tmp 26))⟩,
          ⟨(some 9), none, .op (.mv (.tmp 27))⟩])
       (.seq (.reg [⟨(some 28), none, .op (.mv (.tmp 9))⟩,
          ⟨(some 29), none, .op (.mv (.tmp 5))⟩,
          ⟨(some 30), none, .op (.bin .lss (.tmp 28) (.tmp 29))⟩,
          ⟨(some 31), none, .op (.mv (.tmp 30))⟩,
          ⟨(some 32), (some (31, false)), .op (.mv (.tmp 9))⟩,
          ⟨(some 33), (some (31, false)), .op (.mv (.tmp 6))⟩,
          ⟨(some 34), (some (31, false)), .op (.bin .gtr (.tmp 32) (.tmp 33))⟩,
          ⟨(some 35), none, .op (.pick (.tmp 31) (.const (.bool true)) (.tmp 34))⟩])
       (.cond (.tmp 35)
         (.seq (.reg [⟨(some 4), none, .op (.mv (.const (.int .i64 16)))⟩])
         (.ret))
         (.skip)))))
     (.reg [⟨(some 36), none, .op (.bin .add (.tmp 24) (.const (.int .i64 1)))⟩,
       ⟨(some 24), none, .op (.mv (.tmp 36))⟩])))))))
  (.seq (.reg [⟨(some 4), none, .op (.mv (.const (.int .i64 0)))⟩])
  (.ret))))))

def ac_cadenzaref20_Asked (f_cadenzaref20_Check f_cadenzaref18_Check t0 : Nat) : AC :=
  .seq (.reg [⟨(some 2), none, .op (.box t0 2 (.tmp 0))⟩,
     ⟨(some 4), none, .op (.mv (.const (.int .i64 0)))⟩])
  (.seq (.seq (.reg [⟨(some 5), none, .op (.load (some 2) (.tmp 2))⟩,
      ⟨(some 6), none, .call f_cadenzaref20_Check [(.tmp 5)]⟩,
      ⟨(some 7), none, .op (.bin .neq (.tmp 6) (.const (.int .i64 0)))⟩])
   (.cond (.tmp 7)
     (.seq (.reg [⟨(some 4), none, .op (.mv (.const (.int .i64 2)))⟩])
     (.ret))
     (.skip)))
  (.seq (.seq (.reg [⟨(some 8), none, .op (.faddr 1 (.tmp 2))⟩,
      ⟨(some 9), none, .op (.load none (.tmp 8))⟩,
      ⟨(some 10), none, .op (.mv (.tmp 1))⟩,
      ⟨(some 11), none, .call f_cadenzaref18_Check [(.tmp 9), (.tmp 10)]⟩,
      ⟨(some 12), none, .op (.bin .neq (.tmp 11) (.const (.int .i64 0)))⟩])
   (.cond (.tmp 12)
     (.seq (.reg [⟨(some 13), none, .op (.faddr 1 (.tmp 2))⟩,
        ⟨(some 14), none, .op (.load none (.tmp 13))⟩,
        ⟨(some 15), none, .op (.mv (.tmp 1))⟩,
        ⟨(some 16), none, .call f_cadenzaref18_Check [(.tmp 14), (.tmp 15)]⟩,
        ⟨(some 4), none, .op (.mv (.tmp 16))⟩])
     (.ret))
     (.skip)))
  (.seq (.seq (.reg [⟨(some 17), none, .op (.mv (.tmp 1))⟩,
      ⟨(some 18), none, .op (.len none (.tmp 17))⟩,
      ⟨(some 19), none, .op (.bin .lss (.tmp 18) (.const (.int .i64 1)))⟩,
      ⟨(some 20), none, .op (.mv (.tmp 19))⟩,
      ⟨(some 21), (some (20, false)), .op (.mv (.tmp 1))⟩,
      ⟨(some 22), (some (20, false)), .op (.len none (.tmp 21))⟩,
      ⟨(some 23), (some (20, false)), .op (.faddr 0 (.tmp 2))⟩,
      ⟨(some 24), (some (20, false)), .op (.load none (.tmp 23))⟩,
      ⟨(some 25), (some (20, false)), .op (.bin .rem (.tmp 22) (.tmp 24))⟩,
      ⟨(some 26), (some (20, false)), .op (.bin .gtr (.tmp 25) (.const (.int .i64 0)))⟩,
      ⟨(some 27), none, .op (.pick (.tmp 20) (.const (.bool true)) (.tmp 26))⟩])
   (.cond (.tmp 27)
     (.seq (.reg [⟨(some 4), none, .op (.mv (.const (.int .i64 2)))⟩])
     (.ret))
     (.skip)))
  (.seq (.reg [⟨(some 4), none, .op (.mv (.const (.int .i64 0)))⟩])
  (.ret)))))

def ac_enframe_check (f_enframe_Check f_width_Check t0 : Nat) : AC :=
  .seq (.reg [⟨(some 2), none, .op (.box t0 2 (.tmp 0))⟩,
     ⟨(some 4), none, .op (.mv (.const (.int .i64 0)))⟩])
  (.seq (.seq (.reg [⟨(some 7), none, .op (.load (some 2) (.tmp 2))⟩,
      ⟨(some 8), none, .call f_enframe_Check [(.tmp 7)]⟩,
      ⟨(some 5), none, .op (.mv (.tmp 8))⟩])
   (.seq (.reg [⟨(some 9), none, .op (.mv (.tmp 5))⟩,
      ⟨(some 10), none, .op (.bin .neq (.tmp 9) (.const (.int .i64 0)))⟩])
   (.cond (.tmp 10)
     (.seq (.reg [⟨(some 11), none, .op (.mv (.tmp 5))⟩,
        ⟨(some 4), none, .op (.mv (.tmp 11))⟩])
     (.ret))
     (.skip))))
  (.seq (.seq (.reg [⟨(some 12), none, .op (.faddr 1 (.tmp 2))⟩,
      ⟨(some 13), none, .op (.load none (.tmp 12))⟩,
      ⟨(some 14), none, .op (.mv (.tmp 1))⟩,
      ⟨(some 15), none, .call f_width_Check [(.tmp 13), (.tmp 14)]⟩,
      ⟨(some 6), none, .op (.mv (.tmp 15))⟩])
   (.seq (.reg [⟨(some 16), none, .op (.mv (.tmp 6))⟩,
      ⟨(some 17), none, .op (.bin .neq (.tmp 16) (.const (.int .i64 0)))⟩])
   (.cond (.tmp 17)
     (.seq (.reg [⟨(some 18), none, .op (.mv (.tmp 6))⟩,
        ⟨(some 4), none, .op (.mv (.tmp 18))⟩])
     (.ret))
     (.skip))))
  (.seq (.seq (.reg [⟨(some 19), none, .op (.mv (.tmp 1))⟩,
      ⟨(some 20), none, .op (.len none (.tmp 19))⟩,
      ⟨(some 21), none, .op (.bin .eql (.tmp 20) (.const (.int .i64 0)))⟩,
      ⟨(some 22), none, .op (.mv (.tmp 21))⟩,
      ⟨(some 23), (some (22, false)), .op (.mv (.tmp 1))⟩,
      ⟨(some 24), (some (22, false)), .op (.len none (.tmp 23))⟩,
      ⟨(some 25), (some (22, false)), .op (.faddr 0 (.tmp 2))⟩,
      ⟨(some 26), (some (22, false)), .op (.load none (.tmp 25))⟩,
      ⟨(some 27), (some (22, false)), .op (.bin .rem (.tmp 24) (.tmp 26))⟩,
      ⟨(some 28), (some (22, false)), .op (.bin .neq (.tmp 27) (.const (.int .i64 0)))⟩,
      ⟨(some 29), none, .op (.pick (.tmp 22) (.const (.bool true)) (.tmp 28))⟩])
   (.cond (.tmp 29)
     (.seq (.reg [⟨(some 4), none, .op (.mv (.const (.int .i64 2)))⟩])
     (.ret))
     (.skip)))
  (.seq (.reg [⟨(some 4), none, .op (.mv (.const (.int .i64 0)))⟩])
  (.ret)))))

def ac_mix_All (f_mix_check f_slices_Clone_int32_int32 f_mix_mix : Nat) : AC :=
  .seq (.reg [⟨(some 4), none, .op (.mv (.const (.slice none 0 0)))⟩,
     ⟨(some 5), none, .op (.mv (.const (.int .i64 0)))⟩])
  (.seq (.seq (.reg [⟨(some 9), none, .op (.mv (.tmp 0))⟩,
      ⟨(some 10), none, .op (.mv (.tmp 1))⟩,
      ⟨(some 11), none, .call f_mix_check [(.tmp 9), (.tmp 10)]⟩,
      ⟨(some 6), none, .op (.mv (.tmp 11))⟩])
   (.seq (.reg [⟨(some 12), none, .op (.mv (.tmp 6))⟩,
      ⟨(some 13), none, .op (.bin .neq (.tmp 12) (.const (.int .i64 0)))⟩])
   (.cond (.tmp 13)
     (.seq (.reg [⟨(some 14), none, .op (.mv (.tmp 6))⟩,
        ⟨(some 4), none, .op (.mv (.const (.slice none 0 0)))⟩,
        ⟨(some 5), none, .op (.mv (.tmp 14))⟩])
     (.ret))
     (.skip))))
  (.seq (.reg [⟨(some 15), none, .op (.mv (.tmp 1))⟩,
     ⟨(some 16), none, .call f_slices_Clone_int32_int32 [(.tmp 15)]⟩,
     ⟨(some 7), none, .op (.mv (.tmp 16))⟩])
  (.seq (.seq (.reg [⟨(some 8), none, .op (.mv (.const (.int .i64 0)))⟩])
   (.block 0 (.loop (.seq (.seq (.reg [⟨(some 17), none, .op (.mv (.tmp 8))⟩,
         ⟨(some 18), none, .op (.mv (.tmp 7))⟩,
         ⟨(some 19), none, .op (.len none (.tmp 18))⟩,
         ⟨(some 20), none, .op (.bin .lss (.tmp 17) (.tmp 19))⟩])
      (.cond (.tmp 20)
        (.skip)
        (.exit 0)))
     (.seq (.block 1 (.reg [⟨(some 24), none, .op (.mv (.tmp 7))⟩,
         ⟨(some 25), none, .op (.mv (.tmp 8))⟩,
         ⟨(some 26), none, .op (.mv (.tmp 8))⟩,
         ⟨(some 27), none, .op (.mv (.tmp 0))⟩,
         ⟨(some 28), none, .op (.bin .add (.tmp 26) (.tmp 27))⟩,
         ⟨(some 29), none, .op (.slice 1 (.tmp 24) (some (.tmp 25)) (some (.tmp 28)) none)⟩,
         ⟨(some 30), none, .call f_mix_mix [(.tmp 29)]⟩]))
     (.reg [⟨(some 21), none, .op (.mv (.tmp 8))⟩,
       ⟨(some 22), none, .op (.mv (.tmp 0))⟩,
       ⟨(some 23), none, .op (.bin .add (.tmp 21) (.tmp 22))⟩,
       ⟨(some 8), none, .op (.mv (.tmp 23))⟩]))))))
  (.seq (.reg [⟨(some 31), none, .op (.mv (.tmp 7))⟩,
     ⟨(some 4), none, .op (.mv (.tmp 31))⟩,
     ⟨(some 5), none, .op (.mv (.const (.int .i64 0)))⟩])
  (.ret)))))

def ac_chain_New (f_taps_New t0 t1 t2 : Nat) : AC :=
  .seq (.reg [⟨(some 3), none, .op (.box t0 16 (.tmp 1))⟩,
     ⟨(some 4), none, .op (.alloc t1 [.int .i64 0, .int .i32 0, .int .i64 0, .int .i32 0, .int .i32 0, .int .i32 0, .int .i32 0, .int .i32 0, .int .i32 0, .int .i32 0, .int .i32 0, .int .i32 0, .int .i32 0, .int .i32 0, .int .i32 0, .int .i32 0, .int .i32 0, .int .i32 0, .int .i32 0, .int .i32 0, .int .i32 0, .int .i32 0, .int .i32 0, .int .i32 0, .int .i32 0, .int .i32 0, .int .i32 0, .int .i32 0, .int .i32 0, .int .i32 0, .int .i32 0, .int .i32 0, .int .i32 0, .int .i32 0, .int .i32 0])⟩,
     ⟨(some 5), none, .op (.mv (.const (.int .i64 0)))⟩])
  (.seq (.reg [⟨(some 9), none, .op (.mv (.tmp 0))⟩,
     ⟨(some 10), none, .op (.load (some 16) (.tmp 3))⟩,
     ⟨(some 11), none, .call f_taps_New [(.tmp 9), (.tmp 10)]⟩,
     ⟨(some 8), none, .op (.mv (.tmp 11))⟩,
     ⟨(some 12), none, .op (.extract (.tmp 8) 0)⟩,
     ⟨(some 13), none, .op (.extract (.tmp 8) 1)⟩,
     ⟨(some 6), none, .op (.alloc t2 [.int .i64 0, .int .i32 0, .int .i32 0, .int .i32 0, .int .i32 0, .int .i32 0, .int .i32 0, .int .i32 0, .int .i32 0, .int .i32 0, .int .i32 0, .int .i32 0, .int .i32 0, .int .i32 0, .int .i32 0, .int .i32 0, .int .i32 0, .int .i32 0, .int .i32 0, .int .i32 0, .int .i32 0, .int .i32 0, .int .i32 0, .int .i32 0, .int .i32 0, .int .i32 0, .int .i32 0, .int .i32 0, .int .i32 0, .int .i32 0, .int .i32 0, .int .i32 0, .int .i32 0])⟩,
     ⟨none, none, .op (.store 33 (.tmp 6) (.tmp 12))⟩,
     ⟨(some 7), none, .op (.mv (.tmp 13))⟩])
  (.seq (.seq (.reg [⟨(some 14), none, .op (.mv (.tmp 7))⟩,
      ⟨(some 15), none, .op (.bin .neq (.tmp 14) (.const (.int .i64 0)))⟩])
   (.cond (.tmp 15)
     (.seq (.reg [⟨(some 16), none, .op (.build [.int .i64 0, .int .i32 0, .int .i64 0, .int .i32 0, .int .i32 0, .int .i32 0, .int .i32 0, .int .i32 0, .int .i32 0, .int .i32 0, .int .i32 0, .int .i32 0, .int .i32 0, .int .i32 0, .int .i32 0, .int .i32 0, .int .i32 0, .int .i32 0, .int .i32 0, .int .i32 0, .int .i32 0, .int .i32 0, .int .i32 0, .int .i32 0, .int .i32 0, .int .i32 0, .int .i32 0, .int .i32 0, .int .i32 0, .int .i32 0, .int .i32 0, .int .i32 0, .int .i32 0, .int .i32 0, .int .i32 0] [])⟩,
        ⟨(some 17), none, .op (.mv (.tmp 7))⟩,
        ⟨none, none, .op (.store 35 (.tmp 4) (.tmp 16))⟩,
        ⟨(some 5), none, .op (.mv (.tmp 17))⟩])
     (.ret))
     (.skip)))
  (.seq (.reg [⟨(some 18), none, .op (.mv (.tmp 0))⟩,
     ⟨(some 19), none, .op (.load (some 33) (.tmp 6))⟩,
     ⟨(some 20), none, .op (.build [.int .i64 0, .int .i32 0, .int .i64 0, .int .i32 0, .int .i32 0, .int .i32 0, .int .i32 0, .int .i32 0, .int .i32 0, .int .i32 0, .int .i32 0, .int .i32 0, .int .i32 0, .int .i32 0, .int .i32 0, .int .i32 0, .int .i32 0, .int .i32 0, .int .i32 0, .int .i32 0, .int .i32 0, .int .i32 0, .int .i32 0, .int .i32 0, .int .i32 0, .int .i32 0, .int .i32 0, .int .i32 0, .int .i32 0, .int .i32 0, .int .i32 0, .int .i32 0, .int .i32 0, .int .i32 0, .int .i32 0] [(0, 1, (.tmp 18)), (2, 33, (.tmp 19))])⟩,
     ⟨none, none, .op (.store 35 (.tmp 4) (.tmp 20))⟩,
     ⟨(some 5), none, .op (.mv (.const (.int .i64 0)))⟩])
  (.ret))))

def ac_chain_Forward (f_chain_Check f_first_Guess f_lms_Forward t0 t1 : Nat) : AC :=
  .seq (.reg [⟨(some 2), none, .op (.box t0 35 (.tmp 0))⟩,
     ⟨(some 4), none, .op (.mv (.const (.int .i32 0)))⟩,
     ⟨(some 5), none, .op (.alloc t0 [.int .i64 0, .int .i32 0, .int .i64 0, .int .i32 0, .int .i32 0, .int .i32 0, .int .i32 0, .int .i32 0, .int .i32 0, .int .i32 0, .int .i32 0, .int .i32 0, .int .i32 0, .int .i32 0, .int .i32 0, .int .i32 0, .int .i32 0, .int .i32 0, .int .i32 0, .int .i32 0, .int .i32 0, .int .i32 0, .int .i32 0, .int .i32 0, .int .i32 0, .int .i32 0, .int .i32 0, .int .i32 0, .int .i32 0, .int .i32 0, .int .i32 0, .int .i32 0, .int .i32 0, .int .i32 0, .int .i32 0])⟩,
     ⟨(some 6), none, .op (.mv (.const (.int .i64 0)))⟩])
  (.seq (.seq (.reg [⟨(some 13), none, .op (.load (some 35) (.tmp 2))⟩,
      ⟨(some 14), none, .call f_chain_Check [(.tmp 13)]⟩,
      ⟨(some 7), none, .op (.mv (.tmp 14))⟩])
   (.seq (.reg [⟨(some 15), none, .op (.mv (.tmp 7))⟩,
      ⟨(some 16), none, .op (.bin .neq (.tmp 15) (.const (.int .i64 0)))⟩])
   (.cond (.tmp 16)
     (.seq (.reg [⟨(some 17), none, .op (.build [.int .i64 0, .int .i32 0, .int .i64 0, .int .i32 0, .int .i32 0, .int .i32 0, .int .i32 0, .int .i32 0, .int .i32 0, .int .i32 0, .int .i32 0, .int .i32 0, .int .i32 0, .int .i32 0, .int .i32 0, .int .i32 0, .int .i32 0, .int .i32 0, .int .i32 0, .int .i32 0, .int .i32 0, .int .i32 0, .int .i32 0, .int .i32 0, .int .i32 0, .int .i32 0, .int .i32 0, .int .i32 0, .int .i32 0, .int .i32 0, .int .i32 0, .int .i32 0, .int .i32 0, .int .i32 0, .int .i32 0] [])⟩,
        ⟨(some 18), none, .op (.mv (.tmp 7))⟩,
        ⟨(some 4), none, .op (.mv (.const (.int .i32 0)))⟩,
        ⟨none, none, .op (.store 35 (.tmp 5) (.tmp 17))⟩,
        ⟨(some 6), none, .op (.mv (.tmp 18))⟩])
     (.ret))
     (.skip))))
  (.seq (.reg [⟨(some 20), none, .op (.faddr 0 (.tmp 2))⟩,
     ⟨(some 21), none, .op (.load none (.tmp 20))⟩,
     ⟨(some 22), none, .op (.faddr 1 (.tmp 2))⟩,
     ⟨(some 23), none, .op (.load none (.tmp 22))⟩,
     ⟨(some 24), none, .call f_first_Guess [(.tmp 21), (.tmp 23)]⟩,
     ⟨(some 19), none, .op (.mv (.tmp 24))⟩,
     ⟨(some 25), none, .op (.extract (.tmp 19) 0)⟩,
     ⟨(some 26), none, .op (.extract (.tmp 19) 1)⟩,
     ⟨(some 8), none, .op (.mv (.tmp 25))⟩,
     ⟨(some 9), none, .op (.mv (.tmp 26))⟩])
  (.seq (.reg [⟨(some 28), none, .op (.faddr 2 (.tmp 2))⟩,
     ⟨(some 29), none, .op (.load (some 33) (.tmp 28))⟩,
     ⟨(some 30), none, .op (.mv (.tmp 1))⟩,
     ⟨(some 31), none, .op (.mv (.tmp 8))⟩,
     ⟨(some 32), none, .op (.bin .sub (.tmp 30) (.tmp 31))⟩,
     ⟨(some 33), none, .call f_lms_Forward [(.tmp 29), (.tmp 32)]⟩,
     ⟨(some 27), none, .op (.mv (.tmp 33))⟩,
     ⟨(some 34), none, .op (.extract (.tmp 27) 0)⟩,
     ⟨(some 35), none, .op (.extract (.tmp 27) 1)⟩,
     ⟨(some 36), none, .op (.extract (.tmp 27) 2)⟩,
     ⟨(some 11), none, .op (.alloc t1 [.int .i64 0, .int .i32 0, .int .i32 0, .int .i32 0, .int .i32 0, .int .i32 0, .int .i32 0, .int .i32 0, .int .i32 0, .int .i32 0, .int .i32 0, .int .i32 0, .int .i32 0, .int .i32 0, .int .i32 0, .int .i32 0, .int .i32 0, .int .i32 0, .int .i32 0, .int .i32 0, .int .i32 0, .int .i32 0, .int .i32 0, .int .i32 0, .int .i32 0, .int .i32 0, .int .i32 0, .int .i32 0, .int .i32 0, .int .i32 0, .int .i32 0, .int .i32 0, .int .i32 0])⟩,
     ⟨(some 10), none, .op (.mv (.tmp 34))⟩,
     ⟨none, none, .op (.store 33 (.tmp 11) (.tmp 35))⟩,
     ⟨(some 12), none, .op (.mv (.tmp 36))⟩])
  (.seq (.draw [⟨0, false, ⟨(some 37), none, .op (.mv (.tmp 10))⟩⟩,
     ⟨0, false, ⟨(some 38), none, .op (.faddr 0 (.tmp 2))⟩⟩,
     ⟨0, false, ⟨(some 39), none, .op (.load none (.tmp 38))⟩⟩,
     ⟨0, false, ⟨(some 40), none, .op (.mv (.tmp 1))⟩⟩,
     ⟨0, false, ⟨(some 41), none, .op (.load (some 33) (.tmp 11))⟩⟩,
     ⟨0, false, ⟨(some 42), none, .op (.build [.int .i64 0, .int .i32 0, .int .i64 0, .int .i32 0, .int .i32 0, .int .i32 0, .int .i32 0, .int .i32 0, .int .i32 0, .int .i32 0, .int .i32 0, .int .i32 0, .int .i32 0, .int .i32 0, .int .i32 0, .int .i32 0, .int .i32 0, .int .i32 0, .int .i32 0, .int .i32 0, .int .i32 0, .int .i32 0, .int .i32 0, .int .i32 0, .int .i32 0, .int .i32 0, .int .i32 0, .int .i32 0, .int .i32 0, .int .i32 0, .int .i32 0, .int .i32 0, .int .i32 0, .int .i32 0, .int .i32 0] [(0, 1, (.tmp 39)), (1, 1, (.tmp 40)), (2, 33, (.tmp 41))])⟩⟩,
     ⟨0, false, ⟨(some 43), none, .op (.mv (.tmp 12))⟩⟩,
     ⟨0, false, ⟨(some 4), none, .op (.mv (.tmp 37))⟩⟩,
     ⟨0, false, ⟨none, none, .op (.store 35 (.tmp 5) (.tmp 42))⟩⟩,
     ⟨0, false, ⟨(some 6), none, .op (.mv (.tmp 43))⟩⟩] [])
  (.ret)))))

def ac_fold_Fold : AC :=
  .seq (.reg [⟨(some 2), none, .op (.mv (.const (.int .u32 0)))⟩])
  (.seq (.reg [⟨(some 3), none, .op (.mv (.tmp 0))⟩,
     ⟨(some 4), none, .op (.conv (.int .u32) (.tmp 3))⟩,
     ⟨(some 5), none, .op (.bin .shl (.tmp 4) (.const (.int .u64 1)))⟩,
     ⟨(some 6), none, .op (.mv (.tmp 0))⟩,
     ⟨(some 7), none, .op (.bin .shr (.tmp 6) (.const (.int .u64 31)))⟩,
     ⟨(some 8), none, .op (.conv (.int .u32) (.tmp 7))⟩,
     ⟨(some 9), none, .op (.bin .xor (.tmp 5) (.tmp 8))⟩,
     ⟨(some 2), none, .op (.mv (.tmp 9))⟩])
  (.ret))

def ac_cadenzaref20_Coded (f_cadenzaref17_All f_cadenzaref19_New f_cadenzaref20_channel f_cadenzaref19_Step f_cadenzaref05_Fold t0 t1 t2 t3 : Nat) : AC :=
  .seq (.reg [⟨(some 3), none, .op (.box t0 2 (.tmp 0))⟩,
     ⟨(some 4), none, .op (.box t1 16 (.tmp 1))⟩,
     ⟨(some 6), none, .op (.mv (.const (.slice none 0 0)))⟩])
  (.seq (.reg [⟨(some 18), none, .op (.faddr 0 (.tmp 3))⟩,
     ⟨(some 19), none, .op (.load none (.tmp 18))⟩,
     ⟨(some 20), none, .op (.mv (.tmp 2))⟩,
     ⟨(some 21), none, .call f_cadenzaref17_All [(.tmp 19), (.tmp 20)]⟩,
     ⟨(some 17), none, .op (.mv (.tmp 21))⟩,
     ⟨(some 22), none, .op (.extract (.tmp 17) 0)⟩,
     ⟨(some 23), none, .op (.extract (.tmp 17) 1)⟩,
     ⟨(some 7), none, .op (.mv (.tmp 22))⟩,
     ⟨(some 8), none, .op (.mv (.tmp 23))⟩])
  (.seq (.reg [⟨(some 24), none, .op (.mv (.tmp 2))⟩,
     ⟨(some 25), none, .op (.len none (.tmp 24))⟩,
     ⟨(some 26), none, .op (.mkslice t2 1 4 [.int .u32 0] (.tmp 25) (.tmp 25))⟩,
     ⟨(some 9), none, .op (.mv (.tmp 26))⟩])
  (.seq (.seq (.reg [⟨(some 10), none, .op (.mv (.const (.int .i64 0)))⟩])
   (.block 0 (.loop (.seq (.seq (.reg [⟨(some 27), none, .op (.mv (.tmp 10))⟩,
         ⟨(some 28), none, .op (.faddr 0 (.tmp 3))⟩,
         ⟨(some 29), none, .op (.load none (.tmp 28))⟩,
         ⟨(some 30), none, .op (.bin .lss (.tmp 27) (.tmp 29))⟩])
      (.cond (.tmp 30)
        (.skip)
        (.exit 0)))
     (.seq (.block 1 (.seq (.reg [⟨(some 34), none, .op (.faddr 1 (.tmp 3))⟩,
          ⟨(some 35), none, .op (.load none (.tmp 34))⟩,
          ⟨(some 36), none, .op (.load (some 16) (.tmp 4))⟩,
          ⟨(some 37), none, .call f_cadenzaref19_New [(.tmp 35), (.tmp 36)]⟩,
          ⟨(some 33), none, .op (.mv (.tmp 37))⟩,
          ⟨(some 38), none, .op (.extract (.tmp 33) 0)⟩,
          ⟨(some 39), none, .op (.extract (.tmp 33) 1)⟩,
          ⟨(some 11), none, .op (.alloc t3 [.int .i64 0, .int .i32 0, .int .i64 0, .int .i32 0, .int .i32 0, .int .i32 0, .int .i32 0, .int .i32 0, .int .i32 0, .int .i32 0, .int .i32 0, .int .i32 0, .int .i32 0, .int .i32 0, .int .i32 0, .int .i32 0, .int .i32 0, .int .i32 0, .int .i32 0, .int .i32 0, .int .i32 0, .int .i32 0, .int .i32 0, .int .i32 0, .int .i32 0, .int .i32 0, .int .i32 0, .int .i32 0, .int .i32 0, .int .i32 0, .int .i32 0, .int .i32 0, .int .i32 0, .int .i32 0, .int .i32 0])⟩,
          ⟨none, none, .op (.store 35 (.tmp 11) (.tmp 38))⟩,
          ⟨(some 12), none, .op (.mv (.tmp 39))⟩])
       (.seq (.reg [⟨(some 40), none, .op (.mv (.tmp 7))⟩,
          ⟨(some 41), none, .op (.mv (.tmp 10))⟩,
          ⟨(some 42), none, .op (.faddr 0 (.tmp 3))⟩,
          ⟨(some 43), none, .op (.load none (.tmp 42))⟩,
          ⟨(some 44), none, .call f_cadenzaref20_channel [(.tmp 40), (.tmp 41), (.tmp 43)]⟩,
          ⟨(some 13), none, .op (.mv (.tmp 44))⟩])
       (.seq (.reg [⟨(some 14), none, .op (.mv (.const (.int .i64 0)))⟩])
       (.block 2 (.loop (.seq (.seq (.reg [⟨(some 45), none, .op (.mv (.tmp 14))⟩,
             ⟨(some 46), none, .op (.mv (.tmp 13))⟩,
             ⟨(some 47), none, .op (.len none (.tmp 46))⟩,
             ⟨(some 48), none, .op (.bin .lss (.tmp 45) (.tmp 47))⟩])
          (.cond (.tmp 48)
            (.skip)
            (.exit 2)))
         (.seq (.block 3 (.seq (.draw [⟨0, false, ⟨(some 52), none, .op (.load (some 35) (.tmp 11))⟩⟩,
              ⟨0, false, ⟨(some 53), none, .op (.mv (.tmp 13))⟩⟩,
              ⟨0, false, ⟨(some 54), none, .op (.mv (.tmp 14))⟩⟩,
              ⟨0, false, ⟨(some 55), none, .op (.iaddr (.slice 1) (.tmp 53) (.tmp 54))⟩⟩,
              ⟨0, false, ⟨(some 56), none, .op (.load none (.tmp 55))⟩⟩,
              ⟨0, false, ⟨(some 57), none, .call f_cadenzaref19_Step [(.tmp 52), (.tmp 56)]⟩⟩,
              ⟨0, false, ⟨(some 51), none, .op (.mv (.tmp 57))⟩⟩,
              ⟨0, false, ⟨(some 58), none, .op (.extract (.tmp 51) 0)⟩⟩,
              ⟨0, false, ⟨(some 59), none, .op (.extract (.tmp 51) 1)⟩⟩,
              ⟨0, false, ⟨(some 16), none, .op (.alloc t3 [.int .i64 0, .int .i32 0, .int .i64 0, .int .i32 0, .int .i32 0, .int .i32 0, .int .i32 0, .int .i32 0, .int .i32 0, .int .i32 0, .int .i32 0, .int .i32 0, .int .i32 0, .int .i32 0, .int .i32 0, .int .i32 0, .int .i32 0, .int .i32 0, .int .i32 0, .int .i32 0, .int .i32 0, .int .i32 0, .int .i32 0, .int .i32 0, .int .i32 0, .int .i32 0, .int .i32 0, .int .i32 0, .int .i32 0, .int .i32 0, .int .i32 0, .int .i32 0, .int .i32 0, .int .i32 0, .int .i32 0])⟩⟩,
              ⟨1, false, ⟨(some 15), none, .op (.mv (.tmp 58))⟩⟩,
              ⟨1, false, ⟨none, none, .op (.store 35 (.tmp 16) (.tmp 59))⟩⟩] [ph])
           (.seq (.draw [⟨0, false, ⟨(some 60), none, .op (.mv (.tmp 9))⟩⟩,
              ⟨0, false, ⟨(some 61), none, .op (.mv (.tmp 10))⟩⟩,
              ⟨0, false, ⟨(some 62), none, .op (.mv (.tmp 14))⟩⟩,
              ⟨0, false, ⟨(some 63), none, .op (.faddr 0 (.tmp 3))⟩⟩,
              ⟨0, false, ⟨(some 64), none, .op (.load none (.tmp 63))⟩⟩,
              ⟨0, false, ⟨(some 65), none, .op (.bin .mul (.tmp 62) (.tmp 64))⟩⟩,
              ⟨0, false, ⟨(some 66), none, .op (.bin .add (.tmp 61) (.tmp 65))⟩⟩,
              ⟨0, false, ⟨(some 67), none, .op (.mv (.tmp 15))⟩⟩,
              ⟨0, false, ⟨(some 68), none, .call f_cadenzaref05_Fold [(.tmp 67)]⟩⟩,
              ⟨0, false, ⟨(some 69), none, .op (.iaddr (.slice 1) (.tmp 60) (.tmp 66))⟩⟩,
              ⟨0, false, ⟨none, none, .op (.store 1 (.tmp 69) (.tmp 68))⟩⟩] [])
           (.reg [⟨(some 70), none, .op (.load (some 35) (.tmp 16))⟩,
             ⟨none, none, .op (.store 35 (.tmp 11) (.tmp 70))⟩]))))
         (.reg [⟨(some 49), none, .op (.mv (.tmp 14))⟩,
           ⟨(some 50), none, .op (.bin .add (.tmp 49) (.const (.int .i64 1)))⟩,
           ⟨(some 14), none, .op (.mv (.tmp 50))⟩])))))))))
     (.reg [⟨(some 31), none, .op (.mv (.tmp 10))⟩,
       ⟨(some 32), none, .op (.bin .add (.tmp 31) (.const (.int .i64 1)))⟩,
       ⟨(some 10), none, .op (.mv (.tmp 32))⟩]))))))
  (.seq (.reg [⟨(some 71), none, .op (.mv (.tmp 9))⟩,
     ⟨(some 6), none, .op (.mv (.tmp 71))⟩])
  (.ret)))))

def ac_width_Range : AC :=
  .seq (.reg [⟨(some 2), none, .op (.mv (.const (.int .i32 0)))⟩,
     ⟨(some 3), none, .op (.mv (.const (.int .i32 0)))⟩,
     ⟨(some 4), none, .op (.mv (.const (.int .i64 0)))⟩])
  (.seq (.seq (.reg [⟨(some 6), none, .op (.mv (.tmp 0))⟩])
   (.block 0 (.seq (.seq (.reg [⟨(some 8), none, .op (.bin .eql (.tmp 6) (.const (.int .i64 8)))⟩,
        ⟨(some 7), none, .op (.mv (.tmp 8))⟩])
     (.cond (.tmp 7)
       (.skip)
       (.seq (.reg [⟨(some 9), none, .op (.bin .eql (.tmp 6) (.const (.int .i64 16)))⟩,
          ⟨(some 7), none, .op (.mv (.tmp 9))⟩])
       (.cond (.tmp 7)
         (.skip)
         (.reg [⟨(some 10), none, .op (.bin .eql (.tmp 6) (.const (.int .i64 24)))⟩,
           ⟨(some 7), none, .op (.mv (.tmp 10))⟩])))))
    (.cond (.tmp 7)
      (.seq (.reg [⟨(some 11), none, .op (.mv (.tmp 0))⟩,
         ⟨(some 12), none, .op (.bin .sub (.tmp 11) (.const (.int .i64 1)))⟩,
         ⟨(some 13), none, .op (.bin .shl (.const (.int .i32 1)) (.tmp 12))⟩,
         ⟨(some 5), none, .op (.mv (.tmp 13))⟩])
      (.seq (.reg [⟨(some 14), none, .op (.mv (.tmp 5))⟩,
         ⟨(some 15), none, .op (.un .neg (.tmp 14))⟩,
         ⟨(some 16), none, .op (.mv (.tmp 5))⟩,
         ⟨(some 17), none, .op (.bin .sub (.tmp 16) (.const (.int .i32 1)))⟩,
         ⟨(some 2), none, .op (.mv (.tmp 15))⟩,
         ⟨(some 3), none, .op (.mv (.tmp 17))⟩,
         ⟨(some 4), none, .op (.mv (.const (.int .i64 0)))⟩])
      (.ret)))
      (.skip)))))
  (.seq (.reg [⟨(some 2), none, .op (.mv (.const (.int .i32 0)))⟩,
     ⟨(some 3), none, .op (.mv (.const (.int .i32 0)))⟩,
     ⟨(some 4), none, .op (.mv (.const (.int .i64 2)))⟩])
  (.ret)))

def ac_cadenzaref18_Half : AC :=
  .seq (.reg [⟨(some 2), none, .op (.mv (.const (.int .i64 0)))⟩])
  (.seq (.seq (.reg [⟨(some 3), none, .op (.mv (.tmp 0))⟩])
   (.block 0 (.seq (.reg [⟨(some 5), none, .op (.bin .eql (.tmp 3) (.const (.int .i64 8)))⟩,
       ⟨(some 4), none, .op (.mv (.tmp 5))⟩])
    (.cond (.tmp 4)
      (.seq (.reg [⟨(some 2), none, .op (.mv (.const (.int .i64 128)))⟩])
      (.ret))
      (.seq (.reg [⟨(some 7), none, .op (.bin .eql (.tmp 3) (.const (.int .i64 16)))⟩,
         ⟨(some 6), none, .op (.mv (.tmp 7))⟩])
      (.cond (.tmp 6)
        (.seq (.reg [⟨(some 2), none, .op (.mv (.const (.int .i64 32768)))⟩])
        (.ret))
        (.seq (.reg [⟨(some 9), none, .op (.bin .eql (.tmp 3) (.const (.int .i64 24)))⟩,
           ⟨(some 8), none, .op (.mv (.tmp 9))⟩])
        (.cond (.tmp 8)
          (.seq (.reg [⟨(some 2), none, .op (.mv (.const (.int .i64 8388608)))⟩])
          (.ret))
          (.skip)))))))))
  (.seq (.reg [⟨(some 2), none, .op (.mv (.const (.int .i64 0)))⟩])
  (.ret)))

def ac_deframe_samples (f_chain_New f_fold_Back f_chain_Back f_mix_Undo f_width_Check t0 t1 t2 t3 t4 : Nat) : AC :=
  .seq (.reg [⟨(some 3), none, .op (.box t0 2 (.tmp 0))⟩,
     ⟨(some 4), none, .op (.box t1 16 (.tmp 1))⟩,
     ⟨(some 6), none, .op (.mv (.const (.slice none 0 0)))⟩,
     ⟨(some 7), none, .op (.mv (.const (.int .i64 0)))⟩])
  (.seq (.reg [⟨(some 8), none, .op (.alloc t2 [.int .i64 0, .int .i32 0, .int .i64 0, .int .i32 0, .int .i32 0, .int .i32 0, .int .i32 0, .int .i32 0, .int .i32 0, .int .i32 0, .int .i32 0, .int .i32 0, .int .i32 0, .int .i32 0, .int .i32 0, .int .i32 0, .int .i32 0, .int .i32 0, .int .i32 0, .int .i32 0, .int .i32 0, .int .i32 0, .int .i32 0, .int .i32 0, .int .i32 0, .int .i32 0, .int .i32 0, .int .i32 0, .int .i32 0, .int .i32 0, .int .i32 0, .int .i32 0, .int .i32 0, .int .i32 0, .int .i32 0, .int .i64 0, .int .i32 0, .int .i64 0, .int .i32 0, .int .i32 0, .int .i32 0, .int .i32 0, .int .i32 0, .int .i32 0, .int .i32 0, .int .i32 0, .int .i32 0, .int .i32 0, .int .i32 0, .int .i32 0, .int .i32 0, .int .i32 0, .int .i32 0, .int .i32 0, .int .i32 0, .int .i32 0, .int .i32 0, .int .i32 0, .int .i32 0, .int .i32 0, .int .i32 0, .int .i32 0, .int .i32 0, .int .i32 0, .int .i32 0, .int .i32 0, .int .i32 0, .int .i32 0, .int .i32 0, .int .i32 0, .int .i64 0, .int .i32 0, .int .i64 0, .int .i32 0, .int .i32 0, .int .i32 0, .int .i32 0, .int .i32 0, .int .i32 0, .int .i32 0, .int .i32 0, .int .i32 0, .int .i32 0, .int .i32 0, .int .i32 0, .int .i32 0, .int .i32 0, .int .i32 0, .int .i32 0, .int .i32 0, .int .i32 0, .int .i32 0, .int .i32 0, .int .i32 0, .int .i32 0, .int .i32 0, .int .i32 0, .int .i32 0, .int .i32 0, .int .i32 0, .int .i32 0, .int .i32 0, .int .i32 0, .int .i32 0, .int .i32 0, .int .i64 0, .int .i32 0, .int .i64 0, .int .i32 0, .int .i32 0, .int .i32 0, .int .i32 0, .int .i32 0, .int .i32 0, .int .i32 0, .int .i32 0, .int .i32 0, .int .i32 0, .int .i32 0, .int .i32 0, .int .i32 0, .int .i32 0, .int .i32 0, .int .i32 0, .int .i32 0, .int .i32 0, .int .i32 0, .int .i32 0, .int .i32 0, .int .i32 0, .int .i32 0, .int .i32 0, .int .i32 0, .int .i32 0, .int .i32 0, .int .i32 0, .int .i32 0, .int .i32 0, .int .i32 0, .int .i32 0, .int .i64 0, .int .i32 0, .int .i64 0, .int .i32 0, .int .i32 0, .int .i32 0, .int .i32 0, .int .i32 0, .int .i32 0, .int .i32 0, .int .i32 0, .int .i32 0, .int .i32 0, .int .i32 0, .int .i32 0, .int .i32 0, .int .i32 0, .int .i32 0, .int .i32 0, .int .i32 0, .int .i32 0, .int .i32 0, .int .i32 0, .int .i32 0, .int .i32 0, .int .i32 0, .int .i32 0, .int .i32 0, .int .i32 0, .int .i32 0, .int .i32 0, .int .i32 0, .int .i32 0, .int .i32 0, .int .i32 0, .int .i64 0, .int .i32 0, .int .i64 0, .int .i32 0, .int .i32 0, .int .i32 0, .int .i32 0, .int .i32 0, .int .i32 0, .int .i32 0, .int .i32 0, .int .i32 0, .int .i32 0, .int .i32 0, .int .i32 0, .int .i32 0, .int .i32 0, .int .i32 0, .int .i32 0, .int .i32 0, .int .i32 0, .int .i32 0, .int .i32 0, .int .i32 0, .int .i32 0, .int .i32 0, .int .i32 0, .int .i32 0, .int .i32 0, .int .i32 0, .int .i32 0, .int .i32 0, .int .i32 0, .int .i32 0, .int .i32 0])⟩])
  (.seq (.seq (.reg [⟨(some 20), none, .op (.mv (.const (.int .i64 0)))⟩])
   (.block 0 (.loop (.seq (.reg [⟨(some 21), none, .op (.bin .lss (.tmp 20) (.const (.int .i64 6)))⟩])
     (.seq (.cond (.tmp 21)
        (.skip)
        (.exit 0))
     (.seq (.block 1 (.seq (.reg [⟨(some 22), none, .op (.mv (.tmp 20))⟩,
          ⟨(some 9), none, .op (.mv (.tmp 22))⟩])
       (.reg [⟨(some 24), none, .op (.mv (.tmp 9))⟩,
         ⟨(some 25), none, .op (.faddr 1 (.tmp 3))⟩,
         ⟨(some 26), none, .op (.load none (.tmp 25))⟩,
         ⟨(some 27), none, .op (.load (some 16) (.tmp 4))⟩,
         ⟨(some 28), none, .call f_chain_New [(.tmp 26), (.tmp 27)]⟩,
         ⟨(some 23), none, .op (.mv (.tmp 28))⟩,
         ⟨(some 29), none, .op (.extract (.tmp 23) 0)⟩,
         ⟨(some 30), none, .op (.extract (.tmp 23) 1)⟩,
         ⟨(some 31), none, .op (.iaddr (.arr 6 35) (.tmp 8) (.tmp 24))⟩,
         ⟨none, none, .op (.store 35 (.tmp 31) (.tmp 29))⟩])))
     (.reg [⟨(some 32), none, .op (.bin .add (.tmp 20) (.const (.int .i64 1)))⟩,
       ⟨(some 20), none, .op (.mv (.tmp 32))⟩])))))))
  (.seq (.reg [⟨(some 10), none, .op (.mv (.const (.slice none 0 0)))⟩])
  (.seq (.seq (.reg [⟨(some 33), none, .op (.mv (.tmp 2))⟩,
      ⟨(some 34), none, .op (.len none (.tmp 33))⟩,
      ⟨(some 35), none, .op (.mv (.const (.int .i64 0)))⟩])
   (.block 2 (.loop (.seq (.reg [⟨(some 36), none, .op (.bin .lss (.tmp 35) (.tmp 34))⟩])
     (.seq (.cond (.tmp 36)
        (.skip)
        (.exit 2))
     (.seq (.block 3 (.seq (.reg [⟨(some 37), none, .op (.mv (.tmp 35))⟩,
          ⟨(some 38), none, .op (.iaddr (.slice 1) (.tmp 33) (.tmp 35))⟩,
          ⟨(some 39), none, .op (.load none (.tmp 38))⟩,
          ⟨(some 11), none, .op (.mv (.tmp 37))⟩,
          ⟨(some 12), none, .op (.mv (.tmp 39))⟩])
       (.seq (.reg [⟨(some 40), none, .op (.mv (.tmp 11))⟩,
          ⟨(some 41), none, .op (.faddr 0 (.tmp 3))⟩,
          ⟨(some 42), none, .op (.load none (.tmp 41))⟩,
          ⟨(some 43), none, .op (.bin .rem (.tmp 40) (.tmp 42))⟩,
          ⟨(some 44), none, .op (.iaddr (.arr 6 35) (.tmp 8) (.tmp 43))⟩,
          ⟨(some 13), none, .op (.mv (.tmp 44))⟩])
       (.seq (.draw [⟨0, false, ⟨(some 46), none, .op (.mv (.tmp 13))⟩⟩,
          ⟨0, false, ⟨(some 47), none, .op (.nilck (.tmp 46))⟩⟩,
          ⟨0, false, ⟨(some 48), none, .op (.load (some 35) (.tmp 47))⟩⟩,
          ⟨0, false, ⟨(some 49), none, .op (.mv (.tmp 12))⟩⟩,
          ⟨0, false, ⟨(some 50), none, .call f_fold_Back [(.tmp 49)]⟩⟩,
          ⟨0, false, ⟨(some 51), none, .call f_chain_Back [(.tmp 48), (.tmp 50)]⟩⟩,
          ⟨0, false, ⟨(some 45), none, .op (.mv (.tmp 51))⟩⟩,
          ⟨0, false, ⟨(some 52), none, .op (.extract (.tmp 45) 0)⟩⟩,
          ⟨0, false, ⟨(some 53), none, .op (.extract (.tmp 45) 1)⟩⟩,
          ⟨0, false, ⟨(some 54), none, .op (.extract (.tmp 45) 2)⟩⟩,
          ⟨0, false, ⟨(some 15), none, .op (.alloc t3 [.int .i64 0, .int .i32 0, .int .i64 0, .int .i32 0, .int .i32 0, .int .i32 0, .int .i32 0, .int .i32 0, .int .i32 0, .int .i32 0, .int .i32 0, .int .i32 0, .int .i32 0, .int .i32 0, .int .i32 0, .int .i32 0, .int .i32 0, .int .i32 0, .int .i32 0, .int .i32 0, .int .i32 0, .int .i32 0, .int .i32 0, .int .i32 0, .int .i32 0, .int .i32 0, .int .i32 0, .int .i32 0, .int .i32 0, .int .i32 0, .int .i32 0, .int .i32 0, .int .i32 0, .int .i32 0, .int .i32 0])⟩⟩,
          ⟨1, false, ⟨(some 14), none, .op (.mv (.tmp 52))⟩⟩,
          ⟨1, false, ⟨none, none, .op (.store 35 (.tmp 15) (.tmp 53))⟩⟩,
          ⟨1, false, ⟨(some 16), none, .op (.mv (.tmp 54))⟩⟩] [ph])
       (.seq (.seq (.reg [⟨(some 55), none, .op (.mv (.tmp 16))⟩,
           ⟨(some 56), none, .op (.bin .neq (.tmp 55) (.const (.int .i64 0)))⟩])
        (.cond (.tmp 56)
          (.seq (.reg [⟨(some 57), none, .op (.mv (.tmp 16))⟩,
             ⟨(some 6), none, .op (.mv (.const (.slice none 0 0)))⟩,
             ⟨(some 7), none, .op (.mv (.tmp 57))⟩])
          (.ret))
          (.skip)))
       (.seq (.reg [⟨(some 58), none, .op (.mv (.tmp 13))⟩,
          ⟨(some 59), none, .op (.load (some 35) (.tmp 15))⟩,
          ⟨(some 60), none, .op (.nilck (.tmp 58))⟩,
          ⟨none, none, .op (.store 35 (.tmp 60) (.tmp 59))⟩])
       (.reg [⟨(some 61), none, .op (.mv (.tmp 10))⟩,
         ⟨(some 62), none, .op (.mv (.tmp 14))⟩,
         ⟨(some 63), none, .op (.bslice t4 1 1 [.int .i32 0] [(0, 1, (.tmp 62))])⟩,
         ⟨(some 64), none, .op (.append t4 1 4 false (.tmp 61) (.tmp 63))⟩,
         ⟨(some 10), none, .op (.mv (.tmp 64))⟩])))))))
     (.reg [⟨(some 65), none, .op (.bin .add (.tmp 35) (.const (.int .i64 1)))⟩,
       ⟨(some 35), none, .op (.mv (.tmp 65))⟩])))))))
  (.seq (.reg [⟨(some 67), none, .op (.faddr 0 (.tmp 3))⟩,
     ⟨(some 68), none, .op (.load none (.tmp 67))⟩,
     ⟨(some 69), none, .op (.mv (.tmp 10))⟩,
     ⟨(some 70), none, .call f_mix_Undo [(.tmp 68), (.tmp 69)]⟩,
     ⟨(some 66), none, .op (.mv (.tmp 70))⟩,
     ⟨(some 71), none, .op (.extract (.tmp 66) 0)⟩,
     ⟨(some 72), none, .op (.extract (.tmp 66) 1)⟩,
     ⟨(some 17), none, .op (.mv (.tmp 71))⟩,
     ⟨(some 18), none, .op (.mv (.tmp 72))⟩])
  (.seq (.seq (.reg [⟨(some 73), none, .op (.mv (.tmp 18))⟩,
      ⟨(some 74), none, .op (.bin .neq (.tmp 73) (.const (.int .i64 0)))⟩])
   (.cond (.tmp 74)
     (.seq (.reg [⟨(some 75), none, .op (.mv (.tmp 18))⟩,
        ⟨(some 6), none, .op (.mv (.const (.slice none 0 0)))⟩,
        ⟨(some 7), none, .op (.mv (.tmp 75))⟩])
     (.ret))
     (.skip)))
  (.seq (.seq (.reg [⟨(some 76), none, .op (.faddr 1 (.tmp 3))⟩,
      ⟨(some 77), none, .op (.load none (.tmp 76))⟩,
      ⟨(some 78), none, .op (.mv (.tmp 17))⟩,
      ⟨(some 79), none, .call f_width_Check [(.tmp 77), (.tmp 78)]⟩,
      ⟨(some 19), none, .op (.mv (.tmp 79))⟩])
   (.seq (.reg [⟨(some 80), none, .op (.mv (.tmp 19))⟩,
      ⟨(some 81), none, .op (.bin .neq (.tmp 80) (.const (.int .i64 0)))⟩])
   (.cond (.tmp 81)
     (.seq (.reg [⟨(some 82), none, .op (.mv (.tmp 19))⟩,
        ⟨(some 6), none, .op (.mv (.const (.slice none 0 0)))⟩,
        ⟨(some 7), none, .op (.mv (.tmp 82))⟩])
     (.ret))
     (.skip))))
  (.seq (.reg [⟨(some 83), none, .op (.mv (.tmp 17))⟩,
     ⟨(some 6), none, .op (.mv (.tmp 83))⟩,
     ⟨(some 7), none, .op (.mv (.const (.int .i64 0)))⟩])
  (.ret)))))))))

def ac_cadenzaref21_ranged (f_cadenzaref18_Check t0 : Nat) : AC :=
  .seq (.reg [⟨(some 2), none, .op (.box t0 2 (.tmp 0))⟩,
     ⟨(some 4), none, .op (.mv (.const (.slice none 0 0)))⟩,
     ⟨(some 5), none, .op (.mv (.const (.int .i64 0)))⟩])
  (.seq (.seq (.reg [⟨(some 7), none, .op (.faddr 1 (.tmp 2))⟩,
      ⟨(some 8), none, .op (.load none (.tmp 7))⟩,
      ⟨(some 9), none, .op (.mv (.tmp 1))⟩,
      ⟨(some 10), none, .call f_cadenzaref18_Check [(.tmp 8), (.tmp 9)]⟩,
      ⟨(some 6), none, .op (.mv (.tmp 10))⟩])
   (.seq (.reg [⟨(some 11), none, .op (.mv (.tmp 6))⟩,
      ⟨(some 12), none, .op (.bin .neq (.tmp 11) (.const (.int .i64 0)))⟩])
   (.cond (.tmp 12)
     (.seq (.reg [⟨(some 13), none, .op (.mv (.tmp 6))⟩,
        ⟨(some 4), none, .op (.mv (.const (.slice none 0 0)))⟩,
        ⟨(some 5), none, .op (.mv (.tmp 13))⟩])
     (.ret))
     (.skip))))
  (.seq (.reg [⟨(some 14), none, .op (.mv (.tmp 1))⟩,
     ⟨(some 4), none, .op (.mv (.tmp 14))⟩,
     ⟨(some 5), none, .op (.mv (.const (.int .i64 0)))⟩])
  (.ret)))

def ac_cadenzaref21_Undone (f_cadenzaref19_New f_cadenzaref05_Back f_cadenzaref19_Stepped f_cadenzaref17_Undo t0 t1 t2 t3 : Nat) : AC :=
  .seq (.reg [⟨(some 3), none, .op (.box t0 2 (.tmp 0))⟩,
     ⟨(some 4), none, .op (.box t1 16 (.tmp 1))⟩,
     ⟨(some 6), none, .op (.mv (.const (.slice none 0 0)))⟩])
  (.seq (.reg [⟨(some 16), none, .op (.mv (.tmp 2))⟩,
     ⟨(some 17), none, .op (.len none (.tmp 16))⟩,
     ⟨(some 18), none, .op (.mkslice t2 1 4 [.int .i32 0] (.tmp 17) (.tmp 17))⟩,
     ⟨(some 7), none, .op (.mv (.tmp 18))⟩])
  (.seq (.seq (.reg [⟨(some 8), none, .op (.mv (.const (.int .i64 0)))⟩])
   (.block 0 (.loop (.seq (.seq (.reg [⟨(some 19), none, .op (.mv (.tmp 8))⟩,
         ⟨(some 20), none, .op (.faddr 0 (.tmp 3))⟩,
         ⟨(some 21), none, .op (.load none (.tmp 20))⟩,
         ⟨(some 22), none, .op (.bin .lss (.tmp 19) (.tmp 21))⟩])
      (.cond (.tmp 22)
        (.skip)
        (.exit 0)))
     (.seq (.block 1 (.seq (.reg [⟨(some 26), none, .op (.faddr 1 (.tmp 3))⟩,
          ⟨(some 27), none, .op (.load none (.tmp 26))⟩,
          ⟨(some 28), none, .op (.load (some 16) (.tmp 4))⟩,
          ⟨(some 29), none, .call f_cadenzaref19_New [(.tmp 27), (.tmp 28)]⟩,
          ⟨(some 25), none, .op (.mv (.tmp 29))⟩,
          ⟨(some 30), none, .op (.extract (.tmp 25) 0)⟩,
          ⟨(some 31), none, .op (.extract (.tmp 25) 1)⟩,
          ⟨(some 9), none, .op (.alloc t3 [.int .i64 0, .int .i32 0, .int .i64 0, .int .i32 0, .int .i32 0, .int .i32 0, .int .i32 0, .int .i32 0, .int .i32 0, .int .i32 0, .int .i32 0, .int .i32 0, .int .i32 0, .int .i32 0, .int .i32 0, .int .i32 0, .int .i32 0, .int .i32 0, .int .i32 0, .int .i32 0, .int .i32 0, .int .i32 0, .int .i32 0, .int .i32 0, .int .i32 0, .int .i32 0, .int .i32 0, .int .i32 0, .int .i32 0, .int .i32 0, .int .i32 0, .int .i32 0, .int .i32 0, .int .i32 0, .int .i32 0])⟩,
          ⟨none, none, .op (.store 35 (.tmp 9) (.tmp 30))⟩,
          ⟨(some 10), none, .op (.mv (.tmp 31))⟩])
       (.seq (.reg [⟨(some 32), none, .op (.mv (.tmp 8))⟩,
          ⟨(some 11), none, .op (.mv (.tmp 32))⟩])
       (.block 2 (.loop (.seq (.seq (.reg [⟨(some 33), none, .op (.mv (.tmp 11))⟩,
             ⟨(some 34), none, .op (.mv (.tmp 2))⟩,
             ⟨(some 35), none, .op (.len none (.tmp 34))⟩,
             ⟨(some 36), none, .op (.bin .lss (.tmp 33) (.tmp 35))⟩])
          (.cond (.tmp 36)
            (.skip)
            (.exit 2)))
         (.seq (.block 3 (.seq (.draw [⟨0, false, ⟨(some 42), none, .op (.load (some 35) (.tmp 9))⟩⟩,
              ⟨0, false, ⟨(some 43), none, .op (.mv (.tmp 2))⟩⟩,
              ⟨0, false, ⟨(some 44), none, .op (.mv (.tmp 11))⟩⟩,
              ⟨0, false, ⟨(some 45), none, .op (.iaddr (.slice 1) (.tmp 43) (.tmp 44))⟩⟩,
              ⟨0, false, ⟨(some 46), none, .op (.load none (.tmp 45))⟩⟩,
              ⟨0, false, ⟨(some 47), none, .call f_cadenzaref05_Back [(.tmp 46)]⟩⟩,
              ⟨0, false, ⟨(some 48), none, .call f_cadenzaref19_Stepped [(.tmp 42), (.tmp 47)]⟩⟩,
              ⟨0, false, ⟨(some 41), none, .op (.mv (.tmp 48))⟩⟩,
              ⟨0, false, ⟨(some 49), none, .op (.extract (.tmp 41) 0)⟩⟩,
              ⟨0, false, ⟨(some 50), none, .op (.extract (.tmp 41) 1)⟩⟩,
              ⟨0, false, ⟨(some 13), none, .op (.alloc t3 [.int .i64 0, .int .i32 0, .int .i64 0, .int .i32 0, .int .i32 0, .int .i32 0, .int .i32 0, .int .i32 0, .int .i32 0, .int .i32 0, .int .i32 0, .int .i32 0, .int .i32 0, .int .i32 0, .int .i32 0, .int .i32 0, .int .i32 0, .int .i32 0, .int .i32 0, .int .i32 0, .int .i32 0, .int .i32 0, .int .i32 0, .int .i32 0, .int .i32 0, .int .i32 0, .int .i32 0, .int .i32 0, .int .i32 0, .int .i32 0, .int .i32 0, .int .i32 0, .int .i32 0, .int .i32 0, .int .i32 0])⟩⟩,
              ⟨1, false, ⟨(some 12), none, .op (.mv (.tmp 49))⟩⟩,
              ⟨1, false, ⟨none, none, .op (.store 35 (.tmp 13) (.tmp 50))⟩⟩] [ph])
           (.seq (.reg [⟨(some 51), none, .op (.mv (.tmp 7))⟩,
              ⟨(some 52), none, .op (.mv (.tmp 11))⟩,
              ⟨(some 53), none, .op (.mv (.tmp 12))⟩,
              ⟨(some 54), none, .op (.iaddr (.slice 1) (.tmp 51) (.tmp 52))⟩,
              ⟨none, none, .op (.store 1 (.tmp 54) (.tmp 53))⟩])
           (.reg [⟨(some 55), none, .op (.load (some 35) (.tmp 13))⟩,
             ⟨none, none, .op (.store 35 (.tmp 9) (.tmp 55))⟩]))))
         (.reg [⟨(some 37), none, .op (.mv (.tmp 11))⟩,
           ⟨(some 38), none, .op (.faddr 0 (.tmp 3))⟩,
           ⟨(some 39), none, .op (.load none (.tmp 38))⟩,
           ⟨(some 40), none, .op (.bin .add (.tmp 37) (.tmp 39))⟩,
           ⟨(some 11), none, .op (.mv (.tmp 40))⟩]))))))))
     (.reg [⟨(some 23), none, .op (.mv (.tmp 8))⟩,
       ⟨(some 24), none, .op (.bin .add (.tmp 23) (.const (.int .i64 1)))⟩,
       ⟨(some 8), none, .op (.mv (.tmp 24))⟩]))))))
  (.seq (.reg [⟨(some 57), none, .op (.faddr 0 (.tmp 3))⟩,
     ⟨(some 58), none, .op (.load none (.tmp 57))⟩,
     ⟨(some 59), none, .op (.mv (.tmp 7))⟩,
     ⟨(some 60), none, .call f_cadenzaref17_Undo [(.tmp 58), (.tmp 59)]⟩,
     ⟨(some 56), none, .op (.mv (.tmp 60))⟩,
     ⟨(some 61), none, .op (.extract (.tmp 56) 0)⟩,
     ⟨(some 62), none, .op (.extract (.tmp 56) 1)⟩,
     ⟨(some 14), none, .op (.mv (.tmp 61))⟩,
     ⟨(some 15), none, .op (.mv (.tmp 62))⟩])
  (.seq (.reg [⟨(some 63), none, .op (.mv (.tmp 14))⟩,
     ⟨(some 6), none, .op (.mv (.tmp 63))⟩])
  (.ret)))))

def ac_lengths_Long : AC :=
  .seq (.reg [⟨(some 2), none, .op (.mv (.const (.int .i64 0)))⟩,
     ⟨(some 3), none, .op (.mv (.const (.int .i64 0)))⟩])
  (.seq (.seq (.reg [⟨(some 4), none, .op (.mv (.tmp 0))⟩,
      ⟨(some 5), none, .op (.bin .lss (.tmp 4) (.const (.int .i64 1)))⟩,
      ⟨(some 6), none, .op (.mv (.tmp 5))⟩,
      ⟨(some 7), (some (6, false)), .op (.mv (.tmp 0))⟩,
      ⟨(some 8), (some (6, false)), .op (.bin .gtr (.tmp 7) (.const (.int .i64 1048576)))⟩,
      ⟨(some 9), none, .op (.pick (.tmp 6) (.const (.bool true)) (.tmp 8))⟩])
   (.cond (.tmp 9)
     (.seq (.reg [⟨(some 2), none, .op (.mv (.const (.int .i64 0)))⟩,
        ⟨(some 3), none, .op (.mv (.const (.int .i64 2)))⟩])
     (.ret))
     (.skip)))
  (.seq (.reg [⟨(some 10), none, .op (.mv (.tmp 0))⟩,
     ⟨(some 11), none, .op (.bin .mul (.const (.int .i64 256)) (.tmp 10))⟩,
     ⟨(some 12), none, .op (.bin .quo (.tmp 11) (.const (.int .i64 245)))⟩,
     ⟨(some 13), none, .op (.max [(.const (.int .i64 1)), (.tmp 12)])⟩,
     ⟨(some 2), none, .op (.mv (.tmp 13))⟩,
     ⟨(some 3), none, .op (.mv (.const (.int .i64 0)))⟩])
  (.ret)))

def ac_cadenzaref22_Long : AC :=
  .seq (.reg [⟨(some 2), none, .op (.mv (.const (.int .i64 0)))⟩,
     ⟨(some 3), none, .op (.mv (.const (.int .i64 0)))⟩])
  (.seq (.seq (.reg [⟨(some 5), none, .op (.mv (.tmp 0))⟩,
      ⟨(some 6), none, .op (.bin .lss (.tmp 5) (.const (.int .i64 1)))⟩,
      ⟨(some 7), none, .op (.mv (.tmp 6))⟩,
      ⟨(some 8), (some (7, false)), .op (.mv (.tmp 0))⟩,
      ⟨(some 9), (some (7, false)), .op (.bin .gtr (.tmp 8) (.const (.int .i64 1048576)))⟩,
      ⟨(some 10), none, .op (.pick (.tmp 7) (.const (.bool true)) (.tmp 9))⟩])
   (.cond (.tmp 10)
     (.seq (.reg [⟨(some 2), none, .op (.mv (.const (.int .i64 0)))⟩,
        ⟨(some 3), none, .op (.mv (.const (.int .i64 2)))⟩])
     (.ret))
     (.skip)))
  (.seq (.reg [⟨(some 11), none, .op (.mv (.tmp 0))⟩,
     ⟨(some 12), none, .op (.bin .mul (.tmp 11) (.const (.int .i64 256)))⟩,
     ⟨(some 13), none, .op (.bin .quo (.tmp 12) (.const (.int .i64 245)))⟩,
     ⟨(some 4), none, .op (.mv (.tmp 13))⟩])
  (.seq (.seq (.reg [⟨(some 14), none, .op (.mv (.tmp 4))⟩,
      ⟨(some 15), none, .op (.bin .eql (.tmp 14) (.const (.int .i64 0)))⟩])
   (.cond (.tmp 15)
     (.reg [⟨(some 4), none, .op (.mv (.const (.int .i64 1)))⟩])
     (.skip)))
  (.seq (.reg [⟨(some 16), none, .op (.mv (.tmp 4))⟩,
     ⟨(some 2), none, .op (.mv (.tmp 16))⟩,
     ⟨(some 3), none, .op (.mv (.const (.int .i64 0)))⟩])
  (.ret)))))

def ac_pushenc_moment (t0 : Nat) : AC :=
  .seq (.reg [⟨(some 1), none, .op (.box t0 2 (.tmp 0))⟩,
     ⟨(some 2), none, .op (.mv (.const (.int .i64 0)))⟩])
  (.seq (.reg [⟨(some 3), none, .op (.faddr 0 (.tmp 1))⟩,
     ⟨(some 4), none, .op (.load none (.tmp 3))⟩,
     ⟨(some 5), none, .op (.faddr 1 (.tmp 1))⟩,
     ⟨(some 6), none, .op (.load none (.tmp 5))⟩,
     ⟨(some 7), none, .op (.bin .mul (.tmp 4) (.tmp 6))⟩,
     ⟨(some 8), none, .op (.bin .quo (.tmp 7) (.const (.int .i64 8)))⟩,
     ⟨(some 2), none, .op (.mv (.tmp 8))⟩])
  (.ret))

def ac_pushenc_room (t0 : Nat) : AC :=
  .seq (.reg [⟨(some 3), none, .op (.box t0 10 (.tmp 0))⟩,
     ⟨(some 6), none, .op (.mv (.const (.bool false)))⟩])
  (.seq (.reg [⟨(some 7), none, .op (.mv (.tmp 1))⟩,
     ⟨(some 8), none, .op (.bin .leq (.tmp 7) (.const (.int .i64 1000)))⟩,
     ⟨(some 9), none, .op (.mv (.tmp 8))⟩,
     ⟨(some 10), (some (9, true)), .op (.mv (.tmp 2))⟩,
     ⟨(some 11), (some (9, true)), .op (.faddr 0 (.tmp 3))⟩,
     ⟨(some 12), (some (9, true)), .op (.faddr 0 (.tmp 11))⟩,
     ⟨(some 13), (some (9, true)), .op (.load none (.tmp 12))⟩,
     ⟨(some 14), (some (9, true)), .op (.bin .mul (.tmp 10) (.tmp 13))⟩,
     ⟨(some 15), (some (9, true)), .op (.bin .leq (.tmp 14) (.const (.int .i64 4000)))⟩,
     ⟨(some 16), none, .op (.pick (.tmp 9) (.tmp 15) (.const (.bool false)))⟩,
     ⟨(some 6), none, .op (.mv (.tmp 16))⟩])
  (.ret))

def ac_pushenc_count (t0 : Nat) : AC :=
  .seq (.reg [⟨(some 2), none, .op (.box t0 10 (.tmp 0))⟩,
     ⟨(some 4), none, .op (.mv (.const (.int .i64 0)))⟩])
  (.seq (.draw [⟨0, false, ⟨(some 5), none, .op (.faddr 6 (.tmp 2))⟩⟩,
     ⟨0, false, ⟨(some 6), none, .op (.load none (.tmp 5))⟩⟩,
     ⟨0, false, ⟨(some 7), none, .op (.len none (.tmp 6))⟩⟩,
     ⟨0, false, ⟨(some 8), none, .op (.mv (.tmp 1))⟩⟩,
     ⟨0, false, ⟨(some 9), none, .op (.bin .mul (.tmp 7) (.tmp 8))⟩⟩,
     ⟨0, false, ⟨(some 10), none, .op (.faddr 5 (.tmp 2))⟩⟩,
     ⟨0, false, ⟨(some 11), none, .op (.load none (.tmp 10))⟩⟩,
     ⟨0, false, ⟨(some 12), none, .op (.len none (.tmp 11))⟩⟩,
     ⟨0, false, ⟨(some 13), none, .op (.faddr 0 (.tmp 2))⟩⟩,
     ⟨0, false, ⟨(some 14), none, .op (.faddr 0 (.tmp 13))⟩⟩,
     ⟨0, false, ⟨(some 15), none, .op (.load none (.tmp 14))⟩⟩,
     ⟨0, false, ⟨(some 16), none, .op (.bin .quo (.tmp 12) (.tmp 15))⟩⟩,
     ⟨0, false, ⟨(some 17), none, .op (.bin .add (.tmp 9) (.tmp 16))⟩⟩,
     ⟨0, false, ⟨(some 4), none, .op (.mv (.tmp 17))⟩⟩] [])
  (.ret))

def ac_slices_ContainsFunc_byte_byte (f_slices_IndexFunc_byte_byte : Nat) : AC :=
  .seq (.reg [⟨(some 4), none, .op (.mv (.const (.bool false)))⟩])
  (.seq (.reg [⟨(some 5), none, .op (.mv (.tmp 0))⟩,
     ⟨(some 6), none, .op (.mv (.tmp 1))⟩,
     ⟨(some 7), none, .call f_slices_IndexFunc_byte_byte [(.tmp 5), (.tmp 6)]⟩,
     ⟨(some 8), none, .op (.bin .geq (.tmp 7) (.const (.int .i64 0)))⟩,
     ⟨(some 4), none, .op (.mv (.tmp 8))⟩])
  (.ret))

def ac_pushenc_feeding_1 : AC :=
  .seq (.reg [⟨(some 3), none, .op (.mv (.const (.bool false)))⟩])
  (.seq (.reg [⟨(some 4), none, .op (.mv (.tmp 0))⟩,
     ⟨(some 5), none, .op (.len none (.tmp 4))⟩,
     ⟨(some 6), none, .op (.bin .lss (.tmp 5) (.const (.int .i64 5)))⟩,
     ⟨(some 7), none, .op (.mv (.tmp 6))⟩,
     ⟨(some 8), (some (7, false)), .op (.mv (.tmp 0))⟩,
     ⟨(some 9), (some (7, false)), .op (.len none (.tmp 8))⟩,
     ⟨(some 10), (some (7, false)), .op (.load none (.tmp 1))⟩,
     ⟨(some 11), (some (7, false)), .op (.bin .gtr (.tmp 9) (.tmp 10))⟩,
     ⟨(some 12), none, .op (.pick (.tmp 7) (.const (.bool true)) (.tmp 11))⟩,
     ⟨(some 3), none, .op (.mv (.tmp 12))⟩])
  (.ret))

def ac_cadenzaref36_long (f_cadenzaref22_Long t0 : Nat) : AC :=
  .seq (.reg [⟨(some 1), none, .op (.box t0 10 (.tmp 0))⟩,
     ⟨(some 2), none, .op (.mv (.const (.int .i64 0)))⟩])
  (.seq (.reg [⟨(some 6), none, .op (.faddr 2 (.tmp 1))⟩,
     ⟨(some 7), none, .op (.load none (.tmp 6))⟩,
     ⟨(some 8), none, .call f_cadenzaref22_Long [(.tmp 7)]⟩,
     ⟨(some 5), none, .op (.mv (.tmp 8))⟩,
     ⟨(some 9), none, .op (.extract (.tmp 5) 0)⟩,
     ⟨(some 10), none, .op (.extract (.tmp 5) 1)⟩,
     ⟨(some 3), none, .op (.mv (.tmp 9))⟩,
     ⟨(some 4), none, .op (.mv (.tmp 10))⟩])
  (.seq (.reg [⟨(some 11), none, .op (.mv (.tmp 3))⟩,
     ⟨(some 2), none, .op (.mv (.tmp 11))⟩])
  (.ret)))

def ac_cadenzaref36_Moment (t0 : Nat) : AC :=
  .seq (.reg [⟨(some 1), none, .op (.box t0 2 (.tmp 0))⟩,
     ⟨(some 2), none, .op (.mv (.const (.int .i64 0)))⟩])
  (.seq (.reg [⟨(some 3), none, .op (.faddr 0 (.tmp 1))⟩,
     ⟨(some 4), none, .op (.load none (.tmp 3))⟩,
     ⟨(some 5), none, .op (.faddr 1 (.tmp 1))⟩,
     ⟨(some 6), none, .op (.load none (.tmp 5))⟩,
     ⟨(some 7), none, .op (.bin .mul (.tmp 4) (.tmp 6))⟩,
     ⟨(some 8), none, .op (.bin .quo (.tmp 7) (.const (.int .i64 8)))⟩,
     ⟨(some 2), none, .op (.mv (.tmp 8))⟩])
  (.ret))

def ac_cadenzaref18_Check (f_cadenzaref18_Half : Nat) : AC :=
  .seq (.reg [⟨(some 4), none, .op (.mv (.const (.int .i64 0)))⟩])
  (.seq (.reg [⟨(some 7), none, .op (.mv (.tmp 0))⟩,
     ⟨(some 8), none, .call f_cadenzaref18_Half [(.tmp 7)]⟩,
     ⟨(some 5), none, .op (.mv (.tmp 8))⟩])
  (.seq (.seq (.reg [⟨(some 9), none, .op (.mv (.tmp 5))⟩,
      ⟨(some 10), none, .op (.bin .eql (.tmp 9) (.const (.int .i64 0)))⟩])
   (.cond (.tmp 10)
     (.seq (.reg [⟨(some 4), none, .op (.mv (.const (.int .i64 2)))⟩])
     (.ret))
     (.skip)))
  (.seq (.seq (.reg [⟨(some 11), none, .op (.mv (.tmp 1))⟩,
      ⟨(some 12), none, .op (.len none (.tmp 11))⟩,
      ⟨(some 13), none, .op (.bin .gtr (.tmp 12) (.const (.int .i64 4000)))⟩])
   (.cond (.tmp 13)
     (.seq (.reg [⟨(some 4), none, .op (.mv (.const (.int .i64 4)))⟩])
     (.ret))
     (.skip)))
  (.seq (.seq (.reg [⟨(some 6), none, .op (.mv (.const (.int .i64 0)))⟩])
   (.block 0 (.loop (.seq (.seq (.reg [⟨(some 14), none, .op (.mv (.tmp 6))⟩,
         ⟨(some 15), none, .op (.mv (.tmp 1))⟩,
         ⟨(some 16), none, .op (.len none (.tmp 15))⟩,
         ⟨(some 17), none, .op (.bin .lss (.tmp 14) (.tmp 16))⟩])
      (.cond (.tmp 17)
        (.skip)
        (.exit 0)))
     (.seq (.block 1 (.seq (.reg [⟨(some 20), none, .op (.mv (.tmp 1))⟩,
          ⟨(some 21), none, .op (.mv (.tmp 6))⟩,
          ⟨(some 22), none, .op (.iaddr (.slice 1) (.tmp 20) (.tmp 21))⟩,
          ⟨(some 23), none, .op (.load none (.tmp 22))⟩,
          ⟨(some 24), none, .op (.conv (.int .i64) (.tmp 23))⟩,
          ⟨(some 25), none, .op (.mv (.tmp 5))⟩,
          ⟨(some 26), none, .op (.un .neg (.tmp 25))⟩,
          ⟨(some 27), none, .op (.bin .lss (.tmp 24) (.tmp 26))⟩,
          ⟨(some 28), none, .op (.mv (.tmp 27))⟩,
          ⟨(some 29), (some (28, false)), .op (.mv (.tmp 1))⟩,
          ⟨(some 30), (some (28, false)), .op (.mv (.tmp 6))⟩,
          ⟨(some 31), (some (28, false)), .op (.iaddr (.slice 1) (.tmp 29) (.tmp 30))⟩,
          ⟨(some 32), (some (28, false)), .op (.load none (.tmp 31))⟩,
          ⟨(some 33), (some (28, false)), .op (.conv (.int .i64) (.tmp 32))⟩,
          ⟨(some 34), (some (28, false)), .op (.mv (.tmp 5))⟩,
          ⟨(some 35), (some (28, false)), .op (.bin .geq (.tmp 33) (.tmp 34))⟩,
          ⟨(some 36), none, .op (.pick (.tmp 28) (.const (.bool true)) (.tmp 35))⟩])
       (.cond (.tmp 36)
         (.seq (.reg [⟨(some 4), none, .op (.mv (.const (.int .i64 16)))⟩])
         (.ret))
         (.skip))))
     (.reg [⟨(some 18), none, .op (.mv (.tmp 6))⟩,
       ⟨(some 19), none, .op (.bin .add (.tmp 18) (.const (.int .i64 1)))⟩,
       ⟨(some 6), none, .op (.mv (.tmp 19))⟩]))))))
  (.seq (.reg [⟨(some 4), none, .op (.mv (.const (.int .i64 0)))⟩])
  (.ret))))))

def ac_cadenzaref36_fits (t0 : Nat) : AC :=
  .seq (.reg [⟨(some 3), none, .op (.box t0 10 (.tmp 0))⟩,
     ⟨(some 6), none, .op (.mv (.const (.bool false)))⟩])
  (.seq (.reg [⟨(some 7), none, .op (.mv (.tmp 1))⟩,
     ⟨(some 8), none, .op (.bin .leq (.tmp 7) (.const (.int .i64 1000)))⟩,
     ⟨(some 9), none, .op (.mv (.tmp 8))⟩,
     ⟨(some 10), (some (9, true)), .op (.mv (.tmp 2))⟩,
     ⟨(some 11), (some (9, true)), .op (.faddr 0 (.tmp 3))⟩,
     ⟨(some 12), (some (9, true)), .op (.faddr 0 (.tmp 11))⟩,
     ⟨(some 13), (some (9, true)), .op (.load none (.tmp 12))⟩,
     ⟨(some 14), (some (9, true)), .op (.bin .quo (.const (.int .i64 4000)) (.tmp 13))⟩,
     ⟨(some 15), (some (9, true)), .op (.bin .leq (.tmp 10) (.tmp 14))⟩,
     ⟨(some 16), none, .op (.pick (.tmp 9) (.tmp 15) (.const (.bool false)))⟩,
     ⟨(some 6), none, .op (.mv (.tmp 16))⟩])
  (.ret))

def ac_cadenzaref36_Count (f_cadenzaref36_long t0 : Nat) : AC :=
  .seq (.reg [⟨(some 1), none, .op (.box t0 10 (.tmp 0))⟩,
     ⟨(some 2), none, .op (.mv (.const (.int .i64 0)))⟩])
  (.seq (.draw [⟨0, false, ⟨(some 3), none, .op (.faddr 6 (.tmp 1))⟩⟩,
     ⟨0, false, ⟨(some 4), none, .op (.load none (.tmp 3))⟩⟩,
     ⟨0, false, ⟨(some 5), none, .op (.len none (.tmp 4))⟩⟩,
     ⟨0, false, ⟨(some 6), none, .op (.load (some 10) (.tmp 1))⟩⟩,
     ⟨0, false, ⟨(some 7), none, .call f_cadenzaref36_long [(.tmp 6)]⟩⟩,
     ⟨0, false, ⟨(some 8), none, .op (.bin .mul (.tmp 5) (.tmp 7))⟩⟩,
     ⟨0, false, ⟨(some 9), none, .op (.faddr 5 (.tmp 1))⟩⟩,
     ⟨0, false, ⟨(some 10), none, .op (.load none (.tmp 9))⟩⟩,
     ⟨0, false, ⟨(some 11), none, .op (.len none (.tmp 10))⟩⟩,
     ⟨0, false, ⟨(some 12), none, .op (.faddr 0 (.tmp 1))⟩⟩,
     ⟨0, false, ⟨(some 13), none, .op (.faddr 0 (.tmp 12))⟩⟩,
     ⟨0, false, ⟨(some 14), none, .op (.load none (.tmp 13))⟩⟩,
     ⟨0, false, ⟨(some 15), none, .op (.bin .quo (.tmp 11) (.tmp 14))⟩⟩,
     ⟨0, false, ⟨(some 16), none, .op (.bin .add (.tmp 8) (.tmp 15))⟩⟩,
     ⟨0, false, ⟨(some 2), none, .op (.mv (.tmp 16))⟩⟩] [])
  (.ret))

def ac_mix_check : AC :=
  .seq (.reg [⟨(some 4), none, .op (.mv (.const (.int .i64 0)))⟩])
  (.seq (.block 0 (.seq (.reg [⟨(some 6), none, .op (.mv (.tmp 0))⟩,
       ⟨(some 7), none, .op (.bin .lss (.tmp 6) (.const (.int .i64 1)))⟩,
       ⟨(some 8), none, .op (.mv (.tmp 7))⟩,
       ⟨(some 9), (some (8, false)), .op (.mv (.tmp 0))⟩,
       ⟨(some 10), (some (8, false)), .op (.bin .gtr (.tmp 9) (.const (.int .i64 6)))⟩,
       ⟨(some 11), none, .op (.pick (.tmp 8) (.const (.bool true)) (.tmp 10))⟩,
       ⟨(some 5), none, .op (.mv (.tmp 11))⟩])
    (.cond (.tmp 5)
      (.seq (.reg [⟨(some 4), none, .op (.mv (.const (.int .i64 2)))⟩])
      (.ret))
      (.seq (.reg [⟨(some 13), none, .op (.mv (.tmp 1))⟩,
         ⟨(some 14), none, .op (.len none (.tmp 13))⟩,
         ⟨(some 15), none, .op (.bin .gtr (.tmp 14) (.const (.int .i64 4000)))⟩,
         ⟨(some 12), none, .op (.mv (.tmp 15))⟩])
      (.cond (.tmp 12)
        (.seq (.reg [⟨(some 4), none, .op (.mv (.const (.int .i64 4)))⟩])
        (.ret))
        (.seq (.reg [⟨(some 17), none, .op (.mv (.tmp 1))⟩,
           ⟨(some 18), none, .op (.len none (.tmp 17))⟩,
           ⟨(some 19), none, .op (.mv (.tmp 0))⟩,
           ⟨(some 20), none, .op (.bin .rem (.tmp 18) (.tmp 19))⟩,
           ⟨(some 21), none, .op (.bin .neq (.tmp 20) (.const (.int .i64 0)))⟩,
           ⟨(some 16), none, .op (.mv (.tmp 21))⟩])
        (.cond (.tmp 16)
          (.seq (.reg [⟨(some 4), none, .op (.mv (.const (.int .i64 2)))⟩])
          (.ret))
          (.skip))))))))
  (.seq (.reg [⟨(some 4), none, .op (.mv (.const (.int .i64 0)))⟩])
  (.ret)))

def ac_mix_mix : AC :=
  .seq (.reg [⟨(some 4), none, .op (.mv (.tmp 0))⟩,
     ⟨(some 5), none, .op (.len none (.tmp 4))⟩,
     ⟨(some 6), none, .op (.bin .sub (.tmp 5) (.const (.int .i64 1)))⟩,
     ⟨(some 2), none, .op (.mv (.tmp 6))⟩])
  (.seq (.seq (.reg [⟨(some 7), none, .op (.mv (.tmp 2))⟩,
      ⟨(some 8), none, .op (.mv (.const (.int .i64 0)))⟩])
   (.block 0 (.loop (.seq (.reg [⟨(some 9), none, .op (.bin .lss (.tmp 8) (.tmp 7))⟩])
     (.seq (.cond (.tmp 9)
        (.skip)
        (.exit 0))
     (.seq (.block 1 (.seq (.reg [⟨(some 10), none, .op (.mv (.tmp 8))⟩,
          ⟨(some 3), none, .op (.mv (.tmp 10))⟩])
       (.draw [⟨0, false, ⟨(some 11), none, .op (.mv (.tmp 0))⟩⟩,
         ⟨0, false, ⟨(some 12), none, .op (.mv (.tmp 3))⟩⟩,
         ⟨0, false, ⟨(some 13), none, .op (.mv (.tmp 0))⟩⟩,
         ⟨0, false, ⟨(some 14), none, .op (.mv (.tmp 3))⟩⟩,
         ⟨0, false, ⟨(some 15), none, .op (.bin .add (.tmp 14) (.const (.int .i64 1)))⟩⟩,
         ⟨0, false, ⟨(some 16), none, .op (.iaddr (.slice 1) (.tmp 13) (.tmp 15))⟩⟩,
         ⟨0, false, ⟨(some 17), none, .op (.load none (.tmp 16))⟩⟩,
         ⟨0, false, ⟨(some 18), none, .op (.mv (.tmp 0))⟩⟩,
         ⟨0, false, ⟨(some 19), none, .op (.mv (.tmp 3))⟩⟩,
         ⟨0, false, ⟨(some 20), none, .op (.iaddr (.slice 1) (.tmp 18) (.tmp 19))⟩⟩,
         ⟨0, false, ⟨(some 21), none, .op (.load none (.tmp 20))⟩⟩,
         ⟨0, false, ⟨(some 22), none, .op (.bin .sub (.tmp 17) (.tmp 21))⟩⟩,
         ⟨0, false, ⟨(some 23), none, .op (.iaddr (.slice 1) (.tmp 11) (.tmp 12))⟩⟩,
         ⟨0, false, ⟨none, none, .op (.store 1 (.tmp 23) (.tmp 22))⟩⟩] [])))
     (.reg [⟨(some 24), none, .op (.bin .add (.tmp 8) (.const (.int .i64 1)))⟩,
       ⟨(some 8), none, .op (.mv (.tmp 24))⟩])))))))
  (.seq (.reg [⟨(some 25), none, .op (.mv (.tmp 2))⟩,
     ⟨(some 26), none, .op (.bin .gtr (.tmp 25) (.const (.int .i64 0)))⟩])
  (.cond (.tmp 26)
    (.draw [⟨0, false, ⟨(some 27), none, .op (.mv (.tmp 0))⟩⟩,
      ⟨0, false, ⟨(some 28), none, .op (.mv (.tmp 2))⟩⟩,
      ⟨0, false, ⟨(some 29), none, .op (.iaddr (.slice 1) (.tmp 27) (.tmp 28))⟩⟩,
      ⟨0, false, ⟨(some 30), none, .op (.load none (.tmp 29))⟩⟩,
      ⟨0, false, ⟨(some 31), none, .op (.mv (.tmp 0))⟩⟩,
      ⟨0, false, ⟨(some 32), none, .op (.mv (.tmp 2))⟩⟩,
      ⟨0, false, ⟨(some 33), none, .op (.bin .sub (.tmp 32) (.const (.int .i64 1)))⟩⟩,
      ⟨0, false, ⟨(some 34), none, .op (.iaddr (.slice 1) (.tmp 31) (.tmp 33))⟩⟩,
      ⟨0, false, ⟨(some 35), none, .op (.load none (.tmp 34))⟩⟩,
      ⟨0, false, ⟨(some 36), none, .op (.bin .quo (.tmp 35) (.const (.int .i32 2)))⟩⟩,
      ⟨0, false, ⟨(some 37), none, .op (.bin .sub (.tmp 30) (.tmp 36))⟩⟩,
      ⟨0, false, ⟨(some 38), none, .op (.iaddr (.slice 1) (.tmp 27) (.tmp 28))⟩⟩,
      ⟨0, false, ⟨none, none, .op (.store 1 (.tmp 38) (.tmp 37))⟩⟩] [])
    (.skip))))

def ac_taps_New (t0 t1 : Nat) : AC :=
  .seq (.reg [⟨(some 3), none, .op (.box t0 16 (.tmp 1))⟩,
     ⟨(some 4), none, .op (.alloc t1 [.int .i64 0, .int .i32 0, .int .i32 0, .int .i32 0, .int .i32 0, .int .i32 0, .int .i32 0, .int .i32 0, .int .i32 0, .int .i32 0, .int .i32 0, .int .i32 0, .int .i32 0, .int .i32 0, .int .i32 0, .int .i32 0, .int .i32 0, .int .i32 0, .int .i32 0, .int .i32 0, .int .i32 0, .int .i32 0, .int .i32 0, .int .i32 0, .int .i32 0, .int .i32 0, .int .i32 0, .int .i32 0, .int .i32 0, .int .i32 0, .int .i32 0, .int .i32 0, .int .i32 0])⟩,
     ⟨(some 5), none, .op (.mv (.const (.int .i64 0)))⟩])
  (.seq (.reg [⟨(some 7), none, .op (.load (some 16) (.tmp 3))⟩,
     ⟨(some 8), none, .op (.build [.int .i64 0, .int .i32 0, .int .i32 0, .int .i32 0, .int .i32 0, .int .i32 0, .int .i32 0, .int .i32 0, .int .i32 0, .int .i32 0, .int .i32 0, .int .i32 0, .int .i32 0, .int .i32 0, .int .i32 0, .int .i32 0, .int .i32 0, .int .i32 0, .int .i32 0, .int .i32 0, .int .i32 0, .int .i32 0, .int .i32 0, .int .i32 0, .int .i32 0, .int .i32 0, .int .i32 0, .int .i32 0, .int .i32 0, .int .i32 0, .int .i32 0, .int .i32 0, .int .i32 0] [(0, 1, (.const (.int .i64 10))), (1, 16, (.tmp 7))])⟩,
     ⟨(some 6), none, .op (.alloc t1 [.int .i64 0, .int .i32 0, .int .i32 0, .int .i32 0, .int .i32 0, .int .i32 0, .int .i32 0, .int .i32 0, .int .i32 0, .int .i32 0, .int .i32 0, .int .i32 0, .int .i32 0, .int .i32 0, .int .i32 0, .int .i32 0, .int .i32 0, .int .i32 0, .int .i32 0, .int .i32 0, .int .i32 0, .int .i32 0, .int .i32 0, .int .i32 0, .int .i32 0, .int .i32 0, .int .i32 0, .int .i32 0, .int .i32 0, .int .i32 0, .int .i32 0, .int .i32 0, .int .i32 0])⟩,
     ⟨none, none, .op (.store 33 (.tmp 6) (.tmp 8))⟩])
  (.seq (.seq (.reg [⟨(some 9), none, .op (.mv (.tmp 0))⟩])
   (.block 0 (.seq (.seq (.reg [⟨(some 12), none, .op (.bin .eql (.tmp 9) (.const (.int .i64 8)))⟩,
        ⟨(some 11), none, .op (.mv (.tmp 12))⟩])
     (.cond (.tmp 11)
       (.skip)
       (.reg [⟨(some 13), none, .op (.bin .eql (.tmp 9) (.const (.int .i64 24)))⟩,
         ⟨(some 11), none, .op (.mv (.tmp 13))⟩])))
    (.cond (.tmp 11)
      (.skip)
      (.seq (.reg [⟨(some 15), none, .op (.bin .eql (.tmp 9) (.const (.int .i64 16)))⟩,
         ⟨(some 14), none, .op (.mv (.tmp 15))⟩])
      (.cond (.tmp 14)
        (.reg [⟨(some 16), none, .op (.faddr 0 (.tmp 6))⟩,
          ⟨none, none, .op (.store 1 (.tmp 16) (.const (.int .i64 9)))⟩])
        (.seq (.reg [⟨(some 10), none, .op (.build [.int .i64 0, .int .i32 0, .int .i32 0, .int .i32 0, .int .i32 0, .int .i32 0, .int .i32 0, .int .i32 0, .int .i32 0, .int .i32 0, .int .i32 0, .int .i32 0, .int .i32 0, .int .i32 0, .int .i32 0, .int .i32 0, .int .i32 0, .int .i32 0, .int .i32 0, .int .i32 0, .int .i32 0, .int .i32 0, .int .i32 0, .int .i32 0, .int .i32 0, .int .i32 0, .int .i32 0, .int .i32 0, .int .i32 0, .int .i32 0, .int .i32 0, .int .i32 0, .int .i32 0] [])⟩,
           ⟨none, none, .op (.store 33 (.tmp 4) (.tmp 10))⟩,
           ⟨(some 5), none, .op (.mv (.const (.int .i64 2)))⟩])
        (.ret))))))))
  (.seq (.reg [⟨(some 17), none, .op (.load (some 33) (.tmp 6))⟩,
     ⟨none, none, .op (.store 33 (.tmp 4) (.tmp 17))⟩,
     ⟨(some 5), none, .op (.mv (.const (.int .i64 0)))⟩])
  (.ret))))

def ac_chain_Check (f_taps_New t0 t1 : Nat) : AC :=
  .seq (.reg [⟨(some 1), none, .op (.box t0 35 (.tmp 0))⟩,
     ⟨(some 2), none, .op (.mv (.const (.int .i64 0)))⟩])
  (.seq (.reg [⟨(some 6), none, .op (.faddr 0 (.tmp 1))⟩,
     ⟨(some 7), none, .op (.load none (.tmp 6))⟩,
     ⟨(some 8), none, .op (.faddr 2 (.tmp 1))⟩,
     ⟨(some 9), none, .op (.faddr 1 (.tmp 8))⟩,
     ⟨(some 10), none, .op (.load (some 16) (.tmp 9))⟩,
     ⟨(some 11), none, .call f_taps_New [(.tmp 7), (.tmp 10)]⟩,
     ⟨(some 5), none, .op (.mv (.tmp 11))⟩,
     ⟨(some 12), none, .op (.extract (.tmp 5) 0)⟩,
     ⟨(some 13), none, .op (.extract (.tmp 5) 1)⟩,
     ⟨(some 3), none, .op (.alloc t1 [.int .i64 0, .int .i32 0, .int .i32 0, .int .i32 0, .int .i32 0, .int .i32 0, .int .i32 0, .int .i32 0, .int .i32 0, .int .i32 0, .int .i32 0, .int .i32 0, .int .i32 0, .int .i32 0, .int .i32 0, .int .i32 0, .int .i32 0, .int .i32 0, .int .i32 0, .int .i32 0, .int .i32 0, .int .i32 0, .int .i32 0, .int .i32 0, .int .i32 0, .int .i32 0, .int .i32 0, .int .i32 0, .int .i32 0, .int .i32 0, .int .i32 0, .int .i32 0, .int .i32 0])⟩,
     ⟨none, none, .op (.store 33 (.tmp 3) (.tmp 12))⟩,
     ⟨(some 4), none, .op (.mv (.tmp 13))⟩])
  (.seq (.seq (.reg [⟨(some 14), none, .op (.mv (.tmp 4))⟩,
      ⟨(some 15), none, .op (.bin .neq (.tmp 14) (.const (.int .i64 0)))⟩,
      ⟨(some 16), none, .op (.mv (.tmp 15))⟩,
      ⟨(some 17), (some (16, false)), .op (.faddr 0 (.tmp 3))⟩,
      ⟨(some 18), (some (16, false)), .op (.load none (.tmp 17))⟩,
      ⟨(some 19), (some (16, false)), .op (.faddr 2 (.tmp 1))⟩,
      ⟨(some 20), (some (16, false)), .op (.faddr 0 (.tmp 19))⟩,
      ⟨(some 21), (some (16, false)), .op (.load none (.tmp 20))⟩,
      ⟨(some 22), (some (16, false)), .op (.bin .neq (.tmp 18) (.tmp 21))⟩,
      ⟨(some 23), none, .op (.pick (.tmp 16) (.const (.bool true)) (.tmp 22))⟩])
   (.cond (.tmp 23)
     (.seq (.reg [⟨(some 2), none, .op (.mv (.const (.int .i64 8)))⟩])
     (.ret))
     (.skip)))
  (.seq (.reg [⟨(some 2), none, .op (.mv (.const (.int .i64 0)))⟩])
  (.ret))))

def ac_first_Guess (f_first_Shift f_first_guess : Nat) : AC :=
  .seq (.reg [⟨(some 4), none, .op (.mv (.const (.int .i32 0)))⟩,
     ⟨(some 5), none, .op (.mv (.const (.int .i64 0)))⟩])
  (.seq (.reg [⟨(some 9), none, .op (.mv (.tmp 0))⟩,
     ⟨(some 10), none, .call f_first_Shift [(.tmp 9)]⟩,
     ⟨(some 8), none, .op (.mv (.tmp 10))⟩,
     ⟨(some 11), none, .op (.extract (.tmp 8) 0)⟩,
     ⟨(some 12), none, .op (.extract (.tmp 8) 1)⟩,
     ⟨(some 6), none, .op (.mv (.tmp 11))⟩,
     ⟨(some 7), none, .op (.mv (.tmp 12))⟩])
  (.seq (.seq (.reg [⟨(some 13), none, .op (.mv (.tmp 7))⟩,
      ⟨(some 14), none, .op (.bin .neq (.tmp 13) (.const (.int .i64 0)))⟩])
   (.cond (.tmp 14)
     (.seq (.reg [⟨(some 15), none, .op (.mv (.tmp 7))⟩,
        ⟨(some 4), none, .op (.mv (.const (.int .i32 0)))⟩,
        ⟨(some 5), none, .op (.mv (.tmp 15))⟩])
     (.ret))
     (.skip)))
  (.seq (.reg [⟨(some 16), none, .op (.mv (.tmp 6))⟩,
     ⟨(some 17), none, .op (.mv (.tmp 1))⟩,
     ⟨(some 18), none, .call f_first_guess [(.tmp 16), (.tmp 17)]⟩,
     ⟨(some 4), none, .op (.mv (.tmp 18))⟩,
     ⟨(some 5), none, .op (.mv (.const (.int .i64 0)))⟩])
  (.ret))))

def ac_lms_Forward (f_taps_Guess f_lms_behind t0 : Nat) : AC :=
  .seq (.reg [⟨(some 2), none, .op (.box t0 33 (.tmp 0))⟩,
     ⟨(some 4), none, .op (.mv (.const (.int .i32 0)))⟩,
     ⟨(some 5), none, .op (.alloc t0 [.int .i64 0, .int .i32 0, .int .i32 0, .int .i32 0, .int .i32 0, .int .i32 0, .int .i32 0, .int .i32 0, .int .i32 0, .int .i32 0, .int .i32 0, .int .i32 0, .int .i32 0, .int .i32 0, .int .i32 0, .int .i32 0, .int .i32 0, .int .i32 0, .int .i32 0, .int .i32 0, .int .i32 0, .int .i32 0, .int .i32 0, .int .i32 0, .int .i32 0, .int .i32 0, .int .i32 0, .int .i32 0, .int .i32 0, .int .i32 0, .int .i32 0, .int .i32 0, .int .i32 0])⟩,
     ⟨(some 6), none, .op (.mv (.const (.int .i64 0)))⟩])
  (.seq (.reg [⟨(some 10), none, .op (.load (some 33) (.tmp 2))⟩,
     ⟨(some 11), none, .call f_taps_Guess [(.tmp 10)]⟩,
     ⟨(some 9), none, .op (.mv (.tmp 11))⟩,
     ⟨(some 12), none, .op (.extract (.tmp 9) 0)⟩,
     ⟨(some 13), none, .op (.extract (.tmp 9) 1)⟩,
     ⟨(some 7), none, .op (.mv (.tmp 12))⟩,
     ⟨(some 8), none, .op (.mv (.tmp 13))⟩])
  (.seq (.seq (.reg [⟨(some 14), none, .op (.mv (.tmp 8))⟩,
      ⟨(some 15), none, .op (.bin .neq (.tmp 14) (.const (.int .i64 0)))⟩])
   (.cond (.tmp 15)
     (.seq (.reg [⟨(some 16), none, .op (.build [.int .i64 0, .int .i32 0, .int .i32 0, .int .i32 0, .int .i32 0, .int .i32 0, .int .i32 0, .int .i32 0, .int .i32 0, .int .i32 0, .int .i32 0, .int .i32 0, .int .i32 0, .int .i32 0, .int .i32 0, .int .i32 0, .int .i32 0, .int .i32 0, .int .i32 0, .int .i32 0, .int .i32 0, .int .i32 0, .int .i32 0, .int .i32 0, .int .i32 0, .int .i32 0, .int .i32 0, .int .i32 0, .int .i32 0, .int .i32 0, .int .i32 0, .int .i32 0, .int .i32 0] [])⟩,
        ⟨(some 17), none, .op (.mv (.tmp 8))⟩,
        ⟨(some 4), none, .op (.mv (.const (.int .i32 0)))⟩,
        ⟨none, none, .op (.store 33 (.tmp 5) (.tmp 16))⟩,
        ⟨(some 6), none, .op (.mv (.tmp 17))⟩])
     (.ret))
     (.skip)))
  (.seq (.reg [⟨(some 18), none, .op (.mv (.tmp 1))⟩,
     ⟨(some 19), none, .op (.mv (.tmp 7))⟩,
     ⟨(some 20), none, .op (.bin .sub (.tmp 18) (.tmp 19))⟩,
     ⟨(some 21), none, .op (.load (some 33) (.tmp 2))⟩,
     ⟨(some 22), none, .op (.mv (.tmp 1))⟩,
     ⟨(some 23), none, .op (.mv (.tmp 1))⟩,
     ⟨(some 24), none, .op (.mv (.tmp 7))⟩,
     ⟨(some 25), none, .op (.bin .sub (.tmp 23) (.tmp 24))⟩,
     ⟨(some 26), none, .call f_lms_behind [(.tmp 21), (.tmp 22), (.tmp 25)]⟩,
     ⟨(some 4), none, .op (.mv (.tmp 20))⟩,
     ⟨none, none, .op (.store 33 (.tmp 5) (.tmp 26))⟩,
     ⟨(some 6), none, .op (.mv (.const (.int .i64 0)))⟩])
  (.ret))))

def ac_cadenzaref17_All (f_cadenzaref17_Check f_cadenzaref17_Mixed t0 : Nat) : AC :=
  .seq (.reg [⟨(some 4), none, .op (.mv (.const (.slice none 0 0)))⟩,
     ⟨(some 5), none, .op (.mv (.const (.int .i64 0)))⟩])
  (.seq (.seq (.reg [⟨(some 8), none, .op (.mv (.tmp 0))⟩,
      ⟨(some 9), none, .op (.mv (.tmp 1))⟩,
      ⟨(some 10), none, .call f_cadenzaref17_Check [(.tmp 8), (.tmp 9)]⟩,
      ⟨(some 11), none, .op (.bin .neq (.tmp 10) (.const (.int .i64 0)))⟩])
   (.cond (.tmp 11)
     (.seq (.reg [⟨(some 12), none, .op (.mv (.tmp 0))⟩,
        ⟨(some 13), none, .op (.mv (.tmp 1))⟩,
        ⟨(some 14), none, .call f_cadenzaref17_Check [(.tmp 12), (.tmp 13)]⟩,
        ⟨(some 4), none, .op (.mv (.const (.slice none 0 0)))⟩,
        ⟨(some 5), none, .op (.mv (.tmp 14))⟩])
     (.ret))
     (.skip)))
  (.seq (.reg [⟨(some 6), none, .op (.mv (.const (.slice none 0 0)))⟩])
  (.seq (.seq (.reg [⟨(some 7), none, .op (.mv (.const (.int .i64 0)))⟩])
   (.block 0 (.loop (.seq (.seq (.reg [⟨(some 15), none, .op (.mv (.tmp 7))⟩,
         ⟨(some 16), none, .op (.mv (.tmp 1))⟩,
         ⟨(some 17), none, .op (.len none (.tmp 16))⟩,
         ⟨(some 18), none, .op (.bin .lss (.tmp 15) (.tmp 17))⟩])
      (.cond (.tmp 18)
        (.skip)
        (.exit 0)))
     (.seq (.block 1 (.reg [⟨(some 22), none, .op (.mv (.tmp 6))⟩,
         ⟨(some 23), none, .op (.mv (.tmp 1))⟩,
         ⟨(some 24), none, .op (.mv (.tmp 7))⟩,
         ⟨(some 25), none, .op (.mv (.tmp 7))⟩,
         ⟨(some 26), none, .op (.mv (.tmp 0))⟩,
         ⟨(some 27), none, .op (.bin .add (.tmp 25) (.tmp 26))⟩,
         ⟨(some 28), none, .op (.slice 1 (.tmp 23) (some (.tmp 24)) (some (.tmp 27)) none)⟩,
         ⟨(some 29), none, .call f_cadenzaref17_Mixed [(.tmp 28)]⟩,
         ⟨(some 30), none, .op (.append t0 1 4 false (.tmp 22) (.tmp 29))⟩,
         ⟨(some 6), none, .op (.mv (.tmp 30))⟩]))
     (.reg [⟨(some 19), none, .op (.mv (.tmp 7))⟩,
       ⟨(some 20), none, .op (.mv (.tmp 0))⟩,
       ⟨(some 21), none, .op (.bin .add (.tmp 19) (.tmp 20))⟩,
       ⟨(some 7), none, .op (.mv (.tmp 21))⟩]))))))
  (.seq (.reg [⟨(some 31), none, .op (.mv (.tmp 6))⟩,
     ⟨(some 4), none, .op (.mv (.tmp 31))⟩,
     ⟨(some 5), none, .op (.mv (.const (.int .i64 0)))⟩])
  (.ret)))))

def ac_cadenzaref19_New (f_cadenzaref14_New t0 t1 t2 : Nat) : AC :=
  .seq (.reg [⟨(some 3), none, .op (.box t0 16 (.tmp 1))⟩,
     ⟨(some 4), none, .op (.alloc t1 [.int .i64 0, .int .i32 0, .int .i64 0, .int .i32 0, .int .i32 0, .int .i32 0, .int .i32 0, .int .i32 0, .int .i32 0, .int .i32 0, .int .i32 0, .int .i32 0, .int .i32 0, .int .i32 0, .int .i32 0, .int .i32 0, .int .i32 0, .int .i32 0, .int .i32 0, .int .i32 0, .int .i32 0, .int .i32 0, .int .i32 0, .int .i32 0, .int .i32 0, .int .i32 0, .int .i32 0, .int .i32 0, .int .i32 0, .int .i32 0, .int .i32 0, .int .i32 0, .int .i32 0, .int .i32 0, .int .i32 0])⟩,
     ⟨(some 5), none, .op (.mv (.const (.int .i64 0)))⟩])
  (.seq (.reg [⟨(some 9), none, .op (.mv (.tmp 0))⟩,
     ⟨(some 10), none, .op (.load (some 16) (.tmp 3))⟩,
     ⟨(some 11), none, .call f_cadenzaref14_New [(.tmp 9), (.tmp 10)]⟩,
     ⟨(some 8), none, .op (.mv (.tmp 11))⟩,
     ⟨(some 12), none, .op (.extract (.tmp 8) 0)⟩,
     ⟨(some 13), none, .op (.extract (.tmp 8) 1)⟩,
     ⟨(some 6), none, .op (.alloc t2 [.int .i64 0, .int .i32 0, .int .i32 0, .int .i32 0, .int .i32 0, .int .i32 0, .int .i32 0, .int .i32 0, .int .i32 0, .int .i32 0, .int .i32 0, .int .i32 0, .int .i32 0, .int .i32 0, .int .i32 0, .int .i32 0, .int .i32 0, .int .i32 0, .int .i32 0, .int .i32 0, .int .i32 0, .int .i32 0, .int .i32 0, .int .i32 0, .int .i32 0, .int .i32 0, .int .i32 0, .int .i32 0, .int .i32 0, .int .i32 0, .int .i32 0, .int .i32 0, .int .i32 0])⟩,
     ⟨none, none, .op (.store 33 (.tmp 6) (.tmp 12))⟩,
     ⟨(some 7), none, .op (.mv (.tmp 13))⟩])
  (.seq (.seq (.reg [⟨(some 14), none, .op (.mv (.tmp 7))⟩,
      ⟨(some 15), none, .op (.bin .neq (.tmp 14) (.const (.int .i64 0)))⟩])
   (.cond (.tmp 15)
     (.seq (.reg [⟨(some 16), none, .op (.build [.int .i64 0, .int .i32 0, .int .i64 0, .int .i32 0, .int .i32 0, .int .i32 0, .int .i32 0, .int .i32 0, .int .i32 0, .int .i32 0, .int .i32 0, .int .i32 0, .int .i32 0, .int .i32 0, .int .i32 0, .int .i32 0, .int .i32 0, .int .i32 0, .int .i32 0, .int .i32 0, .int .i32 0, .int .i32 0, .int .i32 0, .int .i32 0, .int .i32 0, .int .i32 0, .int .i32 0, .int .i32 0, .int .i32 0, .int .i32 0, .int .i32 0, .int .i32 0, .int .i32 0, .int .i32 0, .int .i32 0] [])⟩,
        ⟨none, none, .op (.store 35 (.tmp 4) (.tmp 16))⟩,
        ⟨(some 5), none, .op (.mv (.const (.int .i64 2)))⟩])
     (.ret))
     (.skip)))
  (.seq (.reg [⟨(some 17), none, .op (.mv (.tmp 0))⟩,
     ⟨(some 18), none, .op (.load (some 33) (.tmp 6))⟩,
     ⟨(some 19), none, .op (.build [.int .i64 0, .int .i32 0, .int .i64 0, .int .i32 0, .int .i32 0, .int .i32 0, .int .i32 0, .int .i32 0, .int .i32 0, .int .i32 0, .int .i32 0, .int .i32 0, .int .i32 0, .int .i32 0, .int .i32 0, .int .i32 0, .int .i32 0, .int .i32 0, .int .i32 0, .int .i32 0, .int .i32 0, .int .i32 0, .int .i32 0, .int .i32 0, .int .i32 0, .int .i32 0, .int .i32 0, .int .i32 0, .int .i32 0, .int .i32 0, .int .i32 0, .int .i32 0, .int .i32 0, .int .i32 0, .int .i32 0] [(0, 1, (.tmp 17)), (2, 33, (.tmp 18))])⟩,
     ⟨none, none, .op (.store 35 (.tmp 4) (.tmp 19))⟩,
     ⟨(some 5), none, .op (.mv (.const (.int .i64 0)))⟩])
  (.ret))))

def ac_cadenzaref20_channel (t0 : Nat) : AC :=
  .seq (.reg [⟨(some 6), none, .op (.mv (.const (.slice none 0 0)))⟩])
  (.seq (.reg [⟨(some 7), none, .op (.mv (.const (.slice none 0 0)))⟩])
  (.seq (.seq (.reg [⟨(some 9), none, .op (.mv (.tmp 1))⟩,
      ⟨(some 8), none, .op (.mv (.tmp 9))⟩])
   (.block 0 (.loop (.seq (.seq (.reg [⟨(some 10), none, .op (.mv (.tmp 8))⟩,
         ⟨(some 11), none, .op (.mv (.tmp 0))⟩,
         ⟨(some 12), none, .op (.len none (.tmp 11))⟩,
         ⟨(some 13), none, .op (.bin .lss (.tmp 10) (.tmp 12))⟩])
      (.cond (.tmp 13)
        (.skip)
        (.exit 0)))
     (.seq (.block 1 (.reg [⟨(some 17), none, .op (.mv (.tmp 7))⟩,
         ⟨(some 18), none, .op (.mv (.tmp 0))⟩,
         ⟨(some 19), none, .op (.mv (.tmp 8))⟩,
         ⟨(some 20), none, .op (.iaddr (.slice 1) (.tmp 18) (.tmp 19))⟩,
         ⟨(some 21), none, .op (.load none (.tmp 20))⟩,
         ⟨(some 22), none, .op (.bslice t0 1 1 [.int .i32 0] [(0, 1, (.tmp 21))])⟩,
         ⟨(some 23), none, .op (.append t0 1 4 false (.tmp 17) (.tmp 22))⟩,
         ⟨(some 7), none, .op (.mv (.tmp 23))⟩]))
     (.reg [⟨(some 14), none, .op (.mv (.tmp 8))⟩,
       ⟨(some 15), none, .op (.mv (.tmp 2))⟩,
       ⟨(some 16), none, .op (.bin .add (.tmp 14) (.tmp 15))⟩,
       ⟨(some 8), none, .op (.mv (.tmp 16))⟩]))))))
  (.seq (.reg [⟨(some 24), none, .op (.mv (.tmp 7))⟩,
     ⟨(some 6), none, .op (.mv (.tmp 24))⟩])
  (.ret))))

def ac_cadenzaref19_Step (f_cadenzaref19_behind f_cadenzaref13_Wrap f_cadenzaref15_Step t0 t1 : Nat) : AC :=
  .seq (.reg [⟨(some 2), none, .op (.box t0 35 (.tmp 0))⟩,
     ⟨(some 4), none, .op (.mv (.const (.int .i32 0)))⟩,
     ⟨(some 5), none, .op (.alloc t0 [.int .i64 0, .int .i32 0, .int .i64 0, .int .i32 0, .int .i32 0, .int .i32 0, .int .i32 0, .int .i32 0, .int .i32 0, .int .i32 0, .int .i32 0, .int .i32 0, .int .i32 0, .int .i32 0, .int .i32 0, .int .i32 0, .int .i32 0, .int .i32 0, .int .i32 0, .int .i32 0, .int .i32 0, .int .i32 0, .int .i32 0, .int .i32 0, .int .i32 0, .int .i32 0, .int .i32 0, .int .i32 0, .int .i32 0, .int .i32 0, .int .i32 0, .int .i32 0, .int .i32 0, .int .i32 0, .int .i32 0])⟩])
  (.seq (.reg [⟨(some 9), none, .op (.mv (.tmp 1))⟩,
     ⟨(some 10), none, .op (.conv (.int .i64) (.tmp 9))⟩,
     ⟨(some 11), none, .op (.load (some 35) (.tmp 2))⟩,
     ⟨(some 12), none, .call f_cadenzaref19_behind [(.tmp 11)]⟩,
     ⟨(some 13), none, .op (.bin .sub (.tmp 10) (.tmp 12))⟩,
     ⟨(some 14), none, .call f_cadenzaref13_Wrap [(.tmp 13)]⟩,
     ⟨(some 6), none, .op (.mv (.tmp 14))⟩])
  (.seq (.reg [⟨(some 16), none, .op (.faddr 2 (.tmp 2))⟩,
     ⟨(some 17), none, .op (.load (some 33) (.tmp 16))⟩,
     ⟨(some 18), none, .op (.mv (.tmp 6))⟩,
     ⟨(some 19), none, .call f_cadenzaref15_Step [(.tmp 17), (.tmp 18)]⟩,
     ⟨(some 15), none, .op (.mv (.tmp 19))⟩,
     ⟨(some 20), none, .op (.extract (.tmp 15) 0)⟩,
     ⟨(some 21), none, .op (.extract (.tmp 15) 1)⟩,
     ⟨(some 8), none, .op (.alloc t1 [.int .i64 0, .int .i32 0, .int .i32 0, .int .i32 0, .int .i32 0, .int .i32 0, .int .i32 0, .int .i32 0, .int .i32 0, .int .i32 0, .int .i32 0, .int .i32 0, .int .i32 0, .int .i32 0, .int .i32 0, .int .i32 0, .int .i32 0, .int .i32 0, .int .i32 0, .int .i32 0, .int .i32 0, .int .i32 0, .int .i32 0, .int .i32 0, .int .i32 0, .int .i32 0, .int .i32 0, .int .i32 0, .int .i32 0, .int .i32 0, .int .i32 0, .int .i32 0, .int .i32 0])⟩,
     ⟨(some 7), none, .op (.mv (.tmp 20))⟩,
     ⟨none, none, .op (.store 33 (.tmp 8) (.tmp 21))⟩])
  (.seq (.draw [⟨0, false, ⟨(some 22), none, .op (.mv (.tmp 7))⟩⟩,
     ⟨0, false, ⟨(some 23), none, .op (.faddr 0 (.tmp 2))⟩⟩,
     ⟨0, false, ⟨(some 24), none, .op (.load none (.tmp 23))⟩⟩,
     ⟨0, false, ⟨(some 25), none, .op (.mv (.tmp 1))⟩⟩,
     ⟨0, false, ⟨(some 26), none, .op (.load (some 33) (.tmp 8))⟩⟩,
     ⟨0, false, ⟨(some 27), none, .op (.build [.int .i64 0, .int .i32 0, .int .i64 0, .int .i32 0, .int .i32 0, .int .i32 0, .int .i32 0, .int .i32 0, .int .i32 0, .int .i32 0, .int .i32 0, .int .i32 0, .int .i32 0, .int .i32 0, .int .i32 0, .int .i32 0, .int .i32 0, .int .i32 0, .int .i32 0, .int .i32 0, .int .i32 0, .int .i32 0, .int .i32 0, .int .i32 0, .int .i32 0, .int .i32 0, .int .i32 0, .int .i32 0, .int .i32 0, .int .i32 0, .int .i32 0, .int .i32 0, .int .i32 0, .int .i32 0, .int .i32 0] [(0, 1, (.tmp 24)), (1, 1, (.tmp 25)), (2, 33, (.tmp 26))])⟩⟩,
     ⟨0, false, ⟨(some 4), none, .op (.mv (.tmp 22))⟩⟩,
     ⟨0, false, ⟨none, none, .op (.store 35 (.tmp 5) (.tmp 27))⟩⟩] [])
  (.ret))))

def ac_cadenzaref05_Fold : AC :=
  .seq (.reg [⟨(some 2), none, .op (.mv (.const (.int .u32 0)))⟩])
  (.seq (.seq (.reg [⟨(some 3), none, .op (.mv (.tmp 0))⟩,
      ⟨(some 4), none, .op (.bin .geq (.tmp 3) (.const (.int .i32 0)))⟩])
   (.cond (.tmp 4)
     (.seq (.reg [⟨(some 5), none, .op (.mv (.tmp 0))⟩,
        ⟨(some 6), none, .op (.conv (.int .u32) (.tmp 5))⟩,
        ⟨(some 7), none, .op (.bin .mul (.const (.int .u32 2)) (.tmp 6))⟩,
        ⟨(some 2), none, .op (.mv (.tmp 7))⟩])
     (.ret))
     (.skip)))
  (.seq (.reg [⟨(some 8), none, .op (.mv (.tmp 0))⟩,
     ⟨(some 9), none, .op (.conv (.int .i64) (.tmp 8))⟩,
     ⟨(some 10), none, .op (.bin .mul (.const (.int .i64 (-2))) (.tmp 9))⟩,
     ⟨(some 11), none, .op (.bin .sub (.tmp 10) (.const (.int .i64 1)))⟩,
     ⟨(some 12), none, .op (.conv (.int .u32) (.tmp 11))⟩,
     ⟨(some 2), none, .op (.mv (.tmp 12))⟩])
  (.ret)))

def ac_chain_Back (f_chain_Check f_first_Guess f_lms_Back t0 t1 : Nat) : AC :=
  .seq (.reg [⟨(some 2), none, .op (.box t0 35 (.tmp 0))⟩,
     ⟨(some 4), none, .op (.mv (.const (.int .i32 0)))⟩,
     ⟨(some 5), none, .op (.alloc t0 [.int .i64 0, .int .i32 0, .int .i64 0, .int .i32 0, .int .i32 0, .int .i32 0, .int .i32 0, .int .i32 0, .int .i32 0, .int .i32 0, .int .i32 0, .int .i32 0, .int .i32 0, .int .i32 0, .int .i32 0, .int .i32 0, .int .i32 0, .int .i32 0, .int .i32 0, .int .i32 0, .int .i32 0, .int .i32 0, .int .i32 0, .int .i32 0, .int .i32 0, .int .i32 0, .int .i32 0, .int .i32 0, .int .i32 0, .int .i32 0, .int .i32 0, .int .i32 0, .int .i32 0, .int .i32 0, .int .i32 0])⟩,
     ⟨(some 6), none, .op (.mv (.const (.int .i64 0)))⟩])
  (.seq (.seq (.reg [⟨(some 13), none, .op (.load (some 35) (.tmp 2))⟩,
      ⟨(some 14), none, .call f_chain_Check [(.tmp 13)]⟩,
      ⟨(some 7), none, .op (.mv (.tmp 14))⟩])
   (.seq (.reg [⟨(some 15), none, .op (.mv (.tmp 7))⟩,
      ⟨(some 16), none, .op (.bin .neq (.tmp 15) (.const (.int .i64 0)))⟩])
   (.cond (.tmp 16)
     (.seq (.reg [⟨(some 17), none, .op (.build [.int .i64 0, .int .i32 0, .int .i64 0, .int .i32 0, .int .i32 0, .int .i32 0, .int .i32 0, .int .i32 0, .int .i32 0, .int .i32 0, .int .i32 0, .int .i32 0, .int .i32 0, .int .i32 0, .int .i32 0, .int .i32 0, .int .i32 0, .int .i32 0, .int .i32 0, .int .i32 0, .int .i32 0, .int .i32 0, .int .i32 0, .int .i32 0, .int .i32 0, .int .i32 0, .int .i32 0, .int .i32 0, .int .i32 0, .int .i32 0, .int .i32 0, .int .i32 0, .int .i32 0, .int .i32 0, .int .i32 0] [])⟩,
        ⟨(some 18), none, .op (.mv (.tmp 7))⟩,
        ⟨(some 4), none, .op (.mv (.const (.int .i32 0)))⟩,
        ⟨none, none, .op (.store 35 (.tmp 5) (.tmp 17))⟩,
        ⟨(some 6), none, .op (.mv (.tmp 18))⟩])
     (.ret))
     (.skip))))
  (.seq (.reg [⟨(some 20), none, .op (.faddr 0 (.tmp 2))⟩,
     ⟨(some 21), none, .op (.load none (.tmp 20))⟩,
     ⟨(some 22), none, .op (.faddr 1 (.tmp 2))⟩,
     ⟨(some 23), none, .op (.load none (.tmp 22))⟩,
     ⟨(some 24), none, .call f_first_Guess [(.tmp 21), (.tmp 23)]⟩,
     ⟨(some 19), none, .op (.mv (.tmp 24))⟩,
     ⟨(some 25), none, .op (.extract (.tmp 19) 0)⟩,
     ⟨(some 26), none, .op (.extract (.tmp 19) 1)⟩,
     ⟨(some 8), none, .op (.mv (.tmp 25))⟩,
     ⟨(some 9), none, .op (.mv (.tmp 26))⟩])
  (.seq (.reg [⟨(some 28), none, .op (.faddr 2 (.tmp 2))⟩,
     ⟨(some 29), none, .op (.load (some 33) (.tmp 28))⟩,
     ⟨(some 30), none, .op (.mv (.tmp 1))⟩,
     ⟨(some 31), none, .call f_lms_Back [(.tmp 29), (.tmp 30)]⟩,
     ⟨(some 27), none, .op (.mv (.tmp 31))⟩,
     ⟨(some 32), none, .op (.extract (.tmp 27) 0)⟩,
     ⟨(some 33), none, .op (.extract (.tmp 27) 1)⟩,
     ⟨(some 34), none, .op (.extract (.tmp 27) 2)⟩,
     ⟨(some 11), none, .op (.alloc t1 [.int .i64 0, .int .i32 0, .int .i32 0, .int .i32 0, .int .i32 0, .int .i32 0, .int .i32 0, .int .i32 0, .int .i32 0, .int .i32 0, .int .i32 0, .int .i32 0, .int .i32 0, .int .i32 0, .int .i32 0, .int .i32 0, .int .i32 0, .int .i32 0, .int .i32 0, .int .i32 0, .int .i32 0, .int .i32 0, .int .i32 0, .int .i32 0, .int .i32 0, .int .i32 0, .int .i32 0, .int .i32 0, .int .i32 0, .int .i32 0, .int .i32 0, .int .i32 0, .int .i32 0])⟩,
     ⟨(some 10), none, .op (.mv (.tmp 32))⟩,
     ⟨none, none, .op (.store 33 (.tmp 11) (.tmp 33))⟩,
     ⟨(some 12), none, .op (.mv (.tmp 34))⟩])
  (.seq (.draw [⟨0, false, ⟨(some 35), none, .op (.mv (.tmp 10))⟩⟩,
     ⟨0, false, ⟨(some 36), none, .op (.mv (.tmp 8))⟩⟩,
     ⟨0, false, ⟨(some 37), none, .op (.bin .add (.tmp 35) (.tmp 36))⟩⟩,
     ⟨0, false, ⟨(some 38), none, .op (.faddr 0 (.tmp 2))⟩⟩,
     ⟨0, false, ⟨(some 39), none, .op (.load none (.tmp 38))⟩⟩,
     ⟨0, false, ⟨(some 40), none, .op (.mv (.tmp 10))⟩⟩,
     ⟨0, false, ⟨(some 41), none, .op (.mv (.tmp 8))⟩⟩,
     ⟨0, false, ⟨(some 42), none, .op (.bin .add (.tmp 40) (.tmp 41))⟩⟩,
     ⟨0, false, ⟨(some 43), none, .op (.load (some 33) (.tmp 11))⟩⟩,
     ⟨0, false, ⟨(some 44), none, .op (.build [.int .i64 0, .int .i32 0, .int .i64 0, .int .i32 0, .int .i32 0, .int .i32 0, .int .i32 0, .int .i32 0, .int .i32 0, .int .i32 0, .int .i32 0, .int .i32 0, .int .i32 0, .int .i32 0, .int .i32 0, .int .i32 0, .int .i32 0, .int .i32 0, .int .i32 0, .int .i32 0, .int .i32 0, .int .i32 0, .int .i32 0, .int .i32 0, .int .i32 0, .int .i32 0, .int .i32 0, .int .i32 0, .int .i32 0, .int .i32 0, .int .i32 0, .int .i32 0, .int .i32 0, .int .i32 0, .int .i32 0] [(0, 1, (.tmp 39)), (1, 1, (.tmp 42)), (2, 33, (.tmp 43))])⟩⟩,
     ⟨0, false, ⟨(some 45), none, .op (.mv (.tmp 12))⟩⟩,
     ⟨0, false, ⟨(some 4), none, .op (.mv (.tmp 37))⟩⟩,
     ⟨0, false, ⟨none, none, .op (.store 35 (.tmp 5) (.tmp 44))⟩⟩,
     ⟨0, false, ⟨(some 6), none, .op (.mv (.tmp 45))⟩⟩] [])
  (.ret)))))

def ac_fold_Back : AC :=
  .seq (.reg [⟨(some 2), none, .op (.mv (.const (.int .i32 0)))⟩])
  (.seq (.reg [⟨(some 3), none, .op (.mv (.tmp 0))⟩,
     ⟨(some 4), none, .op (.bin .shr (.tmp 3) (.const (.int .u64 1)))⟩,
     ⟨(some 5), none, .op (.conv (.int .i32) (.tmp 4))⟩,
     ⟨(some 6), none, .op (.mv (.tmp 0))⟩,
     ⟨(some 7), none, .op (.bin .and (.tmp 6) (.const (.int .u32 1)))⟩,
     ⟨(some 8), none, .op (.conv (.int .i32) (.tmp 7))⟩,
     ⟨(some 9), none, .op (.un .neg (.tmp 8))⟩,
     ⟨(some 10), none, .op (.bin .xor (.tmp 5) (.tmp 9))⟩,
     ⟨(some 2), none, .op (.mv (.tmp 10))⟩])
  (.ret))

def ac_mix_Undo (f_mix_check f_slices_Clone_int32_int32 f_mix_unmix : Nat) : AC :=
  .seq (.reg [⟨(some 4), none, .op (.mv (.const (.slice none 0 0)))⟩,
     ⟨(some 5), none, .op (.mv (.const (.int .i64 0)))⟩])
  (.seq (.seq (.reg [⟨(some 9), none, .op (.mv (.tmp 0))⟩,
      ⟨(some 10), none, .op (.mv (.tmp 1))⟩,
      ⟨(some 11), none, .call f_mix_check [(.tmp 9), (.tmp 10)]⟩,
      ⟨(some 6), none, .op (.mv (.tmp 11))⟩])
   (.seq (.reg [⟨(some 12), none, .op (.mv (.tmp 6))⟩,
      ⟨(some 13), none, .op (.bin .neq (.tmp 12) (.const (.int .i64 0)))⟩])
   (.cond (.tmp 13)
     (.seq (.reg [⟨(some 14), none, .op (.mv (.tmp 6))⟩,
        ⟨(some 4), none, .op (.mv (.const (.slice none 0 0)))⟩,
        ⟨(some 5), none, .op (.mv (.tmp 14))⟩])
     (.ret))
     (.skip))))
  (.seq (.reg [⟨(some 15), none, .op (.mv (.tmp 1))⟩,
     ⟨(some 16), none, .call f_slices_Clone_int32_int32 [(.tmp 15)]⟩,
     ⟨(some 7), none, .op (.mv (.tmp 16))⟩])
  (.seq (.seq (.reg [⟨(some 8), none, .op (.mv (.const (.int .i64 0)))⟩])
   (.block 0 (.loop (.seq (.seq (.reg [⟨(some 17), none, .op (.mv (.tmp 8))⟩,
         ⟨(some 18), none, .op (.mv (.tmp 7))⟩,
         ⟨(some 19), none, .op (.len none (.tmp 18))⟩,
         ⟨(some 20), none, .op (.bin .lss (.tmp 17) (.tmp 19))⟩])
      (.cond (.tmp 20)
        (.skip)
        (.exit 0)))
     (.seq (.block 1 (.reg [⟨(some 24), none, .op (.mv (.tmp 7))⟩,
         ⟨(some 25), none, .op (.mv (.tmp 8))⟩,
         ⟨(some 26), none, .op (.mv (.tmp 8))⟩,
         ⟨(some 27), none, .op (.mv (.tmp 0))⟩,
         ⟨(some 28), none, .op (.bin .add (.tmp 26) (.tmp 27))⟩,
         ⟨(some 29), none, .op (.slice 1 (.tmp 24) (some (.tmp 25)) (some (.tmp 28)) none)⟩,
         ⟨(some 30), none, .call f_mix_unmix [(.tmp 29)]⟩]))
     (.reg [⟨(some 21), none, .op (.mv (.tmp 8))⟩,
       ⟨(some 22), none, .op (.mv (.tmp 0))⟩,
       ⟨(some 23), none, .op (.bin .add (.tmp 21) (.tmp 22))⟩,
       ⟨(some 8), none, .op (.mv (.tmp 23))⟩]))))))
  (.seq (.reg [⟨(some 31), none, .op (.mv (.tmp 7))⟩,
     ⟨(some 4), none, .op (.mv (.tmp 31))⟩,
     ⟨(some 5), none, .op (.mv (.const (.int .i64 0)))⟩])
  (.ret)))))

def ac_cadenzaref19_Stepped (f_cadenzaref15_Stepped f_cadenzaref19_behind f_cadenzaref13_Wrap t0 t1 : Nat) : AC :=
  .seq (.reg [⟨(some 2), none, .op (.box t0 35 (.tmp 0))⟩,
     ⟨(some 4), none, .op (.mv (.const (.int .i32 0)))⟩,
     ⟨(some 5), none, .op (.alloc t0 [.int .i64 0, .int .i32 0, .int .i64 0, .int .i32 0, .int .i32 0, .int .i32 0, .int .i32 0, .int .i32 0, .int .i32 0, .int .i32 0, .int .i32 0, .int .i32 0, .int .i32 0, .int .i32 0, .int .i32 0, .int .i32 0, .int .i32 0, .int .i32 0, .int .i32 0, .int .i32 0, .int .i32 0, .int .i32 0, .int .i32 0, .int .i32 0, .int .i32 0, .int .i32 0, .int .i32 0, .int .i32 0, .int .i32 0, .int .i32 0, .int .i32 0, .int .i32 0, .int .i32 0, .int .i32 0, .int .i32 0])⟩])
  (.seq (.reg [⟨(some 10), none, .op (.faddr 2 (.tmp 2))⟩,
     ⟨(some 11), none, .op (.load (some 33) (.tmp 10))⟩,
     ⟨(some 12), none, .op (.mv (.tmp 1))⟩,
     ⟨(some 13), none, .call f_cadenzaref15_Stepped [(.tmp 11), (.tmp 12)]⟩,
     ⟨(some 9), none, .op (.mv (.tmp 13))⟩,
     ⟨(some 14), none, .op (.extract (.tmp 9) 0)⟩,
     ⟨(some 15), none, .op (.extract (.tmp 9) 1)⟩,
     ⟨(some 7), none, .op (.alloc t1 [.int .i64 0, .int .i32 0, .int .i32 0, .int .i32 0, .int .i32 0, .int .i32 0, .int .i32 0, .int .i32 0, .int .i32 0, .int .i32 0, .int .i32 0, .int .i32 0, .int .i32 0, .int .i32 0, .int .i32 0, .int .i32 0, .int .i32 0, .int .i32 0, .int .i32 0, .int .i32 0, .int .i32 0, .int .i32 0, .int .i32 0, .int .i32 0, .int .i32 0, .int .i32 0, .int .i32 0, .int .i32 0, .int .i32 0, .int .i32 0, .int .i32 0, .int .i32 0, .int .i32 0])⟩,
     ⟨(some 6), none, .op (.mv (.tmp 14))⟩,
     ⟨none, none, .op (.store 33 (.tmp 7) (.tmp 15))⟩])
  (.seq (.reg [⟨(some 16), none, .op (.mv (.tmp 6))⟩,
     ⟨(some 17), none, .op (.conv (.int .i64) (.tmp 16))⟩,
     ⟨(some 18), none, .op (.load (some 35) (.tmp 2))⟩,
     ⟨(some 19), none, .call f_cadenzaref19_behind [(.tmp 18)]⟩,
     ⟨(some 20), none, .op (.bin .add (.tmp 17) (.tmp 19))⟩,
     ⟨(some 21), none, .call f_cadenzaref13_Wrap [(.tmp 20)]⟩,
     ⟨(some 8), none, .op (.mv (.tmp 21))⟩])
  (.seq (.draw [⟨0, false, ⟨(some 22), none, .op (.mv (.tmp 8))⟩⟩,
     ⟨0, false, ⟨(some 23), none, .op (.faddr 0 (.tmp 2))⟩⟩,
     ⟨0, false, ⟨(some 24), none, .op (.load none (.tmp 23))⟩⟩,
     ⟨0, false, ⟨(some 25), none, .op (.mv (.tmp 8))⟩⟩,
     ⟨0, false, ⟨(some 26), none, .op (.load (some 33) (.tmp 7))⟩⟩,
     ⟨0, false, ⟨(some 27), none, .op (.build [.int .i64 0, .int .i32 0, .int .i64 0, .int .i32 0, .int .i32 0, .int .i32 0, .int .i32 0, .int .i32 0, .int .i32 0, .int .i32 0, .int .i32 0, .int .i32 0, .int .i32 0, .int .i32 0, .int .i32 0, .int .i32 0, .int .i32 0, .int .i32 0, .int .i32 0, .int .i32 0, .int .i32 0, .int .i32 0, .int .i32 0, .int .i32 0, .int .i32 0, .int .i32 0, .int .i32 0, .int .i32 0, .int .i32 0, .int .i32 0, .int .i32 0, .int .i32 0, .int .i32 0, .int .i32 0, .int .i32 0] [(0, 1, (.tmp 24)), (1, 1, (.tmp 25)), (2, 33, (.tmp 26))])⟩⟩,
     ⟨0, false, ⟨(some 4), none, .op (.mv (.tmp 22))⟩⟩,
     ⟨0, false, ⟨none, none, .op (.store 35 (.tmp 5) (.tmp 27))⟩⟩] [])
  (.ret))))

def ac_cadenzaref05_Back : AC :=
  .seq (.reg [⟨(some 2), none, .op (.mv (.const (.int .i32 0)))⟩])
  (.seq (.seq (.reg [⟨(some 3), none, .op (.mv (.tmp 0))⟩,
      ⟨(some 4), none, .op (.bin .rem (.tmp 3) (.const (.int .u32 2)))⟩,
      ⟨(some 5), none, .op (.bin .eql (.tmp 4) (.const (.int .u32 0)))⟩])
   (.cond (.tmp 5)
     (.seq (.reg [⟨(some 6), none, .op (.mv (.tmp 0))⟩,
        ⟨(some 7), none, .op (.bin .quo (.tmp 6) (.const (.int .u32 2)))⟩,
        ⟨(some 8), none, .op (.conv (.int .i32) (.tmp 7))⟩,
        ⟨(some 2), none, .op (.mv (.tmp 8))⟩])
     (.ret))
     (.skip)))
  (.seq (.reg [⟨(some 9), none, .op (.mv (.tmp 0))⟩,
     ⟨(some 10), none, .op (.conv (.int .i64) (.tmp 9))⟩,
     ⟨(some 11), none, .op (.bin .add (.tmp 10) (.const (.int .i64 1)))⟩,
     ⟨(some 12), none, .op (.un .neg (.tmp 11))⟩,
     ⟨(some 13), none, .op (.bin .quo (.tmp 12) (.const (.int .i64 2)))⟩,
     ⟨(some 14), none, .op (.conv (.int .i32) (.tmp 13))⟩,
     ⟨(some 2), none, .op (.mv (.tmp 14))⟩])
  (.ret)))

def ac_cadenzaref17_Undo (f_cadenzaref17_Check f_cadenzaref17_Unmixed t0 : Nat) : AC :=
  .seq (.reg [⟨(some 4), none, .op (.mv (.const (.slice none 0 0)))⟩,
     ⟨(some 5), none, .op (.mv (.const (.int .i64 0)))⟩])
  (.seq (.seq (.reg [⟨(some 8), none, .op (.mv (.tmp 0))⟩,
      ⟨(some 9), none, .op (.mv (.tmp 1))⟩,
      ⟨(some 10), none, .call f_cadenzaref17_Check [(.tmp 8), (.tmp 9)]⟩,
      ⟨(some 11), none, .op (.bin .neq (.tmp 10) (.const (.int .i64 0)))⟩])
   (.cond (.tmp 11)
     (.seq (.reg [⟨(some 12), none, .op (.mv (.tmp 0))⟩,
        ⟨(some 13), none, .op (.mv (.tmp 1))⟩,
        ⟨(some 14), none, .call f_cadenzaref17_Check [(.tmp 12), (.tmp 13)]⟩,
        ⟨(some 4), none, .op (.mv (.const (.slice none 0 0)))⟩,
        ⟨(some 5), none, .op (.mv (.tmp 14))⟩])
     (.ret))
     (.skip)))
  (.seq (.reg [⟨(some 6), none, .op (.mv (.const (.slice none 0 0)))⟩])
  (.seq (.seq (.reg [⟨(some 7), none, .op (.mv (.const (.int .i64 0)))⟩])
   (.block 0 (.loop (.seq (.seq (.reg [⟨(some 15), none, .op (.mv (.tmp 7))⟩,
         ⟨(some 16), none, .op (.mv (.tmp 1))⟩,
         ⟨(some 17), none, .op (.len none (.tmp 16))⟩,
         ⟨(some 18), none, .op (.bin .lss (.tmp 15) (.tmp 17))⟩])
      (.cond (.tmp 18)
        (.skip)
        (.exit 0)))
     (.seq (.block 1 (.reg [⟨(some 22), none, .op (.mv (.tmp 6))⟩,
         ⟨(some 23), none, .op (.mv (.tmp 1))⟩,
         ⟨(some 24), none, .op (.mv (.tmp 7))⟩,
         ⟨(some 25), none, .op (.mv (.tmp 7))⟩,
         ⟨(some 26), none, .op (.mv (.tmp 0))⟩,
         ⟨(some 27), none, .op (.bin .add (.tmp 25) (.tmp 26))⟩,
         ⟨(some 28), none, .op (.slice 1 (.tmp 23) (some (.tmp 24)) (some (.tmp 27)) none)⟩,
         ⟨(some 29), none, .call f_cadenzaref17_Unmixed [(.tmp 28)]⟩,
         ⟨(some 30), none, .op (.append t0 1 4 false (.tmp 22) (.tmp 29))⟩,
         ⟨(some 6), none, .op (.mv (.tmp 30))⟩]))
     (.reg [⟨(some 19), none, .op (.mv (.tmp 7))⟩,
       ⟨(some 20), none, .op (.mv (.tmp 0))⟩,
       ⟨(some 21), none, .op (.bin .add (.tmp 19) (.tmp 20))⟩,
       ⟨(some 7), none, .op (.mv (.tmp 21))⟩]))))))
  (.seq (.reg [⟨(some 31), none, .op (.mv (.tmp 6))⟩,
     ⟨(some 4), none, .op (.mv (.tmp 31))⟩,
     ⟨(some 5), none, .op (.mv (.const (.int .i64 0)))⟩])
  (.ret)))))

def ac_slices_IndexFunc_byte_byte : AC :=
  .seq (.reg [⟨(some 4), none, .op (.mv (.const (.int .i64 0)))⟩])
  (.seq (.seq (.reg [⟨(some 6), none, .op (.mv (.tmp 0))⟩,
      ⟨(some 7), none, .op (.len none (.tmp 6))⟩,
      ⟨(some 8), none, .op (.mv (.const (.int .i64 0)))⟩])
   (.block 0 (.loop (.seq (.reg [⟨(some 9), none, .op (.bin .lss (.tmp 8) (.tmp 7))⟩])
     (.seq (.cond (.tmp 9)
        (.skip)
        (.exit 0))
     (.seq (.block 1 (.seq (.reg [⟨(some 10), none, .op (.mv (.tmp 8))⟩,
          ⟨(some 5), none, .op (.mv (.tmp 10))⟩])
       (.seq (.reg [⟨(some 11), none, .op (.mv (.tmp 1))⟩,
          ⟨(some 12), none, .op (.mv (.tmp 0))⟩,
          ⟨(some 13), none, .op (.mv (.tmp 5))⟩,
          ⟨(some 14), none, .op (.iaddr (.slice 1) (.tmp 12) (.tmp 13))⟩,
          ⟨(some 15), none, .op (.load none (.tmp 14))⟩,
          ⟨(some 16), none, .callv 11 [(.tmp 15)]⟩])
       (.cond (.tmp 16)
         (.seq (.reg [⟨(some 17), none, .op (.mv (.tmp 5))⟩,
            ⟨(some 4), none, .op (.mv (.tmp 17))⟩])
         (.ret))
         (.skip)))))
     (.reg [⟨(some 18), none, .op (.bin .add (.tmp 8) (.const (.int .i64 1)))⟩,
       ⟨(some 8), none, .op (.mv (.tmp 18))⟩])))))))
  (.seq (.reg [⟨(some 4), none, .op (.mv (.const (.int .i64 (-1))))⟩])
  (.ret)))

def ac_first_Shift : AC :=
  .seq (.reg [⟨(some 2), none, .op (.mv (.const (.int .i64 0)))⟩,
     ⟨(some 3), none, .op (.mv (.const (.int .i64 0)))⟩])
  (.seq (.seq (.reg [⟨(some 4), none, .op (.mv (.tmp 0))⟩])
   (.block 0 (.seq (.reg [⟨(some 6), none, .op (.bin .eql (.tmp 4) (.const (.int .i64 8)))⟩,
       ⟨(some 5), none, .op (.mv (.tmp 6))⟩])
    (.cond (.tmp 5)
      (.seq (.reg [⟨(some 2), none, .op (.mv (.const (.int .i64 4)))⟩,
         ⟨(some 3), none, .op (.mv (.const (.int .i64 0)))⟩])
      (.ret))
      (.seq (.seq (.reg [⟨(some 8), none, .op (.bin .eql (.tmp 4) (.const (.int .i64 16)))⟩,
          ⟨(some 7), none, .op (.mv (.tmp 8))⟩])
       (.cond (.tmp 7)
         (.skip)
         (.reg [⟨(some 9), none, .op (.bin .eql (.tmp 4) (.const (.int .i64 24)))⟩,
           ⟨(some 7), none, .op (.mv (.tmp 9))⟩])))
      (.cond (.tmp 7)
        (.seq (.reg [⟨(some 2), none, .op (.mv (.const (.int .i64 5)))⟩,
           ⟨(some 3), none, .op (.mv (.const (.int .i64 0)))⟩])
        (.ret))
        (.skip)))))))
  (.seq (.reg [⟨(some 2), none, .op (.mv (.const (.int .i64 0)))⟩,
     ⟨(some 3), none, .op (.mv (.const (.int .i64 2)))⟩])
  (.ret)))

def ac_first_guess : AC :=
  .seq (.reg [⟨(some 4), none, .op (.mv (.const (.int .i32 0)))⟩])
  (.seq (.reg [⟨(some 6), none, .op (.mv (.tmp 1))⟩,
     ⟨(some 7), none, .op (.conv (.int .i64) (.tmp 6))⟩,
     ⟨(some 5), none, .op (.mv (.tmp 7))⟩])
  (.seq (.reg [⟨(some 8), none, .op (.mv (.tmp 5))⟩,
     ⟨(some 9), none, .op (.mv (.tmp 0))⟩,
     ⟨(some 10), none, .op (.bin .shl (.tmp 8) (.tmp 9))⟩,
     ⟨(some 11), none, .op (.mv (.tmp 5))⟩,
     ⟨(some 12), none, .op (.bin .sub (.tmp 10) (.tmp 11))⟩,
     ⟨(some 13), none, .op (.mv (.tmp 0))⟩,
     ⟨(some 14), none, .op (.bin .shr (.tmp 12) (.tmp 13))⟩,
     ⟨(some 15), none, .op (.conv (.int .i32) (.tmp 14))⟩,
     ⟨(some 4), none, .op (.mv (.tmp 15))⟩])
  (.ret)))

def ac_taps_Guess (f_taps_Check t0 : Nat) : AC :=
  .seq (.reg [⟨(some 1), none, .op (.box t0 33 (.tmp 0))⟩,
     ⟨(some 2), none, .op (.mv (.const (.int .i32 0)))⟩,
     ⟨(some 3), none, .op (.mv (.const (.int .i64 0)))⟩])
  (.seq (.seq (.reg [⟨(some 8), none, .op (.load (some 33) (.tmp 1))⟩,
      ⟨(some 9), none, .call f_taps_Check [(.tmp 8)]⟩,
      ⟨(some 4), none, .op (.mv (.tmp 9))⟩])
   (.seq (.reg [⟨(some 10), none, .op (.mv (.tmp 4))⟩,
      ⟨(some 11), none, .op (.bin .neq (.tmp 10) (.const (.int .i64 0)))⟩])
   (.cond (.tmp 11)
     (.seq (.reg [⟨(some 12), none, .op (.mv (.tmp 4))⟩,
        ⟨(some 2), none, .op (.mv (.const (.int .i32 0)))⟩,
        ⟨(some 3), none, .op (.mv (.tmp 12))⟩])
     (.ret))
     (.skip))))
  (.seq (.reg [⟨(some 13), none, .op (.faddr 0 (.tmp 1))⟩,
     ⟨(some 14), none, .op (.load none (.tmp 13))⟩,
     ⟨(some 15), none, .op (.bin .sub (.tmp 14) (.const (.int .i64 1)))⟩,
     ⟨(some 16), none, .op (.bin .shl (.const (.int .i32 1)) (.tmp 15))⟩,
     ⟨(some 5), none, .op (.mv (.tmp 16))⟩])
  (.seq (.seq (.reg [⟨(some 17), none, .op (.faddr 1 (.tmp 1))⟩,
      ⟨(some 18), none, .op (.load (some 16) (.tmp 17))⟩,
      ⟨(some 19), none, .op (.mv (.const (.int .i64 0)))⟩])
   (.block 0 (.loop (.seq (.reg [⟨(some 20), none, .op (.bin .lss (.tmp 19) (.const (.int .i64 16)))⟩])
     (.seq (.cond (.tmp 20)
        (.skip)
        (.exit 0))
     (.seq (.block 1 (.seq (.reg [⟨(some 21), none, .op (.mv (.tmp 19))⟩,
          ⟨(some 22), none, .op (.index (.arr 16 1 none) (.tmp 18) (.tmp 19))⟩,
          ⟨(some 6), none, .op (.mv (.tmp 21))⟩,
          ⟨(some 7), none, .op (.mv (.tmp 22))⟩])
       (.reg [⟨(some 23), none, .op (.mv (.tmp 5))⟩,
         ⟨(some 24), none, .op (.mv (.tmp 7))⟩,
         ⟨(some 25), none, .op (.mv (.tmp 6))⟩,
         ⟨(some 26), none, .op (.faddr 17 (.tmp 1))⟩,
         ⟨(some 27), none, .op (.iaddr (.arr 16 1) (.tmp 26) (.tmp 25))⟩,
         ⟨(some 28), none, .op (.load none (.tmp 27))⟩,
         ⟨(some 29), none, .op (.bin .mul (.tmp 24) (.tmp 28))⟩,
         ⟨(some 30), none, .op (.bin .add (.tmp 23) (.tmp 29))⟩,
         ⟨(some 5), none, .op (.mv (.tmp 30))⟩])))
     (.reg [⟨(some 31), none, .op (.bin .add (.tmp 19) (.const (.int .i64 1)))⟩,
       ⟨(some 19), none, .op (.mv (.tmp 31))⟩])))))))
  (.seq (.reg [⟨(some 32), none, .op (.mv (.tmp 5))⟩,
     ⟨(some 33), none, .op (.faddr 0 (.tmp 1))⟩,
     ⟨(some 34), none, .op (.load none (.tmp 33))⟩,
     ⟨(some 35), none, .op (.bin .shr (.tmp 32) (.tmp 34))⟩,
     ⟨(some 2), none, .op (.mv (.tmp 35))⟩,
     ⟨(some 3), none, .op (.mv (.const (.int .i64 0)))⟩])
  (.ret)))))

def ac_lms_behind (f_taps_Learn f_taps_Push t0 : Nat) : AC :=
  .seq (.reg [⟨(some 3), none, .op (.box t0 33 (.tmp 0))⟩,
     ⟨(some 6), none, .op (.alloc t0 [.int .i64 0, .int .i32 0, .int .i32 0, .int .i32 0, .int .i32 0, .int .i32 0, .int .i32 0, .int .i32 0, .int .i32 0, .int .i32 0, .int .i32 0, .int .i32 0, .int .i32 0, .int .i32 0, .int .i32 0, .int .i32 0, .int .i32 0, .int .i32 0, .int .i32 0, .int .i32 0, .int .i32 0, .int .i32 0, .int .i32 0, .int .i32 0, .int .i32 0, .int .i32 0, .int .i32 0, .int .i32 0, .int .i32 0, .int .i32 0, .int .i32 0, .int .i32 0, .int .i32 0])⟩])
  (.seq (.reg [⟨(some 8), none, .op (.load (some 33) (.tmp 3))⟩,
     ⟨(some 9), none, .op (.mv (.tmp 2))⟩,
     ⟨(some 10), none, .call f_taps_Learn [(.tmp 8), (.tmp 9)]⟩,
     ⟨(some 7), none, .op (.mv (.tmp 10))⟩,
     ⟨(some 11), none, .op (.extract (.tmp 7) 0)⟩,
     ⟨(some 12), none, .op (.extract (.tmp 7) 1)⟩,
     ⟨none, none, .op (.store 33 (.tmp 3) (.tmp 11))⟩])
  (.seq (.reg [⟨(some 14), none, .op (.load (some 33) (.tmp 3))⟩,
     ⟨(some 15), none, .op (.mv (.tmp 1))⟩,
     ⟨(some 16), none, .call f_taps_Push [(.tmp 14), (.tmp 15)]⟩,
     ⟨(some 13), none, .op (.mv (.tmp 16))⟩,
     ⟨(some 17), none, .op (.extract (.tmp 13) 0)⟩,
     ⟨(some 18), none, .op (.extract (.tmp 13) 1)⟩,
     ⟨none, none, .op (.store 33 (.tmp 3) (.tmp 17))⟩])
  (.seq (.reg [⟨(some 19), none, .op (.load (some 33) (.tmp 3))⟩,
     ⟨none, none, .op (.store 33 (.tmp 6) (.tmp 19))⟩])
  (.ret))))

def ac_cadenzaref17_Check : AC :=
  .seq (.reg [⟨(some 4), none, .op (.mv (.const (.int .i64 0)))⟩])
  (.seq (.seq (.reg [⟨(some 5), none, .op (.mv (.tmp 0))⟩,
      ⟨(some 6), none, .op (.bin .lss (.tmp 5) (.const (.int .i64 1)))⟩,
      ⟨(some 7), none, .op (.mv (.tmp 6))⟩,
      ⟨(some 8), (some (7, false)), .op (.mv (.tmp 0))⟩,
      ⟨(some 9), (some (7, false)), .op (.bin .gtr (.tmp 8) (.const (.int .i64 6)))⟩,
      ⟨(some 10), none, .op (.pick (.tmp 7) (.const (.bool true)) (.tmp 9))⟩])
   (.cond (.tmp 10)
     (.seq (.reg [⟨(some 4), none, .op (.mv (.const (.int .i64 2)))⟩])
     (.ret))
     (.skip)))
  (.seq (.seq (.reg [⟨(some 11), none, .op (.mv (.tmp 1))⟩,
      ⟨(some 12), none, .op (.len none (.tmp 11))⟩,
      ⟨(some 13), none, .op (.bin .gtr (.tmp 12) (.const (.int .i64 4000)))⟩])
   (.cond (.tmp 13)
     (.seq (.reg [⟨(some 4), none, .op (.mv (.const (.int .i64 4)))⟩])
     (.ret))
     (.skip)))
  (.seq (.seq (.reg [⟨(some 14), none, .op (.mv (.tmp 1))⟩,
      ⟨(some 15), none, .op (.len none (.tmp 14))⟩,
      ⟨(some 16), none, .op (.mv (.tmp 0))⟩,
      ⟨(some 17), none, .op (.bin .rem (.tmp 15) (.tmp 16))⟩,
      ⟨(some 18), none, .op (.bin .gtr (.tmp 17) (.const (.int .i64 0)))⟩])
   (.cond (.tmp 18)
     (.seq (.reg [⟨(some 4), none, .op (.mv (.const (.int .i64 2)))⟩])
     (.ret))
     (.skip)))
  (.seq (.reg [⟨(some 4), none, .op (.mv (.const (.int .i64 0)))⟩])
  (.ret)))))

def ac_cadenzaref17_Mixed (f_cadenzaref13_Wrap t0 : Nat) : AC :=
  .seq (.reg [⟨(some 2), none, .op (.mv (.const (.slice none 0 0)))⟩])
  (.seq (.reg [⟨(some 3), none, .op (.mv (.const (.slice none 0 0)))⟩])
  (.seq (.reg [⟨(some 6), none, .op (.mv (.tmp 0))⟩,
     ⟨(some 7), none, .op (.len none (.tmp 6))⟩,
     ⟨(some 4), none, .op (.mv (.tmp 7))⟩])
  (.seq (.seq (.reg [⟨(some 5), none, .op (.mv (.const (.int .i64 0)))⟩])
   (.block 0 (.loop (.seq (.seq (.reg [⟨(some 8), none, .op (.mv (.tmp 5))⟩,
         ⟨(some 9), none, .op (.mv (.tmp 4))⟩,
         ⟨(some 10), none, .op (.bin .lss (.tmp 8) (.tmp 9))⟩])
      (.cond (.tmp 10)
        (.skip)
        (.exit 0)))
     (.seq (.block 1 (.block 2 (.seq (.reg [⟨(some 31), none, .op (.mv (.tmp 4))⟩,
           ⟨(some 32), none, .op (.bin .eql (.tmp 31) (.const (.int .i64 1)))⟩,
           ⟨(some 30), none, .op (.mv (.tmp 32))⟩])
        (.cond (.tmp 30)
          (.reg [⟨(some 33), none, .op (.mv (.tmp 3))⟩,
            ⟨(some 34), none, .op (.mv (.tmp 0))⟩,
            ⟨(some 35), none, .op (.iaddr (.slice 1) (.tmp 34) (.const (.int .i64 0)))⟩,
            ⟨(some 36), none, .op (.load none (.tmp 35))⟩,
            ⟨(some 37), none, .op (.bslice t0 1 1 [.int .i32 0] [(0, 1, (.tmp 36))])⟩,
            ⟨(some 38), none, .op (.append t0 1 4 false (.tmp 33) (.tmp 37))⟩,
            ⟨(some 3), none, .op (.mv (.tmp 38))⟩])
          (.seq (.reg [⟨(some 40), none, .op (.mv (.tmp 5))⟩,
             ⟨(some 41), none, .op (.mv (.tmp 4))⟩,
             ⟨(some 42), none, .op (.bin .sub (.tmp 41) (.const (.int .i64 1)))⟩,
             ⟨(some 43), none, .op (.bin .lss (.tmp 40) (.tmp 42))⟩,
             ⟨(some 39), none, .op (.mv (.tmp 43))⟩])
          (.cond (.tmp 39)
            (.draw [⟨0, false, ⟨(some 44), none, .op (.mv (.tmp 3))⟩⟩,
              ⟨0, false, ⟨(some 45), none, .op (.mv (.tmp 0))⟩⟩,
              ⟨0, false, ⟨(some 46), none, .op (.mv (.tmp 5))⟩⟩,
              ⟨0, false, ⟨(some 47), none, .op (.bin .add (.tmp 46) (.const (.int .i64 1)))⟩⟩,
              ⟨0, false, ⟨(some 48), none, .op (.iaddr (.slice 1) (.tmp 45) (.tmp 47))⟩⟩,
              ⟨0, false, ⟨(some 49), none, .op (.load none (.tmp 48))⟩⟩,
              ⟨0, false, ⟨(some 50), none, .op (.conv (.int .i64) (.tmp 49))⟩⟩,
              ⟨0, false, ⟨(some 51), none, .op (.mv (.tmp 0))⟩⟩,
              ⟨0, false, ⟨(some 52), none, .op (.mv (.tmp 5))⟩⟩,
              ⟨0, false, ⟨(some 53), none, .op (.iaddr (.slice 1) (.tmp 51) (.tmp 52))⟩⟩,
              ⟨0, false, ⟨(some 54), none, .op (.load none (.tmp 53))⟩⟩,
              ⟨0, false, ⟨(some 55), none, .op (.conv (.int .i64) (.tmp 54))⟩⟩,
              ⟨0, false, ⟨(some 56), none, .op (.bin .sub (.tmp 50) (.tmp 55))⟩⟩,
              ⟨0, false, ⟨(some 57), none, .call f_cadenzaref13_Wrap [(.tmp 56)]⟩⟩,
              ⟨0, false, ⟨(some 58), none, .op (.bslice t0 1 1 [.int .i32 0] [(0, 1, (.tmp 57))])⟩⟩,
              ⟨1, false, ⟨(some 59), none, .op (.append t0 1 4 false (.tmp 44) (.tmp 58))⟩⟩,
              ⟨2, false, ⟨(some 3), none, .op (.mv (.tmp 59))⟩⟩] [ph, ph])
            (.draw [⟨0, false, ⟨(some 13), none, .op (.mv (.tmp 3))⟩⟩,
              ⟨0, false, ⟨(some 14), none, .op (.mv (.tmp 0))⟩⟩,
              ⟨0, false, ⟨(some 15), none, .op (.mv (.tmp 5))⟩⟩,
              ⟨0, false, ⟨(some 16), none, .op (.iaddr (.slice 1) (.tmp 14) (.tmp 15))⟩⟩,
              ⟨0, false, ⟨(some 17), none, .op (.load none (.tmp 16))⟩⟩,
              ⟨0, false, ⟨(some 18), none, .op (.conv (.int .i64) (.tmp 17))⟩⟩,
              ⟨0, false, ⟨(some 19), none, .op (.mv (.tmp 3))⟩⟩,
              ⟨0, false, ⟨(some 20), none, .op (.mv (.tmp 5))⟩⟩,
              ⟨0, false, ⟨(some 21), none, .op (.bin .sub (.tmp 20) (.const (.int .i64 1)))⟩⟩,
              ⟨0, false, ⟨(some 22), none, .op (.iaddr (.slice 1) (.tmp 19) (.tmp 21))⟩⟩,
              ⟨0, false, ⟨(some 23), none, .op (.load none (.tmp 22))⟩⟩,
              ⟨0, false, ⟨(some 24), none, .op (.conv (.int .i64) (.tmp 23))⟩⟩,
              ⟨0, false, ⟨(some 25), none, .op (.bin .quo (.tmp 24) (.const (.int .i64 2)))⟩⟩,
              ⟨0, false, ⟨(some 26), none, .op (.bin .sub (.tmp 18) (.tmp 25))⟩⟩,
              ⟨0, false, ⟨(some 27), none, .call f_cadenzaref13_Wrap [(.tmp 26)]⟩⟩,
              ⟨0, false, ⟨(some 28), none, .op (.bslice t0 1 1 [.int .i32 0] [(0, 1, (.tmp 27))])⟩⟩,
              ⟨1, false, ⟨(some 29), none, .op (.append t0 1 4 false (.tmp 13) (.tmp 28))⟩⟩,
              ⟨2, false, ⟨(some 3), none, .op (.mv (.tmp 29))⟩⟩] [ph, ph])))))))
     (.reg [⟨(some 11), none, .op (.mv (.tmp 5))⟩,
       ⟨(some 12), none, .op (.bin .add (.tmp 11) (.const (.int .i64 1)))⟩,
       ⟨(some 5), none, .op (.mv (.tmp 12))⟩]))))))
  (.seq (.reg [⟨(some 60), none, .op (.mv (.tmp 3))⟩,
     ⟨(some 2), none, .op (.mv (.tmp 60))⟩])
  (.ret)))))

def ac_cadenzaref14_New (f_cadenzaref13_Shift t0 t1 : Nat) : AC :=
  .seq (.reg [⟨(some 3), none, .op (.box t0 16 (.tmp 1))⟩,
     ⟨(some 4), none, .op (.alloc t1 [.int .i64 0, .int .i32 0, .int .i32 0, .int .i32 0, .int .i32 0, .int .i32 0, .int .i32 0, .int .i32 0, .int .i32 0, .int .i32 0, .int .i32 0, .int .i32 0, .int .i32 0, .int .i32 0, .int .i32 0, .int .i32 0, .int .i32 0, .int .i32 0, .int .i32 0, .int .i32 0, .int .i32 0, .int .i32 0, .int .i32 0, .int .i32 0, .int .i32 0, .int .i32 0, .int .i32 0, .int .i32 0, .int .i32 0, .int .i32 0, .int .i32 0, .int .i32 0, .int .i32 0])⟩,
     ⟨(some 5), none, .op (.mv (.const (.int .i64 0)))⟩])
  (.seq (.seq (.reg [⟨(some 10), none, .op (.mv (.tmp 0))⟩,
      ⟨(some 11), none, .call f_cadenzaref13_Shift [(.tmp 10)]⟩,
      ⟨(some 9), none, .op (.mv (.tmp 11))⟩,
      ⟨(some 12), none, .op (.extract (.tmp 9) 0)⟩,
      ⟨(some 13), none, .op (.extract (.tmp 9) 1)⟩,
      ⟨(some 6), none, .op (.mv (.tmp 12))⟩,
      ⟨(some 7), none, .op (.mv (.tmp 13))⟩])
   (.seq (.reg [⟨(some 14), none, .op (.mv (.tmp 7))⟩,
      ⟨(some 15), none, .op (.bin .neq (.tmp 14) (.const (.int .i64 0)))⟩])
   (.cond (.tmp 15)
     (.seq (.reg [⟨(some 16), none, .op (.build [.int .i64 0, .int .i32 0, .int .i32 0, .int .i32 0, .int .i32 0, .int .i32 0, .int .i32 0, .int .i32 0, .int .i32 0, .int .i32 0, .int .i32 0, .int .i32 0, .int .i32 0, .int .i32 0, .int .i32 0, .int .i32 0, .int .i32 0, .int .i32 0, .int .i32 0, .int .i32 0, .int .i32 0, .int .i32 0, .int .i32 0, .int .i32 0, .int .i32 0, .int .i32 0, .int .i32 0, .int .i32 0, .int .i32 0, .int .i32 0, .int .i32 0, .int .i32 0, .int .i32 0] [])⟩,
        ⟨none, none, .op (.store 33 (.tmp 4) (.tmp 16))⟩,
        ⟨(some 5), none, .op (.mv (.const (.int .i64 2)))⟩])
     (.ret))
     (.skip))))
  (.seq (.reg [⟨(some 8), none, .op (.mv (.const (.int .i64 10)))⟩])
  (.seq (.seq (.reg [⟨(some 17), none, .op (.mv (.tmp 0))⟩,
      ⟨(some 18), none, .op (.bin .eql (.tmp 17) (.const (.int .i64 16)))⟩])
   (.cond (.tmp 18)
     (.reg [⟨(some 8), none, .op (.mv (.const (.int .i64 9)))⟩])
     (.skip)))
  (.seq (.reg [⟨(some 19), none, .op (.mv (.tmp 8))⟩,
     ⟨(some 20), none, .op (.load (some 16) (.tmp 3))⟩,
     ⟨(some 21), none, .op (.build [.int .i64 0, .int .i32 0, .int .i32 0, .int .i32 0, .int .i32 0, .int .i32 0, .int .i32 0, .int .i32 0, .int .i32 0, .int .i32 0, .int .i32 0, .int .i32 0, .int .i32 0, .int .i32 0, .int .i32 0, .int .i32 0, .int .i32 0, .int .i32 0, .int .i32 0, .int .i32 0, .int .i32 0, .int .i32 0, .int .i32 0, .int .i32 0, .int .i32 0, .int .i32 0, .int .i32 0, .int .i32 0, .int .i32 0, .int .i32 0, .int .i32 0, .int .i32 0, .int .i32 0] [(0, 1, (.tmp 19)), (1, 16, (.tmp 20))])⟩,
     ⟨none, none, .op (.store 33 (.tmp 4) (.tmp 21))⟩,
     ⟨(some 5), none, .op (.mv (.const (.int .i64 0)))⟩])
  (.ret)))))

def ac_cadenzaref13_Wrap : AC :=
  .seq (.reg [⟨(some 2), none, .op (.mv (.const (.int .i32 0)))⟩])
  (.seq (.reg [⟨(some 3), none, .op (.mv (.tmp 0))⟩,
     ⟨(some 4), none, .op (.conv (.int .u64) (.tmp 3))⟩,
     ⟨(some 5), none, .op (.conv (.int .u32) (.tmp 4))⟩,
     ⟨(some 6), none, .op (.conv (.int .i32) (.tmp 5))⟩,
     ⟨(some 2), none, .op (.mv (.tmp 6))⟩])
  (.ret))

def ac_cadenzaref19_behind (f_cadenzaref13_Behind t0 : Nat) : AC :=
  .seq (.reg [⟨(some 1), none, .op (.box t0 35 (.tmp 0))⟩,
     ⟨(some 2), none, .op (.mv (.const (.int .i64 0)))⟩])
  (.seq (.reg [⟨(some 3), none, .op (.mv (.const (.int .i64 5)))⟩])
  (.seq (.seq (.reg [⟨(some 4), none, .op (.faddr 0 (.tmp 1))⟩,
      ⟨(some 5), none, .op (.load none (.tmp 4))⟩,
      ⟨(some 6), none, .op (.bin .eql (.tmp 5) (.const (.int .i64 8)))⟩])
   (.cond (.tmp 6)
     (.reg [⟨(some 3), none, .op (.mv (.const (.int .i64 4)))⟩])
     (.skip)))
  (.seq (.reg [⟨(some 7), none, .op (.mv (.tmp 3))⟩,
     ⟨(some 8), none, .op (.faddr 1 (.tmp 1))⟩,
     ⟨(some 9), none, .op (.load none (.tmp 8))⟩,
     ⟨(some 10), none, .call f_cadenzaref13_Behind [(.tmp 7), (.tmp 9)]⟩,
     ⟨(some 11), none, .op (.conv (.int .i64) (.tmp 10))⟩,
     ⟨(some 2), none, .op (.mv (.tmp 11))⟩])
  (.ret))))

def ac_cadenzaref15_Step (f_cadenzaref14_Told f_cadenzaref13_Wrap f_cadenzaref14_Learned f_cadenzaref14_Pushed t0 : Nat) : AC :=
  .seq (.reg [⟨(some 2), none, .op (.box t0 33 (.tmp 0))⟩,
     ⟨(some 4), none, .op (.mv (.const (.int .i32 0)))⟩,
     ⟨(some 5), none, .op (.alloc t0 [.int .i64 0, .int .i32 0, .int .i32 0, .int .i32 0, .int .i32 0, .int .i32 0, .int .i32 0, .int .i32 0, .int .i32 0, .int .i32 0, .int .i32 0, .int .i32 0, .int .i32 0, .int .i32 0, .int .i32 0, .int .i32 0, .int .i32 0, .int .i32 0, .int .i32 0, .int .i32 0, .int .i32 0, .int .i32 0, .int .i32 0, .int .i32 0, .int .i32 0, .int .i32 0, .int .i32 0, .int .i32 0, .int .i32 0, .int .i32 0, .int .i32 0, .int .i32 0, .int .i32 0])⟩])
  (.seq (.reg [⟨(some 7), none, .op (.mv (.tmp 1))⟩,
     ⟨(some 8), none, .op (.conv (.int .i64) (.tmp 7))⟩,
     ⟨(some 9), none, .op (.load (some 33) (.tmp 2))⟩,
     ⟨(some 10), none, .call f_cadenzaref14_Told [(.tmp 9)]⟩,
     ⟨(some 11), none, .op (.conv (.int .i64) (.tmp 10))⟩,
     ⟨(some 12), none, .op (.bin .sub (.tmp 8) (.tmp 11))⟩,
     ⟨(some 13), none, .call f_cadenzaref13_Wrap [(.tmp 12)]⟩,
     ⟨(some 6), none, .op (.mv (.tmp 13))⟩])
  (.seq (.reg [⟨(some 14), none, .op (.mv (.tmp 6))⟩,
     ⟨(some 15), none, .op (.load (some 33) (.tmp 2))⟩,
     ⟨(some 16), none, .op (.mv (.tmp 6))⟩,
     ⟨(some 17), none, .call f_cadenzaref14_Learned [(.tmp 15), (.tmp 16)]⟩,
     ⟨(some 18), none, .op (.mv (.tmp 1))⟩,
     ⟨(some 19), none, .call f_cadenzaref14_Pushed [(.tmp 17), (.tmp 18)]⟩,
     ⟨(some 4), none, .op (.mv (.tmp 14))⟩,
     ⟨none, none, .op (.store 33 (.tmp 5) (.tmp 19))⟩])
  (.ret)))

def ac_lms_Back (f_taps_Guess f_lms_behind t0 : Nat) : AC :=
  .seq (.reg [⟨(some 2), none, .op (.box t0 33 (.tmp 0))⟩,
     ⟨(some 4), none, .op (.mv (.const (.int .i32 0)))⟩,
     ⟨(some 5), none, .op (.alloc t0 [.int .i64 0, .int .i32 0, .int .i32 0, .int .i32 0, .int .i32 0, .int .i32 0, .int .i32 0, .int .i32 0, .int .i32 0, .int .i32 0, .int .i32 0, .int .i32 0, .int .i32 0, .int .i32 0, .int .i32 0, .int .i32 0, .int .i32 0, .int .i32 0, .int .i32 0, .int .i32 0, .int .i32 0, .int .i32 0, .int .i32 0, .int .i32 0, .int .i32 0, .int .i32 0, .int .i32 0, .int .i32 0, .int .i32 0, .int .i32 0, .int .i32 0, .int .i32 0, .int .i32 0])⟩,
     ⟨(some 6), none, .op (.mv (.const (.int .i64 0)))⟩])
  (.seq (.reg [⟨(some 10), none, .op (.load (some 33) (.tmp 2))⟩,
     ⟨(some 11), none, .call f_taps_Guess [(.tmp 10)]⟩,
     ⟨(some 9), none, .op (.mv (.tmp 11))⟩,
     ⟨(some 12), none, .op (.extract (.tmp 9) 0)⟩,
     ⟨(some 13), none, .op (.extract (.tmp 9) 1)⟩,
     ⟨(some 7), none, .op (.mv (.tmp 12))⟩,
     ⟨(some 8), none, .op (.mv (.tmp 13))⟩])
  (.seq (.seq (.reg [⟨(some 14), none, .op (.mv (.tmp 8))⟩,
      ⟨(some 15), none, .op (.bin .neq (.tmp 14) (.const (.int .i64 0)))⟩])
   (.cond (.tmp 15)
     (.seq (.reg [⟨(some 16), none, .op (.build [.int .i64 0, .int .i32 0, .int .i32 0, .int .i32 0, .int .i32 0, .int .i32 0, .int .i32 0, .int .i32 0, .int .i32 0, .int .i32 0, .int .i32 0, .int .i32 0, .int .i32 0, .int .i32 0, .int .i32 0, .int .i32 0, .int .i32 0, .int .i32 0, .int .i32 0, .int .i32 0, .int .i32 0, .int .i32 0, .int .i32 0, .int .i32 0, .int .i32 0, .int .i32 0, .int .i32 0, .int .i32 0, .int .i32 0, .int .i32 0, .int .i32 0, .int .i32 0, .int .i32 0] [])⟩,
        ⟨(some 17), none, .op (.mv (.tmp 8))⟩,
        ⟨(some 4), none, .op (.mv (.const (.int .i32 0)))⟩,
        ⟨none, none, .op (.store 33 (.tmp 5) (.tmp 16))⟩,
        ⟨(some 6), none, .op (.mv (.tmp 17))⟩])
     (.ret))
     (.skip)))
  (.seq (.reg [⟨(some 18), none, .op (.mv (.tmp 1))⟩,
     ⟨(some 19), none, .op (.mv (.tmp 7))⟩,
     ⟨(some 20), none, .op (.bin .add (.tmp 18) (.tmp 19))⟩,
     ⟨(some 21), none, .op (.load (some 33) (.tmp 2))⟩,
     ⟨(some 22), none, .op (.mv (.tmp 1))⟩,
     ⟨(some 23), none, .op (.mv (.tmp 7))⟩,
     ⟨(some 24), none, .op (.bin .add (.tmp 22) (.tmp 23))⟩,
     ⟨(some 25), none, .op (.mv (.tmp 1))⟩,
     ⟨(some 26), none, .call f_lms_behind [(.tmp 21), (.tmp 24), (.tmp 25)]⟩,
     ⟨(some 4), none, .op (.mv (.tmp 20))⟩,
     ⟨none, none, .op (.store 33 (.tmp 5) (.tmp 26))⟩,
     ⟨(some 6), none, .op (.mv (.const (.int .i64 0)))⟩])
  (.ret))))

def ac_mix_unmix : AC :=
  .seq (.reg [⟨(some 4), none, .op (.mv (.tmp 0))⟩,
     ⟨(some 5), none, .op (.len none (.tmp 4))⟩,
     ⟨(some 6), none, .op (.bin .sub (.tmp 5) (.const (.int .i64 1)))⟩,
     ⟨(some 2), none, .op (.mv (.tmp 6))⟩])
  (.seq (.seq (.reg [⟨(some 7), none, .op (.mv (.tmp 2))⟩,
      ⟨(some 8), none, .op (.bin .gtr (.tmp 7) (.const (.int .i64 0)))⟩])
   (.cond (.tmp 8)
     (.draw [⟨0, false, ⟨(some 9), none, .op (.mv (.tmp 0))⟩⟩,
       ⟨0, false, ⟨(some 10), none, .op (.mv (.tmp 2))⟩⟩,
       ⟨0, false, ⟨(some 11), none, .op (.iaddr (.slice 1) (.tmp 9) (.tmp 10))⟩⟩,
       ⟨0, false, ⟨(some 12), none, .op (.load none (.tmp 11))⟩⟩,
       ⟨0, false, ⟨(some 13), none, .op (.mv (.tmp 0))⟩⟩,
       ⟨0, false, ⟨(some 14), none, .op (.mv (.tmp 2))⟩⟩,
       ⟨0, false, ⟨(some 15), none, .op (.bin .sub (.tmp 14) (.const (.int .i64 1)))⟩⟩,
       ⟨0, false, ⟨(some 16), none, .op (.iaddr (.slice 1) (.tmp 13) (.tmp 15))⟩⟩,
       ⟨0, false, ⟨(some 17), none, .op (.load none (.tmp 16))⟩⟩,
       ⟨0, false, ⟨(some 18), none, .op (.bin .quo (.tmp 17) (.const (.int .i32 2)))⟩⟩,
       ⟨0, false, ⟨(some 19), none, .op (.bin .add (.tmp 12) (.tmp 18))⟩⟩,
       ⟨0, false, ⟨(some 20), none, .op (.iaddr (.slice 1) (.tmp 9) (.tmp 10))⟩⟩,
       ⟨0, false, ⟨none, none, .op (.store 1 (.tmp 20) (.tmp 19))⟩⟩] [])
     (.skip)))
  (.seq (.reg [⟨(some 21), none, .op (.mv (.tmp 2))⟩,
     ⟨(some 22), none, .op (.bin .sub (.tmp 21) (.const (.int .i64 1)))⟩,
     ⟨(some 3), none, .op (.mv (.tmp 22))⟩])
  (.block 0 (.loop (.seq (.seq (.reg [⟨(some 23), none, .op (.mv (.tmp 3))⟩,
        ⟨(some 24), none, .op (.bin .geq (.tmp 23) (.const (.int .i64 0)))⟩])
     (.cond (.tmp 24)
       (.skip)
       (.exit 0)))
    (.seq (.block 1 (.draw [⟨0, false, ⟨(some 27), none, .op (.mv (.tmp 0))⟩⟩,
        ⟨0, false, ⟨(some 28), none, .op (.mv (.tmp 3))⟩⟩,
        ⟨0, false, ⟨(some 29), none, .op (.mv (.tmp 0))⟩⟩,
        ⟨0, false, ⟨(some 30), none, .op (.mv (.tmp 3))⟩⟩,
        ⟨0, false, ⟨(some 31), none, .op (.bin .add (.tmp 30) (.const (.int .i64 1)))⟩⟩,
        ⟨0, false, ⟨(some 32), none, .op (.iaddr (.slice 1) (.tmp 29) (.tmp 31))⟩⟩,
        ⟨0, false, ⟨(some 33), none, .op (.load none (.tmp 32))⟩⟩,
        ⟨0, false, ⟨(some 34), none, .op (.mv (.tmp 0))⟩⟩,
        ⟨0, false, ⟨(some 35), none, .op (.mv (.tmp 3))⟩⟩,
        ⟨0, false, ⟨(some 36), none, .op (.iaddr (.slice 1) (.tmp 34) (.tmp 35))⟩⟩,
        ⟨0, false, ⟨(some 37), none, .op (.load none (.tmp 36))⟩⟩,
        ⟨0, false, ⟨(some 38), none, .op (.bin .sub (.tmp 33) (.tmp 37))⟩⟩,
        ⟨0, false, ⟨(some 39), none, .op (.iaddr (.slice 1) (.tmp 27) (.tmp 28))⟩⟩,
        ⟨0, false, ⟨none, none, .op (.store 1 (.tmp 39) (.tmp 38))⟩⟩] []))
    (.reg [⟨(some 25), none, .op (.mv (.tmp 3))⟩,
      ⟨(some 26), none, .op (.bin .sub (.tmp 25) (.const (.int .i64 1)))⟩,
      ⟨(some 3), none, .op (.mv (.tmp 26))⟩])))))))

def ac_cadenzaref15_Stepped (f_cadenzaref14_Told f_cadenzaref13_Wrap f_cadenzaref14_Learned f_cadenzaref14_Pushed t0 : Nat) : AC :=
  .seq (.reg [⟨(some 2), none, .op (.box t0 33 (.tmp 0))⟩,
     ⟨(some 4), none, .op (.mv (.const (.int .i32 0)))⟩,
     ⟨(some 5), none, .op (.alloc t0 [.int .i64 0, .int .i32 0, .int .i32 0, .int .i32 0, .int .i32 0, .int .i32 0, .int .i32 0, .int .i32 0, .int .i32 0, .int .i32 0, .int .i32 0, .int .i32 0, .int .i32 0, .int .i32 0, .int .i32 0, .int .i32 0, .int .i32 0, .int .i32 0, .int .i32 0, .int .i32 0, .int .i32 0, .int .i32 0, .int .i32 0, .int .i32 0, .int .i32 0, .int .i32 0, .int .i32 0, .int .i32 0, .int .i32 0, .int .i32 0, .int .i32 0, .int .i32 0, .int .i32 0])⟩])
  (.seq (.reg [⟨(some 7), none, .op (.mv (.tmp 1))⟩,
     ⟨(some 8), none, .op (.conv (.int .i64) (.tmp 7))⟩,
     ⟨(some 9), none, .op (.load (some 33) (.tmp 2))⟩,
     ⟨(some 10), none, .call f_cadenzaref14_Told [(.tmp 9)]⟩,
     ⟨(some 11), none, .op (.conv (.int .i64) (.tmp 10))⟩,
     ⟨(some 12), none, .op (.bin .add (.tmp 8) (.tmp 11))⟩,
     ⟨(some 13), none, .call f_cadenzaref13_Wrap [(.tmp 12)]⟩,
     ⟨(some 6), none, .op (.mv (.tmp 13))⟩])
  (.seq (.reg [⟨(some 14), none, .op (.mv (.tmp 6))⟩,
     ⟨(some 15), none, .op (.load (some 33) (.tmp 2))⟩,
     ⟨(some 16), none, .op (.mv (.tmp 1))⟩,
     ⟨(some 17), none, .call f_cadenzaref14_Learned [(.tmp 15), (.tmp 16)]⟩,
     ⟨(some 18), none, .op (.mv (.tmp 6))⟩,
     ⟨(some 19), none, .call f_cadenzaref14_Pushed [(.tmp 17), (.tmp 18)]⟩,
     ⟨(some 4), none, .op (.mv (.tmp 14))⟩,
     ⟨none, none, .op (.store 33 (.tmp 5) (.tmp 19))⟩])
  (.ret)))

def ac_cadenzaref17_Unmixed (f_cadenzaref13_Wrap t0 : Nat) : AC :=
  .seq (.reg [⟨(some 2), none, .op (.mv (.const (.slice none 0 0)))⟩])
  (.seq (.reg [⟨(some 6), none, .op (.mv (.tmp 0))⟩,
     ⟨(some 7), none, .op (.len none (.tmp 6))⟩,
     ⟨(some 3), none, .op (.mv (.tmp 7))⟩])
  (.seq (.reg [⟨(some 8), none, .op (.mv (.tmp 3))⟩,
     ⟨(some 9), none, .op (.mkslice t0 1 4 [.int .i32 0] (.tmp 8) (.tmp 8))⟩,
     ⟨(some 4), none, .op (.mv (.tmp 9))⟩])
  (.seq (.reg [⟨(some 10), none, .op (.mv (.tmp 4))⟩,
     ⟨(some 11), none, .op (.mv (.tmp 3))⟩,
     ⟨(some 12), none, .op (.bin .sub (.tmp 11) (.const (.int .i64 1)))⟩,
     ⟨(some 13), none, .op (.mv (.tmp 0))⟩,
     ⟨(some 14), none, .op (.mv (.tmp 3))⟩,
     ⟨(some 15), none, .op (.bin .sub (.tmp 14) (.const (.int .i64 1)))⟩,
     ⟨(some 16), none, .op (.iaddr (.slice 1) (.tmp 13) (.tmp 15))⟩,
     ⟨(some 17), none, .op (.load none (.tmp 16))⟩,
     ⟨(some 18), none, .op (.iaddr (.slice 1) (.tmp 10) (.tmp 12))⟩,
     ⟨none, none, .op (.store 1 (.tmp 18) (.tmp 17))⟩])
  (.seq (.seq (.reg [⟨(some 19), none, .op (.mv (.tmp 3))⟩,
      ⟨(some 20), none, .op (.bin .gtr (.tmp 19) (.const (.int .i64 1)))⟩])
   (.cond (.tmp 20)
     (.draw [⟨0, false, ⟨(some 21), none, .op (.mv (.tmp 4))⟩⟩,
       ⟨0, false, ⟨(some 22), none, .op (.mv (.tmp 3))⟩⟩,
       ⟨0, false, ⟨(some 23), none, .op (.bin .sub (.tmp 22) (.const (.int .i64 1)))⟩⟩,
       ⟨0, false, ⟨(some 24), none, .op (.mv (.tmp 0))⟩⟩,
       ⟨0, false, ⟨(some 25), none, .op (.mv (.tmp 3))⟩⟩,
       ⟨0, false, ⟨(some 26), none, .op (.bin .sub (.tmp 25) (.const (.int .i64 1)))⟩⟩,
       ⟨0, false, ⟨(some 27), none, .op (.iaddr (.slice 1) (.tmp 24) (.tmp 26))⟩⟩,
       ⟨0, false, ⟨(some 28), none, .op (.load none (.tmp 27))⟩⟩,
       ⟨0, false, ⟨(some 29), none, .op (.conv (.int .i64) (.tmp 28))⟩⟩,
       ⟨0, false, ⟨(some 30), none, .op (.mv (.tmp 0))⟩⟩,
       ⟨0, false, ⟨(some 31), none, .op (.mv (.tmp 3))⟩⟩,
       ⟨0, false, ⟨(some 32), none, .op (.bin .sub (.tmp 31) (.const (.int .i64 2)))⟩⟩,
       ⟨0, false, ⟨(some 33), none, .op (.iaddr (.slice 1) (.tmp 30) (.tmp 32))⟩⟩,
       ⟨0, false, ⟨(some 34), none, .op (.load none (.tmp 33))⟩⟩,
       ⟨0, false, ⟨(some 35), none, .op (.conv (.int .i64) (.tmp 34))⟩⟩,
       ⟨0, false, ⟨(some 36), none, .op (.bin .quo (.tmp 35) (.const (.int .i64 2)))⟩⟩,
       ⟨0, false, ⟨(some 37), none, .op (.bin .add (.tmp 29) (.tmp 36))⟩⟩,
       ⟨0, false, ⟨(some 38), none, .call f_cadenzaref13_Wrap [(.tmp 37)]⟩⟩,
       ⟨0, false, ⟨(some 39), none, .op (.iaddr (.slice 1) (.tmp 21) (.tmp 23))⟩⟩,
       ⟨0, false, ⟨none, none, .op (.store 1 (.tmp 39) (.tmp 38))⟩⟩] [])
     (.skip)))
  (.seq (.seq (.reg [⟨(some 40), none, .op (.mv (.tmp 3))⟩,
      ⟨(some 41), none, .op (.bin .sub (.tmp 40) (.const (.int .i64 2)))⟩,
      ⟨(some 5), none, .op (.mv (.tmp 41))⟩])
   (.block 0 (.loop (.seq (.seq (.reg [⟨(some 42), none, .op (.mv (.tmp 5))⟩,
         ⟨(some 43), none, .op (.bin .geq (.tmp 42) (.const (.int .i64 0)))⟩])
      (.cond (.tmp 43)
        (.skip)
        (.exit 0)))
     (.seq (.block 1 (.draw [⟨0, false, ⟨(some 46), none, .op (.mv (.tmp 4))⟩⟩,
         ⟨0, false, ⟨(some 47), none, .op (.mv (.tmp 5))⟩⟩,
         ⟨0, false, ⟨(some 48), none, .op (.mv (.tmp 4))⟩⟩,
         ⟨0, false, ⟨(some 49), none, .op (.mv (.tmp 5))⟩⟩,
         ⟨0, false, ⟨(some 50), none, .op (.bin .add (.tmp 49) (.const (.int .i64 1)))⟩⟩,
         ⟨0, false, ⟨(some 51), none, .op (.iaddr (.slice 1) (.tmp 48) (.tmp 50))⟩⟩,
         ⟨0, false, ⟨(some 52), none, .op (.load none (.tmp 51))⟩⟩,
         ⟨0, false, ⟨(some 53), none, .op (.conv (.int .i64) (.tmp 52))⟩⟩,
         ⟨0, false, ⟨(some 54), none, .op (.mv (.tmp 0))⟩⟩,
         ⟨0, false, ⟨(some 55), none, .op (.mv (.tmp 5))⟩⟩,
         ⟨0, false, ⟨(some 56), none, .op (.iaddr (.slice 1) (.tmp 54) (.tmp 55))⟩⟩,
         ⟨0, false, ⟨(some 57), none, .op (.load none (.tmp 56))⟩⟩,
         ⟨0, false, ⟨(some 58), none, .op (.conv (.int .i64) (.tmp 57))⟩⟩,
         ⟨0, false, ⟨(some 59), none, .op (.bin .sub (.tmp 53) (.tmp 58))⟩⟩,
         ⟨0, false, ⟨(some 60), none, .call f_cadenzaref13_Wrap [(.tmp 59)]⟩⟩,
         ⟨0, false, ⟨(some 61), none, .op (.iaddr (.slice 1) (.tmp 46) (.tmp 47))⟩⟩,
         ⟨0, false, ⟨none, none, .op (.store 1 (.tmp 61) (.tmp 60))⟩⟩] []))
     (.reg [⟨(some 44), none, .op (.mv (.tmp 5))⟩,
       ⟨(some 45), none, .op (.bin .sub (.tmp 44) (.const (.int .i64 1)))⟩,
       ⟨(some 5), none, .op (.mv (.tmp 45))⟩]))))))
  (.seq (.reg [⟨(some 62), none, .op (.mv (.tmp 4))⟩,
     ⟨(some 2), none, .op (.mv (.tmp 62))⟩])
  (.ret)))))))

def ac_taps_Check (t0 : Nat) : AC :=
  .seq (.reg [⟨(some 1), none, .op (.box t0 33 (.tmp 0))⟩,
     ⟨(some 2), none, .op (.mv (.const (.int .i64 0)))⟩])
  (.seq (.seq (.reg [⟨(some 3), none, .op (.faddr 0 (.tmp 1))⟩,
      ⟨(some 4), none, .op (.load none (.tmp 3))⟩,
      ⟨(some 5), none, .op (.bin .neq (.tmp 4) (.const (.int .i64 9)))⟩,
      ⟨(some 6), none, .op (.mv (.tmp 5))⟩,
      ⟨(some 7), (some (6, true)), .op (.faddr 0 (.tmp 1))⟩,
      ⟨(some 8), (some (6, true)), .op (.load none (.tmp 7))⟩,
      ⟨(some 9), (some (6, true)), .op (.bin .neq (.tmp 8) (.const (.int .i64 10)))⟩,
      ⟨(some 10), none, .op (.pick (.tmp 6) (.tmp 9) (.const (.bool false)))⟩])
   (.cond (.tmp 10)
     (.seq (.reg [⟨(some 2), none, .op (.mv (.const (.int .i64 8)))⟩])
     (.ret))
     (.skip)))
  (.seq (.reg [⟨(some 2), none, .op (.mv (.const (.int .i64 0)))⟩])
  (.ret)))

def ac_taps_Learn (f_taps_Check f_taps_step t0 : Nat) : AC :=
  .seq (.reg [⟨(some 2), none, .op (.box t0 33 (.tmp 0))⟩,
     ⟨(some 4), none, .op (.alloc t0 [.int .i64 0, .int .i32 0, .int .i32 0, .int .i32 0, .int .i32 0, .int .i32 0, .int .i32 0, .int .i32 0, .int .i32 0, .int .i32 0, .int .i32 0, .int .i32 0, .int .i32 0, .int .i32 0, .int .i32 0, .int .i32 0, .int .i32 0, .int .i32 0, .int .i32 0, .int .i32 0, .int .i32 0, .int .i32 0, .int .i32 0, .int .i32 0, .int .i32 0, .int .i32 0, .int .i32 0, .int .i32 0, .int .i32 0, .int .i32 0, .int .i32 0, .int .i32 0, .int .i32 0])⟩,
     ⟨(some 5), none, .op (.mv (.const (.int .i64 0)))⟩])
  (.seq (.seq (.reg [⟨(some 9), none, .op (.load (some 33) (.tmp 2))⟩,
      ⟨(some 10), none, .call f_taps_Check [(.tmp 9)]⟩,
      ⟨(some 6), none, .op (.mv (.tmp 10))⟩])
   (.seq (.reg [⟨(some 11), none, .op (.mv (.tmp 6))⟩,
      ⟨(some 12), none, .op (.bin .neq (.tmp 11) (.const (.int .i64 0)))⟩])
   (.cond (.tmp 12)
     (.seq (.reg [⟨(some 13), none, .op (.build [.int .i64 0, .int .i32 0, .int .i32 0, .int .i32 0, .int .i32 0, .int .i32 0, .int .i32 0, .int .i32 0, .int .i32 0, .int .i32 0, .int .i32 0, .int .i32 0, .int .i32 0, .int .i32 0, .int .i32 0, .int .i32 0, .int .i32 0, .int .i32 0, .int .i32 0, .int .i32 0, .int .i32 0, .int .i32 0, .int .i32 0, .int .i32 0, .int .i32 0, .int .i32 0, .int .i32 0, .int .i32 0, .int .i32 0, .int .i32 0, .int .i32 0, .int .i32 0, .int .i32 0] [])⟩,
        ⟨(some 14), none, .op (.mv (.tmp 6))⟩,
        ⟨none, none, .op (.store 33 (.tmp 4) (.tmp 13))⟩,
        ⟨(some 5), none, .op (.mv (.tmp 14))⟩])
     (.ret))
     (.skip))))
  (.seq (.seq (.reg [⟨(some 15), none, .op (.mv (.tmp 1))⟩,
      ⟨(some 16), none, .op (.bin .eql (.tmp 15) (.const (.int .i32 0)))⟩])
   (.cond (.tmp 16)
     (.seq (.reg [⟨(some 17), none, .op (.load (some 33) (.tmp 2))⟩,
        ⟨none, none, .op (.store 33 (.tmp 4) (.tmp 17))⟩,
        ⟨(some 5), none, .op (.mv (.const (.int .i64 0)))⟩])
     (.ret))
     (.skip)))
  (.seq (.seq (.reg [⟨(some 18), none, .op (.faddr 17 (.tmp 2))⟩,
      ⟨(some 19), none, .op (.load (some 16) (.tmp 18))⟩,
      ⟨(some 20), none, .op (.mv (.const (.int .i64 0)))⟩])
   (.block 0 (.loop (.seq (.reg [⟨(some 21), none, .op (.bin .lss (.tmp 20) (.const (.int .i64 16)))⟩])
     (.seq (.cond (.tmp 21)
        (.skip)
        (.exit 0))
     (.seq (.block 1 (.seq (.reg [⟨(some 22), none, .op (.mv (.tmp 20))⟩,
          ⟨(some 23), none, .op (.index (.arr 16 1 none) (.tmp 19) (.tmp 20))⟩,
          ⟨(some 7), none, .op (.mv (.tmp 22))⟩,
          ⟨(some 8), none, .op (.mv (.tmp 23))⟩])
       (.block 2 (.seq (.reg [⟨(some 34), none, .op (.mv (.tmp 8))⟩,
           ⟨(some 35), none, .op (.bin .eql (.tmp 34) (.const (.int .i32 0)))⟩,
           ⟨(some 33), none, .op (.mv (.tmp 35))⟩])
        (.cond (.tmp 33)
          (.skip)
          (.seq (.reg [⟨(some 37), none, .op (.mv (.tmp 8))⟩,
             ⟨(some 38), none, .op (.bin .lss (.tmp 37) (.const (.int .i32 0)))⟩,
             ⟨(some 39), none, .op (.mv (.tmp 1))⟩,
             ⟨(some 40), none, .op (.bin .lss (.tmp 39) (.const (.int .i32 0)))⟩,
             ⟨(some 41), none, .op (.beq false (.tmp 38) (.tmp 40))⟩,
             ⟨(some 36), none, .op (.mv (.tmp 41))⟩])
          (.cond (.tmp 36)
            (.draw [⟨0, false, ⟨(some 42), none, .op (.mv (.tmp 7))⟩⟩,
              ⟨0, false, ⟨(some 43), none, .op (.faddr 1 (.tmp 2))⟩⟩,
              ⟨0, false, ⟨(some 44), none, .op (.iaddr (.arr 16 1) (.tmp 43) (.tmp 42))⟩⟩,
              ⟨0, false, ⟨(some 45), none, .op (.load none (.tmp 44))⟩⟩,
              ⟨0, false, ⟨(some 46), none, .op (.mv (.tmp 7))⟩⟩,
              ⟨0, false, ⟨(some 47), none, .call f_taps_step [(.tmp 46)]⟩⟩,
              ⟨0, false, ⟨(some 48), none, .op (.bin .add (.tmp 45) (.tmp 47))⟩⟩,
              ⟨0, false, ⟨(some 49), none, .op (.faddr 1 (.tmp 2))⟩⟩,
              ⟨0, false, ⟨(some 50), none, .op (.iaddr (.arr 16 1) (.tmp 49) (.tmp 42))⟩⟩,
              ⟨0, false, ⟨none, none, .op (.store 1 (.tmp 50) (.tmp 48))⟩⟩] [])
            (.draw [⟨0, false, ⟨(some 24), none, .op (.mv (.tmp 7))⟩⟩,
              ⟨0, false, ⟨(some 25), none, .op (.faddr 1 (.tmp 2))⟩⟩,
              ⟨0, false, ⟨(some 26), none, .op (.iaddr (.arr 16 1) (.tmp 25) (.tmp 24))⟩⟩,
              ⟨0, false, ⟨(some 27), none, .op (.load none (.tmp 26))⟩⟩,
              ⟨0, false, ⟨(some 28), none, .op (.mv (.tmp 7))⟩⟩,
              ⟨0, false, ⟨(some 29), none, .call f_taps_step [(.tmp 28)]⟩⟩,
              ⟨0, false, ⟨(some 30), none, .op (.bin .sub (.tmp 27) (.tmp 29))⟩⟩,
              ⟨0, false, ⟨(some 31), none, .op (.faddr 1 (.tmp 2))⟩⟩,
              ⟨0, false, ⟨(some 32), none, .op (.iaddr (.arr 16 1) (.tmp 31) (.tmp 24))⟩⟩,
              ⟨0, false, ⟨none, none, .op (.store 1 (.tmp 32) (.tmp 30))⟩⟩] []))))))))
     (.reg [⟨(some 51), none, .op (.bin .add (.tmp 20) (.const (.int .i64 1)))⟩,
       ⟨(some 20), none, .op (.mv (.tmp 51))⟩])))))))
  (.seq (.reg [⟨(some 52), none, .op (.load (some 33) (.tmp 2))⟩,
     ⟨none, none, .op (.store 33 (.tmp 4) (.tmp 52))⟩,
     ⟨(some 5), none, .op (.mv (.const (.int .i64 0)))⟩])
  (.ret)))))

def ac_taps_Push (f_taps_Check t0 : Nat) : AC :=
  .seq (.reg [⟨(some 2), none, .op (.box t0 33 (.tmp 0))⟩,
     ⟨(some 4), none, .op (.alloc t0 [.int .i64 0, .int .i32 0, .int .i32 0, .int .i32 0, .int .i32 0, .int .i32 0, .int .i32 0, .int .i32 0, .int .i32 0, .int .i32 0, .int .i32 0, .int .i32 0, .int .i32 0, .int .i32 0, .int .i32 0, .int .i32 0, .int .i32 0, .int .i32 0, .int .i32 0, .int .i32 0, .int .i32 0, .int .i32 0, .int .i32 0, .int .i32 0, .int .i32 0, .int .i32 0, .int .i32 0, .int .i32 0, .int .i32 0, .int .i32 0, .int .i32 0, .int .i32 0, .int .i32 0])⟩,
     ⟨(some 5), none, .op (.mv (.const (.int .i64 0)))⟩])
  (.seq (.seq (.reg [⟨(some 7), none, .op (.load (some 33) (.tmp 2))⟩,
      ⟨(some 8), none, .call f_taps_Check [(.tmp 7)]⟩,
      ⟨(some 6), none, .op (.mv (.tmp 8))⟩])
   (.seq (.reg [⟨(some 9), none, .op (.mv (.tmp 6))⟩,
      ⟨(some 10), none, .op (.bin .neq (.tmp 9) (.const (.int .i64 0)))⟩])
   (.cond (.tmp 10)
     (.seq (.reg [⟨(some 11), none, .op (.build [.int .i64 0, .int .i32 0, .int .i32 0, .int .i32 0, .int .i32 0, .int .i32 0, .int .i32 0, .int .i32 0, .int .i32 0, .int .i32 0, .int .i32 0, .int .i32 0, .int .i32 0, .int .i32 0, .int .i32 0, .int .i32 0, .int .i32 0, .int .i32 0, .int .i32 0, .int .i32 0, .int .i32 0, .int .i32 0, .int .i32 0, .int .i32 0, .int .i32 0, .int .i32 0, .int .i32 0, .int .i32 0, .int .i32 0, .int .i32 0, .int .i32 0, .int .i32 0, .int .i32 0] [])⟩,
        ⟨(some 12), none, .op (.mv (.tmp 6))⟩,
        ⟨none, none, .op (.store 33 (.tmp 4) (.tmp 11))⟩,
        ⟨(some 5), none, .op (.mv (.tmp 12))⟩])
     (.ret))
     (.skip))))
  (.seq (.draw [⟨0, false, ⟨(some 13), none, .op (.faddr 17 (.tmp 2))⟩⟩,
     ⟨0, false, ⟨(some 14), none, .op (.slicea 16 1 (.tmp 13) (some (.const (.int .i64 1))) none)⟩⟩,
     ⟨0, false, ⟨(some 15), none, .op (.faddr 17 (.tmp 2))⟩⟩,
     ⟨0, false, ⟨(some 16), none, .op (.slicea 16 1 (.tmp 15) none none)⟩⟩,
     ⟨0, false, ⟨(some 17), none, .op (.copy 1 false (.tmp 14) (.tmp 16))⟩⟩] [])
  (.seq (.reg [⟨(some 18), none, .op (.mv (.tmp 1))⟩,
     ⟨(some 19), none, .op (.faddr 17 (.tmp 2))⟩,
     ⟨(some 20), none, .op (.iaddr (.arr 16 1) (.tmp 19) (.const (.int .i64 0)))⟩,
     ⟨none, none, .op (.store 1 (.tmp 20) (.tmp 18))⟩])
  (.seq (.reg [⟨(some 21), none, .op (.load (some 33) (.tmp 2))⟩,
     ⟨none, none, .op (.store 33 (.tmp 4) (.tmp 21))⟩,
     ⟨(some 5), none, .op (.mv (.const (.int .i64 0)))⟩])
  (.ret)))))

def ac_cadenzaref13_Shift : AC :=
  .seq (.reg [⟨(some 2), none, .op (.mv (.const (.int .i64 0)))⟩,
     ⟨(some 3), none, .op (.mv (.const (.int .i64 0)))⟩])
  (.seq (.seq (.reg [⟨(some 4), none, .op (.mv (.tmp 0))⟩,
      ⟨(some 5), none, .op (.bin .eql (.tmp 4) (.const (.int .i64 8)))⟩])
   (.cond (.tmp 5)
     (.seq (.reg [⟨(some 2), none, .op (.mv (.const (.int .i64 4)))⟩,
        ⟨(some 3), none, .op (.mv (.const (.int .i64 0)))⟩])
     (.ret))
     (.skip)))
  (.seq (.seq (.reg [⟨(some 6), none, .op (.mv (.tmp 0))⟩,
      ⟨(some 7), none, .op (.bin .eql (.tmp 6) (.const (.int .i64 16)))⟩,
      ⟨(some 8), none, .op (.mv (.tmp 7))⟩,
      ⟨(some 9), (some (8, false)), .op (.mv (.tmp 0))⟩,
      ⟨(some 10), (some (8, false)), .op (.bin .eql (.tmp 9) (.const (.int .i64 24)))⟩,
      ⟨(some 11), none, .op (.pick (.tmp 8) (.const (.bool true)) (.tmp 10))⟩])
   (.cond (.tmp 11)
     (.seq (.reg [⟨(some 2), none, .op (.mv (.const (.int .i64 5)))⟩,
        ⟨(some 3), none, .op (.mv (.const (.int .i64 0)))⟩])
     (.ret))
     (.skip)))
  (.seq (.reg [⟨(some 2), none, .op (.mv (.const (.int .i64 0)))⟩,
     ⟨(some 3), none, .op (.mv (.const (.int .i64 2)))⟩])
  (.ret))))

def ac_cadenzaref13_Behind : AC :=
  .seq (.reg [⟨(some 4), none, .op (.mv (.const (.int .i32 0)))⟩])
  (.seq (.reg [⟨(some 5), none, .op (.mv (.const (.int .i64 16)))⟩])
  (.seq (.seq (.reg [⟨(some 8), none, .op (.mv (.tmp 0))⟩,
      ⟨(some 9), none, .op (.bin .eql (.tmp 8) (.const (.int .i64 5)))⟩])
   (.cond (.tmp 9)
     (.reg [⟨(some 5), none, .op (.mv (.const (.int .i64 32)))⟩])
     (.skip)))
  (.seq (.reg [⟨(some 10), none, .op (.mv (.tmp 5))⟩,
     ⟨(some 11), none, .op (.bin .sub (.tmp 10) (.const (.int .i64 1)))⟩,
     ⟨(some 12), none, .op (.mv (.tmp 1))⟩,
     ⟨(some 13), none, .op (.conv (.int .i64) (.tmp 12))⟩,
     ⟨(some 14), none, .op (.bin .mul (.tmp 11) (.tmp 13))⟩,
     ⟨(some 6), none, .op (.mv (.tmp 14))⟩])
  (.seq (.reg [⟨(some 15), none, .op (.mv (.tmp 6))⟩,
     ⟨(some 16), none, .op (.mv (.tmp 5))⟩,
     ⟨(some 17), none, .op (.bin .quo (.tmp 15) (.tmp 16))⟩,
     ⟨(some 7), none, .op (.mv (.tmp 17))⟩])
  (.seq (.seq (.reg [⟨(some 18), none, .op (.mv (.tmp 6))⟩,
      ⟨(some 19), none, .op (.mv (.tmp 5))⟩,
      ⟨(some 20), none, .op (.bin .rem (.tmp 18) (.tmp 19))⟩,
      ⟨(some 21), none, .op (.bin .lss (.tmp 20) (.const (.int .i64 0)))⟩])
   (.cond (.tmp 21)
     (.reg [⟨(some 22), none, .op (.mv (.tmp 7))⟩,
       ⟨(some 23), none, .op (.bin .sub (.tmp 22) (.const (.int .i64 1)))⟩,
       ⟨(some 7), none, .op (.mv (.tmp 23))⟩])
     (.skip)))
  (.seq (.reg [⟨(some 24), none, .op (.mv (.tmp 7))⟩,
     ⟨(some 25), none, .op (.conv (.int .i32) (.tmp 24))⟩,
     ⟨(some 4), none, .op (.mv (.tmp 25))⟩])
  (.ret)))))))

def ac_cadenzaref14_Told (f_cadenzaref14_Sum f_cadenzaref13_Wrap t0 : Nat) : AC :=
  .seq (.reg [⟨(some 1), none, .op (.box t0 33 (.tmp 0))⟩,
     ⟨(some 2), none, .op (.mv (.const (.int .i32 0)))⟩])
  (.seq (.reg [⟨(some 3), none, .op (.mv (.const (.int .i64 1024)))⟩])
  (.seq (.seq (.reg [⟨(some 6), none, .op (.faddr 0 (.tmp 1))⟩,
      ⟨(some 7), none, .op (.load none (.tmp 6))⟩,
      ⟨(some 8), none, .op (.bin .eql (.tmp 7) (.const (.int .i64 9)))⟩])
   (.cond (.tmp 8)
     (.reg [⟨(some 3), none, .op (.mv (.const (.int .i64 512)))⟩])
     (.skip)))
  (.seq (.reg [⟨(some 9), none, .op (.load (some 33) (.tmp 1))⟩,
     ⟨(some 10), none, .call f_cadenzaref14_Sum [(.tmp 9)]⟩,
     ⟨(some 11), none, .op (.conv (.int .i64) (.tmp 10))⟩,
     ⟨(some 12), none, .op (.mv (.tmp 3))⟩,
     ⟨(some 13), none, .op (.bin .quo (.tmp 12) (.const (.int .i64 2)))⟩,
     ⟨(some 14), none, .op (.bin .add (.tmp 11) (.tmp 13))⟩,
     ⟨(some 15), none, .call f_cadenzaref13_Wrap [(.tmp 14)]⟩,
     ⟨(some 16), none, .op (.conv (.int .i64) (.tmp 15))⟩,
     ⟨(some 4), none, .op (.mv (.tmp 16))⟩])
  (.seq (.reg [⟨(some 17), none, .op (.mv (.tmp 4))⟩,
     ⟨(some 18), none, .op (.mv (.tmp 3))⟩,
     ⟨(some 19), none, .op (.bin .quo (.tmp 17) (.tmp 18))⟩,
     ⟨(some 5), none, .op (.mv (.tmp 19))⟩])
  (.seq (.seq (.reg [⟨(some 20), none, .op (.mv (.tmp 4))⟩,
      ⟨(some 21), none, .op (.mv (.tmp 3))⟩,
      ⟨(some 22), none, .op (.bin .rem (.tmp 20) (.tmp 21))⟩,
      ⟨(some 23), none, .op (.bin .lss (.tmp 22) (.const (.int .i64 0)))⟩])
   (.cond (.tmp 23)
     (.reg [⟨(some 24), none, .op (.mv (.tmp 5))⟩,
       ⟨(some 25), none, .op (.bin .sub (.tmp 24) (.const (.int .i64 1)))⟩,
       ⟨(some 5), none, .op (.mv (.tmp 25))⟩])
     (.skip)))
  (.seq (.reg [⟨(some 26), none, .op (.mv (.tmp 5))⟩,
     ⟨(some 27), none, .op (.conv (.int .i32) (.tmp 26))⟩,
     ⟨(some 2), none, .op (.mv (.tmp 27))⟩])
  (.ret)))))))

end Go.Am

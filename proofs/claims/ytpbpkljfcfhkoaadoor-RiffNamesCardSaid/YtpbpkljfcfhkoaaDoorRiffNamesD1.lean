/- The abstract code of the functions that the law reaches; no conditions. -/
import Derived.Test.YtpbpkljfcfhkoaaDoorRiffNamesK1
set_option linter.unusedSectionVars false
set_option linter.unusedSimpArgs false
set_option linter.unusedVariables false
namespace Go.Am

def ac_cadenzalaw31_RiffWrites (f_cadenzaref31_Great f_riff_Write f_cadenzaref31_Write f_riff_Find f_cadenzaref31_Find f_riff_Check f_cadenzaref31_Check : Nat) : AC :=
  .seq (.reg [⟨(some 6), none, .op (.mv (.const (.bool false)))⟩])
  (.seq (.seq (.reg [⟨(some 15), none, .op (.mv (.tmp 0))⟩,
      ⟨(some 16), none, .op (.mv (.tmp 1))⟩,
      ⟨(some 17), none, .call f_cadenzaref31_Great [(.tmp 15), (.tmp 16)]⟩,
      ⟨(some 18), none, .op (.mv (.tmp 17))⟩,
      ⟨(some 19), (some (18, false)), .op (.mv (.tmp 2))⟩,
      ⟨(some 20), (some (18, false)), .op (.len (some none) (.tmp 19))⟩,
      ⟨(some 21), (some (18, false)), .op (.bin .gtr (.tmp 20) (.const (.int .i64 100)))⟩,
      ⟨(some 22), none, .op (.pick (.tmp 18) (.const (.bool true)) (.tmp 21))⟩])
   (.cond (.tmp 22)
     (.seq (.reg [⟨(some 6), none, .op (.mv (.const (.bool true)))⟩])
     (.ret))
     (.skip)))
  (.seq (.reg [⟨(some 24), none, .op (.mv (.tmp 0))⟩,
     ⟨(some 25), none, .op (.mv (.tmp 1))⟩,
     ⟨(some 26), none, .call f_riff_Write [(.tmp 24), (.tmp 25)]⟩,
     ⟨(some 23), none, .op (.mv (.tmp 26))⟩,
     ⟨(some 27), none, .op (.extract (.tmp 23) 0)⟩,
     ⟨(some 28), none, .op (.extract (.tmp 23) 1)⟩,
     ⟨(some 7), none, .op (.mv (.tmp 27))⟩,
     ⟨(some 8), none, .op (.mv (.tmp 28))⟩])
  (.seq (.reg [⟨(some 30), none, .op (.mv (.tmp 0))⟩,
     ⟨(some 31), none, .op (.mv (.tmp 1))⟩,
     ⟨(some 32), none, .call f_cadenzaref31_Write [(.tmp 30), (.tmp 31)]⟩,
     ⟨(some 29), none, .op (.mv (.tmp 32))⟩,
     ⟨(some 33), none, .op (.extract (.tmp 29) 0)⟩,
     ⟨(some 34), none, .op (.extract (.tmp 29) 1)⟩,
     ⟨(some 9), none, .op (.mv (.tmp 33))⟩,
     ⟨(some 10), none, .op (.mv (.tmp 34))⟩])
  (.seq (.reg [⟨(some 36), none, .op (.mv (.tmp 1))⟩,
     ⟨(some 37), none, .op (.mv (.tmp 2))⟩,
     ⟨(some 38), none, .call f_riff_Find [(.tmp 36), (.tmp 37)]⟩,
     ⟨(some 35), none, .op (.mv (.tmp 38))⟩,
     ⟨(some 39), none, .op (.extract (.tmp 35) 0)⟩,
     ⟨(some 40), none, .op (.extract (.tmp 35) 1)⟩,
     ⟨(some 11), none, .op (.mv (.tmp 39))⟩,
     ⟨(some 12), none, .op (.mv (.tmp 40))⟩])
  (.seq (.reg [⟨(some 42), none, .op (.mv (.tmp 1))⟩,
     ⟨(some 43), none, .op (.mv (.tmp 2))⟩,
     ⟨(some 44), none, .call f_cadenzaref31_Find [(.tmp 42), (.tmp 43)]⟩,
     ⟨(some 41), none, .op (.mv (.tmp 44))⟩,
     ⟨(some 45), none, .op (.extract (.tmp 41) 0)⟩,
     ⟨(some 46), none, .op (.extract (.tmp 41) 1)⟩,
     ⟨(some 13), none, .op (.mv (.tmp 45))⟩,
     ⟨(some 14), none, .op (.mv (.tmp 46))⟩])
  (.seq (.reg [⟨(some 47), none, .op (.mv (.tmp 7))⟩,
     ⟨(some 48), none, .op (.conv .toStr (.tmp 47))⟩,
     ⟨(some 49), none, .op (.mv (.tmp 9))⟩,
     ⟨(some 50), none, .op (.conv .toStr (.tmp 49))⟩,
     ⟨(some 51), none, .op (.bin .eql (.tmp 48) (.tmp 50))⟩,
     ⟨(some 52), none, .op (.mv (.tmp 51))⟩,
     ⟨(some 53), (some (52, true)), .op (.mv (.tmp 8))⟩,
     ⟨(some 54), (some (52, true)), .op (.mv (.tmp 10))⟩,
     ⟨(some 55), (some (52, true)), .op (.bin .eql (.tmp 53) (.tmp 54))⟩,
     ⟨(some 56), none, .op (.pick (.tmp 52) (.tmp 55) (.const (.bool false)))⟩,
     ⟨(some 57), none, .op (.mv (.tmp 56))⟩,
     ⟨(some 58), (some (57, true)), .op (.mv (.tmp 11))⟩,
     ⟨(some 59), (some (57, true)), .op (.mv (.tmp 13))⟩,
     ⟨(some 60), (some (57, true)), .op (.bin .eql (.tmp 58) (.tmp 59))⟩,
     ⟨(some 61), none, .op (.pick (.tmp 57) (.tmp 60) (.const (.bool false)))⟩,
     ⟨(some 62), none, .op (.mv (.tmp 61))⟩,
     ⟨(some 63), (some (62, true)), .op (.mv (.tmp 12))⟩,
     ⟨(some 64), (some (62, true)), .op (.mv (.tmp 14))⟩,
     ⟨(some 65), (some (62, true)), .op (.bin .eql (.tmp 63) (.tmp 64))⟩,
     ⟨(some 66), none, .op (.pick (.tmp 62) (.tmp 65) (.const (.bool false)))⟩,
     ⟨(some 67), none, .op (.mv (.tmp 66))⟩,
     ⟨(some 68), (some (67, true)), .op (.mv (.tmp 0))⟩,
     ⟨(some 69), (some (67, true)), .op (.mv (.tmp 1))⟩,
     ⟨(some 70), (some (67, true)), .call f_riff_Check [(.tmp 68), (.tmp 69)]⟩,
     ⟨(some 71), (some (67, true)), .op (.mv (.tmp 0))⟩,
     ⟨(some 72), (some (67, true)), .op (.mv (.tmp 1))⟩,
     ⟨(some 73), (some (67, true)), .call f_cadenzaref31_Check [(.tmp 71), (.tmp 72)]⟩,
     ⟨(some 74), (some (67, true)), .op (.bin .eql (.tmp 70) (.tmp 73))⟩,
     ⟨(some 75), none, .op (.pick (.tmp 67) (.tmp 74) (.const (.bool false)))⟩,
     ⟨(some 6), none, .op (.mv (.tmp 75))⟩])
  (.ret)))))))

def ac_cadenzalaw31_RiffBack (f_cadenzalaw31_alive f_cadenzaref31_Great f_riff_Write f_riff_Check f_riff_Read f_cadenzaref31_Same f_cadenzalaw31_reads t0 : Nat) : AC :=
  .seq (.reg [⟨(some 8), none, .op (.mv (.const (.bool false)))⟩])
  (.seq (.reg [⟨(some 18), none, .call f_cadenzalaw31_alive []⟩,
     ⟨(some 9), none, .op (.mv (.tmp 18))⟩])
  (.seq (.seq (.reg [⟨(some 19), none, .op (.mv (.tmp 0))⟩,
      ⟨(some 20), none, .op (.mv (.tmp 1))⟩,
      ⟨(some 21), none, .call f_cadenzaref31_Great [(.tmp 19), (.tmp 20)]⟩,
      ⟨(some 22), none, .op (.mv (.tmp 21))⟩,
      ⟨(some 23), (some (22, false)), .op (.mv (.tmp 9))⟩,
      ⟨(some 24), (some (22, false)), .op (.un .not (.tmp 23))⟩,
      ⟨(some 25), none, .op (.pick (.tmp 22) (.const (.bool true)) (.tmp 24))⟩])
   (.cond (.tmp 25)
     (.seq (.reg [⟨(some 26), none, .op (.mv (.tmp 9))⟩,
        ⟨(some 8), none, .op (.mv (.tmp 26))⟩])
     (.ret))
     (.skip)))
  (.seq (.reg [⟨(some 28), none, .op (.mv (.tmp 0))⟩,
     ⟨(some 29), none, .op (.mv (.tmp 1))⟩,
     ⟨(some 30), none, .call f_riff_Write [(.tmp 28), (.tmp 29)]⟩,
     ⟨(some 27), none, .op (.mv (.tmp 30))⟩,
     ⟨(some 31), none, .op (.extract (.tmp 27) 0)⟩,
     ⟨(some 32), none, .op (.extract (.tmp 27) 1)⟩,
     ⟨(some 10), none, .op (.mv (.tmp 31))⟩,
     ⟨(some 11), none, .op (.mv (.tmp 32))⟩])
  (.seq (.seq (.reg [⟨(some 33), none, .op (.mv (.tmp 11))⟩,
      ⟨(some 34), none, .op (.bin .neq (.tmp 33) (.const (.int .i64 0)))⟩])
   (.cond (.tmp 34)
     (.seq (.reg [⟨(some 35), none, .op (.mv (.tmp 9))⟩,
        ⟨(some 36), none, .op (.mv (.tmp 35))⟩,
        ⟨(some 37), (some (36, true)), .op (.mv (.tmp 11))⟩,
        ⟨(some 38), (some (36, true)), .op (.mv (.tmp 0))⟩,
        ⟨(some 39), (some (36, true)), .op (.mv (.tmp 1))⟩,
        ⟨(some 40), (some (36, true)), .call f_riff_Check [(.tmp 38), (.tmp 39)]⟩,
        ⟨(some 41), (some (36, true)), .op (.bin .eql (.tmp 37) (.tmp 40))⟩,
        ⟨(some 42), none, .op (.pick (.tmp 36) (.tmp 41) (.const (.bool false)))⟩,
        ⟨(some 43), none, .op (.mv (.tmp 42))⟩,
        ⟨(some 44), (some (43, true)), .op (.mv (.tmp 10))⟩,
        ⟨(some 45), (some (43, true)), .op (.len none (.tmp 44))⟩,
        ⟨(some 46), (some (43, true)), .op (.bin .eql (.tmp 45) (.const (.int .i64 0)))⟩,
        ⟨(some 47), none, .op (.pick (.tmp 43) (.tmp 46) (.const (.bool false)))⟩,
        ⟨(some 8), none, .op (.mv (.tmp 47))⟩])
     (.ret))
     (.skip)))
  (.seq (.reg [⟨(some 49), none, .op (.mv (.tmp 10))⟩,
     ⟨(some 50), none, .call f_riff_Read [(.tmp 49)]⟩,
     ⟨(some 48), none, .op (.mv (.tmp 50))⟩,
     ⟨(some 51), none, .op (.extract (.tmp 48) 0)⟩,
     ⟨(some 52), none, .op (.extract (.tmp 48) 1)⟩,
     ⟨(some 53), none, .op (.extract (.tmp 48) 2)⟩,
     ⟨(some 12), none, .op (.mv (.tmp 51))⟩,
     ⟨(some 13), none, .op (.mv (.tmp 52))⟩,
     ⟨(some 14), none, .op (.mv (.tmp 53))⟩])
  (.seq (.reg [⟨(some 55), none, .op (.bslice t0 1 0 [.int .u8 0] [])⟩,
     ⟨(some 56), none, .op (.mv (.tmp 10))⟩,
     ⟨(some 57), none, .op (.append t0 1 1 false (.tmp 55) (.tmp 56))⟩,
     ⟨(some 58), none, .op (.mv (.tmp 3))⟩,
     ⟨(some 59), none, .op (.bslice t0 1 1 [.int .u8 0] [(0, 1, (.tmp 58))])⟩,
     ⟨(some 60), none, .op (.append t0 1 1 false (.tmp 57) (.tmp 59))⟩,
     ⟨(some 61), none, .call f_riff_Read [(.tmp 60)]⟩,
     ⟨(some 54), none, .op (.mv (.tmp 61))⟩,
     ⟨(some 62), none, .op (.extract (.tmp 54) 0)⟩,
     ⟨(some 63), none, .op (.extract (.tmp 54) 1)⟩,
     ⟨(some 64), none, .op (.extract (.tmp 54) 2)⟩,
     ⟨(some 15), none, .op (.mv (.tmp 62))⟩,
     ⟨(some 16), none, .op (.mv (.tmp 63))⟩,
     ⟨(some 17), none, .op (.mv (.tmp 64))⟩])
  (.seq (.seq (.reg [⟨(some 65), none, .op (.mv (.tmp 14))⟩,
      ⟨(some 66), none, .op (.bin .neq (.tmp 65) (.const (.int .i64 0)))⟩,
      ⟨(some 67), none, .op (.mv (.tmp 66))⟩,
      ⟨(some 68), (some (67, false)), .op (.mv (.tmp 12))⟩,
      ⟨(some 69), (some (67, false)), .op (.mv (.tmp 0))⟩,
      ⟨(some 70), (some (67, false)), .op (.bin .neq (.tmp 68) (.tmp 69))⟩,
      ⟨(some 71), none, .op (.pick (.tmp 67) (.const (.bool true)) (.tmp 70))⟩,
      ⟨(some 72), none, .op (.mv (.tmp 71))⟩,
      ⟨(some 73), (some (72, false)), .op (.mv (.tmp 13))⟩,
      ⟨(some 74), (some (72, false)), .op (.mv (.tmp 1))⟩,
      ⟨(some 75), (some (72, false)), .call f_cadenzaref31_Same [(.tmp 73), (.tmp 74)]⟩,
      ⟨(some 76), (some (72, false)), .op (.un .not (.tmp 75))⟩,
      ⟨(some 77), none, .op (.pick (.tmp 72) (.const (.bool true)) (.tmp 76))⟩,
      ⟨(some 78), none, .op (.mv (.tmp 77))⟩,
      ⟨(some 79), (some (78, false)), .op (.mv (.tmp 17))⟩,
      ⟨(some 80), (some (78, false)), .op (.bin .neq (.tmp 79) (.const (.int .i64 38)))⟩,
      ⟨(some 81), none, .op (.pick (.tmp 78) (.const (.bool true)) (.tmp 80))⟩])
   (.cond (.tmp 81)
     (.seq (.reg [⟨(some 8), none, .op (.mv (.const (.bool false)))⟩])
     (.ret))
     (.skip)))
  (.seq (.seq (.reg [⟨(some 82), none, .op (.mv (.tmp 2))⟩,
      ⟨(some 83), none, .op (.bin .lss (.tmp 82) (.const (.int .i64 0)))⟩,
      ⟨(some 84), none, .op (.mv (.tmp 83))⟩,
      ⟨(some 85), (some (84, false)), .op (.mv (.tmp 2))⟩,
      ⟨(some 86), (some (84, false)), .op (.mv (.tmp 10))⟩,
      ⟨(some 87), (some (84, false)), .op (.len none (.tmp 86))⟩,
      ⟨(some 88), (some (84, false)), .op (.bin .geq (.tmp 85) (.tmp 87))⟩,
      ⟨(some 89), none, .op (.pick (.tmp 84) (.const (.bool true)) (.tmp 88))⟩])
   (.cond (.tmp 89)
     (.seq (.reg [⟨(some 90), none, .op (.mv (.tmp 9))⟩,
        ⟨(some 8), none, .op (.mv (.tmp 90))⟩])
     (.ret))
     (.skip)))
  (.seq (.reg [⟨(some 91), none, .op (.mv (.tmp 9))⟩,
     ⟨(some 92), none, .op (.mv (.tmp 91))⟩,
     ⟨(some 93), (some (92, true)), .op (.mv (.tmp 10))⟩,
     ⟨(some 94), (some (92, true)), .op (.mv (.tmp 2))⟩,
     ⟨(some 95), (some (92, true)), .op (.slice 1 (.tmp 93) none (some (.tmp 94)) none)⟩,
     ⟨(some 96), (some (92, true)), .op (.conv .toStr (.tmp 95))⟩,
     ⟨(some 97), (some (92, true)), .call f_cadenzalaw31_reads [(.tmp 96), (.const (.int .i64 24))]⟩,
     ⟨(some 98), none, .op (.pick (.tmp 92) (.tmp 97) (.const (.bool false)))⟩,
     ⟨(some 8), none, .op (.mv (.tmp 98))⟩])
  (.ret))))))))))

def ac_cadenzalaw31_RiffAgain (f_cadenzalaw31_alive f_cadenzaref31_Long f_riff_Read f_riff_Write : Nat) : AC :=
  .seq (.reg [⟨(some 2), none, .op (.mv (.const (.bool false)))⟩])
  (.seq (.reg [⟨(some 11), none, .call f_cadenzalaw31_alive []⟩,
     ⟨(some 3), none, .op (.mv (.tmp 11))⟩])
  (.seq (.seq (.reg [⟨(some 12), none, .op (.mv (.tmp 0))⟩,
      ⟨(some 13), none, .call f_cadenzaref31_Long [(.tmp 12)]⟩,
      ⟨(some 14), none, .op (.mv (.tmp 13))⟩,
      ⟨(some 15), (some (14, false)), .op (.mv (.tmp 3))⟩,
      ⟨(some 16), (some (14, false)), .op (.un .not (.tmp 15))⟩,
      ⟨(some 17), none, .op (.pick (.tmp 14) (.const (.bool true)) (.tmp 16))⟩])
   (.cond (.tmp 17)
     (.seq (.reg [⟨(some 18), none, .op (.mv (.tmp 3))⟩,
        ⟨(some 2), none, .op (.mv (.tmp 18))⟩])
     (.ret))
     (.skip)))
  (.seq (.reg [⟨(some 20), none, .op (.mv (.tmp 0))⟩,
     ⟨(some 21), none, .call f_riff_Read [(.tmp 20)]⟩,
     ⟨(some 19), none, .op (.mv (.tmp 21))⟩,
     ⟨(some 22), none, .op (.extract (.tmp 19) 0)⟩,
     ⟨(some 23), none, .op (.extract (.tmp 19) 1)⟩,
     ⟨(some 24), none, .op (.extract (.tmp 19) 2)⟩,
     ⟨(some 4), none, .op (.mv (.tmp 22))⟩,
     ⟨(some 5), none, .op (.mv (.tmp 23))⟩,
     ⟨(some 6), none, .op (.mv (.tmp 24))⟩])
  (.seq (.seq (.reg [⟨(some 25), none, .op (.mv (.tmp 6))⟩,
      ⟨(some 26), none, .op (.bin .neq (.tmp 25) (.const (.int .i64 0)))⟩])
   (.cond (.tmp 26)
     (.seq (.reg [⟨(some 27), none, .op (.mv (.tmp 3))⟩,
        ⟨(some 28), none, .op (.mv (.tmp 27))⟩,
        ⟨(some 29), (some (28, true)), .op (.mv (.tmp 5))⟩,
        ⟨(some 30), (some (28, true)), .op (.len none (.tmp 29))⟩,
        ⟨(some 31), (some (28, true)), .op (.bin .eql (.tmp 30) (.const (.int .i64 0)))⟩,
        ⟨(some 32), none, .op (.pick (.tmp 28) (.tmp 31) (.const (.bool false)))⟩,
        ⟨(some 2), none, .op (.mv (.tmp 32))⟩])
     (.ret))
     (.skip)))
  (.seq (.reg [⟨(some 34), none, .op (.mv (.tmp 4))⟩,
     ⟨(some 35), none, .op (.mv (.tmp 5))⟩,
     ⟨(some 36), none, .call f_riff_Write [(.tmp 34), (.tmp 35)]⟩,
     ⟨(some 33), none, .op (.mv (.tmp 36))⟩,
     ⟨(some 37), none, .op (.extract (.tmp 33) 0)⟩,
     ⟨(some 38), none, .op (.extract (.tmp 33) 1)⟩,
     ⟨(some 7), none, .op (.mv (.tmp 37))⟩,
     ⟨(some 8), none, .op (.mv (.tmp 38))⟩])
  (.seq (.seq (.reg [⟨(some 39), none, .op (.mv (.tmp 8))⟩,
      ⟨(some 40), none, .op (.bin .neq (.tmp 39) (.const (.int .i64 0)))⟩,
      ⟨(some 41), none, .op (.mv (.tmp 40))⟩,
      ⟨(some 42), (some (41, false)), .op (.mv (.tmp 7))⟩,
      ⟨(some 43), (some (41, false)), .op (.conv .toStr (.tmp 42))⟩,
      ⟨(some 44), (some (41, false)), .op (.mv (.tmp 0))⟩,
      ⟨(some 45), (some (41, false)), .op (.conv .toStr (.tmp 44))⟩,
      ⟨(some 46), (some (41, false)), .op (.bin .neq (.tmp 43) (.tmp 45))⟩,
      ⟨(some 47), none, .op (.pick (.tmp 41) (.const (.bool true)) (.tmp 46))⟩,
      ⟨(some 48), none, .op (.mv (.tmp 47))⟩,
      ⟨(some 49), (some (48, false)), .op (.mv (.tmp 0))⟩,
      ⟨(some 50), (some (48, false)), .op (.len none (.tmp 49))⟩,
      ⟨(some 51), (some (48, false)), .op (.bin .lss (.tmp 50) (.const (.int .i64 12)))⟩,
      ⟨(some 52), none, .op (.pick (.tmp 48) (.const (.bool true)) (.tmp 51))⟩])
   (.cond (.tmp 52)
     (.seq (.reg [⟨(some 2), none, .op (.mv (.const (.bool false)))⟩])
     (.ret))
     (.skip)))
  (.seq (.reg [⟨(some 9), none, .op (.mv (.const (.int .i64 4)))⟩])
  (.seq (.seq (.reg [⟨(some 10), none, .op (.mv (.const (.int .i64 0)))⟩])
   (.block 0 (.loop (.seq (.seq (.reg [⟨(some 53), none, .op (.mv (.tmp 10))⟩,
         ⟨(some 54), none, .op (.mv (.tmp 5))⟩,
         ⟨(some 55), none, .op (.len none (.tmp 54))⟩,
         ⟨(some 56), none, .op (.bin .lss (.tmp 53) (.tmp 55))⟩])
      (.cond (.tmp 56)
        (.skip)
        (.exit 0)))
     (.seq (.block 1 (.draw [⟨0, false, ⟨(some 59), none, .op (.mv (.tmp 9))⟩⟩,
         ⟨0, false, ⟨(some 60), none, .op (.mv (.tmp 5))⟩⟩,
         ⟨0, false, ⟨(some 61), none, .op (.mv (.tmp 10))⟩⟩,
         ⟨0, false, ⟨(some 62), none, .op (.iaddr (.slice 2) (.tmp 60) (.tmp 61))⟩⟩,
         ⟨0, false, ⟨(some 63), none, .op (.faddr 1 (.tmp 62))⟩⟩,
         ⟨0, false, ⟨(some 64), none, .op (.load none (.tmp 63))⟩⟩,
         ⟨0, false, ⟨(some 65), none, .op (.len none (.tmp 64))⟩⟩,
         ⟨0, false, ⟨(some 66), none, .op (.bin .add (.const (.int .i64 8)) (.tmp 65))⟩⟩,
         ⟨0, false, ⟨(some 67), none, .op (.mv (.tmp 5))⟩⟩,
         ⟨0, false, ⟨(some 68), none, .op (.mv (.tmp 10))⟩⟩,
         ⟨0, false, ⟨(some 69), none, .op (.iaddr (.slice 2) (.tmp 67) (.tmp 68))⟩⟩,
         ⟨0, false, ⟨(some 70), none, .op (.faddr 1 (.tmp 69))⟩⟩,
         ⟨0, false, ⟨(some 71), none, .op (.load none (.tmp 70))⟩⟩,
         ⟨0, false, ⟨(some 72), none, .op (.len none (.tmp 71))⟩⟩,
         ⟨0, false, ⟨(some 73), none, .op (.bin .rem (.tmp 72) (.const (.int .i64 2)))⟩⟩,
         ⟨0, false, ⟨(some 74), none, .op (.bin .add (.tmp 66) (.tmp 73))⟩⟩,
         ⟨0, false, ⟨(some 75), none, .op (.bin .add (.tmp 59) (.tmp 74))⟩⟩,
         ⟨0, false, ⟨(some 9), none, .op (.mv (.tmp 75))⟩⟩] []))
     (.reg [⟨(some 57), none, .op (.mv (.tmp 10))⟩,
       ⟨(some 58), none, .op (.bin .add (.tmp 57) (.const (.int .i64 1)))⟩,
       ⟨(some 10), none, .op (.mv (.tmp 58))⟩]))))))
  (.seq (.draw [⟨0, false, ⟨(some 76), none, .op (.mv (.tmp 3))⟩⟩,
     ⟨0, false, ⟨(some 77), none, .op (.mv (.tmp 76))⟩⟩,
     ⟨0, false, ⟨(some 78), (some (77, true)), .op (.mv (.tmp 9))⟩⟩,
     ⟨0, false, ⟨(some 79), (some (77, true)), .op (.mv (.tmp 0))⟩⟩,
     ⟨0, false, ⟨(some 80), (some (77, true)), .op (.len none (.tmp 79))⟩⟩,
     ⟨0, false, ⟨(some 81), (some (77, true)), .op (.bin .sub (.tmp 80) (.const (.int .i64 8)))⟩⟩,
     ⟨0, false, ⟨(some 82), (some (77, true)), .op (.bin .eql (.tmp 78) (.tmp 81))⟩⟩,
     ⟨0, false, ⟨(some 83), none, .op (.pick (.tmp 77) (.tmp 82) (.const (.bool false)))⟩⟩,
     ⟨0, false, ⟨(some 84), none, .op (.mv (.tmp 83))⟩⟩,
     ⟨0, false, ⟨(some 85), (some (84, true)), .op (.mv (.tmp 0))⟩⟩,
     ⟨0, false, ⟨(some 86), (some (84, true)), .op (.iaddr (.slice 1) (.tmp 85) (.const (.int .i64 4)))⟩⟩,
     ⟨0, false, ⟨(some 87), (some (84, true)), .op (.load none (.tmp 86))⟩⟩,
     ⟨0, false, ⟨(some 88), (some (84, true)), .op (.conv (.int .i64) (.tmp 87))⟩⟩,
     ⟨0, false, ⟨(some 89), (some (84, true)), .op (.mv (.tmp 0))⟩⟩,
     ⟨0, false, ⟨(some 90), (some (84, true)), .op (.iaddr (.slice 1) (.tmp 89) (.const (.int .i64 5)))⟩⟩,
     ⟨0, false, ⟨(some 91), (some (84, true)), .op (.load none (.tmp 90))⟩⟩,
     ⟨0, false, ⟨(some 92), (some (84, true)), .op (.conv (.int .i64) (.tmp 91))⟩⟩,
     ⟨0, false, ⟨(some 93), (some (84, true)), .op (.bin .mul (.tmp 92) (.const (.int .i64 256)))⟩⟩,
     ⟨0, false, ⟨(some 94), (some (84, true)), .op (.bin .add (.tmp 88) (.tmp 93))⟩⟩,
     ⟨0, false, ⟨(some 95), (some (84, true)), .op (.mv (.tmp 0))⟩⟩,
     ⟨0, false, ⟨(some 96), (some (84, true)), .op (.iaddr (.slice 1) (.tmp 95) (.const (.int .i64 6)))⟩⟩,
     ⟨0, false, ⟨(some 97), (some (84, true)), .op (.load none (.tmp 96))⟩⟩,
     ⟨0, false, ⟨(some 98), (some (84, true)), .op (.conv (.int .i64) (.tmp 97))⟩⟩,
     ⟨0, false, ⟨(some 99), (some (84, true)), .op (.bin .mul (.tmp 98) (.const (.int .i64 65536)))⟩⟩,
     ⟨0, false, ⟨(some 100), (some (84, true)), .op (.bin .add (.tmp 94) (.tmp 99))⟩⟩,
     ⟨0, false, ⟨(some 101), (some (84, true)), .op (.mv (.tmp 0))⟩⟩,
     ⟨0, false, ⟨(some 102), (some (84, true)), .op (.iaddr (.slice 1) (.tmp 101) (.const (.int .i64 7)))⟩⟩,
     ⟨0, false, ⟨(some 103), (some (84, true)), .op (.load none (.tmp 102))⟩⟩,
     ⟨0, false, ⟨(some 104), (some (84, true)), .op (.conv (.int .i64) (.tmp 103))⟩⟩,
     ⟨0, false, ⟨(some 105), (some (84, true)), .op (.bin .mul (.tmp 104) (.const (.int .i64 16777216)))⟩⟩,
     ⟨0, false, ⟨(some 106), (some (84, true)), .op (.bin .add (.tmp 100) (.tmp 105))⟩⟩,
     ⟨0, false, ⟨(some 107), (some (84, true)), .op (.mv (.tmp 9))⟩⟩,
     ⟨0, false, ⟨(some 108), (some (84, true)), .op (.bin .eql (.tmp 106) (.tmp 107))⟩⟩,
     ⟨0, false, ⟨(some 109), none, .op (.pick (.tmp 84) (.tmp 108) (.const (.bool false)))⟩⟩,
     ⟨0, false, ⟨(some 2), none, .op (.mv (.tmp 109))⟩⟩] [])
  (.ret))))))))))

def ac_cadenzalaw31_RiffNames (f_riff_Check f_riff_Write f_cadenzalaw31_reads f_riff_Find f_cadenzalaw31_alive t0 t1 : Nat) : AC :=
  .seq (.reg [⟨(some 0), none, .op (.mv (.const (.bool false)))⟩])
  (.seq (.reg [⟨(some 1), none, .op (.mv (.const (.slice none 0 0)))⟩])
  (.seq (.seq (.reg [⟨(some 2), none, .op (.mv (.const (.int .i64 0)))⟩])
   (.block 0 (.loop (.seq (.seq (.reg [⟨(some 19), none, .op (.mv (.tmp 2))⟩,
         ⟨(some 20), none, .op (.bin .lss (.tmp 19) (.const (.int .i64 21)))⟩])
      (.cond (.tmp 20)
        (.skip)
        (.exit 0)))
     (.seq (.block 1 (.reg [⟨(some 23), none, .op (.mv (.tmp 1))⟩,
         ⟨(some 24), none, .op (.build [.str [], .emp true] [(0, 1, (.const (.string ⟨#[97, 98, 99, 100]⟩)))])⟩,
         ⟨(some 25), none, .op (.bslice t0 2 1 [.str [], .emp true] [(0, 2, (.tmp 24))])⟩,
         ⟨(some 26), none, .op (.append t0 2 40 false (.tmp 23) (.tmp 25))⟩,
         ⟨(some 1), none, .op (.mv (.tmp 26))⟩]))
     (.reg [⟨(some 21), none, .op (.mv (.tmp 2))⟩,
       ⟨(some 22), none, .op (.bin .add (.tmp 21) (.const (.int .i64 1)))⟩,
       ⟨(some 2), none, .op (.mv (.tmp 22))⟩]))))))
  (.seq (.reg [⟨(some 27), none, .op (.mkslice t1 1 1 [.int .u8 0] (.const (.int .i64 99980)) (.const (.int .i64 99980)))⟩,
     ⟨(some 28), none, .op (.build [.str [], .emp true] [(0, 1, (.const (.string ⟨#[102, 117, 108, 108]⟩))), (1, 1, (.tmp 27))])⟩,
     ⟨(some 29), none, .op (.bslice t0 2 1 [.str [], .emp true] [(0, 2, (.tmp 28))])⟩,
     ⟨(some 3), none, .op (.mv (.tmp 29))⟩])
  (.seq (.reg [⟨(some 30), none, .op (.mkslice t1 1 1 [.int .u8 0] (.const (.int .i64 99981)) (.const (.int .i64 99981)))⟩,
     ⟨(some 31), none, .op (.build [.str [], .emp true] [(0, 1, (.const (.string ⟨#[111, 118, 101, 114]⟩))), (1, 1, (.tmp 30))])⟩,
     ⟨(some 32), none, .op (.bslice t0 2 1 [.str [], .emp true] [(0, 2, (.tmp 31))])⟩,
     ⟨(some 4), none, .op (.mv (.tmp 32))⟩])
  (.seq (.reg [⟨(some 33), none, .call f_riff_Check [(.const (.string ⟨#[87, 65, 86]⟩)), (.const (.slice none 0 0))]⟩,
     ⟨(some 34), none, .op (.bin .eql (.tmp 33) (.const (.int .i64 8)))⟩,
     ⟨(some 35), none, .op (.mv (.tmp 34))⟩,
     ⟨(some 36), (some (35, true)), .call f_riff_Check [(.const (.string ⟨#[87, 65, 86, 69, 53]⟩)), (.const (.slice none 0 0))]⟩,
     ⟨(some 37), (some (35, true)), .op (.bin .eql (.tmp 36) (.const (.int .i64 8)))⟩,
     ⟨(some 38), none, .op (.pick (.tmp 35) (.tmp 37) (.const (.bool false)))⟩,
     ⟨(some 39), none, .op (.mv (.tmp 38))⟩,
     ⟨(some 40), (some (39, true)), .call f_riff_Check [(.const (.string ⟨#[87, 65, 31, 69]⟩)), (.const (.slice none 0 0))]⟩,
     ⟨(some 41), (some (39, true)), .op (.bin .eql (.tmp 40) (.const (.int .i64 8)))⟩,
     ⟨(some 42), none, .op (.pick (.tmp 39) (.tmp 41) (.const (.bool false)))⟩,
     ⟨(some 43), none, .op (.mv (.tmp 42))⟩,
     ⟨(some 44), (some (43, true)), .call f_riff_Check [(.const (.string ⟨#[87, 65, 127, 69]⟩)), (.const (.slice none 0 0))]⟩,
     ⟨(some 45), (some (43, true)), .op (.bin .eql (.tmp 44) (.const (.int .i64 8)))⟩,
     ⟨(some 46), none, .op (.pick (.tmp 43) (.tmp 45) (.const (.bool false)))⟩,
     ⟨(some 47), none, .op (.mv (.tmp 46))⟩,
     ⟨(some 48), (some (47, true)), .call f_riff_Check [(.const (.string ⟨#[32, 126, 126, 32]⟩)), (.const (.slice none 0 0))]⟩,
     ⟨(some 49), (some (47, true)), .op (.bin .eql (.tmp 48) (.const (.int .i64 0)))⟩,
     ⟨(some 50), none, .op (.pick (.tmp 47) (.tmp 49) (.const (.bool false)))⟩,
     ⟨(some 51), none, .op (.mv (.tmp 50))⟩,
     ⟨(some 52), (some (51, true)), .op (.build [.str [], .emp true] [(0, 1, (.const (.string ⟨#[100, 97, 116]⟩)))])⟩,
     ⟨(some 53), (some (51, true)), .op (.bslice t0 2 1 [.str [], .emp true] [(0, 2, (.tmp 52))])⟩,
     ⟨(some 54), (some (51, true)), .call f_riff_Check [(.const (.string ⟨#[87, 65, 86, 69]⟩)), (.tmp 53)]⟩,
     ⟨(some 55), (some (51, true)), .op (.bin .eql (.tmp 54) (.const (.int .i64 8)))⟩,
     ⟨(some 56), none, .op (.pick (.tmp 51) (.tmp 55) (.const (.bool false)))⟩,
     ⟨(some 57), none, .op (.mv (.tmp 56))⟩,
     ⟨(some 58), (some (57, true)), .op (.mv (.tmp 1))⟩,
     ⟨(some 59), (some (57, true)), .call f_riff_Check [(.const (.string ⟨#[]⟩)), (.tmp 58)]⟩,
     ⟨(some 60), (some (57, true)), .op (.bin .eql (.tmp 59) (.const (.int .i64 4)))⟩,
     ⟨(some 61), none, .op (.pick (.tmp 57) (.tmp 60) (.const (.bool false)))⟩,
     ⟨(some 62), none, .op (.mv (.tmp 61))⟩,
     ⟨(some 63), (some (62, true)), .op (.mv (.tmp 1))⟩,
     ⟨(some 64), (some (62, true)), .op (.slice 2 (.tmp 63) none (some (.const (.int .i64 20))) none)⟩,
     ⟨(some 65), (some (62, true)), .call f_riff_Check [(.const (.string ⟨#[87, 65, 86, 69]⟩)), (.tmp 64)]⟩,
     ⟨(some 66), (some (62, true)), .op (.bin .eql (.tmp 65) (.const (.int .i64 0)))⟩,
     ⟨(some 67), none, .op (.pick (.tmp 62) (.tmp 66) (.const (.bool false)))⟩,
     ⟨(some 68), none, .op (.mv (.tmp 67))⟩,
     ⟨(some 69), (some (68, true)), .op (.mv (.tmp 3))⟩,
     ⟨(some 70), (some (68, true)), .call f_riff_Check [(.const (.string ⟨#[87, 65, 86, 69]⟩)), (.tmp 69)]⟩,
     ⟨(some 71), (some (68, true)), .op (.bin .eql (.tmp 70) (.const (.int .i64 0)))⟩,
     ⟨(some 72), none, .op (.pick (.tmp 68) (.tmp 71) (.const (.bool false)))⟩,
     ⟨(some 73), none, .op (.mv (.tmp 72))⟩,
     ⟨(some 74), (some (73, true)), .op (.mv (.tmp 4))⟩,
     ⟨(some 75), (some (73, true)), .call f_riff_Check [(.const (.string ⟨#[87, 65, 86, 69]⟩)), (.tmp 74)]⟩,
     ⟨(some 76), (some (73, true)), .op (.bin .eql (.tmp 75) (.const (.int .i64 8)))⟩,
     ⟨(some 77), none, .op (.pick (.tmp 73) (.tmp 76) (.const (.bool false)))⟩,
     ⟨(some 5), none, .op (.mv (.tmp 77))⟩])
  (.seq (.reg [⟨(some 79), none, .op (.mv (.tmp 3))⟩,
     ⟨(some 80), none, .call f_riff_Write [(.const (.string ⟨#[87, 65, 86, 69]⟩)), (.tmp 79)]⟩,
     ⟨(some 78), none, .op (.mv (.tmp 80))⟩,
     ⟨(some 81), none, .op (.extract (.tmp 78) 0)⟩,
     ⟨(some 82), none, .op (.extract (.tmp 78) 1)⟩,
     ⟨(some 6), none, .op (.mv (.tmp 81))⟩,
     ⟨(some 7), none, .op (.mv (.tmp 82))⟩])
  (.seq (.reg [⟨(some 84), none, .op (.mv (.tmp 1))⟩,
     ⟨(some 85), none, .op (.slice 2 (.tmp 84) none (some (.const (.int .i64 20))) none)⟩,
     ⟨(some 86), none, .call f_riff_Write [(.const (.string ⟨#[87, 65, 86, 69]⟩)), (.tmp 85)]⟩,
     ⟨(some 83), none, .op (.mv (.tmp 86))⟩,
     ⟨(some 87), none, .op (.extract (.tmp 83) 0)⟩,
     ⟨(some 88), none, .op (.extract (.tmp 83) 1)⟩,
     ⟨(some 8), none, .op (.mv (.tmp 87))⟩,
     ⟨(some 9), none, .op (.mv (.tmp 88))⟩])
  (.seq (.seq (.reg [⟨(some 89), none, .op (.mv (.tmp 7))⟩,
      ⟨(some 90), none, .op (.bin .neq (.tmp 89) (.const (.int .i64 0)))⟩,
      ⟨(some 91), none, .op (.mv (.tmp 90))⟩,
      ⟨(some 92), (some (91, false)), .op (.mv (.tmp 9))⟩,
      ⟨(some 93), (some (91, false)), .op (.bin .neq (.tmp 92) (.const (.int .i64 0)))⟩,
      ⟨(some 94), none, .op (.pick (.tmp 91) (.const (.bool true)) (.tmp 93))⟩,
      ⟨(some 95), none, .op (.mv (.tmp 94))⟩,
      ⟨(some 96), (some (95, false)), .op (.mv (.tmp 6))⟩,
      ⟨(some 97), (some (95, false)), .op (.len none (.tmp 96))⟩,
      ⟨(some 98), (some (95, false)), .op (.bin .neq (.tmp 97) (.const (.int .i64 100000)))⟩,
      ⟨(some 99), none, .op (.pick (.tmp 95) (.const (.bool true)) (.tmp 98))⟩,
      ⟨(some 100), none, .op (.mv (.tmp 99))⟩,
      ⟨(some 101), (some (100, false)), .op (.mv (.tmp 8))⟩,
      ⟨(some 102), (some (100, false)), .op (.len none (.tmp 101))⟩,
      ⟨(some 103), (some (100, false)), .op (.bin .neq (.tmp 102) (.const (.int .i64 172)))⟩,
      ⟨(some 104), none, .op (.pick (.tmp 100) (.const (.bool true)) (.tmp 103))⟩])
   (.cond (.tmp 104)
     (.seq (.reg [⟨(some 0), none, .op (.mv (.const (.bool false)))⟩])
     (.ret))
     (.skip)))
  (.seq (.reg [⟨(some 105), none, .op (.bslice t1 1 0 [.int .u8 0] [])⟩,
     ⟨(some 106), none, .op (.mv (.tmp 8))⟩,
     ⟨(some 107), none, .op (.append t1 1 1 false (.tmp 105) (.tmp 106))⟩,
     ⟨(some 108), none, .op (.append t1 1 1 true (.tmp 107) (.const (.string ⟨#[97, 98, 99, 100, 0, 0, 0, 0]⟩)))⟩,
     ⟨(some 10), none, .op (.mv (.tmp 108))⟩])
  (.seq (.reg [⟨(some 109), none, .op (.mv (.tmp 10))⟩,
     ⟨(some 110), none, .op (.iaddr (.slice 1) (.tmp 109) (.const (.int .i64 4)))⟩,
     ⟨(some 111), none, .op (.load none (.tmp 110))⟩,
     ⟨(some 112), none, .op (.bin .add (.tmp 111) (.const (.int .u8 8)))⟩,
     ⟨(some 113), none, .op (.iaddr (.slice 1) (.tmp 109) (.const (.int .i64 4)))⟩,
     ⟨none, none, .op (.store 1 (.tmp 113) (.tmp 112))⟩])
  (.seq (.reg [⟨(some 114), none, .call f_cadenzalaw31_reads [(.const (.string ⟨#[]⟩)), (.const (.int .i64 24))]⟩,
     ⟨(some 115), none, .op (.mv (.tmp 114))⟩,
     ⟨(some 116), (some (115, true)), .call f_cadenzalaw31_reads [(.const (.string ⟨#[82, 73, 70, 70, 4, 0, 0, 0, 87, 65, 86]⟩)), (.const (.int .i64 24))]⟩,
     ⟨(some 117), none, .op (.pick (.tmp 115) (.tmp 116) (.const (.bool false)))⟩,
     ⟨(some 118), none, .op (.mv (.tmp 117))⟩,
     ⟨(some 119), (some (118, true)), .call f_cadenzalaw31_reads [(.const (.string ⟨#[82, 73, 70, 70, 5, 0, 0, 0, 87, 65, 86, 69]⟩)), (.const (.int .i64 24))]⟩,
     ⟨(some 120), none, .op (.pick (.tmp 118) (.tmp 119) (.const (.bool false)))⟩,
     ⟨(some 121), none, .op (.mv (.tmp 120))⟩,
     ⟨(some 122), (some (121, true)), .op (.mv (.tmp 6))⟩,
     ⟨(some 123), (some (121, true)), .op (.slice 1 (.tmp 122) none (some (.const (.int .i64 99999))) none)⟩,
     ⟨(some 124), (some (121, true)), .op (.conv .toStr (.tmp 123))⟩,
     ⟨(some 125), (some (121, true)), .call f_cadenzalaw31_reads [(.tmp 124), (.const (.int .i64 24))]⟩,
     ⟨(some 126), none, .op (.pick (.tmp 121) (.tmp 125) (.const (.bool false)))⟩,
     ⟨(some 11), none, .op (.mv (.tmp 126))⟩])
  (.seq (.reg [⟨(some 127), none, .call f_cadenzalaw31_reads [(.const (.string ⟨#[82, 73, 70, 88, 4, 0, 0, 0, 87, 65, 86, 69]⟩)), (.const (.int .i64 12))]⟩,
     ⟨(some 128), none, .op (.mv (.tmp 127))⟩,
     ⟨(some 129), (some (128, true)), .call f_cadenzalaw31_reads [(.const (.string ⟨#[82, 73, 70, 70, 3, 0, 0, 0, 87, 65, 86, 69]⟩)), (.const (.int .i64 12))]⟩,
     ⟨(some 130), none, .op (.pick (.tmp 128) (.tmp 129) (.const (.bool false)))⟩,
     ⟨(some 131), none, .op (.mv (.tmp 130))⟩,
     ⟨(some 132), (some (131, true)), .call f_cadenzalaw31_reads [(.const (.string ⟨#[82, 73, 70, 70, 4, 0, 0, 0, 87, 65, 0, 69]⟩)), (.const (.int .i64 12))]⟩,
     ⟨(some 133), none, .op (.pick (.tmp 131) (.tmp 132) (.const (.bool false)))⟩,
     ⟨(some 134), none, .op (.mv (.tmp 133))⟩,
     ⟨(some 135), (some (134, true)), .call f_cadenzalaw31_reads [(.const (.string ⟨#[82, 73, 70, 70, 5, 0, 0, 0, 87, 65, 86, 69, 100]⟩)), (.const (.int .i64 12))]⟩,
     ⟨(some 136), none, .op (.pick (.tmp 134) (.tmp 135) (.const (.bool false)))⟩,
     ⟨(some 137), none, .op (.mv (.tmp 136))⟩,
     ⟨(some 138), (some (137, true)), .call f_cadenzalaw31_reads [(.const (.string ⟨#[82, 73, 70, 70, 11, 0, 0, 0, 87, 65, 86, 69, 100, 97, 116, 97, 0, 0, 0]⟩)), (.const (.int .i64 12))]⟩,
     ⟨(some 139), none, .op (.pick (.tmp 137) (.tmp 138) (.const (.bool false)))⟩,
     ⟨(some 140), none, .op (.mv (.tmp 139))⟩,
     ⟨(some 141), (some (140, true)), .call f_cadenzalaw31_reads [(.const (.string ⟨#[82, 73, 70, 70, 12, 0, 0, 0, 87, 65, 86, 69, 100, 0, 116, 97, 0, 0, 0, 0]⟩)), (.const (.int .i64 12))]⟩,
     ⟨(some 142), none, .op (.pick (.tmp 140) (.tmp 141) (.const (.bool false)))⟩,
     ⟨(some 143), none, .op (.mv (.tmp 142))⟩,
     ⟨(some 144), (some (143, true)), .call f_cadenzalaw31_reads [(.const (.string ⟨#[82, 73, 70, 70, 12, 0, 0, 0, 87, 65, 86, 69, 100, 97, 116, 97, 1, 0, 0, 0]⟩)), (.const (.int .i64 12))]⟩,
     ⟨(some 145), none, .op (.pick (.tmp 143) (.tmp 144) (.const (.bool false)))⟩,
     ⟨(some 146), none, .op (.mv (.tmp 145))⟩,
     ⟨(some 147), (some (146, true)), .call f_cadenzalaw31_reads [(.const (.string ⟨#[82, 73, 70, 70, 13, 0, 0, 0, 87, 65, 86, 69, 100, 97, 116, 97, 1, 0, 0, 0, 120]⟩)), (.const (.int .i64 12))]⟩,
     ⟨(some 148), none, .op (.pick (.tmp 146) (.tmp 147) (.const (.bool false)))⟩,
     ⟨(some 149), none, .op (.mv (.tmp 148))⟩,
     ⟨(some 150), (some (149, true)), .call f_cadenzalaw31_reads [(.const (.string ⟨#[82, 73, 70, 70, 14, 0, 0, 0, 87, 65, 86, 69, 100, 97, 116, 97, 1, 0, 0, 0, 120, 121]⟩)), (.const (.int .i64 12))]⟩,
     ⟨(some 151), none, .op (.pick (.tmp 149) (.tmp 150) (.const (.bool false)))⟩,
     ⟨(some 152), none, .op (.mv (.tmp 151))⟩,
     ⟨(some 153), (some (152, true)), .call f_cadenzalaw31_reads [(.const (.string ⟨#[82, 73, 70, 70, 12, 0, 0, 0, 87, 65, 86, 69, 100, 97, 116, 97, 255, 255, 255, 255]⟩)), (.const (.int .i64 12))]⟩,
     ⟨(some 154), none, .op (.pick (.tmp 152) (.tmp 153) (.const (.bool false)))⟩,
     ⟨(some 12), none, .op (.mv (.tmp 154))⟩])
  (.seq (.reg [⟨(some 155), none, .call f_cadenzalaw31_reads [(.const (.string ⟨#[82, 73, 70, 70, 255, 255, 255, 255, 87, 65, 86, 69]⟩)), (.const (.int .i64 4))]⟩,
     ⟨(some 156), none, .op (.mv (.tmp 155))⟩,
     ⟨(some 157), (some (156, true)), .call f_cadenzalaw31_reads [(.const (.string ⟨#[82, 73, 70, 70, 153, 134, 1, 0, 87, 65, 86, 69]⟩)), (.const (.int .i64 4))]⟩,
     ⟨(some 158), none, .op (.pick (.tmp 156) (.tmp 157) (.const (.bool false)))⟩,
     ⟨(some 159), none, .op (.mv (.tmp 158))⟩,
     ⟨(some 160), (some (159, true)), .call f_cadenzalaw31_reads [(.const (.string ⟨#[82, 73, 70, 70, 152, 134, 1, 0, 87, 65, 86, 69]⟩)), (.const (.int .i64 24))]⟩,
     ⟨(some 161), none, .op (.pick (.tmp 159) (.tmp 160) (.const (.bool false)))⟩,
     ⟨(some 162), none, .op (.mv (.tmp 161))⟩,
     ⟨(some 163), (some (162, true)), .op (.mv (.tmp 10))⟩,
     ⟨(some 164), (some (162, true)), .op (.conv .toStr (.tmp 163))⟩,
     ⟨(some 165), (some (162, true)), .call f_cadenzalaw31_reads [(.tmp 164), (.const (.int .i64 4))]⟩,
     ⟨(some 166), none, .op (.pick (.tmp 162) (.tmp 165) (.const (.bool false)))⟩,
     ⟨(some 13), none, .op (.mv (.tmp 166))⟩])
  (.seq (.reg [⟨(some 167), none, .call f_cadenzalaw31_reads [(.const (.string ⟨#[82, 73, 70, 70, 4, 0, 0, 0, 87, 65, 86, 69]⟩)), (.const (.int .i64 0))]⟩,
     ⟨(some 168), none, .op (.mv (.tmp 167))⟩,
     ⟨(some 169), (some (168, true)), .call f_cadenzalaw31_reads [(.const (.string ⟨#[82, 73, 70, 70, 14, 0, 0, 0, 87, 65, 86, 69, 100, 97, 116, 97, 1, 0, 0, 0, 120, 0]⟩)), (.const (.int .i64 0))]⟩,
     ⟨(some 170), none, .op (.pick (.tmp 168) (.tmp 169) (.const (.bool false)))⟩,
     ⟨(some 171), none, .op (.mv (.tmp 170))⟩,
     ⟨(some 172), (some (171, true)), .op (.mv (.tmp 6))⟩,
     ⟨(some 173), (some (171, true)), .op (.conv .toStr (.tmp 172))⟩,
     ⟨(some 174), (some (171, true)), .call f_cadenzalaw31_reads [(.tmp 173), (.const (.int .i64 0))]⟩,
     ⟨(some 175), none, .op (.pick (.tmp 171) (.tmp 174) (.const (.bool false)))⟩,
     ⟨(some 176), none, .op (.mv (.tmp 175))⟩,
     ⟨(some 177), (some (176, true)), .call f_cadenzalaw31_reads [(.const (.string ⟨#[82, 73, 70, 70, 4, 0, 0, 0, 87, 65, 86, 69, 120]⟩)), (.const (.int .i64 38))]⟩,
     ⟨(some 178), none, .op (.pick (.tmp 176) (.tmp 177) (.const (.bool false)))⟩,
     ⟨(some 179), none, .op (.mv (.tmp 178))⟩,
     ⟨(some 180), (some (179, true)), .op (.mv (.tmp 6))⟩,
     ⟨(some 181), (some (179, true)), .op (.conv .toStr (.tmp 180))⟩,
     ⟨(some 182), (some (179, true)), .op (.bin .add (.tmp 181) (.const (.string ⟨#[120]⟩)))⟩,
     ⟨(some 183), (some (179, true)), .call f_cadenzalaw31_reads [(.tmp 182), (.const (.int .i64 38))]⟩,
     ⟨(some 184), none, .op (.pick (.tmp 179) (.tmp 183) (.const (.bool false)))⟩,
     ⟨(some 14), none, .op (.mv (.tmp 184))⟩])
  (.seq (.reg [⟨(some 186), none, .op (.build [.str [], .emp true] [(0, 1, (.const (.string ⟨#[97]⟩)))])⟩,
     ⟨(some 187), none, .op (.build [.str [], .emp true] [(0, 1, (.const (.string ⟨#[98]⟩)))])⟩,
     ⟨(some 188), none, .op (.build [.str [], .emp true] [(0, 1, (.const (.string ⟨#[98]⟩)))])⟩,
     ⟨(some 189), none, .op (.bslice t0 2 3 [.str [], .emp true] [(0, 2, (.tmp 186)), (2, 2, (.tmp 187)), (4, 2, (.tmp 188))])⟩,
     ⟨(some 190), none, .call f_riff_Find [(.tmp 189), (.const (.string ⟨#[98]⟩))]⟩,
     ⟨(some 185), none, .op (.mv (.tmp 190))⟩,
     ⟨(some 191), none, .op (.extract (.tmp 185) 0)⟩,
     ⟨(some 192), none, .op (.extract (.tmp 185) 1)⟩,
     ⟨(some 15), none, .op (.mv (.tmp 191))⟩,
     ⟨(some 16), none, .op (.mv (.tmp 192))⟩])
  (.seq (.reg [⟨(some 194), none, .call f_riff_Find [(.const (.slice none 0 0)), (.const (.string ⟨#[]⟩))]⟩,
     ⟨(some 193), none, .op (.mv (.tmp 194))⟩,
     ⟨(some 195), none, .op (.extract (.tmp 193) 0)⟩,
     ⟨(some 196), none, .op (.extract (.tmp 193) 1)⟩,
     ⟨(some 17), none, .op (.mv (.tmp 195))⟩,
     ⟨(some 18), none, .op (.mv (.tmp 196))⟩])
  (.seq (.reg [⟨(some 197), none, .op (.mv (.const (.bool true)))⟩,
     ⟨(some 198), (some (197, true)), .call f_cadenzalaw31_alive []⟩,
     ⟨(some 199), none, .op (.pick (.tmp 197) (.tmp 198) (.const (.bool false)))⟩,
     ⟨(some 200), none, .op (.mv (.tmp 199))⟩,
     ⟨(some 201), (some (200, true)), .op (.mv (.tmp 5))⟩,
     ⟨(some 202), none, .op (.pick (.tmp 200) (.tmp 201) (.const (.bool false)))⟩,
     ⟨(some 203), none, .op (.mv (.tmp 202))⟩,
     ⟨(some 204), (some (203, true)), .op (.mv (.tmp 11))⟩,
     ⟨(some 205), none, .op (.pick (.tmp 203) (.tmp 204) (.const (.bool false)))⟩,
     ⟨(some 206), none, .op (.mv (.tmp 205))⟩,
     ⟨(some 207), (some (206, true)), .op (.mv (.tmp 12))⟩,
     ⟨(some 208), none, .op (.pick (.tmp 206) (.tmp 207) (.const (.bool false)))⟩,
     ⟨(some 209), none, .op (.mv (.tmp 208))⟩,
     ⟨(some 210), (some (209, true)), .op (.mv (.tmp 13))⟩,
     ⟨(some 211), none, .op (.pick (.tmp 209) (.tmp 210) (.const (.bool false)))⟩,
     ⟨(some 212), none, .op (.mv (.tmp 211))⟩,
     ⟨(some 213), (some (212, true)), .op (.mv (.tmp 14))⟩,
     ⟨(some 214), none, .op (.pick (.tmp 212) (.tmp 213) (.const (.bool false)))⟩,
     ⟨(some 215), none, .op (.mv (.tmp 214))⟩,
     ⟨(some 216), (some (215, true)), .op (.mv (.tmp 16))⟩,
     ⟨(some 217), (some (215, true)), .op (.bin .eql (.tmp 216) (.const (.int .i64 0)))⟩,
     ⟨(some 218), none, .op (.pick (.tmp 215) (.tmp 217) (.const (.bool false)))⟩,
     ⟨(some 219), none, .op (.mv (.tmp 218))⟩,
     ⟨(some 220), (some (219, true)), .op (.mv (.tmp 15))⟩,
     ⟨(some 221), (some (219, true)), .op (.bin .eql (.tmp 220) (.const (.int .i64 1)))⟩,
     ⟨(some 222), none, .op (.pick (.tmp 219) (.tmp 221) (.const (.bool false)))⟩,
     ⟨(some 223), none, .op (.mv (.tmp 222))⟩,
     ⟨(some 224), (some (223, true)), .op (.mv (.tmp 18))⟩,
     ⟨(some 225), (some (223, true)), .op (.bin .eql (.tmp 224) (.const (.int .i64 6)))⟩,
     ⟨(some 226), none, .op (.pick (.tmp 223) (.tmp 225) (.const (.bool false)))⟩,
     ⟨(some 0), none, .op (.mv (.tmp 226))⟩])
  (.ret))))))))))))))))))

def ac_cadenzalaw31_RiffFind (f_cadenzalaw31_alive f_riff_Find t0 : Nat) : AC :=
  .seq (.reg [⟨(some 6), none, .op (.mv (.const (.bool false)))⟩])
  (.seq (.reg [⟨(some 13), none, .call f_cadenzalaw31_alive []⟩,
     ⟨(some 7), none, .op (.mv (.tmp 13))⟩])
  (.seq (.seq (.reg [⟨(some 14), none, .op (.mv (.tmp 0))⟩,
      ⟨(some 15), none, .op (.len none (.tmp 14))⟩,
      ⟨(some 16), none, .op (.bin .gtr (.tmp 15) (.const (.int .i64 25)))⟩,
      ⟨(some 17), none, .op (.mv (.tmp 16))⟩,
      ⟨(some 18), (some (17, false)), .op (.mv (.tmp 1))⟩,
      ⟨(some 19), (some (17, false)), .op (.len (some none) (.tmp 18))⟩,
      ⟨(some 20), (some (17, false)), .op (.bin .gtr (.tmp 19) (.const (.int .i64 100)))⟩,
      ⟨(some 21), none, .op (.pick (.tmp 17) (.const (.bool true)) (.tmp 20))⟩,
      ⟨(some 22), none, .op (.mv (.tmp 21))⟩,
      ⟨(some 23), (some (22, false)), .op (.mv (.tmp 2))⟩,
      ⟨(some 24), (some (22, false)), .op (.len (some none) (.tmp 23))⟩,
      ⟨(some 25), (some (22, false)), .op (.bin .gtr (.tmp 24) (.const (.int .i64 100)))⟩,
      ⟨(some 26), none, .op (.pick (.tmp 22) (.const (.bool true)) (.tmp 25))⟩,
      ⟨(some 27), none, .op (.mv (.tmp 26))⟩,
      ⟨(some 28), (some (27, false)), .op (.mv (.tmp 7))⟩,
      ⟨(some 29), (some (27, false)), .op (.un .not (.tmp 28))⟩,
      ⟨(some 30), none, .op (.pick (.tmp 27) (.const (.bool true)) (.tmp 29))⟩])
   (.cond (.tmp 30)
     (.seq (.reg [⟨(some 31), none, .op (.mv (.tmp 7))⟩,
        ⟨(some 6), none, .op (.mv (.tmp 31))⟩])
     (.ret))
     (.skip)))
  (.seq (.reg [⟨(some 33), none, .op (.mv (.tmp 0))⟩,
     ⟨(some 34), none, .op (.mv (.tmp 1))⟩,
     ⟨(some 35), none, .call f_riff_Find [(.tmp 33), (.tmp 34)]⟩,
     ⟨(some 32), none, .op (.mv (.tmp 35))⟩,
     ⟨(some 36), none, .op (.extract (.tmp 32) 0)⟩,
     ⟨(some 37), none, .op (.extract (.tmp 32) 1)⟩,
     ⟨(some 8), none, .op (.mv (.tmp 36))⟩,
     ⟨(some 9), none, .op (.mv (.tmp 37))⟩])
  (.seq (.seq (.reg [⟨(some 38), none, .op (.mv (.tmp 9))⟩,
      ⟨(some 39), none, .op (.bin .eql (.tmp 38) (.const (.int .i64 0)))⟩,
      ⟨(some 40), none, .op (.mv (.tmp 39))⟩,
      ⟨(some 41), (some (40, true)), .op (.mv (.tmp 8))⟩,
      ⟨(some 42), (some (40, true)), .op (.bin .lss (.tmp 41) (.const (.int .i64 0)))⟩,
      ⟨(some 43), (some (40, true)), .op (.mv (.tmp 42))⟩,
      ⟨(some 44), (some (43, false)), .op (.mv (.tmp 8))⟩,
      ⟨(some 45), (some (43, false)), .op (.mv (.tmp 0))⟩,
      ⟨(some 46), (some (43, false)), .op (.len none (.tmp 45))⟩,
      ⟨(some 47), (some (43, false)), .op (.bin .geq (.tmp 44) (.tmp 46))⟩,
      ⟨(some 48), (some (40, true)), .op (.pick (.tmp 43) (.const (.bool true)) (.tmp 47))⟩,
      ⟨(some 49), (some (40, true)), .op (.mv (.tmp 48))⟩,
      ⟨(some 50), (some (49, false)), .op (.mv (.tmp 0))⟩,
      ⟨(some 51), (some (49, false)), .op (.mv (.tmp 8))⟩,
      ⟨(some 52), (some (49, false)), .op (.iaddr (.slice 2) (.tmp 50) (.tmp 51))⟩,
      ⟨(some 53), (some (49, false)), .op (.faddr 0 (.tmp 52))⟩,
      ⟨(some 54), (some (49, false)), .op (.load none (.tmp 53))⟩,
      ⟨(some 55), (some (49, false)), .op (.mv (.tmp 1))⟩,
      ⟨(some 56), (some (49, false)), .op (.bin .neq (.tmp 54) (.tmp 55))⟩,
      ⟨(some 57), (some (40, true)), .op (.pick (.tmp 49) (.const (.bool true)) (.tmp 56))⟩,
      ⟨(some 58), none, .op (.pick (.tmp 40) (.tmp 57) (.const (.bool false)))⟩])
   (.cond (.tmp 58)
     (.seq (.reg [⟨(some 6), none, .op (.mv (.const (.bool false)))⟩])
     (.ret))
     (.skip)))
  (.seq (.seq (.reg [⟨(some 10), none, .op (.mv (.const (.int .i64 0)))⟩])
   (.block 0 (.loop (.seq (.seq (.reg [⟨(some 59), none, .op (.mv (.tmp 10))⟩,
         ⟨(some 60), none, .op (.mv (.tmp 0))⟩,
         ⟨(some 61), none, .op (.len none (.tmp 60))⟩,
         ⟨(some 62), none, .op (.bin .lss (.tmp 59) (.tmp 61))⟩])
      (.cond (.tmp 62)
        (.skip)
        (.exit 0)))
     (.seq (.block 1 (.seq (.reg [⟨(some 65), none, .op (.mv (.tmp 0))⟩,
          ⟨(some 66), none, .op (.mv (.tmp 10))⟩,
          ⟨(some 67), none, .op (.iaddr (.slice 2) (.tmp 65) (.tmp 66))⟩,
          ⟨(some 68), none, .op (.faddr 0 (.tmp 67))⟩,
          ⟨(some 69), none, .op (.load none (.tmp 68))⟩,
          ⟨(some 70), none, .op (.mv (.tmp 1))⟩,
          ⟨(some 71), none, .op (.bin .eql (.tmp 69) (.tmp 70))⟩,
          ⟨(some 72), none, .op (.mv (.tmp 71))⟩,
          ⟨(some 73), (some (72, true)), .op (.mv (.tmp 9))⟩,
          ⟨(some 74), (some (72, true)), .op (.bin .neq (.tmp 73) (.const (.int .i64 0)))⟩,
          ⟨(some 75), (some (72, true)), .op (.mv (.tmp 74))⟩,
          ⟨(some 76), (some (75, false)), .op (.mv (.tmp 10))⟩,
          ⟨(some 77), (some (75, false)), .op (.mv (.tmp 8))⟩,
          ⟨(some 78), (some (75, false)), .op (.bin .lss (.tmp 76) (.tmp 77))⟩,
          ⟨(some 79), (some (72, true)), .op (.pick (.tmp 75) (.const (.bool true)) (.tmp 78))⟩,
          ⟨(some 80), none, .op (.pick (.tmp 72) (.tmp 79) (.const (.bool false)))⟩])
       (.cond (.tmp 80)
         (.seq (.reg [⟨(some 6), none, .op (.mv (.const (.bool false)))⟩])
         (.ret))
         (.skip))))
     (.reg [⟨(some 63), none, .op (.mv (.tmp 10))⟩,
       ⟨(some 64), none, .op (.bin .add (.tmp 63) (.const (.int .i64 1)))⟩,
       ⟨(some 10), none, .op (.mv (.tmp 64))⟩]))))))
  (.seq (.reg [⟨(some 82), none, .op (.mv (.tmp 2))⟩,
     ⟨(some 83), none, .op (.build [.str [], .emp true] [(0, 1, (.tmp 82))])⟩,
     ⟨(some 84), none, .op (.bslice t0 2 1 [.str [], .emp true] [(0, 2, (.tmp 83))])⟩,
     ⟨(some 85), none, .op (.mv (.tmp 0))⟩,
     ⟨(some 86), none, .op (.append t0 2 40 false (.tmp 84) (.tmp 85))⟩,
     ⟨(some 87), none, .op (.mv (.tmp 1))⟩,
     ⟨(some 88), none, .call f_riff_Find [(.tmp 86), (.tmp 87)]⟩,
     ⟨(some 81), none, .op (.mv (.tmp 88))⟩,
     ⟨(some 89), none, .op (.extract (.tmp 81) 0)⟩,
     ⟨(some 90), none, .op (.extract (.tmp 81) 1)⟩,
     ⟨(some 11), none, .op (.mv (.tmp 89))⟩,
     ⟨(some 12), none, .op (.mv (.tmp 90))⟩])
  (.seq (.seq (.reg [⟨(some 91), none, .op (.mv (.tmp 2))⟩,
      ⟨(some 92), none, .op (.mv (.tmp 1))⟩,
      ⟨(some 93), none, .op (.bin .eql (.tmp 91) (.tmp 92))⟩])
   (.cond (.tmp 93)
     (.seq (.reg [⟨(some 94), none, .op (.mv (.tmp 7))⟩,
        ⟨(some 95), none, .op (.mv (.tmp 94))⟩,
        ⟨(some 96), (some (95, true)), .op (.mv (.tmp 12))⟩,
        ⟨(some 97), (some (95, true)), .op (.bin .eql (.tmp 96) (.const (.int .i64 0)))⟩,
        ⟨(some 98), none, .op (.pick (.tmp 95) (.tmp 97) (.const (.bool false)))⟩,
        ⟨(some 99), none, .op (.mv (.tmp 98))⟩,
        ⟨(some 100), (some (99, true)), .op (.mv (.tmp 11))⟩,
        ⟨(some 101), (some (99, true)), .op (.bin .eql (.tmp 100) (.const (.int .i64 0)))⟩,
        ⟨(some 102), none, .op (.pick (.tmp 99) (.tmp 101) (.const (.bool false)))⟩,
        ⟨(some 6), none, .op (.mv (.tmp 102))⟩])
     (.ret))
     (.skip)))
  (.seq (.reg [⟨(some 103), none, .op (.mv (.tmp 7))⟩,
     ⟨(some 104), none, .op (.mv (.tmp 103))⟩,
     ⟨(some 105), (some (104, true)), .op (.mv (.tmp 12))⟩,
     ⟨(some 106), (some (104, true)), .op (.mv (.tmp 9))⟩,
     ⟨(some 107), (some (104, true)), .op (.bin .eql (.tmp 105) (.tmp 106))⟩,
     ⟨(some 108), none, .op (.pick (.tmp 104) (.tmp 107) (.const (.bool false)))⟩,
     ⟨(some 109), none, .op (.mv (.tmp 108))⟩,
     ⟨(some 110), (some (109, true)), .op (.mv (.tmp 9))⟩,
     ⟨(some 111), (some (109, true)), .op (.bin .neq (.tmp 110) (.const (.int .i64 0)))⟩,
     ⟨(some 112), (some (109, true)), .op (.mv (.tmp 111))⟩,
     ⟨(some 113), (some (112, false)), .op (.mv (.tmp 11))⟩,
     ⟨(some 114), (some (112, false)), .op (.mv (.tmp 8))⟩,
     ⟨(some 115), (some (112, false)), .op (.bin .add (.tmp 114) (.const (.int .i64 1)))⟩,
     ⟨(some 116), (some (112, false)), .op (.bin .eql (.tmp 113) (.tmp 115))⟩,
     ⟨(some 117), (some (109, true)), .op (.pick (.tmp 112) (.const (.bool true)) (.tmp 116))⟩,
     ⟨(some 118), none, .op (.pick (.tmp 109) (.tmp 117) (.const (.bool false)))⟩,
     ⟨(some 6), none, .op (.mv (.tmp 118))⟩])
  (.ret)))))))))

def ac_cadenzaref31_Great (f_cadenzaref31_Size : Nat) : AC :=
  .seq (.reg [⟨(some 4), none, .op (.mv (.const (.bool false)))⟩])
  (.seq (.seq (.reg [⟨(some 6), none, .op (.mv (.tmp 1))⟩,
      ⟨(some 7), none, .op (.len none (.tmp 6))⟩,
      ⟨(some 8), none, .op (.bin .gtr (.tmp 7) (.const (.int .i64 25)))⟩,
      ⟨(some 9), none, .op (.mv (.tmp 8))⟩,
      ⟨(some 10), (some (9, false)), .op (.mv (.tmp 0))⟩,
      ⟨(some 11), (some (9, false)), .op (.len (some none) (.tmp 10))⟩,
      ⟨(some 12), (some (9, false)), .op (.bin .gtr (.tmp 11) (.const (.int .i64 20)))⟩,
      ⟨(some 13), none, .op (.pick (.tmp 9) (.const (.bool true)) (.tmp 12))⟩])
   (.cond (.tmp 13)
     (.seq (.reg [⟨(some 4), none, .op (.mv (.const (.bool true)))⟩])
     (.ret))
     (.skip)))
  (.seq (.seq (.reg [⟨(some 5), none, .op (.mv (.const (.int .i64 0)))⟩])
   (.block 0 (.loop (.seq (.seq (.reg [⟨(some 14), none, .op (.mv (.tmp 5))⟩,
         ⟨(some 15), none, .op (.mv (.tmp 1))⟩,
         ⟨(some 16), none, .op (.len none (.tmp 15))⟩,
         ⟨(some 17), none, .op (.bin .lss (.tmp 14) (.tmp 16))⟩])
      (.cond (.tmp 17)
        (.skip)
        (.exit 0)))
     (.seq (.block 1 (.seq (.reg [⟨(some 20), none, .op (.mv (.tmp 1))⟩,
          ⟨(some 21), none, .op (.mv (.tmp 5))⟩,
          ⟨(some 22), none, .op (.iaddr (.slice 2) (.tmp 20) (.tmp 21))⟩,
          ⟨(some 23), none, .op (.faddr 0 (.tmp 22))⟩,
          ⟨(some 24), none, .op (.load none (.tmp 23))⟩,
          ⟨(some 25), none, .op (.len (some none) (.tmp 24))⟩,
          ⟨(some 26), none, .op (.bin .gtr (.tmp 25) (.const (.int .i64 20)))⟩,
          ⟨(some 27), none, .op (.mv (.tmp 26))⟩,
          ⟨(some 28), (some (27, false)), .op (.mv (.tmp 1))⟩,
          ⟨(some 29), (some (27, false)), .op (.mv (.tmp 5))⟩,
          ⟨(some 30), (some (27, false)), .op (.iaddr (.slice 2) (.tmp 28) (.tmp 29))⟩,
          ⟨(some 31), (some (27, false)), .op (.faddr 1 (.tmp 30))⟩,
          ⟨(some 32), (some (27, false)), .op (.load none (.tmp 31))⟩,
          ⟨(some 33), (some (27, false)), .op (.len none (.tmp 32))⟩,
          ⟨(some 34), (some (27, false)), .op (.bin .gtr (.tmp 33) (.const (.int .i64 100200)))⟩,
          ⟨(some 35), none, .op (.pick (.tmp 27) (.const (.bool true)) (.tmp 34))⟩])
       (.cond (.tmp 35)
         (.seq (.reg [⟨(some 4), none, .op (.mv (.const (.bool true)))⟩])
         (.ret))
         (.skip))))
     (.reg [⟨(some 18), none, .op (.mv (.tmp 5))⟩,
       ⟨(some 19), none, .op (.bin .add (.tmp 18) (.const (.int .i64 1)))⟩,
       ⟨(some 5), none, .op (.mv (.tmp 19))⟩]))))))
  (.seq (.reg [⟨(some 36), none, .op (.mv (.tmp 1))⟩,
     ⟨(some 37), none, .call f_cadenzaref31_Size [(.tmp 36)]⟩,
     ⟨(some 38), none, .op (.bin .gtr (.tmp 37) (.const (.int .i64 1500)))⟩,
     ⟨(some 39), none, .op (.mv (.tmp 38))⟩,
     ⟨(some 40), (some (39, true)), .op (.mv (.tmp 1))⟩,
     ⟨(some 41), (some (39, true)), .call f_cadenzaref31_Size [(.tmp 40)]⟩,
     ⟨(some 42), (some (39, true)), .op (.bin .lss (.tmp 41) (.const (.int .i64 99900)))⟩,
     ⟨(some 43), none, .op (.pick (.tmp 39) (.tmp 42) (.const (.bool false)))⟩,
     ⟨(some 44), none, .op (.mv (.tmp 43))⟩,
     ⟨(some 45), (some (44, false)), .op (.mv (.tmp 1))⟩,
     ⟨(some 46), (some (44, false)), .call f_cadenzaref31_Size [(.tmp 45)]⟩,
     ⟨(some 47), (some (44, false)), .op (.bin .gtr (.tmp 46) (.const (.int .i64 100100)))⟩,
     ⟨(some 48), none, .op (.pick (.tmp 44) (.const (.bool true)) (.tmp 47))⟩,
     ⟨(some 4), none, .op (.mv (.tmp 48))⟩])
  (.ret))))

def ac_riff_Write (f_riff_Check f_riff_Write_1 f_riff_size f_bytes_Buffer_WriteString f_bytes_Buffer_Write f_bytes_Buffer_Bytes t0 t1 t2 : Nat) : AC :=
  .seq (.reg [⟨(some 4), none, .op (.mv (.const (.slice none 0 0)))⟩,
     ⟨(some 5), none, .op (.mv (.const (.int .i64 0)))⟩])
  (.seq (.seq (.reg [⟨(some 11), none, .op (.mv (.tmp 0))⟩,
      ⟨(some 12), none, .op (.mv (.tmp 1))⟩,
      ⟨(some 13), none, .call f_riff_Check [(.tmp 11), (.tmp 12)]⟩,
      ⟨(some 6), none, .op (.mv (.tmp 13))⟩])
   (.seq (.reg [⟨(some 14), none, .op (.mv (.tmp 6))⟩,
      ⟨(some 15), none, .op (.bin .neq (.tmp 14) (.const (.int .i64 0)))⟩])
   (.cond (.tmp 15)
     (.seq (.reg [⟨(some 16), none, .op (.mv (.tmp 6))⟩,
        ⟨(some 4), none, .op (.mv (.const (.slice none 0 0)))⟩,
        ⟨(some 5), none, .op (.mv (.tmp 16))⟩])
     (.ret))
     (.skip))))
  (.seq (.reg [⟨(some 7), none, .op (.alloc t0 [.emp true, .int .i64 0, .int .i8 0])⟩])
  (.seq (.reg [⟨(some 17), none, .op (.mkfn (.func f_riff_Write_1) [] [(.tmp 7)])⟩,
     ⟨(some 8), none, .op (.mv (.tmp 17))⟩])
  (.seq (.reg [⟨(some 18), none, .op (.mv (.tmp 8))⟩,
     ⟨(some 19), none, .op (.mv (.tmp 1))⟩,
     ⟨(some 20), none, .call f_riff_size [(.tmp 19)]⟩,
     ⟨(some 21), none, .callv 18 [(.const (.string ⟨#[82, 73, 70, 70]⟩)), (.tmp 20)]⟩])
  (.seq (.reg [⟨(some 22), none, .op (.mv (.tmp 0))⟩,
     ⟨(some 23), none, .call f_bytes_Buffer_WriteString [(.tmp 7), (.tmp 22)]⟩])
  (.seq (.seq (.reg [⟨(some 24), none, .op (.mv (.tmp 1))⟩,
      ⟨(some 25), none, .op (.len none (.tmp 24))⟩,
      ⟨(some 26), none, .op (.mv (.const (.int .i64 0)))⟩])
   (.block 0 (.loop (.seq (.reg [⟨(some 27), none, .op (.bin .lss (.tmp 26) (.tmp 25))⟩])
     (.seq (.cond (.tmp 27)
        (.skip)
        (.exit 0))
     (.seq (.block 1 (.seq (.reg [⟨(some 28), none, .op (.iaddr (.slice 2) (.tmp 24) (.tmp 26))⟩,
          ⟨(some 29), none, .op (.load (some 2) (.tmp 28))⟩,
          ⟨(some 10), none, .op (.alloc t1 [.str [], .emp true])⟩,
          ⟨none, none, .op (.store 2 (.tmp 10) (.tmp 29))⟩])
       (.seq (.reg [⟨(some 30), none, .op (.mv (.tmp 8))⟩,
          ⟨(some 31), none, .op (.faddr 0 (.tmp 10))⟩,
          ⟨(some 32), none, .op (.load none (.tmp 31))⟩,
          ⟨(some 33), none, .op (.faddr 1 (.tmp 10))⟩,
          ⟨(some 34), none, .op (.load none (.tmp 33))⟩,
          ⟨(some 35), none, .op (.len none (.tmp 34))⟩,
          ⟨(some 36), none, .callv 30 [(.tmp 32), (.tmp 35)]⟩])
       (.seq (.reg [⟨(some 37), none, .op (.faddr 1 (.tmp 10))⟩,
          ⟨(some 38), none, .op (.load none (.tmp 37))⟩,
          ⟨(some 39), none, .call f_bytes_Buffer_Write [(.tmp 7), (.tmp 38)]⟩])
       (.reg [⟨(some 40), none, .op (.faddr 1 (.tmp 10))⟩,
         ⟨(some 41), none, .op (.load none (.tmp 40))⟩,
         ⟨(some 42), none, .op (.len none (.tmp 41))⟩,
         ⟨(some 43), none, .op (.bin .and (.tmp 42) (.const (.int .i64 1)))⟩,
         ⟨(some 44), none, .op (.mkslice t2 1 1 [.int .u8 0] (.tmp 43) (.tmp 43))⟩,
         ⟨(some 45), none, .call f_bytes_Buffer_Write [(.tmp 7), (.tmp 44)]⟩])))))
     (.reg [⟨(some 46), none, .op (.bin .add (.tmp 26) (.const (.int .i64 1)))⟩,
       ⟨(some 26), none, .op (.mv (.tmp 46))⟩])))))))
  (.seq (.reg [⟨(some 47), none, .call f_bytes_Buffer_Bytes [(.tmp 7)]⟩,
     ⟨(some 4), none, .op (.mv (.tmp 47))⟩,
     ⟨(some 5), none, .op (.mv (.const (.int .i64 0)))⟩])
  (.ret))))))))

def ac_cadenzaref31_Write (f_cadenzaref31_Check f_cadenzaref31_Bytes : Nat) : AC :=
  .seq (.reg [⟨(some 4), none, .op (.mv (.const (.slice none 0 0)))⟩,
     ⟨(some 5), none, .op (.mv (.const (.int .i64 0)))⟩])
  (.seq (.seq (.reg [⟨(some 7), none, .op (.mv (.tmp 0))⟩,
      ⟨(some 8), none, .op (.mv (.tmp 1))⟩,
      ⟨(some 9), none, .call f_cadenzaref31_Check [(.tmp 7), (.tmp 8)]⟩,
      ⟨(some 6), none, .op (.mv (.tmp 9))⟩])
   (.seq (.reg [⟨(some 10), none, .op (.mv (.tmp 6))⟩,
      ⟨(some 11), none, .op (.bin .neq (.tmp 10) (.const (.int .i64 0)))⟩])
   (.cond (.tmp 11)
     (.seq (.reg [⟨(some 12), none, .op (.mv (.tmp 6))⟩,
        ⟨(some 4), none, .op (.mv (.const (.slice none 0 0)))⟩,
        ⟨(some 5), none, .op (.mv (.tmp 12))⟩])
     (.ret))
     (.skip))))
  (.seq (.reg [⟨(some 13), none, .op (.mv (.tmp 0))⟩,
     ⟨(some 14), none, .op (.mv (.tmp 1))⟩,
     ⟨(some 15), none, .call f_cadenzaref31_Bytes [(.tmp 13), (.tmp 14)]⟩,
     ⟨(some 4), none, .op (.mv (.tmp 15))⟩,
     ⟨(some 5), none, .op (.mv (.const (.int .i64 0)))⟩])
  (.ret)))

def ac_riff_Find (f_riff_Find_1 f_slices_IndexFunc_api_Chunk_api_Chunk t0 : Nat) : AC :=
  .seq (.reg [⟨(some 3), none, .op (.box t0 1 (.tmp 1))⟩,
     ⟨(some 4), none, .op (.mv (.const (.int .i64 0)))⟩,
     ⟨(some 5), none, .op (.mv (.const (.int .i64 0)))⟩])
  (.seq (.reg [⟨(some 7), none, .op (.mv (.tmp 0))⟩,
     ⟨(some 8), none, .op (.mkfn (.func f_riff_Find_1) [] [(.tmp 3)])⟩,
     ⟨(some 9), none, .call f_slices_IndexFunc_api_Chunk_api_Chunk [(.tmp 7), (.tmp 8)]⟩,
     ⟨(some 6), none, .op (.mv (.tmp 9))⟩])
  (.seq (.seq (.reg [⟨(some 10), none, .op (.mv (.tmp 6))⟩,
      ⟨(some 11), none, .op (.bin .lss (.tmp 10) (.const (.int .i64 0)))⟩])
   (.cond (.tmp 11)
     (.seq (.reg [⟨(some 4), none, .op (.mv (.const (.int .i64 0)))⟩,
        ⟨(some 5), none, .op (.mv (.const (.int .i64 6)))⟩])
     (.ret))
     (.skip)))
  (.seq (.reg [⟨(some 12), none, .op (.mv (.tmp 6))⟩,
     ⟨(some 4), none, .op (.mv (.tmp 12))⟩,
     ⟨(some 5), none, .op (.mv (.const (.int .i64 0)))⟩])
  (.ret))))

def ac_cadenzaref31_Find : AC :=
  .seq (.reg [⟨(some 4), none, .op (.mv (.const (.int .i64 0)))⟩,
     ⟨(some 5), none, .op (.mv (.const (.int .i64 0)))⟩])
  (.seq (.seq (.reg [⟨(some 6), none, .op (.mv (.const (.int .i64 0)))⟩])
   (.block 0 (.loop (.seq (.seq (.reg [⟨(some 7), none, .op (.mv (.tmp 6))⟩,
         ⟨(some 8), none, .op (.mv (.tmp 0))⟩,
         ⟨(some 9), none, .op (.len none (.tmp 8))⟩,
         ⟨(some 10), none, .op (.bin .lss (.tmp 7) (.tmp 9))⟩])
      (.cond (.tmp 10)
        (.skip)
        (.exit 0)))
     (.seq (.block 1 (.seq (.reg [⟨(some 13), none, .op (.mv (.tmp 0))⟩,
          ⟨(some 14), none, .op (.mv (.tmp 6))⟩,
          ⟨(some 15), none, .op (.iaddr (.slice 2) (.tmp 13) (.tmp 14))⟩,
          ⟨(some 16), none, .op (.faddr 0 (.tmp 15))⟩,
          ⟨(some 17), none, .op (.load none (.tmp 16))⟩,
          ⟨(some 18), none, .op (.mv (.tmp 1))⟩,
          ⟨(some 19), none, .op (.bin .eql (.tmp 17) (.tmp 18))⟩])
       (.cond (.tmp 19)
         (.seq (.reg [⟨(some 20), none, .op (.mv (.tmp 6))⟩,
            ⟨(some 4), none, .op (.mv (.tmp 20))⟩,
            ⟨(some 5), none, .op (.mv (.const (.int .i64 0)))⟩])
         (.ret))
         (.skip))))
     (.reg [⟨(some 11), none, .op (.mv (.tmp 6))⟩,
       ⟨(some 12), none, .op (.bin .add (.tmp 11) (.const (.int .i64 1)))⟩,
       ⟨(some 6), none, .op (.mv (.tmp 12))⟩]))))))
  (.seq (.reg [⟨(some 4), none, .op (.mv (.const (.int .i64 0)))⟩,
     ⟨(some 5), none, .op (.mv (.const (.int .i64 6)))⟩])
  (.ret)))

def ac_riff_Check (f_riff_isName f_riff_size f_slices_ContainsFunc_api_Chunk_api_Chunk f_riff_Check_1 : Nat) : AC :=
  .seq (.reg [⟨(some 4), none, .op (.mv (.const (.int .i64 0)))⟩])
  (.seq (.seq (.reg [⟨(some 5), none, .op (.mv (.tmp 1))⟩,
      ⟨(some 6), none, .op (.len none (.tmp 5))⟩,
      ⟨(some 7), none, .op (.bin .gtr (.tmp 6) (.const (.int .i64 20)))⟩])
   (.cond (.tmp 7)
     (.seq (.reg [⟨(some 4), none, .op (.mv (.const (.int .i64 4)))⟩])
     (.ret))
     (.skip)))
  (.seq (.seq (.reg [⟨(some 8), none, .op (.mv (.tmp 0))⟩,
      ⟨(some 9), none, .call f_riff_isName [(.tmp 8)]⟩,
      ⟨(some 10), none, .op (.un .not (.tmp 9))⟩,
      ⟨(some 11), none, .op (.mv (.tmp 10))⟩,
      ⟨(some 12), (some (11, false)), .op (.mv (.tmp 1))⟩,
      ⟨(some 13), (some (11, false)), .call f_riff_size [(.tmp 12)]⟩,
      ⟨(some 14), (some (11, false)), .op (.bin .add (.tmp 13) (.const (.int .i64 8)))⟩,
      ⟨(some 15), (some (11, false)), .op (.bin .gtr (.tmp 14) (.const (.int .i64 100000)))⟩,
      ⟨(some 16), none, .op (.pick (.tmp 11) (.const (.bool true)) (.tmp 15))⟩,
      ⟨(some 17), none, .op (.mv (.tmp 16))⟩,
      ⟨(some 18), (some (17, false)), .op (.mv (.tmp 1))⟩,
      ⟨(some 19), (some (17, false)), .call f_slices_ContainsFunc_api_Chunk_api_Chunk [(.tmp 18), (.func f_riff_Check_1)]⟩,
      ⟨(some 20), none, .op (.pick (.tmp 17) (.const (.bool true)) (.tmp 19))⟩])
   (.cond (.tmp 20)
     (.seq (.reg [⟨(some 4), none, .op (.mv (.const (.int .i64 8)))⟩])
     (.ret))
     (.skip)))
  (.seq (.reg [⟨(some 4), none, .op (.mv (.const (.int .i64 0)))⟩])
  (.ret))))

def ac_cadenzaref31_Check (f_cadenzaref31_Name f_cadenzaref31_Size : Nat) : AC :=
  .seq (.reg [⟨(some 4), none, .op (.mv (.const (.int .i64 0)))⟩])
  (.seq (.seq (.reg [⟨(some 6), none, .op (.mv (.tmp 1))⟩,
      ⟨(some 7), none, .op (.len none (.tmp 6))⟩,
      ⟨(some 8), none, .op (.bin .gtr (.tmp 7) (.const (.int .i64 20)))⟩])
   (.cond (.tmp 8)
     (.seq (.reg [⟨(some 4), none, .op (.mv (.const (.int .i64 4)))⟩])
     (.ret))
     (.skip)))
  (.seq (.seq (.reg [⟨(some 5), none, .op (.mv (.const (.int .i64 0)))⟩])
   (.block 0 (.loop (.seq (.seq (.reg [⟨(some 9), none, .op (.mv (.tmp 5))⟩,
         ⟨(some 10), none, .op (.mv (.tmp 1))⟩,
         ⟨(some 11), none, .op (.len none (.tmp 10))⟩,
         ⟨(some 12), none, .op (.bin .lss (.tmp 9) (.tmp 11))⟩])
      (.cond (.tmp 12)
        (.skip)
        (.exit 0)))
     (.seq (.block 1 (.seq (.reg [⟨(some 15), none, .op (.mv (.tmp 1))⟩,
          ⟨(some 16), none, .op (.mv (.tmp 5))⟩,
          ⟨(some 17), none, .op (.iaddr (.slice 2) (.tmp 15) (.tmp 16))⟩,
          ⟨(some 18), none, .op (.faddr 0 (.tmp 17))⟩,
          ⟨(some 19), none, .op (.load none (.tmp 18))⟩,
          ⟨(some 20), none, .call f_cadenzaref31_Name [(.tmp 19)]⟩,
          ⟨(some 21), none, .op (.un .not (.tmp 20))⟩])
       (.cond (.tmp 21)
         (.seq (.reg [⟨(some 4), none, .op (.mv (.const (.int .i64 8)))⟩])
         (.ret))
         (.skip))))
     (.reg [⟨(some 13), none, .op (.mv (.tmp 5))⟩,
       ⟨(some 14), none, .op (.bin .add (.tmp 13) (.const (.int .i64 1)))⟩,
       ⟨(some 5), none, .op (.mv (.tmp 14))⟩]))))))
  (.seq (.seq (.reg [⟨(some 22), none, .op (.mv (.tmp 0))⟩,
      ⟨(some 23), none, .call f_cadenzaref31_Name [(.tmp 22)]⟩,
      ⟨(some 24), none, .op (.un .not (.tmp 23))⟩,
      ⟨(some 25), none, .op (.mv (.tmp 24))⟩,
      ⟨(some 26), (some (25, false)), .op (.mv (.tmp 1))⟩,
      ⟨(some 27), (some (25, false)), .call f_cadenzaref31_Size [(.tmp 26)]⟩,
      ⟨(some 28), (some (25, false)), .op (.bin .gtr (.tmp 27) (.const (.int .i64 100000)))⟩,
      ⟨(some 29), none, .op (.pick (.tmp 25) (.const (.bool true)) (.tmp 28))⟩])
   (.cond (.tmp 29)
     (.seq (.reg [⟨(some 4), none, .op (.mv (.const (.int .i64 8)))⟩])
     (.ret))
     (.skip)))
  (.seq (.reg [⟨(some 4), none, .op (.mv (.const (.int .i64 0)))⟩])
  (.ret)))))

def ac_cadenzalaw31_alive (f_cadenzalaw31_example f_riff_Write f_riff_Read f_cadenzaref31_Same t0 : Nat) : AC :=
  .seq (.reg [⟨(some 0), none, .op (.mv (.const (.bool false)))⟩])
  (.seq (.reg [⟨(some 7), none, .call f_cadenzalaw31_example []⟩,
     ⟨(some 8), none, .call f_riff_Write [(.const (.string ⟨#[87, 65, 86, 69]⟩)), (.tmp 7)]⟩,
     ⟨(some 6), none, .op (.mv (.tmp 8))⟩,
     ⟨(some 9), none, .op (.extract (.tmp 6) 0)⟩,
     ⟨(some 10), none, .op (.extract (.tmp 6) 1)⟩,
     ⟨(some 1), none, .op (.mv (.tmp 9))⟩,
     ⟨(some 2), none, .op (.mv (.tmp 10))⟩])
  (.seq (.reg [⟨(some 12), none, .op (.bslice t0 1 24 [.int .u8 0] [(0, 1, (.const (.int .u8 82))), (1, 1, (.const (.int .u8 73))), (2, 1, (.const (.int .u8 70))), (3, 1, (.const (.int .u8 70))), (4, 1, (.const (.int .u8 16))), (5, 1, (.const (.int .u8 0))), (6, 1, (.const (.int .u8 0))), (7, 1, (.const (.int .u8 0))), (8, 1, (.const (.int .u8 87))), (9, 1, (.const (.int .u8 65))), (10, 1, (.const (.int .u8 86))), (11, 1, (.const (.int .u8 69))), (12, 1, (.const (.int .u8 100))), (13, 1, (.const (.int .u8 97))), (14, 1, (.const (.int .u8 116))), (15, 1, (.const (.int .u8 97))), (16, 1, (.const (.int .u8 3))), (17, 1, (.const (.int .u8 0))), (18, 1, (.const (.int .u8 0))), (19, 1, (.const (.int .u8 0))), (20, 1, (.const (.int .u8 1))), (21, 1, (.const (.int .u8 2))), (22, 1, (.const (.int .u8 3))), (23, 1, (.const (.int .u8 0)))])⟩,
     ⟨(some 13), none, .op (.strsh (.tmp 12))⟩,
     ⟨(some 14), none, .call f_riff_Read [(.tmp 13)]⟩,
     ⟨(some 11), none, .op (.mv (.tmp 14))⟩,
     ⟨(some 15), none, .op (.extract (.tmp 11) 0)⟩,
     ⟨(some 16), none, .op (.extract (.tmp 11) 1)⟩,
     ⟨(some 17), none, .op (.extract (.tmp 11) 2)⟩,
     ⟨(some 3), none, .op (.mv (.tmp 15))⟩,
     ⟨(some 4), none, .op (.mv (.tmp 16))⟩,
     ⟨(some 5), none, .op (.mv (.tmp 17))⟩])
  (.seq (.reg [⟨(some 18), none, .op (.mv (.tmp 2))⟩,
     ⟨(some 19), none, .op (.bin .eql (.tmp 18) (.const (.int .i64 0)))⟩,
     ⟨(some 20), none, .op (.mv (.tmp 19))⟩,
     ⟨(some 21), (some (20, true)), .op (.mv (.tmp 1))⟩,
     ⟨(some 22), (some (20, true)), .op (.conv .toStr (.tmp 21))⟩,
     ⟨(some 23), (some (20, true)), .op (.bin .eql (.tmp 22) (.const (.string ⟨#[82, 73, 70, 70, 16, 0, 0, 0, 87, 65, 86, 69, 100, 97, 116, 97, 3, 0, 0, 0, 1, 2, 3, 0]⟩)))⟩,
     ⟨(some 24), none, .op (.pick (.tmp 20) (.tmp 23) (.const (.bool false)))⟩,
     ⟨(some 25), none, .op (.mv (.tmp 24))⟩,
     ⟨(some 26), (some (25, true)), .op (.mv (.tmp 5))⟩,
     ⟨(some 27), (some (25, true)), .op (.bin .eql (.tmp 26) (.const (.int .i64 0)))⟩,
     ⟨(some 28), none, .op (.pick (.tmp 25) (.tmp 27) (.const (.bool false)))⟩,
     ⟨(some 29), none, .op (.mv (.tmp 28))⟩,
     ⟨(some 30), (some (29, true)), .op (.mv (.tmp 3))⟩,
     ⟨(some 31), (some (29, true)), .op (.bin .eql (.tmp 30) (.const (.string ⟨#[87, 65, 86, 69]⟩)))⟩,
     ⟨(some 32), none, .op (.pick (.tmp 29) (.tmp 31) (.const (.bool false)))⟩,
     ⟨(some 33), none, .op (.mv (.tmp 32))⟩,
     ⟨(some 34), (some (33, true)), .op (.mv (.tmp 4))⟩,
     ⟨(some 35), (some (33, true)), .call f_cadenzalaw31_example []⟩,
     ⟨(some 36), (some (33, true)), .call f_cadenzaref31_Same [(.tmp 34), (.tmp 35)]⟩,
     ⟨(some 37), none, .op (.pick (.tmp 33) (.tmp 36) (.const (.bool false)))⟩,
     ⟨(some 0), none, .op (.mv (.tmp 37))⟩])
  (.ret))))

def ac_riff_Read (f_le_At f_riff_isName f_riff_next t0 : Nat) : AC :=
  .seq (.reg [⟨(some 2), none, .op (.mv (.const (.string ⟨#[]⟩)))⟩,
     ⟨(some 3), none, .op (.mv (.const (.slice none 0 0)))⟩,
     ⟨(some 4), none, .op (.mv (.const (.int .i64 0)))⟩])
  (.seq (.seq (.reg [⟨(some 13), none, .op (.mv (.tmp 0))⟩,
      ⟨(some 14), none, .op (.len none (.tmp 13))⟩,
      ⟨(some 15), none, .op (.bin .lss (.tmp 14) (.const (.int .i64 12)))⟩])
   (.cond (.tmp 15)
     (.seq (.reg [⟨(some 2), none, .op (.mv (.const (.string ⟨#[]⟩)))⟩,
        ⟨(some 3), none, .op (.mv (.const (.slice none 0 0)))⟩,
        ⟨(some 4), none, .op (.mv (.const (.int .i64 24)))⟩])
     (.ret))
     (.skip)))
  (.seq (.reg [⟨(some 17), none, .op (.mv (.tmp 0))⟩,
     ⟨(some 18), none, .call f_le_At [(.tmp 17), (.const (.int .i64 4)), (.const (.int .i64 4))]⟩,
     ⟨(some 16), none, .op (.mv (.tmp 18))⟩,
     ⟨(some 19), none, .op (.extract (.tmp 16) 0)⟩,
     ⟨(some 20), none, .op (.extract (.tmp 16) 1)⟩,
     ⟨(some 5), none, .op (.mv (.tmp 19))⟩,
     ⟨(some 6), none, .op (.mv (.tmp 20))⟩])
  (.seq (.reg [⟨(some 21), none, .op (.mv (.tmp 0))⟩,
     ⟨(some 22), none, .op (.slice 1 (.tmp 21) (some (.const (.int .i64 8))) (some (.const (.int .i64 12))) none)⟩,
     ⟨(some 23), none, .op (.conv .toStr (.tmp 22))⟩,
     ⟨(some 7), none, .op (.mv (.tmp 23))⟩])
  (.seq (.block 0 (.seq (.reg [⟨(some 25), none, .op (.mv (.tmp 0))⟩,
       ⟨(some 26), none, .op (.slice 1 (.tmp 25) none (some (.const (.int .i64 4))) none)⟩,
       ⟨(some 27), none, .op (.conv .toStr (.tmp 26))⟩,
       ⟨(some 28), none, .op (.bin .neq (.tmp 27) (.const (.string ⟨#[82, 73, 70, 70]⟩)))⟩,
       ⟨(some 29), none, .op (.mv (.tmp 28))⟩,
       ⟨(some 30), (some (29, false)), .op (.mv (.tmp 7))⟩,
       ⟨(some 31), (some (29, false)), .call f_riff_isName [(.tmp 30)]⟩,
       ⟨(some 32), (some (29, false)), .op (.un .not (.tmp 31))⟩,
       ⟨(some 33), none, .op (.pick (.tmp 29) (.const (.bool true)) (.tmp 32))⟩,
       ⟨(some 34), none, .op (.mv (.tmp 33))⟩,
       ⟨(some 35), (some (34, false)), .op (.mv (.tmp 5))⟩,
       ⟨(some 36), (some (34, false)), .op (.bin .lss (.tmp 35) (.const (.int .u64 4)))⟩,
       ⟨(some 37), none, .op (.pick (.tmp 34) (.const (.bool true)) (.tmp 36))⟩,
       ⟨(some 24), none, .op (.mv (.tmp 37))⟩])
    (.cond (.tmp 24)
      (.seq (.reg [⟨(some 2), none, .op (.mv (.const (.string ⟨#[]⟩)))⟩,
         ⟨(some 3), none, .op (.mv (.const (.slice none 0 0)))⟩,
         ⟨(some 4), none, .op (.mv (.const (.int .i64 12)))⟩])
      (.ret))
      (.seq (.reg [⟨(some 39), none, .op (.mv (.tmp 5))⟩,
         ⟨(some 40), none, .op (.bin .add (.tmp 39) (.const (.int .u64 8)))⟩,
         ⟨(some 41), none, .op (.bin .gtr (.tmp 40) (.const (.int .u64 100000)))⟩,
         ⟨(some 38), none, .op (.mv (.tmp 41))⟩])
      (.cond (.tmp 38)
        (.seq (.reg [⟨(some 2), none, .op (.mv (.const (.string ⟨#[]⟩)))⟩,
           ⟨(some 3), none, .op (.mv (.const (.slice none 0 0)))⟩,
           ⟨(some 4), none, .op (.mv (.const (.int .i64 4)))⟩])
        (.ret))
        (.seq (.reg [⟨(some 43), none, .op (.mv (.tmp 5))⟩,
           ⟨(some 44), none, .op (.bin .add (.tmp 43) (.const (.int .u64 8)))⟩,
           ⟨(some 45), none, .op (.mv (.tmp 0))⟩,
           ⟨(some 46), none, .op (.len none (.tmp 45))⟩,
           ⟨(some 47), none, .op (.conv (.int .u64) (.tmp 46))⟩,
           ⟨(some 48), none, .op (.bin .gtr (.tmp 44) (.tmp 47))⟩,
           ⟨(some 42), none, .op (.mv (.tmp 48))⟩])
        (.cond (.tmp 42)
          (.seq (.reg [⟨(some 2), none, .op (.mv (.const (.string ⟨#[]⟩)))⟩,
             ⟨(some 3), none, .op (.mv (.const (.slice none 0 0)))⟩,
             ⟨(some 4), none, .op (.mv (.const (.int .i64 24)))⟩])
          (.ret))
          (.skip))))))))
  (.seq (.reg [⟨(some 8), none, .op (.mv (.const (.slice none 0 0)))⟩])
  (.seq (.seq (.reg [⟨(some 49), none, .op (.mv (.tmp 0))⟩,
      ⟨(some 50), none, .op (.mv (.tmp 5))⟩,
      ⟨(some 51), none, .op (.bin .add (.tmp 50) (.const (.int .u64 8)))⟩,
      ⟨(some 52), none, .op (.slice 1 (.tmp 49) (some (.const (.int .i64 12))) (some (.tmp 51)) none)⟩,
      ⟨(some 9), none, .op (.mv (.tmp 52))⟩])
   (.block 1 (.loop (.seq (.seq (.reg [⟨(some 53), none, .op (.mv (.tmp 9))⟩,
         ⟨(some 54), none, .op (.len none (.tmp 53))⟩,
         ⟨(some 55), none, .op (.bin .gtr (.tmp 54) (.const (.int .i64 0)))⟩])
      (.cond (.tmp 55)
        (.skip)
        (.exit 1)))
     (.block 2 (.seq (.seq (.reg [⟨(some 56), none, .op (.mv (.tmp 8))⟩,
          ⟨(some 57), none, .op (.len none (.tmp 56))⟩,
          ⟨(some 58), none, .op (.bin .eql (.tmp 57) (.const (.int .i64 20)))⟩])
       (.cond (.tmp 58)
         (.seq (.reg [⟨(some 2), none, .op (.mv (.const (.string ⟨#[]⟩)))⟩,
            ⟨(some 3), none, .op (.mv (.const (.slice none 0 0)))⟩,
            ⟨(some 4), none, .op (.mv (.const (.int .i64 4)))⟩])
         (.ret))
         (.skip)))
      (.seq (.reg [⟨(some 60), none, .op (.mv (.tmp 9))⟩,
         ⟨(some 61), none, .call f_riff_next [(.tmp 60)]⟩,
         ⟨(some 59), none, .op (.mv (.tmp 61))⟩,
         ⟨(some 62), none, .op (.extract (.tmp 59) 0)⟩,
         ⟨(some 63), none, .op (.extract (.tmp 59) 1)⟩,
         ⟨(some 64), none, .op (.extract (.tmp 59) 2)⟩,
         ⟨(some 10), none, .op (.alloc t0 [.str [], .emp true])⟩,
         ⟨none, none, .op (.store 2 (.tmp 10) (.tmp 62))⟩,
         ⟨(some 11), none, .op (.mv (.tmp 63))⟩,
         ⟨(some 12), none, .op (.mv (.tmp 64))⟩])
      (.seq (.seq (.reg [⟨(some 65), none, .op (.mv (.tmp 12))⟩,
          ⟨(some 66), none, .op (.un .not (.tmp 65))⟩])
       (.cond (.tmp 66)
         (.seq (.reg [⟨(some 2), none, .op (.mv (.const (.string ⟨#[]⟩)))⟩,
            ⟨(some 3), none, .op (.mv (.const (.slice none 0 0)))⟩,
            ⟨(some 4), none, .op (.mv (.const (.int .i64 12)))⟩])
         (.ret))
         (.skip)))
      (.reg [⟨(some 67), none, .op (.mv (.tmp 8))⟩,
        ⟨(some 68), none, .op (.load (some 2) (.tmp 10))⟩,
        ⟨(some 69), none, .op (.bslice t0 2 1 [.str [], .emp true] [(0, 2, (.tmp 68))])⟩,
        ⟨(some 70), none, .op (.append t0 2 40 false (.tmp 67) (.tmp 69))⟩,
        ⟨(some 71), none, .op (.mv (.tmp 11))⟩,
        ⟨(some 8), none, .op (.mv (.tmp 70))⟩,
        ⟨(some 9), none, .op (.mv (.tmp 71))⟩])))))))))
  (.seq (.seq (.reg [⟨(some 72), none, .op (.mv (.tmp 0))⟩,
      ⟨(some 73), none, .op (.len none (.tmp 72))⟩,
      ⟨(some 74), none, .op (.conv (.int .u64) (.tmp 73))⟩,
      ⟨(some 75), none, .op (.mv (.tmp 5))⟩,
      ⟨(some 76), none, .op (.bin .add (.tmp 75) (.const (.int .u64 8)))⟩,
      ⟨(some 77), none, .op (.bin .gtr (.tmp 74) (.tmp 76))⟩])
   (.cond (.tmp 77)
     (.seq (.reg [⟨(some 2), none, .op (.mv (.const (.string ⟨#[]⟩)))⟩,
        ⟨(some 3), none, .op (.mv (.const (.slice none 0 0)))⟩,
        ⟨(some 4), none, .op (.mv (.const (.int .i64 38)))⟩])
     (.ret))
     (.skip)))
  (.seq (.reg [⟨(some 78), none, .op (.mv (.tmp 7))⟩,
     ⟨(some 79), none, .op (.mv (.tmp 8))⟩,
     ⟨(some 2), none, .op (.mv (.tmp 78))⟩,
     ⟨(some 3), none, .op (.mv (.tmp 79))⟩,
     ⟨(some 4), none, .op (.mv (.const (.int .i64 0)))⟩])
  (.ret)))))))))

def ac_cadenzaref31_Same : AC :=
  .seq (.reg [⟨(some 4), none, .op (.mv (.const (.bool false)))⟩])
  (.seq (.seq (.reg [⟨(some 6), none, .op (.mv (.tmp 0))⟩,
      ⟨(some 7), none, .op (.len none (.tmp 6))⟩,
      ⟨(some 8), none, .op (.mv (.tmp 1))⟩,
      ⟨(some 9), none, .op (.len none (.tmp 8))⟩,
      ⟨(some 10), none, .op (.bin .neq (.tmp 7) (.tmp 9))⟩])
   (.cond (.tmp 10)
     (.seq (.reg [⟨(some 4), none, .op (.mv (.const (.bool false)))⟩])
     (.ret))
     (.skip)))
  (.seq (.seq (.reg [⟨(some 5), none, .op (.mv (.const (.int .i64 0)))⟩])
   (.block 0 (.loop (.seq (.seq (.reg [⟨(some 11), none, .op (.mv (.tmp 5))⟩,
         ⟨(some 12), none, .op (.mv (.tmp 0))⟩,
         ⟨(some 13), none, .op (.len none (.tmp 12))⟩,
         ⟨(some 14), none, .op (.bin .lss (.tmp 11) (.tmp 13))⟩])
      (.cond (.tmp 14)
        (.skip)
        (.exit 0)))
     (.seq (.block 1 (.seq (.draw [⟨0, false, ⟨(some 17), none, .op (.mv (.tmp 0))⟩⟩,
          ⟨0, false, ⟨(some 18), none, .op (.mv (.tmp 5))⟩⟩,
          ⟨0, false, ⟨(some 19), none, .op (.iaddr (.slice 2) (.tmp 17) (.tmp 18))⟩⟩,
          ⟨0, false, ⟨(some 20), none, .op (.faddr 0 (.tmp 19))⟩⟩,
          ⟨0, false, ⟨(some 21), none, .op (.load none (.tmp 20))⟩⟩,
          ⟨0, false, ⟨(some 22), none, .op (.mv (.tmp 1))⟩⟩,
          ⟨0, false, ⟨(some 23), none, .op (.mv (.tmp 5))⟩⟩,
          ⟨0, false, ⟨(some 24), none, .op (.iaddr (.slice 2) (.tmp 22) (.tmp 23))⟩⟩,
          ⟨0, false, ⟨(some 25), none, .op (.faddr 0 (.tmp 24))⟩⟩,
          ⟨0, false, ⟨(some 26), none, .op (.load none (.tmp 25))⟩⟩,
          ⟨0, false, ⟨(some 27), none, .op (.bin .neq (.tmp 21) (.tmp 26))⟩⟩,
          ⟨0, false, ⟨(some 28), none, .op (.mv (.tmp 27))⟩⟩,
          ⟨0, false, ⟨(some 29), (some (28, false)), .op (.mv (.tmp 0))⟩⟩,
          ⟨0, false, ⟨(some 30), (some (28, false)), .op (.mv (.tmp 5))⟩⟩,
          ⟨0, false, ⟨(some 31), (some (28, false)), .op (.iaddr (.slice 2) (.tmp 29) (.tmp 30))⟩⟩,
          ⟨0, false, ⟨(some 32), (some (28, false)), .op (.faddr 1 (.tmp 31))⟩⟩,
          ⟨0, false, ⟨(some 33), (some (28, false)), .op (.load none (.tmp 32))⟩⟩,
          ⟨0, false, ⟨(some 34), (some (28, false)), .op (.conv .toStr (.tmp 33))⟩⟩,
          ⟨0, false, ⟨(some 35), (some (28, false)), .op (.mv (.tmp 1))⟩⟩,
          ⟨0, false, ⟨(some 36), (some (28, false)), .op (.mv (.tmp 5))⟩⟩,
          ⟨0, false, ⟨(some 37), (some (28, false)), .op (.iaddr (.slice 2) (.tmp 35) (.tmp 36))⟩⟩,
          ⟨0, false, ⟨(some 38), (some (28, false)), .op (.faddr 1 (.tmp 37))⟩⟩,
          ⟨0, false, ⟨(some 39), (some (28, false)), .op (.load none (.tmp 38))⟩⟩,
          ⟨0, false, ⟨(some 40), (some (28, false)), .op (.conv .toStr (.tmp 39))⟩⟩,
          ⟨0, false, ⟨(some 41), (some (28, false)), .op (.bin .neq (.tmp 34) (.tmp 40))⟩⟩,
          ⟨0, false, ⟨(some 42), none, .op (.pick (.tmp 28) (.const (.bool true)) (.tmp 41))⟩⟩] [])
       (.cond (.tmp 42)
         (.seq (.reg [⟨(some 4), none, .op (.mv (.const (.bool false)))⟩])
         (.ret))
         (.skip))))
     (.reg [⟨(some 15), none, .op (.mv (.tmp 5))⟩,
       ⟨(some 16), none, .op (.bin .add (.tmp 15) (.const (.int .i64 1)))⟩,
       ⟨(some 5), none, .op (.mv (.tmp 16))⟩]))))))
  (.seq (.reg [⟨(some 4), none, .op (.mv (.const (.bool true)))⟩])
  (.ret))))

def ac_cadenzalaw31_reads (f_riff_Read : Nat) : AC :=
  .seq (.reg [⟨(some 4), none, .op (.mv (.const (.bool false)))⟩])
  (.seq (.reg [⟨(some 9), none, .op (.mv (.tmp 0))⟩,
     ⟨(some 10), none, .op (.conv .toBytes (.tmp 9))⟩,
     ⟨(some 11), none, .call f_riff_Read [(.tmp 10)]⟩,
     ⟨(some 8), none, .op (.mv (.tmp 11))⟩,
     ⟨(some 12), none, .op (.extract (.tmp 8) 0)⟩,
     ⟨(some 13), none, .op (.extract (.tmp 8) 1)⟩,
     ⟨(some 14), none, .op (.extract (.tmp 8) 2)⟩,
     ⟨(some 5), none, .op (.mv (.tmp 12))⟩,
     ⟨(some 6), none, .op (.mv (.tmp 13))⟩,
     ⟨(some 7), none, .op (.mv (.tmp 14))⟩])
  (.seq (.reg [⟨(some 15), none, .op (.mv (.tmp 7))⟩,
     ⟨(some 16), none, .op (.mv (.tmp 1))⟩,
     ⟨(some 17), none, .op (.bin .eql (.tmp 15) (.tmp 16))⟩,
     ⟨(some 18), none, .op (.mv (.tmp 17))⟩,
     ⟨(some 19), (some (18, true)), .op (.mv (.tmp 7))⟩,
     ⟨(some 20), (some (18, true)), .op (.bin .eql (.tmp 19) (.const (.int .i64 0)))⟩,
     ⟨(some 21), (some (18, true)), .op (.mv (.tmp 20))⟩,
     ⟨(some 22), (some (21, false)), .op (.mv (.tmp 5))⟩,
     ⟨(some 23), (some (21, false)), .op (.bin .eql (.tmp 22) (.const (.string ⟨#[]⟩)))⟩,
     ⟨(some 24), (some (21, false)), .op (.mv (.tmp 23))⟩,
     ⟨(some 25), (some (24, true)), .op (.mv (.tmp 6))⟩,
     ⟨(some 26), (some (24, true)), .op (.len none (.tmp 25))⟩,
     ⟨(some 27), (some (24, true)), .op (.bin .eql (.tmp 26) (.const (.int .i64 0)))⟩,
     ⟨(some 28), (some (21, false)), .op (.pick (.tmp 24) (.tmp 27) (.const (.bool false)))⟩,
     ⟨(some 29), (some (18, true)), .op (.pick (.tmp 21) (.const (.bool true)) (.tmp 28))⟩,
     ⟨(some 30), none, .op (.pick (.tmp 18) (.tmp 29) (.const (.bool false)))⟩,
     ⟨(some 4), none, .op (.mv (.tmp 30))⟩])
  (.ret)))

def ac_cadenzaref31_Long : AC :=
  .seq (.reg [⟨(some 2), none, .op (.mv (.const (.bool false)))⟩])
  (.seq (.reg [⟨(some 3), none, .op (.mv (.tmp 0))⟩,
     ⟨(some 4), none, .op (.len none (.tmp 3))⟩,
     ⟨(some 5), none, .op (.bin .gtr (.tmp 4) (.const (.int .i64 2000)))⟩,
     ⟨(some 6), none, .op (.mv (.tmp 5))⟩,
     ⟨(some 7), (some (6, true)), .op (.mv (.tmp 0))⟩,
     ⟨(some 8), (some (6, true)), .op (.len none (.tmp 7))⟩,
     ⟨(some 9), (some (6, true)), .op (.bin .lss (.tmp 8) (.const (.int .i64 99900)))⟩,
     ⟨(some 10), none, .op (.pick (.tmp 6) (.tmp 9) (.const (.bool false)))⟩,
     ⟨(some 11), none, .op (.mv (.tmp 10))⟩,
     ⟨(some 12), (some (11, false)), .op (.mv (.tmp 0))⟩,
     ⟨(some 13), (some (11, false)), .op (.len none (.tmp 12))⟩,
     ⟨(some 14), (some (11, false)), .op (.bin .gtr (.tmp 13) (.const (.int .i64 100100)))⟩,
     ⟨(some 15), none, .op (.pick (.tmp 11) (.const (.bool true)) (.tmp 14))⟩,
     ⟨(some 2), none, .op (.mv (.tmp 15))⟩])
  (.ret))

def ac_cadenzaref31_Size : AC :=
  .seq (.reg [⟨(some 2), none, .op (.mv (.const (.int .i64 0)))⟩])
  (.seq (.reg [⟨(some 3), none, .op (.mv (.const (.int .i64 12)))⟩])
  (.seq (.seq (.reg [⟨(some 4), none, .op (.mv (.const (.int .i64 0)))⟩])
   (.block 0 (.loop (.seq (.seq (.reg [⟨(some 5), none, .op (.mv (.tmp 4))⟩,
         ⟨(some 6), none, .op (.mv (.tmp 0))⟩,
         ⟨(some 7), none, .op (.len none (.tmp 6))⟩,
         ⟨(some 8), none, .op (.bin .lss (.tmp 5) (.tmp 7))⟩])
      (.cond (.tmp 8)
        (.skip)
        (.exit 0)))
     (.seq (.block 1 (.draw [⟨0, false, ⟨(some 11), none, .op (.mv (.tmp 3))⟩⟩,
         ⟨0, false, ⟨(some 12), none, .op (.mv (.tmp 0))⟩⟩,
         ⟨0, false, ⟨(some 13), none, .op (.mv (.tmp 4))⟩⟩,
         ⟨0, false, ⟨(some 14), none, .op (.iaddr (.slice 2) (.tmp 12) (.tmp 13))⟩⟩,
         ⟨0, false, ⟨(some 15), none, .op (.faddr 1 (.tmp 14))⟩⟩,
         ⟨0, false, ⟨(some 16), none, .op (.load none (.tmp 15))⟩⟩,
         ⟨0, false, ⟨(some 17), none, .op (.len none (.tmp 16))⟩⟩,
         ⟨0, false, ⟨(some 18), none, .op (.bin .add (.const (.int .i64 8)) (.tmp 17))⟩⟩,
         ⟨0, false, ⟨(some 19), none, .op (.mv (.tmp 0))⟩⟩,
         ⟨0, false, ⟨(some 20), none, .op (.mv (.tmp 4))⟩⟩,
         ⟨0, false, ⟨(some 21), none, .op (.iaddr (.slice 2) (.tmp 19) (.tmp 20))⟩⟩,
         ⟨0, false, ⟨(some 22), none, .op (.faddr 1 (.tmp 21))⟩⟩,
         ⟨0, false, ⟨(some 23), none, .op (.load none (.tmp 22))⟩⟩,
         ⟨0, false, ⟨(some 24), none, .op (.len none (.tmp 23))⟩⟩,
         ⟨0, false, ⟨(some 25), none, .op (.bin .rem (.tmp 24) (.const (.int .i64 2)))⟩⟩,
         ⟨0, false, ⟨(some 26), none, .op (.bin .add (.tmp 18) (.tmp 25))⟩⟩,
         ⟨0, false, ⟨(some 27), none, .op (.bin .add (.tmp 11) (.tmp 26))⟩⟩,
         ⟨0, false, ⟨(some 3), none, .op (.mv (.tmp 27))⟩⟩] []))
     (.reg [⟨(some 9), none, .op (.mv (.tmp 4))⟩,
       ⟨(some 10), none, .op (.bin .add (.tmp 9) (.const (.int .i64 1)))⟩,
       ⟨(some 4), none, .op (.mv (.tmp 10))⟩]))))))
  (.seq (.reg [⟨(some 28), none, .op (.mv (.tmp 3))⟩,
     ⟨(some 2), none, .op (.mv (.tmp 28))⟩])
  (.ret))))

def ac_riff_Write_1 (f_le_Bytes f_bytes_Buffer_WriteString f_bytes_Buffer_Write : Nat) : AC :=
  .seq (.reg [⟨(some 8), none, .op (.mv (.tmp 1))⟩,
     ⟨(some 9), none, .op (.conv (.int .u64) (.tmp 8))⟩,
     ⟨(some 10), none, .call f_le_Bytes [(.tmp 9), (.const (.int .i64 4))]⟩,
     ⟨(some 7), none, .op (.mv (.tmp 10))⟩,
     ⟨(some 11), none, .op (.extract (.tmp 7) 0)⟩,
     ⟨(some 12), none, .op (.extract (.tmp 7) 1)⟩,
     ⟨(some 5), none, .op (.mv (.tmp 11))⟩,
     ⟨(some 6), none, .op (.mv (.tmp 12))⟩])
  (.seq (.reg [⟨(some 13), none, .op (.mv (.tmp 0))⟩,
     ⟨(some 14), none, .call f_bytes_Buffer_WriteString [(.tmp 2), (.tmp 13)]⟩])
  (.reg [⟨(some 15), none, .op (.mv (.tmp 5))⟩,
    ⟨(some 16), none, .call f_bytes_Buffer_Write [(.tmp 2), (.tmp 15)]⟩]))

def ac_le_Bytes (f_le_fits t0 : Nat) : AC :=
  .seq (.reg [⟨(some 4), none, .op (.mv (.const (.slice none 0 0)))⟩,
     ⟨(some 5), none, .op (.mv (.const (.int .i64 0)))⟩])
  (.seq (.seq (.reg [⟨(some 8), none, .op (.mv (.tmp 1))⟩,
      ⟨(some 9), none, .op (.bin .lss (.tmp 8) (.const (.int .i64 1)))⟩,
      ⟨(some 10), none, .op (.mv (.tmp 9))⟩,
      ⟨(some 11), (some (10, false)), .op (.mv (.tmp 1))⟩,
      ⟨(some 12), (some (10, false)), .op (.bin .gtr (.tmp 11) (.const (.int .i64 8)))⟩,
      ⟨(some 13), none, .op (.pick (.tmp 10) (.const (.bool true)) (.tmp 12))⟩])
   (.cond (.tmp 13)
     (.seq (.reg [⟨(some 4), none, .op (.mv (.const (.slice none 0 0)))⟩,
        ⟨(some 5), none, .op (.mv (.const (.int .i64 2)))⟩])
     (.ret))
     (.skip)))
  (.seq (.seq (.reg [⟨(some 14), none, .op (.mv (.tmp 0))⟩,
      ⟨(some 15), none, .op (.mv (.tmp 1))⟩,
      ⟨(some 16), none, .call f_le_fits [(.tmp 14), (.tmp 15)]⟩,
      ⟨(some 17), none, .op (.un .not (.tmp 16))⟩])
   (.cond (.tmp 17)
     (.seq (.reg [⟨(some 4), none, .op (.mv (.const (.slice none 0 0)))⟩,
        ⟨(some 5), none, .op (.mv (.const (.int .i64 16)))⟩])
     (.ret))
     (.skip)))
  (.seq (.reg [⟨(some 18), none, .op (.mv (.tmp 1))⟩,
     ⟨(some 19), none, .op (.mkslice t0 1 1 [.int .u8 0] (.tmp 18) (.tmp 18))⟩,
     ⟨(some 6), none, .op (.mv (.tmp 19))⟩])
  (.seq (.seq (.reg [⟨(some 20), none, .op (.mv (.tmp 6))⟩,
      ⟨(some 21), none, .op (.len none (.tmp 20))⟩,
      ⟨(some 22), none, .op (.mv (.const (.int .i64 0)))⟩])
   (.block 0 (.loop (.seq (.reg [⟨(some 23), none, .op (.bin .lss (.tmp 22) (.tmp 21))⟩])
     (.seq (.cond (.tmp 23)
        (.skip)
        (.exit 0))
     (.seq (.block 1 (.seq (.reg [⟨(some 24), none, .op (.mv (.tmp 22))⟩,
          ⟨(some 7), none, .op (.mv (.tmp 24))⟩])
       (.reg [⟨(some 25), none, .op (.mv (.tmp 6))⟩,
         ⟨(some 26), none, .op (.mv (.tmp 7))⟩,
         ⟨(some 27), none, .op (.mv (.tmp 0))⟩,
         ⟨(some 28), none, .op (.mv (.tmp 7))⟩,
         ⟨(some 29), none, .op (.bin .mul (.const (.int .i64 8)) (.tmp 28))⟩,
         ⟨(some 30), none, .op (.bin .shr (.tmp 27) (.tmp 29))⟩,
         ⟨(some 31), none, .op (.conv (.int .u8) (.tmp 30))⟩,
         ⟨(some 32), none, .op (.iaddr (.slice 1) (.tmp 25) (.tmp 26))⟩,
         ⟨none, none, .op (.store 1 (.tmp 32) (.tmp 31))⟩])))
     (.reg [⟨(some 33), none, .op (.bin .add (.tmp 22) (.const (.int .i64 1)))⟩,
       ⟨(some 22), none, .op (.mv (.tmp 33))⟩])))))))
  (.seq (.reg [⟨(some 34), none, .op (.mv (.tmp 6))⟩,
     ⟨(some 4), none, .op (.mv (.tmp 34))⟩,
     ⟨(some 5), none, .op (.mv (.const (.int .i64 0)))⟩])
  (.ret))))))

def ac_bytes_Buffer_WriteString (f_bytes_Buffer_tryGrowByReslice f_bytes_Buffer_grow : Nat) : AC :=
  .seq (.reg [⟨(some 4), none, .op (.mv (.const (.int .i64 0)))⟩,
     ⟨(some 5), none, .op (.mv (.const .nilIface))⟩])
  (.seq (.reg [⟨(some 8), none, .op (.mv (.tmp 0))⟩,
     ⟨(some 9), none, .op (.nilck (.tmp 8))⟩,
     ⟨(some 10), none, .op (.faddr 2 (.tmp 9))⟩,
     ⟨none, none, .op (.store 1 (.tmp 10) (.const (.int .i8 0)))⟩])
  (.seq (.reg [⟨(some 12), none, .op (.mv (.tmp 0))⟩,
     ⟨(some 13), none, .op (.mv (.tmp 1))⟩,
     ⟨(some 14), none, .op (.len (some none) (.tmp 13))⟩,
     ⟨(some 15), none, .call f_bytes_Buffer_tryGrowByReslice [(.tmp 12), (.tmp 14)]⟩,
     ⟨(some 11), none, .op (.mv (.tmp 15))⟩,
     ⟨(some 16), none, .op (.extract (.tmp 11) 0)⟩,
     ⟨(some 17), none, .op (.extract (.tmp 11) 1)⟩,
     ⟨(some 6), none, .op (.mv (.tmp 16))⟩,
     ⟨(some 7), none, .op (.mv (.tmp 17))⟩])
  (.seq (.seq (.reg [⟨(some 18), none, .op (.mv (.tmp 7))⟩,
      ⟨(some 19), none, .op (.un .not (.tmp 18))⟩])
   (.cond (.tmp 19)
     (.reg [⟨(some 20), none, .op (.mv (.tmp 0))⟩,
       ⟨(some 21), none, .op (.mv (.tmp 1))⟩,
       ⟨(some 22), none, .op (.len (some none) (.tmp 21))⟩,
       ⟨(some 23), none, .call f_bytes_Buffer_grow [(.tmp 20), (.tmp 22)]⟩,
       ⟨(some 6), none, .op (.mv (.tmp 23))⟩])
     (.skip)))
  (.seq (.reg [⟨(some 24), none, .op (.mv (.tmp 0))⟩,
     ⟨(some 25), none, .op (.nilck (.tmp 24))⟩,
     ⟨(some 26), none, .op (.faddr 0 (.tmp 25))⟩,
     ⟨(some 27), none, .op (.load none (.tmp 26))⟩,
     ⟨(some 28), none, .op (.mv (.tmp 6))⟩,
     ⟨(some 29), none, .op (.slice 1 (.tmp 27) (some (.tmp 28)) none none)⟩,
     ⟨(some 30), none, .op (.mv (.tmp 1))⟩,
     ⟨(some 31), none, .op (.copy 1 true (.tmp 29) (.tmp 30))⟩,
     ⟨(some 4), none, .op (.mv (.tmp 31))⟩,
     ⟨(some 5), none, .op (.mv (.const .nilIface))⟩])
  (.ret)))))

def ac_bytes_Buffer_Write (f_bytes_Buffer_tryGrowByReslice f_bytes_Buffer_grow : Nat) : AC :=
  .seq (.reg [⟨(some 4), none, .op (.mv (.const (.int .i64 0)))⟩,
     ⟨(some 5), none, .op (.mv (.const .nilIface))⟩])
  (.seq (.reg [⟨(some 8), none, .op (.mv (.tmp 0))⟩,
     ⟨(some 9), none, .op (.nilck (.tmp 8))⟩,
     ⟨(some 10), none, .op (.faddr 2 (.tmp 9))⟩,
     ⟨none, none, .op (.store 1 (.tmp 10) (.const (.int .i8 0)))⟩])
  (.seq (.reg [⟨(some 12), none, .op (.mv (.tmp 0))⟩,
     ⟨(some 13), none, .op (.mv (.tmp 1))⟩,
     ⟨(some 14), none, .op (.len none (.tmp 13))⟩,
     ⟨(some 15), none, .call f_bytes_Buffer_tryGrowByReslice [(.tmp 12), (.tmp 14)]⟩,
     ⟨(some 11), none, .op (.mv (.tmp 15))⟩,
     ⟨(some 16), none, .op (.extract (.tmp 11) 0)⟩,
     ⟨(some 17), none, .op (.extract (.tmp 11) 1)⟩,
     ⟨(some 6), none, .op (.mv (.tmp 16))⟩,
     ⟨(some 7), none, .op (.mv (.tmp 17))⟩])
  (.seq (.seq (.reg [⟨(some 18), none, .op (.mv (.tmp 7))⟩,
      ⟨(some 19), none, .op (.un .not (.tmp 18))⟩])
   (.cond (.tmp 19)
     (.reg [⟨(some 20), none, .op (.mv (.tmp 0))⟩,
       ⟨(some 21), none, .op (.mv (.tmp 1))⟩,
       ⟨(some 22), none, .op (.len none (.tmp 21))⟩,
       ⟨(some 23), none, .call f_bytes_Buffer_grow [(.tmp 20), (.tmp 22)]⟩,
       ⟨(some 6), none, .op (.mv (.tmp 23))⟩])
     (.skip)))
  (.seq (.reg [⟨(some 24), none, .op (.mv (.tmp 0))⟩,
     ⟨(some 25), none, .op (.nilck (.tmp 24))⟩,
     ⟨(some 26), none, .op (.faddr 0 (.tmp 25))⟩,
     ⟨(some 27), none, .op (.load none (.tmp 26))⟩,
     ⟨(some 28), none, .op (.mv (.tmp 6))⟩,
     ⟨(some 29), none, .op (.slice 1 (.tmp 27) (some (.tmp 28)) none none)⟩,
     ⟨(some 30), none, .op (.mv (.tmp 1))⟩,
     ⟨(some 31), none, .op (.copy 1 false (.tmp 29) (.tmp 30))⟩,
     ⟨(some 4), none, .op (.mv (.tmp 31))⟩,
     ⟨(some 5), none, .op (.mv (.const .nilIface))⟩])
  (.ret)))))

def ac_riff_size (t0 : Nat) : AC :=
  .seq (.reg [⟨(some 2), none, .op (.mv (.const (.int .i64 0)))⟩])
  (.seq (.reg [⟨(some 3), none, .op (.mv (.const (.int .i64 4)))⟩])
  (.seq (.seq (.reg [⟨(some 6), none, .op (.mv (.tmp 0))⟩,
      ⟨(some 7), none, .op (.len none (.tmp 6))⟩,
      ⟨(some 8), none, .op (.mv (.const (.int .i64 0)))⟩])
   (.block 0 (.loop (.seq (.reg [⟨(some 9), none, .op (.bin .lss (.tmp 8) (.tmp 7))⟩])
     (.seq (.cond (.tmp 9)
        (.skip)
        (.exit 0))
     (.seq (.block 1 (.seq (.reg [⟨(some 10), none, .op (.iaddr (.slice 2) (.tmp 6) (.tmp 8))⟩,
          ⟨(some 11), none, .op (.load (some 2) (.tmp 10))⟩,
          ⟨(some 5), none, .op (.alloc t0 [.str [], .emp true])⟩,
          ⟨none, none, .op (.store 2 (.tmp 5) (.tmp 11))⟩])
       (.reg [⟨(some 12), none, .op (.mv (.tmp 3))⟩,
         ⟨(some 13), none, .op (.faddr 1 (.tmp 5))⟩,
         ⟨(some 14), none, .op (.load none (.tmp 13))⟩,
         ⟨(some 15), none, .op (.len none (.tmp 14))⟩,
         ⟨(some 16), none, .op (.bin .add (.const (.int .i64 8)) (.tmp 15))⟩,
         ⟨(some 17), none, .op (.faddr 1 (.tmp 5))⟩,
         ⟨(some 18), none, .op (.load none (.tmp 17))⟩,
         ⟨(some 19), none, .op (.len none (.tmp 18))⟩,
         ⟨(some 20), none, .op (.bin .and (.tmp 19) (.const (.int .i64 1)))⟩,
         ⟨(some 21), none, .op (.bin .add (.tmp 16) (.tmp 20))⟩,
         ⟨(some 22), none, .op (.bin .add (.tmp 12) (.tmp 21))⟩,
         ⟨(some 3), none, .op (.mv (.tmp 22))⟩])))
     (.reg [⟨(some 23), none, .op (.bin .add (.tmp 8) (.const (.int .i64 1)))⟩,
       ⟨(some 8), none, .op (.mv (.tmp 23))⟩])))))))
  (.seq (.reg [⟨(some 24), none, .op (.mv (.tmp 3))⟩,
     ⟨(some 2), none, .op (.mv (.tmp 24))⟩])
  (.ret))))

def ac_bytes_Buffer_Bytes : AC :=
  .seq (.reg [⟨(some 2), none, .op (.mv (.const (.slice none 0 0)))⟩])
  (.seq (.draw [⟨0, false, ⟨(some 3), none, .op (.mv (.tmp 0))⟩⟩,
     ⟨0, false, ⟨(some 4), none, .op (.nilck (.tmp 3))⟩⟩,
     ⟨0, false, ⟨(some 5), none, .op (.faddr 0 (.tmp 4))⟩⟩,
     ⟨0, false, ⟨(some 6), none, .op (.load none (.tmp 5))⟩⟩,
     ⟨0, false, ⟨(some 7), none, .op (.mv (.tmp 0))⟩⟩,
     ⟨0, false, ⟨(some 8), none, .op (.nilck (.tmp 7))⟩⟩,
     ⟨0, false, ⟨(some 9), none, .op (.faddr 1 (.tmp 8))⟩⟩,
     ⟨0, false, ⟨(some 10), none, .op (.load none (.tmp 9))⟩⟩,
     ⟨0, false, ⟨(some 11), none, .op (.slice 1 (.tmp 6) (some (.tmp 10)) none none)⟩⟩,
     ⟨0, false, ⟨(some 2), none, .op (.mv (.tmp 11))⟩⟩] [])
  (.ret))

def ac_cadenzaref31_Bytes (f_cadenzaref31_Size f_cadenzaref01_Written t0 : Nat) : AC :=
  .seq (.reg [⟨(some 4), none, .op (.mv (.const (.slice none 0 0)))⟩])
  (.seq (.reg [⟨(some 7), none, .op (.bslice t0 1 4 [.int .u8 0] [(0, 1, (.const (.int .u8 82))), (1, 1, (.const (.int .u8 73))), (2, 1, (.const (.int .u8 70))), (3, 1, (.const (.int .u8 70)))])⟩,
     ⟨(some 8), none, .op (.strsh (.tmp 7))⟩,
     ⟨(some 9), none, .op (.mv (.tmp 1))⟩,
     ⟨(some 10), none, .call f_cadenzaref31_Size [(.tmp 9)]⟩,
     ⟨(some 11), none, .op (.bin .sub (.tmp 10) (.const (.int .i64 8)))⟩,
     ⟨(some 12), none, .op (.conv (.int .u64) (.tmp 11))⟩,
     ⟨(some 13), none, .call f_cadenzaref01_Written [(.tmp 12), (.const (.int .i64 4))]⟩,
     ⟨(some 14), none, .op (.append t0 1 1 false (.tmp 8) (.tmp 13))⟩,
     ⟨(some 5), none, .op (.mv (.tmp 14))⟩])
  (.seq (.reg [⟨(some 15), none, .op (.mv (.tmp 5))⟩,
     ⟨(some 16), none, .op (.mv (.tmp 0))⟩,
     ⟨(some 17), none, .op (.append t0 1 1 true (.tmp 15) (.tmp 16))⟩,
     ⟨(some 5), none, .op (.mv (.tmp 17))⟩])
  (.seq (.seq (.reg [⟨(some 6), none, .op (.mv (.const (.int .i64 0)))⟩])
   (.block 0 (.loop (.seq (.seq (.reg [⟨(some 18), none, .op (.mv (.tmp 6))⟩,
         ⟨(some 19), none, .op (.mv (.tmp 1))⟩,
         ⟨(some 20), none, .op (.len none (.tmp 19))⟩,
         ⟨(some 21), none, .op (.bin .lss (.tmp 18) (.tmp 20))⟩])
      (.cond (.tmp 21)
        (.skip)
        (.exit 0)))
     (.seq (.block 1 (.seq (.reg [⟨(some 24), none, .op (.mv (.tmp 5))⟩,
          ⟨(some 25), none, .op (.mv (.tmp 1))⟩,
          ⟨(some 26), none, .op (.mv (.tmp 6))⟩,
          ⟨(some 27), none, .op (.iaddr (.slice 2) (.tmp 25) (.tmp 26))⟩,
          ⟨(some 28), none, .op (.faddr 0 (.tmp 27))⟩,
          ⟨(some 29), none, .op (.load none (.tmp 28))⟩,
          ⟨(some 30), none, .op (.append t0 1 1 true (.tmp 24) (.tmp 29))⟩,
          ⟨(some 5), none, .op (.mv (.tmp 30))⟩])
       (.seq (.reg [⟨(some 31), none, .op (.mv (.tmp 5))⟩,
          ⟨(some 32), none, .op (.mv (.tmp 1))⟩,
          ⟨(some 33), none, .op (.mv (.tmp 6))⟩,
          ⟨(some 34), none, .op (.iaddr (.slice 2) (.tmp 32) (.tmp 33))⟩,
          ⟨(some 35), none, .op (.faddr 1 (.tmp 34))⟩,
          ⟨(some 36), none, .op (.load none (.tmp 35))⟩,
          ⟨(some 37), none, .op (.len none (.tmp 36))⟩,
          ⟨(some 38), none, .op (.conv (.int .u64) (.tmp 37))⟩,
          ⟨(some 39), none, .call f_cadenzaref01_Written [(.tmp 38), (.const (.int .i64 4))]⟩,
          ⟨(some 40), none, .op (.append t0 1 1 false (.tmp 31) (.tmp 39))⟩,
          ⟨(some 5), none, .op (.mv (.tmp 40))⟩])
       (.seq (.reg [⟨(some 41), none, .op (.mv (.tmp 5))⟩,
          ⟨(some 42), none, .op (.mv (.tmp 1))⟩,
          ⟨(some 43), none, .op (.mv (.tmp 6))⟩,
          ⟨(some 44), none, .op (.iaddr (.slice 2) (.tmp 42) (.tmp 43))⟩,
          ⟨(some 45), none, .op (.faddr 1 (.tmp 44))⟩,
          ⟨(some 46), none, .op (.load none (.tmp 45))⟩,
          ⟨(some 47), none, .op (.append t0 1 1 false (.tmp 41) (.tmp 46))⟩,
          ⟨(some 5), none, .op (.mv (.tmp 47))⟩])
       (.seq (.reg [⟨(some 48), none, .op (.mv (.tmp 1))⟩,
          ⟨(some 49), none, .op (.mv (.tmp 6))⟩,
          ⟨(some 50), none, .op (.iaddr (.slice 2) (.tmp 48) (.tmp 49))⟩,
          ⟨(some 51), none, .op (.faddr 1 (.tmp 50))⟩,
          ⟨(some 52), none, .op (.load none (.tmp 51))⟩,
          ⟨(some 53), none, .op (.len none (.tmp 52))⟩,
          ⟨(some 54), none, .op (.bin .rem (.tmp 53) (.const (.int .i64 2)))⟩,
          ⟨(some 55), none, .op (.bin .eql (.tmp 54) (.const (.int .i64 1)))⟩])
       (.cond (.tmp 55)
         (.reg [⟨(some 56), none, .op (.mv (.tmp 5))⟩,
           ⟨(some 57), none, .op (.bslice t0 1 1 [.int .u8 0] [(0, 1, (.const (.int .u8 0)))])⟩,
           ⟨(some 58), none, .op (.append t0 1 1 false (.tmp 56) (.tmp 57))⟩,
           ⟨(some 5), none, .op (.mv (.tmp 58))⟩])
         (.skip)))))))
     (.reg [⟨(some 22), none, .op (.mv (.tmp 6))⟩,
       ⟨(some 23), none, .op (.bin .add (.tmp 22) (.const (.int .i64 1)))⟩,
       ⟨(some 6), none, .op (.mv (.tmp 23))⟩]))))))
  (.seq (.reg [⟨(some 59), none, .op (.mv (.tmp 5))⟩,
     ⟨(some 4), none, .op (.mv (.tmp 59))⟩])
  (.ret)))))

def ac_slices_IndexFunc_api_Chunk_api_Chunk : AC :=
  .seq (.reg [⟨(some 4), none, .op (.mv (.const (.int .i64 0)))⟩])
  (.seq (.seq (.reg [⟨(some 6), none, .op (.mv (.tmp 0))⟩,
      ⟨(some 7), none, .op (.len none (.tmp 6))⟩,
      ⟨(some 8), none, .op (.mv (.const (.int .i64 0)))⟩])
   (.block 0 (.loop (.seq (.reg [⟨(some 9), none, .op (.bin .lss (.tmp 8) (.tmp 7))⟩])
     (.seq (.cond (.tmp 9)
        (.skip)
        (.exit 0))
     (.seq (.block 1 (.seq (.reg [⟨(some 10), none, .op (.mv (.tmp 8))⟩,
          ⟨(some 5), none, .op (.mv (.tmp 10))⟩])
       (.seq (.reg [⟨(some 11), none, .op (.mv (.tmp 1))⟩,
          ⟨(some 12), none, .op (.mv (.tmp 0))⟩,
          ⟨(some 13), none, .op (.mv (.tmp 5))⟩,
          ⟨(some 14), none, .op (.iaddr (.slice 2) (.tmp 12) (.tmp 13))⟩,
          ⟨(some 15), none, .op (.load (some 2) (.tmp 14))⟩,
          ⟨(some 16), none, .callv 11 [(.tmp 15)]⟩])
       (.cond (.tmp 16)
         (.seq (.reg [⟨(some 17), none, .op (.mv (.tmp 5))⟩,
            ⟨(some 4), none, .op (.mv (.tmp 17))⟩])
         (.ret))
         (.skip)))))
     (.reg [⟨(some 18), none, .op (.bin .add (.tmp 8) (.const (.int .i64 1)))⟩,
       ⟨(some 8), none, .op (.mv (.tmp 18))⟩])))))))
  (.seq (.reg [⟨(some 4), none, .op (.mv (.const (.int .i64 (-1))))⟩])
  (.ret)))

def ac_riff_Find_1 (t0 : Nat) : AC :=
  .seq (.reg [⟨(some 2), none, .op (.box t0 2 (.tmp 0))⟩,
     ⟨(some 3), none, .op (.mv (.const (.bool false)))⟩])
  (.seq (.reg [⟨(some 4), none, .op (.faddr 0 (.tmp 2))⟩,
     ⟨(some 5), none, .op (.load none (.tmp 4))⟩,
     ⟨(some 6), none, .op (.load none (.tmp 1))⟩,
     ⟨(some 7), none, .op (.bin .eql (.tmp 5) (.tmp 6))⟩,
     ⟨(some 3), none, .op (.mv (.tmp 7))⟩])
  (.ret))

def ac_riff_isName : AC :=
  .seq (.reg [⟨(some 2), none, .op (.mv (.const (.bool false)))⟩])
  (.seq (.seq (.reg [⟨(some 5), none, .op (.mv (.tmp 0))⟩,
      ⟨(some 6), none, .op (.conv .toBytes (.tmp 5))⟩,
      ⟨(some 7), none, .op (.len none (.tmp 6))⟩,
      ⟨(some 8), none, .op (.mv (.const (.int .i64 0)))⟩])
   (.block 0 (.loop (.seq (.reg [⟨(some 9), none, .op (.bin .lss (.tmp 8) (.tmp 7))⟩])
     (.seq (.cond (.tmp 9)
        (.skip)
        (.exit 0))
     (.seq (.block 1 (.seq (.reg [⟨(some 10), none, .op (.iaddr (.slice 1) (.tmp 6) (.tmp 8))⟩,
          ⟨(some 11), none, .op (.load none (.tmp 10))⟩,
          ⟨(some 4), none, .op (.mv (.tmp 11))⟩])
       (.seq (.reg [⟨(some 12), none, .op (.mv (.tmp 4))⟩,
          ⟨(some 13), none, .op (.bin .lss (.tmp 12) (.const (.int .u8 32)))⟩,
          ⟨(some 14), none, .op (.mv (.tmp 13))⟩,
          ⟨(some 15), (some (14, false)), .op (.mv (.tmp 4))⟩,
          ⟨(some 16), (some (14, false)), .op (.bin .gtr (.tmp 15) (.const (.int .u8 126)))⟩,
          ⟨(some 17), none, .op (.pick (.tmp 14) (.const (.bool true)) (.tmp 16))⟩])
       (.cond (.tmp 17)
         (.seq (.reg [⟨(some 2), none, .op (.mv (.const (.bool false)))⟩])
         (.ret))
         (.skip)))))
     (.reg [⟨(some 18), none, .op (.bin .add (.tmp 8) (.const (.int .i64 1)))⟩,
       ⟨(some 8), none, .op (.mv (.tmp 18))⟩])))))))
  (.seq (.reg [⟨(some 19), none, .op (.mv (.tmp 0))⟩,
     ⟨(some 20), none, .op (.len (some none) (.tmp 19))⟩,
     ⟨(some 21), none, .op (.bin .eql (.tmp 20) (.const (.int .i64 4)))⟩,
     ⟨(some 2), none, .op (.mv (.tmp 21))⟩])
  (.ret)))

def ac_slices_ContainsFunc_api_Chunk_api_Chunk (f_slices_IndexFunc_api_Chunk_api_Chunk : Nat) : AC :=
  .seq (.reg [⟨(some 4), none, .op (.mv (.const (.bool false)))⟩])
  (.seq (.reg [⟨(some 5), none, .op (.mv (.tmp 0))⟩,
     ⟨(some 6), none, .op (.mv (.tmp 1))⟩,
     ⟨(some 7), none, .call f_slices_IndexFunc_api_Chunk_api_Chunk [(.tmp 5), (.tmp 6)]⟩,
     ⟨(some 8), none, .op (.bin .geq (.tmp 7) (.const (.int .i64 0)))⟩,
     ⟨(some 4), none, .op (.mv (.tmp 8))⟩])
  (.ret))

def ac_riff_Check_1 (f_riff_isName t0 : Nat) : AC :=
  .seq (.reg [⟨(some 1), none, .op (.box t0 2 (.tmp 0))⟩,
     ⟨(some 2), none, .op (.mv (.const (.bool false)))⟩])
  (.seq (.reg [⟨(some 3), none, .op (.faddr 0 (.tmp 1))⟩,
     ⟨(some 4), none, .op (.load none (.tmp 3))⟩,
     ⟨(some 5), none, .call f_riff_isName [(.tmp 4)]⟩,
     ⟨(some 6), none, .op (.un .not (.tmp 5))⟩,
     ⟨(some 2), none, .op (.mv (.tmp 6))⟩])
  (.ret))

def ac_cadenzaref31_Name : AC :=
  .seq (.reg [⟨(some 2), none, .op (.mv (.const (.bool false)))⟩])
  (.seq (.seq (.reg [⟨(some 3), none, .op (.mv (.const (.int .i64 0)))⟩])
   (.block 0 (.loop (.seq (.seq (.reg [⟨(some 4), none, .op (.mv (.tmp 3))⟩,
         ⟨(some 5), none, .op (.mv (.tmp 0))⟩,
         ⟨(some 6), none, .op (.len (some none) (.tmp 5))⟩,
         ⟨(some 7), none, .op (.bin .lss (.tmp 4) (.tmp 6))⟩])
      (.cond (.tmp 7)
        (.skip)
        (.exit 0)))
     (.seq (.block 1 (.seq (.reg [⟨(some 10), none, .op (.mv (.tmp 0))⟩,
          ⟨(some 11), none, .op (.mv (.tmp 3))⟩,
          ⟨(some 12), none, .op (.index .str (.tmp 10) (.tmp 11))⟩,
          ⟨(some 13), none, .op (.bin .lss (.tmp 12) (.const (.int .u8 32)))⟩,
          ⟨(some 14), none, .op (.mv (.tmp 13))⟩,
          ⟨(some 15), (some (14, false)), .op (.mv (.tmp 0))⟩,
          ⟨(some 16), (some (14, false)), .op (.mv (.tmp 3))⟩,
          ⟨(some 17), (some (14, false)), .op (.index .str (.tmp 15) (.tmp 16))⟩,
          ⟨(some 18), (some (14, false)), .op (.bin .gtr (.tmp 17) (.const (.int .u8 126)))⟩,
          ⟨(some 19), none, .op (.pick (.tmp 14) (.const (.bool true)) (.tmp 18))⟩])
       (.cond (.tmp 19)
         (.seq (.reg [⟨(some 2), none, .op (.mv (.const (.bool false)))⟩])
         (.ret))
         (.skip))))
     (.reg [⟨(some 8), none, .op (.mv (.tmp 3))⟩,
       ⟨(some 9), none, .op (.bin .add (.tmp 8) (.const (.int .i64 1)))⟩,
       ⟨(some 3), none, .op (.mv (.tmp 9))⟩]))))))
  (.seq (.reg [⟨(some 20), none, .op (.mv (.tmp 0))⟩,
     ⟨(some 21), none, .op (.len (some none) (.tmp 20))⟩,
     ⟨(some 22), none, .op (.bin .eql (.tmp 21) (.const (.int .i64 4)))⟩,
     ⟨(some 2), none, .op (.mv (.tmp 22))⟩])
  (.ret)))

def ac_cadenzalaw31_example (t0 t1 : Nat) : AC :=
  .seq (.reg [⟨(some 0), none, .op (.mv (.const (.slice none 0 0)))⟩])
  (.seq (.reg [⟨(some 1), none, .op (.bslice t0 1 3 [.int .u8 0] [(0, 1, (.const (.int .u8 1))), (1, 1, (.const (.int .u8 2))), (2, 1, (.const (.int .u8 3)))])⟩,
     ⟨(some 2), none, .op (.build [.str [], .emp true] [(0, 1, (.const (.string ⟨#[100, 97, 116, 97]⟩))), (1, 1, (.tmp 1))])⟩,
     ⟨(some 3), none, .op (.bslice t1 2 1 [.str [], .emp true] [(0, 2, (.tmp 2))])⟩,
     ⟨(some 0), none, .op (.mv (.tmp 3))⟩])
  (.ret))

def ac_le_At (f_le_Value : Nat) : AC :=
  .seq (.reg [⟨(some 6), none, .op (.mv (.const (.int .u64 0)))⟩,
     ⟨(some 7), none, .op (.mv (.const (.int .i64 0)))⟩])
  (.seq (.seq (.reg [⟨(some 8), none, .op (.mv (.tmp 2))⟩,
      ⟨(some 9), none, .op (.bin .lss (.tmp 8) (.const (.int .i64 1)))⟩,
      ⟨(some 10), none, .op (.mv (.tmp 9))⟩,
      ⟨(some 11), (some (10, false)), .op (.mv (.tmp 2))⟩,
      ⟨(some 12), (some (10, false)), .op (.bin .gtr (.tmp 11) (.const (.int .i64 8)))⟩,
      ⟨(some 13), none, .op (.pick (.tmp 10) (.const (.bool true)) (.tmp 12))⟩,
      ⟨(some 14), none, .op (.mv (.tmp 13))⟩,
      ⟨(some 15), (some (14, false)), .op (.mv (.tmp 1))⟩,
      ⟨(some 16), (some (14, false)), .op (.bin .lss (.tmp 15) (.const (.int .i64 0)))⟩,
      ⟨(some 17), none, .op (.pick (.tmp 14) (.const (.bool true)) (.tmp 16))⟩])
   (.cond (.tmp 17)
     (.seq (.reg [⟨(some 6), none, .op (.mv (.const (.int .u64 0)))⟩,
        ⟨(some 7), none, .op (.mv (.const (.int .i64 2)))⟩])
     (.ret))
     (.skip)))
  (.seq (.seq (.reg [⟨(some 18), none, .op (.mv (.tmp 1))⟩,
      ⟨(some 19), none, .op (.mv (.tmp 0))⟩,
      ⟨(some 20), none, .op (.len none (.tmp 19))⟩,
      ⟨(some 21), none, .op (.mv (.tmp 2))⟩,
      ⟨(some 22), none, .op (.bin .sub (.tmp 20) (.tmp 21))⟩,
      ⟨(some 23), none, .op (.bin .gtr (.tmp 18) (.tmp 22))⟩])
   (.cond (.tmp 23)
     (.seq (.reg [⟨(some 6), none, .op (.mv (.const (.int .u64 0)))⟩,
        ⟨(some 7), none, .op (.mv (.const (.int .i64 24)))⟩])
     (.ret))
     (.skip)))
  (.seq (.reg [⟨(some 24), none, .op (.mv (.tmp 0))⟩,
     ⟨(some 25), none, .op (.mv (.tmp 1))⟩,
     ⟨(some 26), none, .op (.mv (.tmp 1))⟩,
     ⟨(some 27), none, .op (.mv (.tmp 2))⟩,
     ⟨(some 28), none, .op (.bin .add (.tmp 26) (.tmp 27))⟩,
     ⟨(some 29), none, .op (.slice 1 (.tmp 24) (some (.tmp 25)) (some (.tmp 28)) none)⟩,
     ⟨(some 30), none, .call f_le_Value [(.tmp 29)]⟩,
     ⟨(some 31), none, .op (.extract (.tmp 30) 0)⟩,
     ⟨(some 32), none, .op (.extract (.tmp 30) 1)⟩,
     ⟨(some 6), none, .op (.mv (.tmp 31))⟩,
     ⟨(some 7), none, .op (.mv (.tmp 32))⟩])
  (.ret))))

def ac_riff_next (f_riff_isName f_le_At f_bytes_Clone t0 : Nat) : AC :=
  .seq (.reg [⟨(some 2), none, .op (.alloc t0 [.str [], .emp true])⟩,
     ⟨(some 3), none, .op (.mv (.const (.slice none 0 0)))⟩,
     ⟨(some 4), none, .op (.mv (.const (.bool false)))⟩])
  (.seq (.seq (.reg [⟨(some 9), none, .op (.mv (.tmp 0))⟩,
      ⟨(some 10), none, .op (.len none (.tmp 9))⟩,
      ⟨(some 11), none, .op (.bin .lss (.tmp 10) (.const (.int .i64 8)))⟩,
      ⟨(some 12), none, .op (.mv (.tmp 11))⟩,
      ⟨(some 13), (some (12, false)), .op (.mv (.tmp 0))⟩,
      ⟨(some 14), (some (12, false)), .op (.slice 1 (.tmp 13) none (some (.const (.int .i64 4))) none)⟩,
      ⟨(some 15), (some (12, false)), .op (.conv .toStr (.tmp 14))⟩,
      ⟨(some 16), (some (12, false)), .call f_riff_isName [(.tmp 15)]⟩,
      ⟨(some 17), (some (12, false)), .op (.un .not (.tmp 16))⟩,
      ⟨(some 18), none, .op (.pick (.tmp 12) (.const (.bool true)) (.tmp 17))⟩])
   (.cond (.tmp 18)
     (.seq (.reg [⟨(some 19), none, .op (.build [.str [], .emp true] [])⟩,
        ⟨none, none, .op (.store 2 (.tmp 2) (.tmp 19))⟩,
        ⟨(some 3), none, .op (.mv (.const (.slice none 0 0)))⟩,
        ⟨(some 4), none, .op (.mv (.const (.bool false)))⟩])
     (.ret))
     (.skip)))
  (.seq (.reg [⟨(some 21), none, .op (.mv (.tmp 0))⟩,
     ⟨(some 22), none, .call f_le_At [(.tmp 21), (.const (.int .i64 4)), (.const (.int .i64 4))]⟩,
     ⟨(some 20), none, .op (.mv (.tmp 22))⟩,
     ⟨(some 23), none, .op (.extract (.tmp 20) 0)⟩,
     ⟨(some 24), none, .op (.extract (.tmp 20) 1)⟩,
     ⟨(some 5), none, .op (.mv (.tmp 23))⟩,
     ⟨(some 6), none, .op (.mv (.tmp 24))⟩])
  (.seq (.draw [⟨0, false, ⟨(some 25), none, .op (.mv (.tmp 0))⟩⟩,
     ⟨0, false, ⟨(some 26), none, .op (.slice 1 (.tmp 25) none (some (.const (.int .i64 4))) none)⟩⟩,
     ⟨0, false, ⟨(some 27), none, .op (.conv .toStr (.tmp 26))⟩⟩,
     ⟨0, false, ⟨(some 28), none, .op (.mv (.tmp 0))⟩⟩,
     ⟨0, false, ⟨(some 29), none, .op (.slice 1 (.tmp 28) (some (.const (.int .i64 8))) none none)⟩⟩,
     ⟨0, false, ⟨(some 7), none, .op (.mv (.tmp 27))⟩⟩,
     ⟨0, false, ⟨(some 0), none, .op (.mv (.tmp 29))⟩⟩] [])
  (.seq (.seq (.reg [⟨(some 30), none, .op (.mv (.tmp 5))⟩,
      ⟨(some 31), none, .op (.mv (.tmp 0))⟩,
      ⟨(some 32), none, .op (.len none (.tmp 31))⟩,
      ⟨(some 33), none, .op (.conv (.int .u64) (.tmp 32))⟩,
      ⟨(some 34), none, .op (.bin .gtr (.tmp 30) (.tmp 33))⟩])
   (.cond (.tmp 34)
     (.seq (.reg [⟨(some 35), none, .op (.build [.str [], .emp true] [])⟩,
        ⟨none, none, .op (.store 2 (.tmp 2) (.tmp 35))⟩,
        ⟨(some 3), none, .op (.mv (.const (.slice none 0 0)))⟩,
        ⟨(some 4), none, .op (.mv (.const (.bool false)))⟩])
     (.ret))
     (.skip)))
  (.seq (.reg [⟨(some 36), none, .op (.mv (.tmp 7))⟩,
     ⟨(some 37), none, .op (.mv (.tmp 0))⟩,
     ⟨(some 38), none, .op (.mv (.tmp 5))⟩,
     ⟨(some 39), none, .op (.slice 1 (.tmp 37) none (some (.tmp 38)) none)⟩,
     ⟨(some 40), none, .call f_bytes_Clone [(.tmp 39)]⟩,
     ⟨(some 41), none, .op (.build [.str [], .emp true] [(0, 1, (.tmp 36)), (1, 1, (.tmp 40))])⟩,
     ⟨(some 8), none, .op (.alloc t0 [.str [], .emp true])⟩,
     ⟨none, none, .op (.store 2 (.tmp 8) (.tmp 41))⟩])
  (.seq (.reg [⟨(some 42), none, .op (.mv (.tmp 0))⟩,
     ⟨(some 43), none, .op (.mv (.tmp 5))⟩,
     ⟨(some 44), none, .op (.slice 1 (.tmp 42) (some (.tmp 43)) none none)⟩,
     ⟨(some 0), none, .op (.mv (.tmp 44))⟩])
  (.seq (.seq (.reg [⟨(some 45), none, .op (.mv (.tmp 5))⟩,
      ⟨(some 46), none, .op (.bin .rem (.tmp 45) (.const (.int .u64 2)))⟩,
      ⟨(some 47), none, .op (.bin .eql (.tmp 46) (.const (.int .u64 1)))⟩])
   (.cond (.tmp 47)
     (.seq (.seq (.reg [⟨(some 48), none, .op (.mv (.tmp 0))⟩,
         ⟨(some 49), none, .op (.len none (.tmp 48))⟩,
         ⟨(some 50), none, .op (.bin .eql (.tmp 49) (.const (.int .i64 0)))⟩,
         ⟨(some 51), none, .op (.mv (.tmp 50))⟩,
         ⟨(some 52), (some (51, false)), .op (.mv (.tmp 0))⟩,
         ⟨(some 53), (some (51, false)), .op (.iaddr (.slice 1) (.tmp 52) (.const (.int .i64 0)))⟩,
         ⟨(some 54), (some (51, false)), .op (.load none (.tmp 53))⟩,
         ⟨(some 55), (some (51, false)), .op (.bin .neq (.tmp 54) (.const (.int .u8 0)))⟩,
         ⟨(some 56), none, .op (.pick (.tmp 51) (.const (.bool true)) (.tmp 55))⟩])
      (.cond (.tmp 56)
        (.seq (.reg [⟨(some 57), none, .op (.build [.str [], .emp true] [])⟩,
           ⟨none, none, .op (.store 2 (.tmp 2) (.tmp 57))⟩,
           ⟨(some 3), none, .op (.mv (.const (.slice none 0 0)))⟩,
           ⟨(some 4), none, .op (.mv (.const (.bool false)))⟩])
        (.ret))
        (.skip)))
     (.reg [⟨(some 58), none, .op (.mv (.tmp 0))⟩,
       ⟨(some 59), none, .op (.slice 1 (.tmp 58) (some (.const (.int .i64 1))) none none)⟩,
       ⟨(some 0), none, .op (.mv (.tmp 59))⟩]))
     (.skip)))
  (.seq (.reg [⟨(some 60), none, .op (.load (some 2) (.tmp 8))⟩,
     ⟨(some 61), none, .op (.mv (.tmp 0))⟩,
     ⟨none, none, .op (.store 2 (.tmp 2) (.tmp 60))⟩,
     ⟨(some 3), none, .op (.mv (.tmp 61))⟩,
     ⟨(some 4), none, .op (.mv (.const (.bool true)))⟩])
  (.ret)))))))))

def ac_le_fits : AC :=
  .seq (.reg [⟨(some 4), none, .op (.mv (.const (.bool false)))⟩])
  (.seq (.reg [⟨(some 5), none, .op (.mv (.tmp 1))⟩,
     ⟨(some 6), none, .op (.bin .eql (.tmp 5) (.const (.int .i64 8)))⟩,
     ⟨(some 7), none, .op (.mv (.tmp 6))⟩,
     ⟨(some 8), (some (7, false)), .op (.mv (.tmp 0))⟩,
     ⟨(some 9), (some (7, false)), .op (.mv (.tmp 1))⟩,
     ⟨(some 10), (some (7, false)), .op (.bin .mul (.const (.int .i64 8)) (.tmp 9))⟩,
     ⟨(some 11), (some (7, false)), .op (.bin .shr (.tmp 8) (.tmp 10))⟩,
     ⟨(some 12), (some (7, false)), .op (.bin .eql (.tmp 11) (.const (.int .u64 0)))⟩,
     ⟨(some 13), none, .op (.pick (.tmp 7) (.const (.bool true)) (.tmp 12))⟩,
     ⟨(some 4), none, .op (.mv (.tmp 13))⟩])
  (.ret))

def ac_bytes_Buffer_tryGrowByReslice : AC :=
  .seq (.reg [⟨(some 4), none, .op (.mv (.const (.int .i64 0)))⟩,
     ⟨(some 5), none, .op (.mv (.const (.bool false)))⟩])
  (.seq (.seq (.reg [⟨(some 7), none, .op (.mv (.tmp 0))⟩,
      ⟨(some 8), none, .op (.nilck (.tmp 7))⟩,
      ⟨(some 9), none, .op (.faddr 0 (.tmp 8))⟩,
      ⟨(some 10), none, .op (.load none (.tmp 9))⟩,
      ⟨(some 11), none, .op (.len none (.tmp 10))⟩,
      ⟨(some 6), none, .op (.mv (.tmp 11))⟩])
   (.seq (.reg [⟨(some 12), none, .op (.mv (.tmp 1))⟩,
      ⟨(some 13), none, .op (.mv (.tmp 0))⟩,
      ⟨(some 14), none, .op (.nilck (.tmp 13))⟩,
      ⟨(some 15), none, .op (.faddr 0 (.tmp 14))⟩,
      ⟨(some 16), none, .op (.load none (.tmp 15))⟩,
      ⟨(some 17), none, .op (.cap (.tmp 16))⟩,
      ⟨(some 18), none, .op (.mv (.tmp 6))⟩,
      ⟨(some 19), none, .op (.bin .sub (.tmp 17) (.tmp 18))⟩,
      ⟨(some 20), none, .op (.bin .leq (.tmp 12) (.tmp 19))⟩])
   (.cond (.tmp 20)
     (.seq (.reg [⟨(some 21), none, .op (.mv (.tmp 0))⟩,
        ⟨(some 22), none, .op (.mv (.tmp 0))⟩,
        ⟨(some 23), none, .op (.nilck (.tmp 22))⟩,
        ⟨(some 24), none, .op (.faddr 0 (.tmp 23))⟩,
        ⟨(some 25), none, .op (.load none (.tmp 24))⟩,
        ⟨(some 26), none, .op (.mv (.tmp 6))⟩,
        ⟨(some 27), none, .op (.mv (.tmp 1))⟩,
        ⟨(some 28), none, .op (.bin .add (.tmp 26) (.tmp 27))⟩,
        ⟨(some 29), none, .op (.slice 1 (.tmp 25) none (some (.tmp 28)) none)⟩,
        ⟨(some 30), none, .op (.nilck (.tmp 21))⟩,
        ⟨(some 31), none, .op (.faddr 0 (.tmp 30))⟩,
        ⟨none, none, .op (.store 1 (.tmp 31) (.tmp 29))⟩])
     (.seq (.reg [⟨(some 32), none, .op (.mv (.tmp 6))⟩,
        ⟨(some 4), none, .op (.mv (.tmp 32))⟩,
        ⟨(some 5), none, .op (.mv (.const (.bool true)))⟩])
     (.ret)))
     (.skip))))
  (.seq (.reg [⟨(some 4), none, .op (.mv (.const (.int .i64 0)))⟩,
     ⟨(some 5), none, .op (.mv (.const (.bool false)))⟩])
  (.ret)))

def ac_bytes_Buffer_grow (f_bytes_Buffer_Len f_bytes_Buffer_Reset f_bytes_Buffer_tryGrowByReslice f_bytes_growSlice t0 g0 : Nat) : AC :=
  .seq (.reg [⟨(some 4), none, .op (.mv (.const (.int .i64 0)))⟩])
  (.seq (.reg [⟨(some 9), none, .op (.mv (.tmp 0))⟩,
     ⟨(some 10), none, .call f_bytes_Buffer_Len [(.tmp 9)]⟩,
     ⟨(some 5), none, .op (.mv (.tmp 10))⟩])
  (.seq (.seq (.reg [⟨(some 11), none, .op (.mv (.tmp 5))⟩,
      ⟨(some 12), none, .op (.bin .eql (.tmp 11) (.const (.int .i64 0)))⟩,
      ⟨(some 13), none, .op (.mv (.tmp 12))⟩,
      ⟨(some 14), (some (13, true)), .op (.mv (.tmp 0))⟩,
      ⟨(some 15), (some (13, true)), .op (.nilck (.tmp 14))⟩,
      ⟨(some 16), (some (13, true)), .op (.faddr 1 (.tmp 15))⟩,
      ⟨(some 17), (some (13, true)), .op (.load none (.tmp 16))⟩,
      ⟨(some 18), (some (13, true)), .op (.bin .neq (.tmp 17) (.const (.int .i64 0)))⟩,
      ⟨(some 19), none, .op (.pick (.tmp 13) (.tmp 18) (.const (.bool false)))⟩])
   (.cond (.tmp 19)
     (.reg [⟨(some 20), none, .op (.mv (.tmp 0))⟩,
       ⟨(some 21), none, .call f_bytes_Buffer_Reset [(.tmp 20)]⟩])
     (.skip)))
  (.seq (.seq (.reg [⟨(some 23), none, .op (.mv (.tmp 0))⟩,
      ⟨(some 24), none, .op (.mv (.tmp 1))⟩,
      ⟨(some 25), none, .call f_bytes_Buffer_tryGrowByReslice [(.tmp 23), (.tmp 24)]⟩,
      ⟨(some 22), none, .op (.mv (.tmp 25))⟩,
      ⟨(some 26), none, .op (.extract (.tmp 22) 0)⟩,
      ⟨(some 27), none, .op (.extract (.tmp 22) 1)⟩,
      ⟨(some 6), none, .op (.mv (.tmp 26))⟩,
      ⟨(some 7), none, .op (.mv (.tmp 27))⟩])
   (.seq (.reg [⟨(some 28), none, .op (.mv (.tmp 7))⟩])
   (.cond (.tmp 28)
     (.seq (.reg [⟨(some 29), none, .op (.mv (.tmp 6))⟩,
        ⟨(some 4), none, .op (.mv (.tmp 29))⟩])
     (.ret))
     (.skip))))
  (.seq (.seq (.reg [⟨(some 30), none, .op (.mv (.tmp 0))⟩,
      ⟨(some 31), none, .op (.nilck (.tmp 30))⟩,
      ⟨(some 32), none, .op (.faddr 0 (.tmp 31))⟩,
      ⟨(some 33), none, .op (.load none (.tmp 32))⟩,
      ⟨(some 34), none, .op (.nileq false (.tmp 33))⟩,
      ⟨(some 35), none, .op (.mv (.tmp 34))⟩,
      ⟨(some 36), (some (35, true)), .op (.mv (.tmp 1))⟩,
      ⟨(some 37), (some (35, true)), .op (.bin .leq (.tmp 36) (.const (.int .i64 64)))⟩,
      ⟨(some 38), none, .op (.pick (.tmp 35) (.tmp 37) (.const (.bool false)))⟩])
   (.cond (.tmp 38)
     (.seq (.reg [⟨(some 39), none, .op (.mv (.tmp 0))⟩,
        ⟨(some 40), none, .op (.mv (.tmp 1))⟩,
        ⟨(some 41), none, .op (.mkslice t0 1 1 [.int .u8 0] (.tmp 40) (.const (.int .i64 64)))⟩,
        ⟨(some 42), none, .op (.nilck (.tmp 39))⟩,
        ⟨(some 43), none, .op (.faddr 0 (.tmp 42))⟩,
        ⟨none, none, .op (.store 1 (.tmp 43) (.tmp 41))⟩])
     (.seq (.reg [⟨(some 4), none, .op (.mv (.const (.int .i64 0)))⟩])
     (.ret)))
     (.skip)))
  (.seq (.reg [⟨(some 44), none, .op (.mv (.tmp 0))⟩,
     ⟨(some 45), none, .op (.nilck (.tmp 44))⟩,
     ⟨(some 46), none, .op (.faddr 0 (.tmp 45))⟩,
     ⟨(some 47), none, .op (.load none (.tmp 46))⟩,
     ⟨(some 48), none, .op (.cap (.tmp 47))⟩,
     ⟨(some 8), none, .op (.mv (.tmp 48))⟩])
  (.seq (.seq (.reg [⟨(some 49), none, .op (.mv (.tmp 1))⟩,
      ⟨(some 50), none, .op (.mv (.tmp 8))⟩,
      ⟨(some 51), none, .op (.bin .quo (.tmp 50) (.const (.int .i64 2)))⟩,
      ⟨(some 52), none, .op (.mv (.tmp 5))⟩,
      ⟨(some 53), none, .op (.bin .sub (.tmp 51) (.tmp 52))⟩,
      ⟨(some 54), none, .op (.bin .leq (.tmp 49) (.tmp 53))⟩])
   (.cond (.tmp 54)
     (.draw [⟨0, false, ⟨(some 55), none, .op (.mv (.tmp 0))⟩⟩,
       ⟨0, false, ⟨(some 56), none, .op (.nilck (.tmp 55))⟩⟩,
       ⟨0, false, ⟨(some 57), none, .op (.faddr 0 (.tmp 56))⟩⟩,
       ⟨0, false, ⟨(some 58), none, .op (.load none (.tmp 57))⟩⟩,
       ⟨0, false, ⟨(some 59), none, .op (.mv (.tmp 0))⟩⟩,
       ⟨0, false, ⟨(some 60), none, .op (.nilck (.tmp 59))⟩⟩,
       ⟨0, false, ⟨(some 61), none, .op (.faddr 0 (.tmp 60))⟩⟩,
       ⟨0, false, ⟨(some 62), none, .op (.load none (.tmp 61))⟩⟩,
       ⟨0, false, ⟨(some 63), none, .op (.mv (.tmp 0))⟩⟩,
       ⟨0, false, ⟨(some 64), none, .op (.nilck (.tmp 63))⟩⟩,
       ⟨0, false, ⟨(some 65), none, .op (.faddr 1 (.tmp 64))⟩⟩,
       ⟨0, false, ⟨(some 66), none, .op (.load none (.tmp 65))⟩⟩,
       ⟨0, false, ⟨(some 67), none, .op (.slice 1 (.tmp 62) (some (.tmp 66)) none none)⟩⟩,
       ⟨0, false, ⟨(some 68), none, .op (.copy 1 false (.tmp 58) (.tmp 67))⟩⟩] [])
     (.seq (.reg [⟨(some 69), none, .op (.mv (.tmp 8))⟩,
        ⟨(some 70), none, .op (.mv (.tmp 8))⟩,
        ⟨(some 71), none, .op (.bin .sub (.const (.int .i64 9223372036854775807)) (.tmp 70))⟩,
        ⟨(some 72), none, .op (.mv (.tmp 1))⟩,
        ⟨(some 73), none, .op (.bin .sub (.tmp 71) (.tmp 72))⟩,
        ⟨(some 74), none, .op (.bin .gtr (.tmp 69) (.tmp 73))⟩])
     (.cond (.tmp 74)
       (.reg [⟨(some 75), none, .op (.load none (.global g0))⟩,
         ⟨none, none, .op (.bad)⟩])
       (.draw [⟨0, false, ⟨(some 76), none, .op (.mv (.tmp 0))⟩⟩,
         ⟨0, false, ⟨(some 77), none, .op (.mv (.tmp 0))⟩⟩,
         ⟨0, false, ⟨(some 78), none, .op (.nilck (.tmp 77))⟩⟩,
         ⟨0, false, ⟨(some 79), none, .op (.faddr 0 (.tmp 78))⟩⟩,
         ⟨0, false, ⟨(some 80), none, .op (.load none (.tmp 79))⟩⟩,
         ⟨0, false, ⟨(some 81), none, .op (.mv (.tmp 0))⟩⟩,
         ⟨0, false, ⟨(some 82), none, .op (.nilck (.tmp 81))⟩⟩,
         ⟨0, false, ⟨(some 83), none, .op (.faddr 1 (.tmp 82))⟩⟩,
         ⟨0, false, ⟨(some 84), none, .op (.load none (.tmp 83))⟩⟩,
         ⟨0, false, ⟨(some 85), none, .op (.slice 1 (.tmp 80) (some (.tmp 84)) none none)⟩⟩,
         ⟨0, false, ⟨(some 86), none, .op (.mv (.tmp 0))⟩⟩,
         ⟨0, false, ⟨(some 87), none, .op (.nilck (.tmp 86))⟩⟩,
         ⟨0, false, ⟨(some 88), none, .op (.faddr 1 (.tmp 87))⟩⟩,
         ⟨0, false, ⟨(some 89), none, .op (.load none (.tmp 88))⟩⟩,
         ⟨0, false, ⟨(some 90), none, .op (.mv (.tmp 1))⟩⟩,
         ⟨0, false, ⟨(some 91), none, .op (.bin .add (.tmp 89) (.tmp 90))⟩⟩,
         ⟨0, false, ⟨(some 92), none, .call f_bytes_growSlice [(.tmp 85), (.tmp 91)]⟩⟩,
         ⟨0, false, ⟨(some 93), none, .op (.nilck (.tmp 76))⟩⟩,
         ⟨0, false, ⟨(some 94), none, .op (.faddr 0 (.tmp 93))⟩⟩,
         ⟨0, false, ⟨none, none, .op (.store 1 (.tmp 94) (.tmp 92))⟩⟩] [])))))
  (.seq (.reg [⟨(some 95), none, .op (.mv (.tmp 0))⟩,
     ⟨(some 96), none, .op (.nilck (.tmp 95))⟩,
     ⟨(some 97), none, .op (.faddr 1 (.tmp 96))⟩,
     ⟨none, none, .op (.store 1 (.tmp 97) (.const (.int .i64 0)))⟩])
  (.seq (.reg [⟨(some 98), none, .op (.mv (.tmp 0))⟩,
     ⟨(some 99), none, .op (.mv (.tmp 0))⟩,
     ⟨(some 100), none, .op (.nilck (.tmp 99))⟩,
     ⟨(some 101), none, .op (.faddr 0 (.tmp 100))⟩,
     ⟨(some 102), none, .op (.load none (.tmp 101))⟩,
     ⟨(some 103), none, .op (.mv (.tmp 5))⟩,
     ⟨(some 104), none, .op (.mv (.tmp 1))⟩,
     ⟨(some 105), none, .op (.bin .add (.tmp 103) (.tmp 104))⟩,
     ⟨(some 106), none, .op (.slice 1 (.tmp 102) none (some (.tmp 105)) none)⟩,
     ⟨(some 107), none, .op (.nilck (.tmp 98))⟩,
     ⟨(some 108), none, .op (.faddr 0 (.tmp 107))⟩,
     ⟨none, none, .op (.store 1 (.tmp 108) (.tmp 106))⟩])
  (.seq (.reg [⟨(some 109), none, .op (.mv (.tmp 5))⟩,
     ⟨(some 4), none, .op (.mv (.tmp 109))⟩])
  (.ret))))))))))

def ac_cadenzaref01_Written (t0 : Nat) : AC :=
  .seq (.reg [⟨(some 4), none, .op (.mv (.const (.slice none 0 0)))⟩])
  (.seq (.reg [⟨(some 5), none, .op (.mv (.const (.slice none 0 0)))⟩])
  (.seq (.seq (.reg [⟨(some 6), none, .op (.mv (.const (.int .i64 0)))⟩])
   (.block 0 (.loop (.seq (.seq (.reg [⟨(some 7), none, .op (.mv (.tmp 6))⟩,
         ⟨(some 8), none, .op (.mv (.tmp 1))⟩,
         ⟨(some 9), none, .op (.bin .lss (.tmp 7) (.tmp 8))⟩])
      (.cond (.tmp 9)
        (.skip)
        (.exit 0)))
     (.seq (.block 1 (.seq (.reg [⟨(some 12), none, .op (.mv (.tmp 5))⟩,
          ⟨(some 13), none, .op (.mv (.tmp 0))⟩,
          ⟨(some 14), none, .op (.bin .rem (.tmp 13) (.const (.int .u64 256)))⟩,
          ⟨(some 15), none, .op (.conv (.int .u8) (.tmp 14))⟩,
          ⟨(some 16), none, .op (.bslice t0 1 1 [.int .u8 0] [(0, 1, (.tmp 15))])⟩,
          ⟨(some 17), none, .op (.append t0 1 1 false (.tmp 12) (.tmp 16))⟩,
          ⟨(some 5), none, .op (.mv (.tmp 17))⟩])
       (.reg [⟨(some 18), none, .op (.mv (.tmp 0))⟩,
         ⟨(some 19), none, .op (.bin .quo (.tmp 18) (.const (.int .u64 256)))⟩,
         ⟨(some 0), none, .op (.mv (.tmp 19))⟩])))
     (.reg [⟨(some 10), none, .op (.mv (.tmp 6))⟩,
       ⟨(some 11), none, .op (.bin .add (.tmp 10) (.const (.int .i64 1)))⟩,
       ⟨(some 6), none, .op (.mv (.tmp 11))⟩]))))))
  (.seq (.reg [⟨(some 20), none, .op (.mv (.tmp 5))⟩,
     ⟨(some 4), none, .op (.mv (.tmp 20))⟩])
  (.ret))))

def ac_le_Value : AC :=
  .seq (.reg [⟨(some 2), none, .op (.mv (.const (.int .u64 0)))⟩,
     ⟨(some 3), none, .op (.mv (.const (.int .i64 0)))⟩])
  (.seq (.seq (.reg [⟨(some 7), none, .op (.mv (.tmp 0))⟩,
      ⟨(some 8), none, .op (.len none (.tmp 7))⟩,
      ⟨(some 9), none, .op (.bin .lss (.tmp 8) (.const (.int .i64 1)))⟩,
      ⟨(some 10), none, .op (.mv (.tmp 9))⟩,
      ⟨(some 11), (some (10, false)), .op (.mv (.tmp 0))⟩,
      ⟨(some 12), (some (10, false)), .op (.len none (.tmp 11))⟩,
      ⟨(some 13), (some (10, false)), .op (.bin .gtr (.tmp 12) (.const (.int .i64 8)))⟩,
      ⟨(some 14), none, .op (.pick (.tmp 10) (.const (.bool true)) (.tmp 13))⟩])
   (.cond (.tmp 14)
     (.seq (.reg [⟨(some 2), none, .op (.mv (.const (.int .u64 0)))⟩,
        ⟨(some 3), none, .op (.mv (.const (.int .i64 2)))⟩])
     (.ret))
     (.skip)))
  (.seq (.reg [⟨(some 4), none, .op (.mv (.const (.int .u64 0)))⟩])
  (.seq (.seq (.reg [⟨(some 15), none, .op (.mv (.tmp 0))⟩,
      ⟨(some 16), none, .op (.len none (.tmp 15))⟩,
      ⟨(some 17), none, .op (.mv (.const (.int .i64 0)))⟩])
   (.block 0 (.loop (.seq (.reg [⟨(some 18), none, .op (.bin .lss (.tmp 17) (.tmp 16))⟩])
     (.seq (.cond (.tmp 18)
        (.skip)
        (.exit 0))
     (.seq (.block 1 (.seq (.reg [⟨(some 19), none, .op (.mv (.tmp 17))⟩,
          ⟨(some 20), none, .op (.iaddr (.slice 1) (.tmp 15) (.tmp 17))⟩,
          ⟨(some 21), none, .op (.load none (.tmp 20))⟩,
          ⟨(some 5), none, .op (.mv (.tmp 19))⟩,
          ⟨(some 6), none, .op (.mv (.tmp 21))⟩])
       (.reg [⟨(some 22), none, .op (.mv (.tmp 4))⟩,
         ⟨(some 23), none, .op (.mv (.tmp 6))⟩,
         ⟨(some 24), none, .op (.conv (.int .u64) (.tmp 23))⟩,
         ⟨(some 25), none, .op (.mv (.tmp 5))⟩,
         ⟨(some 26), none, .op (.bin .mul (.const (.int .i64 8)) (.tmp 25))⟩,
         ⟨(some 27), none, .op (.bin .shl (.tmp 24) (.tmp 26))⟩,
         ⟨(some 28), none, .op (.bin .or (.tmp 22) (.tmp 27))⟩,
         ⟨(some 4), none, .op (.mv (.tmp 28))⟩])))
     (.reg [⟨(some 29), none, .op (.bin .add (.tmp 17) (.const (.int .i64 1)))⟩,
       ⟨(some 17), none, .op (.mv (.tmp 29))⟩])))))))
  (.seq (.reg [⟨(some 30), none, .op (.mv (.tmp 4))⟩,
     ⟨(some 2), none, .op (.mv (.tmp 30))⟩,
     ⟨(some 3), none, .op (.mv (.const (.int .i64 0)))⟩])
  (.ret)))))

def ac_bytes_Clone (t0 : Nat) : AC :=
  .seq (.reg [⟨(some 2), none, .op (.mv (.const (.slice none 0 0)))⟩])
  (.seq (.seq (.reg [⟨(some 3), none, .op (.mv (.tmp 0))⟩,
      ⟨(some 4), none, .op (.nileq false (.tmp 3))⟩])
   (.cond (.tmp 4)
     (.seq (.reg [⟨(some 2), none, .op (.mv (.const (.slice none 0 0)))⟩])
     (.ret))
     (.skip)))
  (.seq (.reg [⟨(some 5), none, .op (.bslice t0 1 0 [.int .u8 0] [])⟩,
     ⟨(some 6), none, .op (.mv (.tmp 0))⟩,
     ⟨(some 7), none, .op (.append t0 1 1 false (.tmp 5) (.tmp 6))⟩,
     ⟨(some 2), none, .op (.mv (.tmp 7))⟩])
  (.ret)))

def ac_bytes_Buffer_Len : AC :=
  .seq (.reg [⟨(some 2), none, .op (.mv (.const (.int .i64 0)))⟩])
  (.seq (.draw [⟨0, false, ⟨(some 3), none, .op (.mv (.tmp 0))⟩⟩,
     ⟨0, false, ⟨(some 4), none, .op (.nilck (.tmp 3))⟩⟩,
     ⟨0, false, ⟨(some 5), none, .op (.faddr 0 (.tmp 4))⟩⟩,
     ⟨0, false, ⟨(some 6), none, .op (.load none (.tmp 5))⟩⟩,
     ⟨0, false, ⟨(some 7), none, .op (.len none (.tmp 6))⟩⟩,
     ⟨0, false, ⟨(some 8), none, .op (.mv (.tmp 0))⟩⟩,
     ⟨0, false, ⟨(some 9), none, .op (.nilck (.tmp 8))⟩⟩,
     ⟨0, false, ⟨(some 10), none, .op (.faddr 1 (.tmp 9))⟩⟩,
     ⟨0, false, ⟨(some 11), none, .op (.load none (.tmp 10))⟩⟩,
     ⟨0, false, ⟨(some 12), none, .op (.bin .sub (.tmp 7) (.tmp 11))⟩⟩,
     ⟨0, false, ⟨(some 2), none, .op (.mv (.tmp 12))⟩⟩] [])
  (.ret))

def ac_cadenzaref31_Read (f_cadenzaref01_Of f_cadenzaref31_Name t0 t1 : Nat) : AC :=
  .seq (.reg [⟨(some 2), none, .op (.mv (.const (.string ⟨#[]⟩)))⟩,
     ⟨(some 3), none, .op (.mv (.const (.slice none 0 0)))⟩,
     ⟨(some 4), none, .op (.mv (.const (.int .i64 0)))⟩])
  (.seq (.seq (.reg [⟨(some 12), none, .op (.mv (.tmp 0))⟩,
      ⟨(some 13), none, .op (.len none (.tmp 12))⟩,
      ⟨(some 14), none, .op (.bin .lss (.tmp 13) (.const (.int .i64 12)))⟩])
   (.cond (.tmp 14)
     (.seq (.reg [⟨(some 2), none, .op (.mv (.const (.string ⟨#[]⟩)))⟩,
        ⟨(some 3), none, .op (.mv (.const (.slice none 0 0)))⟩,
        ⟨(some 4), none, .op (.mv (.const (.int .i64 24)))⟩])
     (.ret))
     (.skip)))
  (.seq (.reg [⟨(some 15), none, .op (.mv (.tmp 0))⟩,
     ⟨(some 16), none, .op (.slice 1 (.tmp 15) (some (.const (.int .i64 8))) (some (.const (.int .i64 12))) none)⟩,
     ⟨(some 17), none, .op (.conv .toStr (.tmp 16))⟩,
     ⟨(some 5), none, .op (.mv (.tmp 17))⟩])
  (.seq (.reg [⟨(some 18), none, .op (.mv (.tmp 0))⟩,
     ⟨(some 19), none, .op (.slice 1 (.tmp 18) (some (.const (.int .i64 4))) (some (.const (.int .i64 8))) none)⟩,
     ⟨(some 20), none, .call f_cadenzaref01_Of [(.tmp 19)]⟩,
     ⟨(some 6), none, .op (.mv (.tmp 20))⟩])
  (.seq (.seq (.reg [⟨(some 21), none, .op (.mv (.tmp 0))⟩,
      ⟨(some 22), none, .op (.slice 1 (.tmp 21) none (some (.const (.int .i64 4))) none)⟩,
      ⟨(some 23), none, .op (.conv .toStr (.tmp 22))⟩,
      ⟨(some 24), none, .op (.bin .neq (.tmp 23) (.const (.string ⟨#[82, 73, 70, 70]⟩)))⟩,
      ⟨(some 25), none, .op (.mv (.tmp 24))⟩,
      ⟨(some 26), (some (25, false)), .op (.mv (.tmp 5))⟩,
      ⟨(some 27), (some (25, false)), .call f_cadenzaref31_Name [(.tmp 26)]⟩,
      ⟨(some 28), (some (25, false)), .op (.un .not (.tmp 27))⟩,
      ⟨(some 29), none, .op (.pick (.tmp 25) (.const (.bool true)) (.tmp 28))⟩,
      ⟨(some 30), none, .op (.mv (.tmp 29))⟩,
      ⟨(some 31), (some (30, false)), .op (.mv (.tmp 6))⟩,
      ⟨(some 32), (some (30, false)), .op (.bin .lss (.tmp 31) (.const (.int .u64 4)))⟩,
      ⟨(some 33), none, .op (.pick (.tmp 30) (.const (.bool true)) (.tmp 32))⟩])
   (.cond (.tmp 33)
     (.seq (.reg [⟨(some 2), none, .op (.mv (.const (.string ⟨#[]⟩)))⟩,
        ⟨(some 3), none, .op (.mv (.const (.slice none 0 0)))⟩,
        ⟨(some 4), none, .op (.mv (.const (.int .i64 12)))⟩])
     (.ret))
     (.skip)))
  (.seq (.seq (.reg [⟨(some 34), none, .op (.mv (.tmp 6))⟩,
      ⟨(some 35), none, .op (.bin .add (.tmp 34) (.const (.int .u64 8)))⟩,
      ⟨(some 36), none, .op (.bin .gtr (.tmp 35) (.const (.int .u64 100000)))⟩])
   (.cond (.tmp 36)
     (.seq (.reg [⟨(some 2), none, .op (.mv (.const (.string ⟨#[]⟩)))⟩,
        ⟨(some 3), none, .op (.mv (.const (.slice none 0 0)))⟩,
        ⟨(some 4), none, .op (.mv (.const (.int .i64 4)))⟩])
     (.ret))
     (.skip)))
  (.seq (.reg [⟨(some 37), none, .op (.mv (.tmp 6))⟩,
     ⟨(some 38), none, .op (.conv (.int .i64) (.tmp 37))⟩,
     ⟨(some 39), none, .op (.bin .add (.tmp 38) (.const (.int .i64 8)))⟩,
     ⟨(some 7), none, .op (.mv (.tmp 39))⟩])
  (.seq (.seq (.reg [⟨(some 40), none, .op (.mv (.tmp 0))⟩,
      ⟨(some 41), none, .op (.len none (.tmp 40))⟩,
      ⟨(some 42), none, .op (.mv (.tmp 7))⟩,
      ⟨(some 43), none, .op (.bin .lss (.tmp 41) (.tmp 42))⟩])
   (.cond (.tmp 43)
     (.seq (.reg [⟨(some 2), none, .op (.mv (.const (.string ⟨#[]⟩)))⟩,
        ⟨(some 3), none, .op (.mv (.const (.slice none 0 0)))⟩,
        ⟨(some 4), none, .op (.mv (.const (.int .i64 24)))⟩])
     (.ret))
     (.skip)))
  (.seq (.reg [⟨(some 8), none, .op (.mv (.const (.slice none 0 0)))⟩])
  (.seq (.seq (.reg [⟨(some 9), none, .op (.mv (.const (.int .i64 12)))⟩])
   (.block 0 (.loop (.seq (.seq (.reg [⟨(some 44), none, .op (.mv (.tmp 9))⟩,
         ⟨(some 45), none, .op (.mv (.tmp 7))⟩,
         ⟨(some 46), none, .op (.bin .lss (.tmp 44) (.tmp 45))⟩])
      (.cond (.tmp 46)
        (.skip)
        (.exit 0)))
     (.block 1 (.seq (.seq (.reg [⟨(some 47), none, .op (.mv (.tmp 8))⟩,
          ⟨(some 48), none, .op (.len none (.tmp 47))⟩,
          ⟨(some 49), none, .op (.bin .eql (.tmp 48) (.const (.int .i64 20)))⟩])
       (.cond (.tmp 49)
         (.seq (.reg [⟨(some 2), none, .op (.mv (.const (.string ⟨#[]⟩)))⟩,
            ⟨(some 3), none, .op (.mv (.const (.slice none 0 0)))⟩,
            ⟨(some 4), none, .op (.mv (.const (.int .i64 4)))⟩])
         (.ret))
         (.skip)))
      (.seq (.seq (.reg [⟨(some 50), none, .op (.mv (.tmp 7))⟩,
          ⟨(some 51), none, .op (.mv (.tmp 9))⟩,
          ⟨(some 52), none, .op (.bin .sub (.tmp 50) (.tmp 51))⟩,
          ⟨(some 53), none, .op (.bin .lss (.tmp 52) (.const (.int .i64 8)))⟩,
          ⟨(some 54), none, .op (.mv (.tmp 53))⟩,
          ⟨(some 55), (some (54, false)), .op (.mv (.tmp 0))⟩,
          ⟨(some 56), (some (54, false)), .op (.mv (.tmp 9))⟩,
          ⟨(some 57), (some (54, false)), .op (.mv (.tmp 9))⟩,
          ⟨(some 58), (some (54, false)), .op (.bin .add (.tmp 57) (.const (.int .i64 4)))⟩,
          ⟨(some 59), (some (54, false)), .op (.slice 1 (.tmp 55) (some (.tmp 56)) (some (.tmp 58)) none)⟩,
          ⟨(some 60), (some (54, false)), .op (.conv .toStr (.tmp 59))⟩,
          ⟨(some 61), (some (54, false)), .call f_cadenzaref31_Name [(.tmp 60)]⟩,
          ⟨(some 62), (some (54, false)), .op (.un .not (.tmp 61))⟩,
          ⟨(some 63), none, .op (.pick (.tmp 54) (.const (.bool true)) (.tmp 62))⟩])
       (.cond (.tmp 63)
         (.seq (.reg [⟨(some 2), none, .op (.mv (.const (.string ⟨#[]⟩)))⟩,
            ⟨(some 3), none, .op (.mv (.const (.slice none 0 0)))⟩,
            ⟨(some 4), none, .op (.mv (.const (.int .i64 12)))⟩])
         (.ret))
         (.skip)))
      (.seq (.reg [⟨(some 64), none, .op (.mv (.tmp 0))⟩,
         ⟨(some 65), none, .op (.mv (.tmp 9))⟩,
         ⟨(some 66), none, .op (.bin .add (.tmp 65) (.const (.int .i64 4)))⟩,
         ⟨(some 67), none, .op (.mv (.tmp 9))⟩,
         ⟨(some 68), none, .op (.bin .add (.tmp 67) (.const (.int .i64 8)))⟩,
         ⟨(some 69), none, .op (.slice 1 (.tmp 64) (some (.tmp 66)) (some (.tmp 68)) none)⟩,
         ⟨(some 70), none, .call f_cadenzaref01_Of [(.tmp 69)]⟩,
         ⟨(some 10), none, .op (.mv (.tmp 70))⟩])
      (.seq (.reg [⟨(some 71), none, .op (.mv (.tmp 10))⟩,
         ⟨(some 72), none, .op (.mv (.tmp 10))⟩,
         ⟨(some 73), none, .op (.bin .rem (.tmp 72) (.const (.int .u64 2)))⟩,
         ⟨(some 74), none, .op (.bin .add (.tmp 71) (.tmp 73))⟩,
         ⟨(some 11), none, .op (.mv (.tmp 74))⟩])
      (.seq (.seq (.reg [⟨(some 75), none, .op (.mv (.tmp 11))⟩,
          ⟨(some 76), none, .op (.mv (.tmp 7))⟩,
          ⟨(some 77), none, .op (.mv (.tmp 9))⟩,
          ⟨(some 78), none, .op (.bin .sub (.tmp 76) (.tmp 77))⟩,
          ⟨(some 79), none, .op (.bin .sub (.tmp 78) (.const (.int .i64 8)))⟩,
          ⟨(some 80), none, .op (.conv (.int .u64) (.tmp 79))⟩,
          ⟨(some 81), none, .op (.bin .gtr (.tmp 75) (.tmp 80))⟩,
          ⟨(some 82), none, .op (.mv (.tmp 81))⟩,
          ⟨(some 83), (some (82, false)), .op (.mv (.tmp 10))⟩,
          ⟨(some 84), (some (82, false)), .op (.bin .rem (.tmp 83) (.const (.int .u64 2)))⟩,
          ⟨(some 85), (some (82, false)), .op (.bin .eql (.tmp 84) (.const (.int .u64 1)))⟩,
          ⟨(some 86), (some (82, false)), .op (.mv (.tmp 85))⟩,
          ⟨(some 87), (some (86, true)), .op (.mv (.tmp 0))⟩,
          ⟨(some 88), (some (86, true)), .op (.mv (.tmp 9))⟩,
          ⟨(some 89), (some (86, true)), .op (.bin .add (.tmp 88) (.const (.int .i64 8)))⟩,
          ⟨(some 90), (some (86, true)), .op (.mv (.tmp 10))⟩,
          ⟨(some 91), (some (86, true)), .op (.conv (.int .i64) (.tmp 90))⟩,
          ⟨(some 92), (some (86, true)), .op (.bin .add (.tmp 89) (.tmp 91))⟩,
          ⟨(some 93), (some (86, true)), .op (.iaddr (.slice 1) (.tmp 87) (.tmp 92))⟩,
          ⟨(some 94), (some (86, true)), .op (.load none (.tmp 93))⟩,
          ⟨(some 95), (some (86, true)), .op (.bin .neq (.tmp 94) (.const (.int .u8 0)))⟩,
          ⟨(some 96), (some (82, false)), .op (.pick (.tmp 86) (.tmp 95) (.const (.bool false)))⟩,
          ⟨(some 97), none, .op (.pick (.tmp 82) (.const (.bool true)) (.tmp 96))⟩])
       (.cond (.tmp 97)
         (.seq (.reg [⟨(some 2), none, .op (.mv (.const (.string ⟨#[]⟩)))⟩,
            ⟨(some 3), none, .op (.mv (.const (.slice none 0 0)))⟩,
            ⟨(some 4), none, .op (.mv (.const (.int .i64 12)))⟩])
         (.ret))
         (.skip)))
      (.seq (.draw [⟨0, false, ⟨(some 98), none, .op (.mv (.tmp 8))⟩⟩,
         ⟨0, false, ⟨(some 99), none, .op (.mv (.tmp 0))⟩⟩,
         ⟨0, false, ⟨(some 100), none, .op (.mv (.tmp 9))⟩⟩,
         ⟨0, false, ⟨(some 101), none, .op (.mv (.tmp 9))⟩⟩,
         ⟨0, false, ⟨(some 102), none, .op (.bin .add (.tmp 101) (.const (.int .i64 4)))⟩⟩,
         ⟨0, true, ⟨(some 103), none, .op (.slice 1 (.tmp 99) (some (.tmp 100)) (some (.tmp 102)) none)⟩⟩,
         ⟨0, true, ⟨(some 104), none, .op (.conv .toStr (.tmp 103))⟩⟩,
         ⟨0, false, ⟨(some 105), none, .op (.bslice t0 1 0 [.int .u8 0] [])⟩⟩,
         ⟨1, false, ⟨(some 106), none, .op (.mv (.tmp 0))⟩⟩,
         ⟨1, false, ⟨(some 107), none, .op (.mv (.tmp 9))⟩⟩,
         ⟨1, false, ⟨(some 108), none, .op (.bin .add (.tmp 107) (.const (.int .i64 8)))⟩⟩,
         ⟨1, false, ⟨(some 109), none, .op (.mv (.tmp 9))⟩⟩,
         ⟨1, false, ⟨(some 110), none, .op (.bin .add (.tmp 109) (.const (.int .i64 8)))⟩⟩,
         ⟨1, false, ⟨(some 111), none, .op (.mv (.tmp 10))⟩⟩,
         ⟨1, false, ⟨(some 112), none, .op (.conv (.int .i64) (.tmp 111))⟩⟩,
         ⟨1, false, ⟨(some 113), none, .op (.bin .add (.tmp 110) (.tmp 112))⟩⟩,
         ⟨1, false, ⟨(some 114), none, .op (.slice 1 (.tmp 106) (some (.tmp 108)) (some (.tmp 113)) none)⟩⟩,
         ⟨1, false, ⟨(some 115), none, .op (.append t0 1 1 false (.tmp 105) (.tmp 114))⟩⟩,
         ⟨2, false, ⟨(some 116), none, .op (.build [.str [], .emp true] [(0, 1, (.tmp 104)), (1, 1, (.tmp 115))])⟩⟩,
         ⟨2, false, ⟨(some 117), none, .op (.bslice t1 2 1 [.str [], .emp true] [(0, 2, (.tmp 116))])⟩⟩,
         ⟨3, false, ⟨(some 118), none, .op (.append t1 2 40 false (.tmp 98) (.tmp 117))⟩⟩,
         ⟨4, false, ⟨(some 8), none, .op (.mv (.tmp 118))⟩⟩] [ph, ph, ph, ph])
      (.reg [⟨(some 119), none, .op (.mv (.tmp 9))⟩,
        ⟨(some 120), none, .op (.mv (.tmp 11))⟩,
        ⟨(some 121), none, .op (.conv (.int .i64) (.tmp 120))⟩,
        ⟨(some 122), none, .op (.bin .add (.const (.int .i64 8)) (.tmp 121))⟩,
        ⟨(some 123), none, .op (.bin .add (.tmp 119) (.tmp 122))⟩,
        ⟨(some 9), none, .op (.mv (.tmp 123))⟩]))))))))))))
  (.seq (.seq (.reg [⟨(some 124), none, .op (.mv (.tmp 0))⟩,
      ⟨(some 125), none, .op (.len none (.tmp 124))⟩,
      ⟨(some 126), none, .op (.mv (.tmp 7))⟩,
      ⟨(some 127), none, .op (.bin .gtr (.tmp 125) (.tmp 126))⟩])
   (.cond (.tmp 127)
     (.seq (.reg [⟨(some 2), none, .op (.mv (.const (.string ⟨#[]⟩)))⟩,
        ⟨(some 3), none, .op (.mv (.const (.slice none 0 0)))⟩,
        ⟨(some 4), none, .op (.mv (.const (.int .i64 38)))⟩])
     (.ret))
     (.skip)))
  (.seq (.reg [⟨(some 128), none, .op (.mv (.tmp 5))⟩,
     ⟨(some 129), none, .op (.mv (.tmp 8))⟩,
     ⟨(some 2), none, .op (.mv (.tmp 128))⟩,
     ⟨(some 3), none, .op (.mv (.tmp 129))⟩,
     ⟨(some 4), none, .op (.mv (.const (.int .i64 0)))⟩])
  (.ret))))))))))))

def ac_width_Check (f_width_Range : Nat) : AC :=
  .seq (.reg [⟨(some 4), none, .op (.mv (.const (.int .i64 0)))⟩])
  (.seq (.reg [⟨(some 11), none, .op (.mv (.tmp 0))⟩,
     ⟨(some 12), none, .call f_width_Range [(.tmp 11)]⟩,
     ⟨(some 10), none, .op (.mv (.tmp 12))⟩,
     ⟨(some 13), none, .op (.extract (.tmp 10) 0)⟩,
     ⟨(some 14), none, .op (.extract (.tmp 10) 1)⟩,
     ⟨(some 15), none, .op (.extract (.tmp 10) 2)⟩,
     ⟨(some 5), none, .op (.mv (.tmp 13))⟩,
     ⟨(some 6), none, .op (.mv (.tmp 14))⟩,
     ⟨(some 7), none, .op (.mv (.tmp 15))⟩])
  (.seq (.seq (.reg [⟨(some 16), none, .op (.mv (.tmp 7))⟩,
      ⟨(some 17), none, .op (.bin .neq (.tmp 16) (.const (.int .i64 0)))⟩])
   (.cond (.tmp 17)
     (.seq (.reg [⟨(some 18), none, .op (.mv (.tmp 7))⟩,
        ⟨(some 4), none, .op (.mv (.tmp 18))⟩])
     (.ret))
     (.skip)))
  (.seq (.seq (.reg [⟨(some 19), none, .op (.mv (.tmp 1))⟩,
      ⟨(some 20), none, .op (.len none (.tmp 19))⟩,
      ⟨(some 21), none, .op (.bin .gtr (.tmp 20) (.const (.int .i64 4000)))⟩])
   (.cond (.tmp 21)
     (.seq (.reg [⟨(some 4), none, .op (.mv (.const (.int .i64 4)))⟩])
     (.ret))
     (.skip)))
  (.seq (.seq (.reg [⟨(some 22), none, .op (.mv (.tmp 1))⟩,
      ⟨(some 23), none, .op (.len none (.tmp 22))⟩,
      ⟨(some 24), none, .op (.mv (.const (.int .i64 0)))⟩])
   (.block 0 (.loop (.seq (.reg [⟨(some 25), none, .op (.bin .lss (.tmp 24) (.tmp 23))⟩])
     (.seq (.cond (.tmp 25)
        (.skip)
        (.exit 0))
     (.seq (.block 1 (.seq (.reg [⟨(some 26), none, .op (.iaddr (.slice 1) (.tmp 22) (.tmp 24))⟩,
          ⟨(some 27), none, .op (.load none (.tmp 26))⟩,
          ⟨(some 9), none, .op (.mv (.tmp 27))⟩])
       (.seq (.reg [⟨(some 28), none, .op (.mv (.tmp 9))⟩,
          ⟨(some 29), none, .op (.mv (.tmp 5))⟩,
          ⟨(some 30), none, .op (.bin .lss (.tmp 28) (.tmp 29))⟩,
          ⟨(some 31), none, .op (.mv (.tmp 30))⟩,
          ⟨(some 32), (some (31, false)), .op (.mv (.tmp 9))⟩,
          ⟨(some 33), (some (31, false)), .op (.mv (.tmp 6))⟩,
          ⟨(some 34), (some (31, false)), .op (.bin .gtr (.tmp 32) (.tmp 33))⟩,
          ⟨(some 35), none, .op (.pick (.tmp 31) (.const (.bool true)) (.tmp 34))⟩])
       (.cond (.tmp 35)
         (.seq (.reg [⟨(some 4), none, .op (.mv (.const (.int .i64 16)))⟩])
         (.ret))
         (.skip)))))
     (.reg [⟨(some 36), none, .op (.bin .add (.tmp 24) (.const (.int .i64 1)))⟩,
       ⟨(some 24), none, .op (.mv (.tmp 36))⟩])))))))
  (.seq (.reg [⟨(some 4), none, .op (.mv (.const (.int .i64 0)))⟩])
  (.ret))))))

def ac_width_Range : AC :=
  .seq (.reg [⟨(some 2), none, .op (.mv (.const (.int .i32 0)))⟩,
     ⟨(some 3), none, .op (.mv (.const (.int .i32 0)))⟩,
     ⟨(some 4), none, .op (.mv (.const (.int .i64 0)))⟩])
  (.seq (.seq (.reg [⟨(some 6), none, .op (.mv (.tmp 0))⟩])
   (.block 0 (.seq (.seq (.reg [⟨(some 8), none, .op (.bin .eql (.tmp 6) (.const (.int .i64 8)))⟩,
        ⟨(some 7), none, .op (.mv (.tmp 8))⟩])
     (.cond (.tmp 7)
       (.skip)
       (.seq (.reg [⟨(some 9), none, .op (.bin .eql (.tmp 6) (.const (.int .i64 16)))⟩,
          ⟨(some 7), none, .op (.mv (.tmp 9))⟩])
       (.cond (.tmp 7)
         (.skip)
         (.reg [⟨(some 10), none, .op (.bin .eql (.tmp 6) (.const (.int .i64 24)))⟩,
           ⟨(some 7), none, .op (.mv (.tmp 10))⟩])))))
    (.cond (.tmp 7)
      (.seq (.reg [⟨(some 11), none, .op (.mv (.tmp 0))⟩,
         ⟨(some 12), none, .op (.bin .sub (.tmp 11) (.const (.int .i64 1)))⟩,
         ⟨(some 13), none, .op (.bin .shl (.const (.int .i32 1)) (.tmp 12))⟩,
         ⟨(some 5), none, .op (.mv (.tmp 13))⟩])
      (.seq (.reg [⟨(some 14), none, .op (.mv (.tmp 5))⟩,
         ⟨(some 15), none, .op (.un .neg (.tmp 14))⟩,
         ⟨(some 16), none, .op (.mv (.tmp 5))⟩,
         ⟨(some 17), none, .op (.bin .sub (.tmp 16) (.const (.int .i32 1)))⟩,
         ⟨(some 2), none, .op (.mv (.tmp 15))⟩,
         ⟨(some 3), none, .op (.mv (.tmp 17))⟩,
         ⟨(some 4), none, .op (.mv (.const (.int .i64 0)))⟩])
      (.ret)))
      (.skip)))))
  (.seq (.reg [⟨(some 2), none, .op (.mv (.const (.int .i32 0)))⟩,
     ⟨(some 3), none, .op (.mv (.const (.int .i32 0)))⟩,
     ⟨(some 4), none, .op (.mv (.const (.int .i64 2)))⟩])
  (.ret)))

def ac_cadenzaref01_Of : AC :=
  .seq (.reg [⟨(some 2), none, .op (.mv (.const (.int .u64 0)))⟩])
  (.seq (.reg [⟨(some 3), none, .op (.mv (.const (.int .u64 0)))⟩])
  (.seq (.seq (.reg [⟨(some 5), none, .op (.mv (.tmp 0))⟩,
      ⟨(some 6), none, .op (.len none (.tmp 5))⟩,
      ⟨(some 7), none, .op (.bin .sub (.tmp 6) (.const (.int .i64 1)))⟩,
      ⟨(some 4), none, .op (.mv (.tmp 7))⟩])
   (.block 0 (.loop (.seq (.seq (.reg [⟨(some 8), none, .op (.mv (.tmp 4))⟩,
         ⟨(some 9), none, .op (.bin .geq (.tmp 8) (.const (.int .i64 0)))⟩])
      (.cond (.tmp 9)
        (.skip)
        (.exit 0)))
     (.seq (.block 1 (.reg [⟨(some 12), none, .op (.mv (.tmp 3))⟩,
         ⟨(some 13), none, .op (.bin .mul (.const (.int .u64 256)) (.tmp 12))⟩,
         ⟨(some 14), none, .op (.mv (.tmp 0))⟩,
         ⟨(some 15), none, .op (.mv (.tmp 4))⟩,
         ⟨(some 16), none, .op (.iaddr (.slice 1) (.tmp 14) (.tmp 15))⟩,
         ⟨(some 17), none, .op (.load none (.tmp 16))⟩,
         ⟨(some 18), none, .op (.conv (.int .u64) (.tmp 17))⟩,
         ⟨(some 19), none, .op (.bin .add (.tmp 13) (.tmp 18))⟩,
         ⟨(some 3), none, .op (.mv (.tmp 19))⟩]))
     (.reg [⟨(some 10), none, .op (.mv (.tmp 4))⟩,
       ⟨(some 11), none, .op (.bin .sub (.tmp 10) (.const (.int .i64 1)))⟩,
       ⟨(some 4), none, .op (.mv (.tmp 11))⟩]))))))
  (.seq (.reg [⟨(some 20), none, .op (.mv (.tmp 3))⟩,
     ⟨(some 2), none, .op (.mv (.tmp 20))⟩])
  (.ret))))

def ac_cadenzaref18_Half : AC :=
  .seq (.reg [⟨(some 2), none, .op (.mv (.const (.int .i64 0)))⟩])
  (.seq (.seq (.reg [⟨(some 3), none, .op (.mv (.tmp 0))⟩])
   (.block 0 (.seq (.reg [⟨(some 5), none, .op (.bin .eql (.tmp 3) (.const (.int .i64 8)))⟩,
       ⟨(some 4), none, .op (.mv (.tmp 5))⟩])
    (.cond (.tmp 4)
      (.seq (.reg [⟨(some 2), none, .op (.mv (.const (.int .i64 128)))⟩])
      (.ret))
      (.seq (.reg [⟨(some 7), none, .op (.bin .eql (.tmp 3) (.const (.int .i64 16)))⟩,
         ⟨(some 6), none, .op (.mv (.tmp 7))⟩])
      (.cond (.tmp 6)
        (.seq (.reg [⟨(some 2), none, .op (.mv (.const (.int .i64 32768)))⟩])
        (.ret))
        (.seq (.reg [⟨(some 9), none, .op (.bin .eql (.tmp 3) (.const (.int .i64 24)))⟩,
           ⟨(some 8), none, .op (.mv (.tmp 9))⟩])
        (.cond (.tmp 8)
          (.seq (.reg [⟨(some 2), none, .op (.mv (.const (.int .i64 8388608)))⟩])
          (.ret))
          (.skip)))))))))
  (.seq (.reg [⟨(some 2), none, .op (.mv (.const (.int .i64 0)))⟩])
  (.ret)))

def ac_cadenzaref20_Check (f_cadenzaref18_Half t0 : Nat) : AC :=
  .seq (.reg [⟨(some 1), none, .op (.box t0 2 (.tmp 0))⟩,
     ⟨(some 2), none, .op (.mv (.const (.int .i64 0)))⟩])
  (.seq (.seq (.reg [⟨(some 3), none, .op (.faddr 0 (.tmp 1))⟩,
      ⟨(some 4), none, .op (.load none (.tmp 3))⟩,
      ⟨(some 5), none, .op (.bin .lss (.tmp 4) (.const (.int .i64 1)))⟩,
      ⟨(some 6), none, .op (.mv (.tmp 5))⟩,
      ⟨(some 7), (some (6, false)), .op (.faddr 0 (.tmp 1))⟩,
      ⟨(some 8), (some (6, false)), .op (.load none (.tmp 7))⟩,
      ⟨(some 9), (some (6, false)), .op (.bin .gtr (.tmp 8) (.const (.int .i64 6)))⟩,
      ⟨(some 10), none, .op (.pick (.tmp 6) (.const (.bool true)) (.tmp 9))⟩,
      ⟨(some 11), none, .op (.mv (.tmp 10))⟩,
      ⟨(some 12), (some (11, false)), .op (.faddr 1 (.tmp 1))⟩,
      ⟨(some 13), (some (11, false)), .op (.load none (.tmp 12))⟩,
      ⟨(some 14), (some (11, false)), .call f_cadenzaref18_Half [(.tmp 13)]⟩,
      ⟨(some 15), (some (11, false)), .op (.bin .eql (.tmp 14) (.const (.int .i64 0)))⟩,
      ⟨(some 16), none, .op (.pick (.tmp 11) (.const (.bool true)) (.tmp 15))⟩])
   (.cond (.tmp 16)
     (.seq (.reg [⟨(some 2), none, .op (.mv (.const (.int .i64 2)))⟩])
     (.ret))
     (.skip)))
  (.seq (.reg [⟨(some 2), none, .op (.mv (.const (.int .i64 0)))⟩])
  (.ret)))

def ac_cadenzaref18_Check (f_cadenzaref18_Half : Nat) : AC :=
  .seq (.reg [⟨(some 4), none, .op (.mv (.const (.int .i64 0)))⟩])
  (.seq (.reg [⟨(some 7), none, .op (.mv (.tmp 0))⟩,
     ⟨(some 8), none, .call f_cadenzaref18_Half [(.tmp 7)]⟩,
     ⟨(some 5), none, .op (.mv (.tmp 8))⟩])
  (.seq (.seq (.reg [⟨(some 9), none, .op (.mv (.tmp 5))⟩,
      ⟨(some 10), none, .op (.bin .eql (.tmp 9) (.const (.int .i64 0)))⟩])
   (.cond (.tmp 10)
     (.seq (.reg [⟨(some 4), none, .op (.mv (.const (.int .i64 2)))⟩])
     (.ret))
     (.skip)))
  (.seq (.seq (.reg [⟨(some 11), none, .op (.mv (.tmp 1))⟩,
      ⟨(some 12), none, .op (.len none (.tmp 11))⟩,
      ⟨(some 13), none, .op (.bin .gtr (.tmp 12) (.const (.int .i64 4000)))⟩])
   (.cond (.tmp 13)
     (.seq (.reg [⟨(some 4), none, .op (.mv (.const (.int .i64 4)))⟩])
     (.ret))
     (.skip)))
  (.seq (.seq (.reg [⟨(some 6), none, .op (.mv (.const (.int .i64 0)))⟩])
   (.block 0 (.loop (.seq (.seq (.reg [⟨(some 14), none, .op (.mv (.tmp 6))⟩,
         ⟨(some 15), none, .op (.mv (.tmp 1))⟩,
         ⟨(some 16), none, .op (.len none (.tmp 15))⟩,
         ⟨(some 17), none, .op (.bin .lss (.tmp 14) (.tmp 16))⟩])
      (.cond (.tmp 17)
        (.skip)
        (.exit 0)))
     (.seq (.block 1 (.seq (.reg [⟨(some 20), none, .op (.mv (.tmp 1))⟩,
          ⟨(some 21), none, .op (.mv (.tmp 6))⟩,
          ⟨(some 22), none, .op (.iaddr (.slice 1) (.tmp 20) (.tmp 21))⟩,
          ⟨(some 23), none, .op (.load none (.tmp 22))⟩,
          ⟨(some 24), none, .op (.conv (.int .i64) (.tmp 23))⟩,
          ⟨(some 25), none, .op (.mv (.tmp 5))⟩,
          ⟨(some 26), none, .op (.un .neg (.tmp 25))⟩,
          ⟨(some 27), none, .op (.bin .lss (.tmp 24) (.tmp 26))⟩,
          ⟨(some 28), none, .op (.mv (.tmp 27))⟩,
          ⟨(some 29), (some (28, false)), .op (.mv (.tmp 1))⟩,
          ⟨(some 30), (some (28, false)), .op (.mv (.tmp 6))⟩,
          ⟨(some 31), (some (28, false)), .op (.iaddr (.slice 1) (.tmp 29) (.tmp 30))⟩,
          ⟨(some 32), (some (28, false)), .op (.load none (.tmp 31))⟩,
          ⟨(some 33), (some (28, false)), .op (.conv (.int .i64) (.tmp 32))⟩,
          ⟨(some 34), (some (28, false)), .op (.mv (.tmp 5))⟩,
          ⟨(some 35), (some (28, false)), .op (.bin .geq (.tmp 33) (.tmp 34))⟩,
          ⟨(some 36), none, .op (.pick (.tmp 28) (.const (.bool true)) (.tmp 35))⟩])
       (.cond (.tmp 36)
         (.seq (.reg [⟨(some 4), none, .op (.mv (.const (.int .i64 16)))⟩])
         (.ret))
         (.skip))))
     (.reg [⟨(some 18), none, .op (.mv (.tmp 6))⟩,
       ⟨(some 19), none, .op (.bin .add (.tmp 18) (.const (.int .i64 1)))⟩,
       ⟨(some 6), none, .op (.mv (.tmp 19))⟩]))))))
  (.seq (.reg [⟨(some 4), none, .op (.mv (.const (.int .i64 0)))⟩])
  (.ret))))))

def ac_enframe_Check (f_width_Range t0 : Nat) : AC :=
  .seq (.reg [⟨(some 1), none, .op (.box t0 2 (.tmp 0))⟩,
     ⟨(some 2), none, .op (.mv (.const (.int .i64 0)))⟩])
  (.seq (.seq (.reg [⟨(some 7), none, .op (.faddr 1 (.tmp 1))⟩,
      ⟨(some 8), none, .op (.load none (.tmp 7))⟩,
      ⟨(some 9), none, .call f_width_Range [(.tmp 8)]⟩,
      ⟨(some 6), none, .op (.mv (.tmp 9))⟩,
      ⟨(some 10), none, .op (.extract (.tmp 6) 0)⟩,
      ⟨(some 11), none, .op (.extract (.tmp 6) 1)⟩,
      ⟨(some 12), none, .op (.extract (.tmp 6) 2)⟩,
      ⟨(some 3), none, .op (.mv (.tmp 10))⟩,
      ⟨(some 4), none, .op (.mv (.tmp 11))⟩,
      ⟨(some 5), none, .op (.mv (.tmp 12))⟩])
   (.seq (.reg [⟨(some 13), none, .op (.mv (.tmp 5))⟩,
      ⟨(some 14), none, .op (.bin .neq (.tmp 13) (.const (.int .i64 0)))⟩,
      ⟨(some 15), none, .op (.mv (.tmp 14))⟩,
      ⟨(some 16), (some (15, false)), .op (.faddr 0 (.tmp 1))⟩,
      ⟨(some 17), (some (15, false)), .op (.load none (.tmp 16))⟩,
      ⟨(some 18), (some (15, false)), .op (.bin .lss (.tmp 17) (.const (.int .i64 1)))⟩,
      ⟨(some 19), none, .op (.pick (.tmp 15) (.const (.bool true)) (.tmp 18))⟩,
      ⟨(some 20), none, .op (.mv (.tmp 19))⟩,
      ⟨(some 21), (some (20, false)), .op (.faddr 0 (.tmp 1))⟩,
      ⟨(some 22), (some (20, false)), .op (.load none (.tmp 21))⟩,
      ⟨(some 23), (some (20, false)), .op (.bin .gtr (.tmp 22) (.const (.int .i64 6)))⟩,
      ⟨(some 24), none, .op (.pick (.tmp 20) (.const (.bool true)) (.tmp 23))⟩])
   (.cond (.tmp 24)
     (.seq (.reg [⟨(some 2), none, .op (.mv (.const (.int .i64 2)))⟩])
     (.ret))
     (.skip))))
  (.seq (.reg [⟨(some 2), none, .op (.mv (.const (.int .i64 0)))⟩])
  (.ret)))

def ac_lengths_Long : AC :=
  .seq (.reg [⟨(some 2), none, .op (.mv (.const (.int .i64 0)))⟩,
     ⟨(some 3), none, .op (.mv (.const (.int .i64 0)))⟩])
  (.seq (.seq (.reg [⟨(some 4), none, .op (.mv (.tmp 0))⟩,
      ⟨(some 5), none, .op (.bin .lss (.tmp 4) (.const (.int .i64 1)))⟩,
      ⟨(some 6), none, .op (.mv (.tmp 5))⟩,
      ⟨(some 7), (some (6, false)), .op (.mv (.tmp 0))⟩,
      ⟨(some 8), (some (6, false)), .op (.bin .gtr (.tmp 7) (.const (.int .i64 1048576)))⟩,
      ⟨(some 9), none, .op (.pick (.tmp 6) (.const (.bool true)) (.tmp 8))⟩])
   (.cond (.tmp 9)
     (.seq (.reg [⟨(some 2), none, .op (.mv (.const (.int .i64 0)))⟩,
        ⟨(some 3), none, .op (.mv (.const (.int .i64 2)))⟩])
     (.ret))
     (.skip)))
  (.seq (.reg [⟨(some 10), none, .op (.mv (.tmp 0))⟩,
     ⟨(some 11), none, .op (.bin .mul (.const (.int .i64 256)) (.tmp 10))⟩,
     ⟨(some 12), none, .op (.bin .quo (.tmp 11) (.const (.int .i64 245)))⟩,
     ⟨(some 13), none, .op (.max [(.const (.int .i64 1)), (.tmp 12)])⟩,
     ⟨(some 2), none, .op (.mv (.tmp 13))⟩,
     ⟨(some 3), none, .op (.mv (.const (.int .i64 0)))⟩])
  (.ret)))

def ac_cadenzaref22_Long : AC :=
  .seq (.reg [⟨(some 2), none, .op (.mv (.const (.int .i64 0)))⟩,
     ⟨(some 3), none, .op (.mv (.const (.int .i64 0)))⟩])
  (.seq (.seq (.reg [⟨(some 5), none, .op (.mv (.tmp 0))⟩,
      ⟨(some 6), none, .op (.bin .lss (.tmp 5) (.const (.int .i64 1)))⟩,
      ⟨(some 7), none, .op (.mv (.tmp 6))⟩,
      ⟨(some 8), (some (7, false)), .op (.mv (.tmp 0))⟩,
      ⟨(some 9), (some (7, false)), .op (.bin .gtr (.tmp 8) (.const (.int .i64 1048576)))⟩,
      ⟨(some 10), none, .op (.pick (.tmp 7) (.const (.bool true)) (.tmp 9))⟩])
   (.cond (.tmp 10)
     (.seq (.reg [⟨(some 2), none, .op (.mv (.const (.int .i64 0)))⟩,
        ⟨(some 3), none, .op (.mv (.const (.int .i64 2)))⟩])
     (.ret))
     (.skip)))
  (.seq (.reg [⟨(some 11), none, .op (.mv (.tmp 0))⟩,
     ⟨(some 12), none, .op (.bin .mul (.tmp 11) (.const (.int .i64 256)))⟩,
     ⟨(some 13), none, .op (.bin .quo (.tmp 12) (.const (.int .i64 245)))⟩,
     ⟨(some 4), none, .op (.mv (.tmp 13))⟩])
  (.seq (.seq (.reg [⟨(some 14), none, .op (.mv (.tmp 4))⟩,
      ⟨(some 15), none, .op (.bin .eql (.tmp 14) (.const (.int .i64 0)))⟩])
   (.cond (.tmp 15)
     (.reg [⟨(some 4), none, .op (.mv (.const (.int .i64 1)))⟩])
     (.skip)))
  (.seq (.reg [⟨(some 16), none, .op (.mv (.tmp 4))⟩,
     ⟨(some 2), none, .op (.mv (.tmp 16))⟩,
     ⟨(some 3), none, .op (.mv (.const (.int .i64 0)))⟩])
  (.ret)))))

def ac_pushenc_right (f_lengths_Long f_enframe_Check t0 : Nat) : AC :=
  .seq (.reg [⟨(some 3), none, .op (.box t0 2 (.tmp 0))⟩,
     ⟨(some 6), none, .op (.mv (.const (.int .i64 0)))⟩,
     ⟨(some 7), none, .op (.mv (.const (.bool false)))⟩])
  (.seq (.reg [⟨(some 11), none, .op (.mv (.tmp 1))⟩,
     ⟨(some 12), none, .call f_lengths_Long [(.tmp 11)]⟩,
     ⟨(some 10), none, .op (.mv (.tmp 12))⟩,
     ⟨(some 13), none, .op (.extract (.tmp 10) 0)⟩,
     ⟨(some 14), none, .op (.extract (.tmp 10) 1)⟩,
     ⟨(some 8), none, .op (.mv (.tmp 13))⟩,
     ⟨(some 9), none, .op (.mv (.tmp 14))⟩])
  (.seq (.reg [⟨(some 15), none, .op (.mv (.tmp 8))⟩,
     ⟨(some 16), none, .op (.load (some 2) (.tmp 3))⟩,
     ⟨(some 17), none, .call f_enframe_Check [(.tmp 16)]⟩,
     ⟨(some 18), none, .op (.bin .eql (.tmp 17) (.const (.int .i64 0)))⟩,
     ⟨(some 19), none, .op (.mv (.tmp 18))⟩,
     ⟨(some 20), (some (19, true)), .op (.mv (.tmp 9))⟩,
     ⟨(some 21), (some (19, true)), .op (.bin .eql (.tmp 20) (.const (.int .i64 0)))⟩,
     ⟨(some 22), none, .op (.pick (.tmp 19) (.tmp 21) (.const (.bool false)))⟩,
     ⟨(some 23), none, .op (.mv (.tmp 22))⟩,
     ⟨(some 24), (some (23, true)), .op (.mv (.tmp 2))⟩,
     ⟨(some 25), (some (23, true)), .op (.len (some none) (.tmp 24))⟩,
     ⟨(some 26), (some (23, true)), .op (.bin .leq (.tmp 25) (.const (.int .i64 64)))⟩,
     ⟨(some 27), none, .op (.pick (.tmp 23) (.tmp 26) (.const (.bool false)))⟩,
     ⟨(some 6), none, .op (.mv (.tmp 15))⟩,
     ⟨(some 7), none, .op (.mv (.tmp 27))⟩])
  (.ret)))

def ac_cadenzaref36_Asked (f_cadenzaref22_Long f_cadenzaref20_Check t0 : Nat) : AC :=
  .seq (.reg [⟨(some 3), none, .op (.box t0 2 (.tmp 0))⟩,
     ⟨(some 6), none, .op (.mv (.const (.int .i64 0)))⟩])
  (.seq (.reg [⟨(some 10), none, .op (.mv (.tmp 1))⟩,
     ⟨(some 11), none, .call f_cadenzaref22_Long [(.tmp 10)]⟩,
     ⟨(some 9), none, .op (.mv (.tmp 11))⟩,
     ⟨(some 12), none, .op (.extract (.tmp 9) 0)⟩,
     ⟨(some 13), none, .op (.extract (.tmp 9) 1)⟩,
     ⟨(some 7), none, .op (.mv (.tmp 12))⟩,
     ⟨(some 8), none, .op (.mv (.tmp 13))⟩])
  (.seq (.seq (.reg [⟨(some 14), none, .op (.load (some 2) (.tmp 3))⟩,
      ⟨(some 15), none, .call f_cadenzaref20_Check [(.tmp 14)]⟩,
      ⟨(some 16), none, .op (.bin .neq (.tmp 15) (.const (.int .i64 0)))⟩,
      ⟨(some 17), none, .op (.mv (.tmp 16))⟩,
      ⟨(some 18), (some (17, false)), .op (.mv (.tmp 8))⟩,
      ⟨(some 19), (some (17, false)), .op (.bin .neq (.tmp 18) (.const (.int .i64 0)))⟩,
      ⟨(some 20), none, .op (.pick (.tmp 17) (.const (.bool true)) (.tmp 19))⟩,
      ⟨(some 21), none, .op (.mv (.tmp 20))⟩,
      ⟨(some 22), (some (21, false)), .op (.mv (.tmp 2))⟩,
      ⟨(some 23), (some (21, false)), .op (.len (some none) (.tmp 22))⟩,
      ⟨(some 24), (some (21, false)), .op (.bin .gtr (.tmp 23) (.const (.int .i64 64)))⟩,
      ⟨(some 25), none, .op (.pick (.tmp 21) (.const (.bool true)) (.tmp 24))⟩])
   (.cond (.tmp 25)
     (.seq (.reg [⟨(some 6), none, .op (.mv (.const (.int .i64 2)))⟩])
     (.ret))
     (.skip)))
  (.seq (.reg [⟨(some 6), none, .op (.mv (.const (.int .i64 0)))⟩])
  (.ret))))

def ac_pushenc_feeding (f_pushenc_moment f_width_Check f_pushenc_count f_pushenc_room f_pushenc_feeding_1 f_slices_ContainsFunc_byte_byte t0 t1 : Nat) : AC :=
  .seq (.reg [⟨(some 2), none, .op (.box t0 10 (.tmp 0))⟩,
     ⟨(some 4), none, .op (.mv (.const (.bool false)))⟩])
  (.seq (.reg [⟨(some 8), none, .op (.faddr 0 (.tmp 2))⟩,
     ⟨(some 9), none, .op (.faddr 0 (.tmp 8))⟩,
     ⟨(some 10), none, .op (.load none (.tmp 9))⟩,
     ⟨(some 5), none, .op (.mv (.tmp 10))⟩])
  (.seq (.seq (.draw [⟨0, false, ⟨(some 11), none, .op (.faddr 7 (.tmp 2))⟩⟩,
      ⟨0, false, ⟨(some 12), none, .op (.load none (.tmp 11))⟩⟩,
      ⟨0, false, ⟨(some 13), none, .op (.len none (.tmp 12))⟩⟩,
      ⟨0, false, ⟨(some 14), none, .op (.bin .gtr (.tmp 13) (.const (.int .i64 0)))⟩⟩,
      ⟨0, false, ⟨(some 15), none, .op (.mv (.tmp 14))⟩⟩,
      ⟨0, false, ⟨(some 16), (some (15, false)), .op (.faddr 4 (.tmp 2))⟩⟩,
      ⟨0, false, ⟨(some 17), (some (15, false)), .op (.load none (.tmp 16))⟩⟩,
      ⟨0, false, ⟨(some 18), (some (15, false)), .op (.len none (.tmp 17))⟩⟩,
      ⟨0, false, ⟨(some 19), (some (15, false)), .op (.faddr 0 (.tmp 2))⟩⟩,
      ⟨0, false, ⟨(some 20), (some (15, false)), .op (.load (some 2) (.tmp 19))⟩⟩,
      ⟨0, false, ⟨(some 21), (some (15, false)), .call f_pushenc_moment [(.tmp 20)]⟩⟩,
      ⟨0, false, ⟨(some 22), (some (15, false)), .op (.bin .geq (.tmp 18) (.tmp 21))⟩⟩,
      ⟨0, false, ⟨(some 23), none, .op (.pick (.tmp 15) (.const (.bool true)) (.tmp 22))⟩⟩,
      ⟨0, false, ⟨(some 24), none, .op (.mv (.tmp 23))⟩⟩,
      ⟨0, false, ⟨(some 25), (some (24, false)), .op (.faddr 5 (.tmp 2))⟩⟩,
      ⟨0, false, ⟨(some 26), (some (24, false)), .op (.load none (.tmp 25))⟩⟩,
      ⟨0, false, ⟨(some 27), (some (24, false)), .op (.len none (.tmp 26))⟩⟩,
      ⟨0, false, ⟨(some 28), (some (24, false)), .op (.mv (.tmp 5))⟩⟩,
      ⟨0, false, ⟨(some 29), (some (24, false)), .op (.bin .rem (.tmp 27) (.tmp 28))⟩⟩,
      ⟨0, false, ⟨(some 30), (some (24, false)), .op (.bin .neq (.tmp 29) (.const (.int .i64 0)))⟩⟩,
      ⟨0, false, ⟨(some 31), none, .op (.pick (.tmp 24) (.const (.bool true)) (.tmp 30))⟩⟩,
      ⟨0, false, ⟨(some 32), none, .op (.mv (.tmp 31))⟩⟩,
      ⟨0, false, ⟨(some 33), (some (32, false)), .op (.faddr 5 (.tmp 2))⟩⟩,
      ⟨0, false, ⟨(some 34), (some (32, false)), .op (.load none (.tmp 33))⟩⟩,
      ⟨0, false, ⟨(some 35), (some (32, false)), .op (.len none (.tmp 34))⟩⟩,
      ⟨0, false, ⟨(some 36), (some (32, false)), .op (.mv (.tmp 5))⟩⟩,
      ⟨0, false, ⟨(some 37), (some (32, false)), .op (.bin .quo (.tmp 35) (.tmp 36))⟩⟩,
      ⟨0, false, ⟨(some 38), (some (32, false)), .op (.mv (.tmp 1))⟩⟩,
      ⟨0, false, ⟨(some 39), (some (32, false)), .op (.bin .geq (.tmp 37) (.tmp 38))⟩⟩,
      ⟨0, false, ⟨(some 40), none, .op (.pick (.tmp 32) (.const (.bool true)) (.tmp 39))⟩⟩,
      ⟨0, false, ⟨(some 41), none, .op (.mv (.tmp 40))⟩⟩,
      ⟨0, false, ⟨(some 42), (some (41, false)), .op (.faddr 6 (.tmp 2))⟩⟩,
      ⟨0, false, ⟨(some 43), (some (41, false)), .op (.load none (.tmp 42))⟩⟩,
      ⟨0, false, ⟨(some 44), (some (41, false)), .op (.len none (.tmp 43))⟩⟩,
      ⟨0, false, ⟨(some 45), (some (41, false)), .op (.bin .gtr (.tmp 44) (.const (.int .i64 1000)))⟩⟩,
      ⟨0, false, ⟨(some 46), none, .op (.pick (.tmp 41) (.const (.bool true)) (.tmp 45))⟩⟩] [])
   (.cond (.tmp 46)
     (.seq (.reg [⟨(some 4), none, .op (.mv (.const (.bool false)))⟩])
     (.ret))
     (.skip)))
  (.seq (.seq (.reg [⟨(some 47), none, .op (.faddr 0 (.tmp 2))⟩,
      ⟨(some 48), none, .op (.faddr 1 (.tmp 47))⟩,
      ⟨(some 49), none, .op (.load none (.tmp 48))⟩,
      ⟨(some 50), none, .op (.faddr 5 (.tmp 2))⟩,
      ⟨(some 51), none, .op (.load none (.tmp 50))⟩,
      ⟨(some 52), none, .call f_width_Check [(.tmp 49), (.tmp 51)]⟩,
      ⟨(some 53), none, .op (.bin .neq (.tmp 52) (.const (.int .i64 0)))⟩])
   (.cond (.tmp 53)
     (.seq (.reg [⟨(some 4), none, .op (.mv (.const (.bool false)))⟩])
     (.ret))
     (.skip)))
  (.seq (.reg [⟨(some 54), none, .op (.faddr 6 (.tmp 2))⟩,
     ⟨(some 55), none, .op (.load none (.tmp 54))⟩,
     ⟨(some 56), none, .op (.len none (.tmp 55))⟩,
     ⟨(some 6), none, .op (.mv (.tmp 56))⟩])
  (.seq (.seq (.reg [⟨(some 57), none, .op (.faddr 5 (.tmp 2))⟩,
      ⟨(some 58), none, .op (.load none (.tmp 57))⟩,
      ⟨(some 59), none, .op (.len none (.tmp 58))⟩,
      ⟨(some 60), none, .op (.bin .gtr (.tmp 59) (.const (.int .i64 0)))⟩])
   (.cond (.tmp 60)
     (.reg [⟨(some 61), none, .op (.mv (.tmp 6))⟩,
       ⟨(some 62), none, .op (.bin .add (.tmp 61) (.const (.int .i64 1)))⟩,
       ⟨(some 6), none, .op (.mv (.tmp 62))⟩])
     (.skip)))
  (.seq (.seq (.draw [⟨0, false, ⟨(some 63), none, .op (.load (some 10) (.tmp 2))⟩⟩,
      ⟨0, false, ⟨(some 64), none, .op (.mv (.tmp 6))⟩⟩,
      ⟨0, false, ⟨(some 65), none, .op (.load (some 10) (.tmp 2))⟩⟩,
      ⟨0, false, ⟨(some 66), none, .op (.mv (.tmp 1))⟩⟩,
      ⟨0, false, ⟨(some 67), none, .call f_pushenc_count [(.tmp 65), (.tmp 66)]⟩⟩,
      ⟨0, false, ⟨(some 68), none, .call f_pushenc_room [(.tmp 63), (.tmp 64), (.tmp 67)]⟩⟩,
      ⟨0, false, ⟨(some 69), none, .op (.un .not (.tmp 68))⟩⟩] [])
   (.cond (.tmp 69)
     (.seq (.reg [⟨(some 4), none, .op (.mv (.const (.bool false)))⟩])
     (.ret))
     (.skip)))
  (.seq (.reg [⟨(some 70), none, .op (.mv (.tmp 1))⟩,
     ⟨(some 71), none, .op (.bin .mul (.const (.int .i64 81)) (.tmp 70))⟩,
     ⟨(some 72), none, .op (.mv (.tmp 5))⟩,
     ⟨(some 73), none, .op (.bin .mul (.tmp 71) (.tmp 72))⟩,
     ⟨(some 74), none, .op (.bin .add (.tmp 73) (.const (.int .i64 7)))⟩,
     ⟨(some 75), none, .op (.bin .quo (.tmp 74) (.const (.int .i64 8)))⟩,
     ⟨(some 76), none, .op (.bin .add (.tmp 75) (.const (.int .i64 4)))⟩,
     ⟨(some 7), none, .op (.alloc t1 [.int .i64 0])⟩,
     ⟨none, none, .op (.store 1 (.tmp 7) (.tmp 76))⟩])
  (.seq (.reg [⟨(some 77), none, .op (.faddr 6 (.tmp 2))⟩,
     ⟨(some 78), none, .op (.load none (.tmp 77))⟩,
     ⟨(some 79), none, .op (.mkfn (.func f_pushenc_feeding_1) [] [(.tmp 7)])⟩,
     ⟨(some 80), none, .call f_slices_ContainsFunc_byte_byte [(.tmp 78), (.tmp 79)]⟩,
     ⟨(some 81), none, .op (.un .not (.tmp 80))⟩,
     ⟨(some 4), none, .op (.mv (.tmp 81))⟩])
  (.ret)))))))))

def ac_pushenc_moment (t0 : Nat) : AC :=
  .seq (.reg [⟨(some 1), none, .op (.box t0 2 (.tmp 0))⟩,
     ⟨(some 2), none, .op (.mv (.const (.int .i64 0)))⟩])
  (.seq (.reg [⟨(some 3), none, .op (.faddr 0 (.tmp 1))⟩,
     ⟨(some 4), none, .op (.load none (.tmp 3))⟩,
     ⟨(some 5), none, .op (.faddr 1 (.tmp 1))⟩,
     ⟨(some 6), none, .op (.load none (.tmp 5))⟩,
     ⟨(some 7), none, .op (.bin .mul (.tmp 4) (.tmp 6))⟩,
     ⟨(some 8), none, .op (.bin .quo (.tmp 7) (.const (.int .i64 8)))⟩,
     ⟨(some 2), none, .op (.mv (.tmp 8))⟩])
  (.ret))

def ac_pushenc_room (t0 : Nat) : AC :=
  .seq (.reg [⟨(some 3), none, .op (.box t0 10 (.tmp 0))⟩,
     ⟨(some 6), none, .op (.mv (.const (.bool false)))⟩])
  (.seq (.reg [⟨(some 7), none, .op (.mv (.tmp 1))⟩,
     ⟨(some 8), none, .op (.bin .leq (.tmp 7) (.const (.int .i64 1000)))⟩,
     ⟨(some 9), none, .op (.mv (.tmp 8))⟩,
     ⟨(some 10), (some (9, true)), .op (.mv (.tmp 2))⟩,
     ⟨(some 11), (some (9, true)), .op (.faddr 0 (.tmp 3))⟩,
     ⟨(some 12), (some (9, true)), .op (.faddr 0 (.tmp 11))⟩,
     ⟨(some 13), (some (9, true)), .op (.load none (.tmp 12))⟩,
     ⟨(some 14), (some (9, true)), .op (.bin .mul (.tmp 10) (.tmp 13))⟩,
     ⟨(some 15), (some (9, true)), .op (.bin .leq (.tmp 14) (.const (.int .i64 4000)))⟩,
     ⟨(some 16), none, .op (.pick (.tmp 9) (.tmp 15) (.const (.bool false)))⟩,
     ⟨(some 6), none, .op (.mv (.tmp 16))⟩])
  (.ret))

def ac_pushenc_count (t0 : Nat) : AC :=
  .seq (.reg [⟨(some 2), none, .op (.box t0 10 (.tmp 0))⟩,
     ⟨(some 4), none, .op (.mv (.const (.int .i64 0)))⟩])
  (.seq (.draw [⟨0, false, ⟨(some 5), none, .op (.faddr 6 (.tmp 2))⟩⟩,
     ⟨0, false, ⟨(some 6), none, .op (.load none (.tmp 5))⟩⟩,
     ⟨0, false, ⟨(some 7), none, .op (.len none (.tmp 6))⟩⟩,
     ⟨0, false, ⟨(some 8), none, .op (.mv (.tmp 1))⟩⟩,
     ⟨0, false, ⟨(some 9), none, .op (.bin .mul (.tmp 7) (.tmp 8))⟩⟩,
     ⟨0, false, ⟨(some 10), none, .op (.faddr 5 (.tmp 2))⟩⟩,
     ⟨0, false, ⟨(some 11), none, .op (.load none (.tmp 10))⟩⟩,
     ⟨0, false, ⟨(some 12), none, .op (.len none (.tmp 11))⟩⟩,
     ⟨0, false, ⟨(some 13), none, .op (.faddr 0 (.tmp 2))⟩⟩,
     ⟨0, false, ⟨(some 14), none, .op (.faddr 0 (.tmp 13))⟩⟩,
     ⟨0, false, ⟨(some 15), none, .op (.load none (.tmp 14))⟩⟩,
     ⟨0, false, ⟨(some 16), none, .op (.bin .quo (.tmp 12) (.tmp 15))⟩⟩,
     ⟨0, false, ⟨(some 17), none, .op (.bin .add (.tmp 9) (.tmp 16))⟩⟩,
     ⟨0, false, ⟨(some 4), none, .op (.mv (.tmp 17))⟩⟩] [])
  (.ret))

def ac_slices_ContainsFunc_byte_byte (f_slices_IndexFunc_byte_byte : Nat) : AC :=
  .seq (.reg [⟨(some 4), none, .op (.mv (.const (.bool false)))⟩])
  (.seq (.reg [⟨(some 5), none, .op (.mv (.tmp 0))⟩,
     ⟨(some 6), none, .op (.mv (.tmp 1))⟩,
     ⟨(some 7), none, .call f_slices_IndexFunc_byte_byte [(.tmp 5), (.tmp 6)]⟩,
     ⟨(some 8), none, .op (.bin .geq (.tmp 7) (.const (.int .i64 0)))⟩,
     ⟨(some 4), none, .op (.mv (.tmp 8))⟩])
  (.ret))

def ac_pushenc_feeding_1 : AC :=
  .seq (.reg [⟨(some 3), none, .op (.mv (.const (.bool false)))⟩])
  (.seq (.reg [⟨(some 4), none, .op (.mv (.tmp 0))⟩,
     ⟨(some 5), none, .op (.len none (.tmp 4))⟩,
     ⟨(some 6), none, .op (.bin .lss (.tmp 5) (.const (.int .i64 5)))⟩,
     ⟨(some 7), none, .op (.mv (.tmp 6))⟩,
     ⟨(some 8), (some (7, false)), .op (.mv (.tmp 0))⟩,
     ⟨(some 9), (some (7, false)), .op (.len none (.tmp 8))⟩,
     ⟨(some 10), (some (7, false)), .op (.load none (.tmp 1))⟩,
     ⟨(some 11), (some (7, false)), .op (.bin .gtr (.tmp 9) (.tmp 10))⟩,
     ⟨(some 12), none, .op (.pick (.tmp 7) (.const (.bool true)) (.tmp 11))⟩,
     ⟨(some 3), none, .op (.mv (.tmp 12))⟩])
  (.ret))

def ac_cadenzaref36_long (f_cadenzaref22_Long t0 : Nat) : AC :=
  .seq (.reg [⟨(some 1), none, .op (.box t0 10 (.tmp 0))⟩,
     ⟨(some 2), none, .op (.mv (.const (.int .i64 0)))⟩])
  (.seq (.reg [⟨(some 6), none, .op (.faddr 2 (.tmp 1))⟩,
     ⟨(some 7), none, .op (.load none (.tmp 6))⟩,
     ⟨(some 8), none, .call f_cadenzaref22_Long [(.tmp 7)]⟩,
     ⟨(some 5), none, .op (.mv (.tmp 8))⟩,
     ⟨(some 9), none, .op (.extract (.tmp 5) 0)⟩,
     ⟨(some 10), none, .op (.extract (.tmp 5) 1)⟩,
     ⟨(some 3), none, .op (.mv (.tmp 9))⟩,
     ⟨(some 4), none, .op (.mv (.tmp 10))⟩])
  (.seq (.reg [⟨(some 11), none, .op (.mv (.tmp 3))⟩,
     ⟨(some 2), none, .op (.mv (.tmp 11))⟩])
  (.ret)))

def ac_cadenzaref36_Moment (t0 : Nat) : AC :=
  .seq (.reg [⟨(some 1), none, .op (.box t0 2 (.tmp 0))⟩,
     ⟨(some 2), none, .op (.mv (.const (.int .i64 0)))⟩])
  (.seq (.reg [⟨(some 3), none, .op (.faddr 0 (.tmp 1))⟩,
     ⟨(some 4), none, .op (.load none (.tmp 3))⟩,
     ⟨(some 5), none, .op (.faddr 1 (.tmp 1))⟩,
     ⟨(some 6), none, .op (.load none (.tmp 5))⟩,
     ⟨(some 7), none, .op (.bin .mul (.tmp 4) (.tmp 6))⟩,
     ⟨(some 8), none, .op (.bin .quo (.tmp 7) (.const (.int .i64 8)))⟩,
     ⟨(some 2), none, .op (.mv (.tmp 8))⟩])
  (.ret))

def ac_cadenzaref36_fits (t0 : Nat) : AC :=
  .seq (.reg [⟨(some 3), none, .op (.box t0 10 (.tmp 0))⟩,
     ⟨(some 6), none, .op (.mv (.const (.bool false)))⟩])
  (.seq (.reg [⟨(some 7), none, .op (.mv (.tmp 1))⟩,
     ⟨(some 8), none, .op (.bin .leq (.tmp 7) (.const (.int .i64 1000)))⟩,
     ⟨(some 9), none, .op (.mv (.tmp 8))⟩,
     ⟨(some 10), (some (9, true)), .op (.mv (.tmp 2))⟩,
     ⟨(some 11), (some (9, true)), .op (.faddr 0 (.tmp 3))⟩,
     ⟨(some 12), (some (9, true)), .op (.faddr 0 (.tmp 11))⟩,
     ⟨(some 13), (some (9, true)), .op (.load none (.tmp 12))⟩,
     ⟨(some 14), (some (9, true)), .op (.bin .quo (.const (.int .i64 4000)) (.tmp 13))⟩,
     ⟨(some 15), (some (9, true)), .op (.bin .leq (.tmp 10) (.tmp 14))⟩,
     ⟨(some 16), none, .op (.pick (.tmp 9) (.tmp 15) (.const (.bool false)))⟩,
     ⟨(some 6), none, .op (.mv (.tmp 16))⟩])
  (.ret))

def ac_cadenzaref36_Count (f_cadenzaref36_long t0 : Nat) : AC :=
  .seq (.reg [⟨(some 1), none, .op (.box t0 10 (.tmp 0))⟩,
     ⟨(some 2), none, .op (.mv (.const (.int .i64 0)))⟩])
  (.seq (.draw [⟨0, false, ⟨(some 3), none, .op (.faddr 6 (.tmp 1))⟩⟩,
     ⟨0, false, ⟨(some 4), none, .op (.load none (.tmp 3))⟩⟩,
     ⟨0, false, ⟨(some 5), none, .op (.len none (.tmp 4))⟩⟩,
     ⟨0, false, ⟨(some 6), none, .op (.load (some 10) (.tmp 1))⟩⟩,
     ⟨0, false, ⟨(some 7), none, .call f_cadenzaref36_long [(.tmp 6)]⟩⟩,
     ⟨0, false, ⟨(some 8), none, .op (.bin .mul (.tmp 5) (.tmp 7))⟩⟩,
     ⟨0, false, ⟨(some 9), none, .op (.faddr 5 (.tmp 1))⟩⟩,
     ⟨0, false, ⟨(some 10), none, .op (.load none (.tmp 9))⟩⟩,
     ⟨0, false, ⟨(some 11), none, .op (.len none (.tmp 10))⟩⟩,
     ⟨0, false, ⟨(some 12), none, .op (.faddr 0 (.tmp 1))⟩⟩,
     ⟨0, false, ⟨(some 13), none, .op (.faddr 0 (.tmp 12))⟩⟩,
     ⟨0, false, ⟨(some 14), none, .op (.load none (.tmp 13))⟩⟩,
     ⟨0, false, ⟨(some 15), none, .op (.bin .quo (.tmp 11) (.tmp 14))⟩⟩,
     ⟨0, false, ⟨(some 16), none, .op (.bin .add (.tmp 8) (.tmp 15))⟩⟩,
     ⟨0, false, ⟨(some 2), none, .op (.mv (.tmp 16))⟩⟩] [])
  (.ret))

def ac_slices_IndexFunc_byte_byte : AC :=
  .seq (.reg [⟨(some 4), none, .op (.mv (.const (.int .i64 0)))⟩])
  (.seq (.seq (.reg [⟨(some 6), none, .op (.mv (.tmp 0))⟩,
      ⟨(some 7), none, .op (.len none (.tmp 6))⟩,
      ⟨(some 8), none, .op (.mv (.const (.int .i64 0)))⟩])
   (.block 0 (.loop (.seq (.reg [⟨(some 9), none, .op (.bin .lss (.tmp 8) (.tmp 7))⟩])
     (.seq (.cond (.tmp 9)
        (.skip)
        (.exit 0))
     (.seq (.block 1 (.seq (.reg [⟨(some 10), none, .op (.mv (.tmp 8))⟩,
          ⟨(some 5), none, .op (.mv (.tmp 10))⟩])
       (.seq (.reg [⟨(some 11), none, .op (.mv (.tmp 1))⟩,
          ⟨(some 12), none, .op (.mv (.tmp 0))⟩,
          ⟨(some 13), none, .op (.mv (.tmp 5))⟩,
          ⟨(some 14), none, .op (.iaddr (.slice 1) (.tmp 12) (.tmp 13))⟩,
          ⟨(some 15), none, .op (.load none (.tmp 14))⟩,
          ⟨(some 16), none, .callv 11 [(.tmp 15)]⟩])
       (.cond (.tmp 16)
         (.seq (.reg [⟨(some 17), none, .op (.mv (.tmp 5))⟩,
            ⟨(some 4), none, .op (.mv (.tmp 17))⟩])
         (.ret))
         (.skip)))))
     (.reg [⟨(some 18), none, .op (.bin .add (.tmp 8) (.const (.int .i64 1)))⟩,
       ⟨(some 8), none, .op (.mv (.tmp 18))⟩])))))))
  (.seq (.reg [⟨(some 4), none, .op (.mv (.const (.int .i64 (-1))))⟩])
  (.ret)))

def ac_cadenzalaw31_RiffReads (f_cadenzaref31_Long f_riff_Read f_cadenzaref31_Read f_cadenzaref31_Same : Nat) : AC :=
  .seq (.reg [⟨(some 2), none, .op (.mv (.const (.bool false)))⟩])
  (.seq (.seq (.reg [⟨(some 10), none, .op (.mv (.tmp 0))⟩,
      ⟨(some 11), none, .call f_cadenzaref31_Long [(.tmp 10)]⟩])
   (.cond (.tmp 11)
     (.seq (.reg [⟨(some 2), none, .op (.mv (.const (.bool true)))⟩])
     (.ret))
     (.skip)))
  (.seq (.reg [⟨(some 12), none, .op (.mv (.tmp 0))⟩,
     ⟨(some 13), none, .op (.conv .toStr (.tmp 12))⟩,
     ⟨(some 3), none, .op (.mv (.tmp 13))⟩])
  (.seq (.reg [⟨(some 15), none, .op (.mv (.tmp 0))⟩,
     ⟨(some 16), none, .call f_riff_Read [(.tmp 15)]⟩,
     ⟨(some 14), none, .op (.mv (.tmp 16))⟩,
     ⟨(some 17), none, .op (.extract (.tmp 14) 0)⟩,
     ⟨(some 18), none, .op (.extract (.tmp 14) 1)⟩,
     ⟨(some 19), none, .op (.extract (.tmp 14) 2)⟩,
     ⟨(some 4), none, .op (.mv (.tmp 17))⟩,
     ⟨(some 5), none, .op (.mv (.tmp 18))⟩,
     ⟨(some 6), none, .op (.mv (.tmp 19))⟩])
  (.seq (.reg [⟨(some 21), none, .op (.mv (.tmp 0))⟩,
     ⟨(some 22), none, .call f_cadenzaref31_Read [(.tmp 21)]⟩,
     ⟨(some 20), none, .op (.mv (.tmp 22))⟩,
     ⟨(some 23), none, .op (.extract (.tmp 20) 0)⟩,
     ⟨(some 24), none, .op (.extract (.tmp 20) 1)⟩,
     ⟨(some 25), none, .op (.extract (.tmp 20) 2)⟩,
     ⟨(some 7), none, .op (.mv (.tmp 23))⟩,
     ⟨(some 8), none, .op (.mv (.tmp 24))⟩,
     ⟨(some 9), none, .op (.mv (.tmp 25))⟩])
  (.seq (.reg [⟨(some 26), none, .op (.mv (.tmp 4))⟩,
     ⟨(some 27), none, .op (.mv (.tmp 7))⟩,
     ⟨(some 28), none, .op (.bin .eql (.tmp 26) (.tmp 27))⟩,
     ⟨(some 29), none, .op (.mv (.tmp 28))⟩,
     ⟨(some 30), (some (29, true)), .op (.mv (.tmp 5))⟩,
     ⟨(some 31), (some (29, true)), .op (.mv (.tmp 8))⟩,
     ⟨(some 32), (some (29, true)), .call f_cadenzaref31_Same [(.tmp 30), (.tmp 31)]⟩,
     ⟨(some 33), none, .op (.pick (.tmp 29) (.tmp 32) (.const (.bool false)))⟩,
     ⟨(some 34), none, .op (.mv (.tmp 33))⟩,
     ⟨(some 35), (some (34, true)), .op (.mv (.tmp 6))⟩,
     ⟨(some 36), (some (34, true)), .op (.mv (.tmp 9))⟩,
     ⟨(some 37), (some (34, true)), .op (.bin .eql (.tmp 35) (.tmp 36))⟩,
     ⟨(some 38), none, .op (.pick (.tmp 34) (.tmp 37) (.const (.bool false)))⟩,
     ⟨(some 39), none, .op (.mv (.tmp 38))⟩,
     ⟨(some 40), (some (39, true)), .op (.mv (.tmp 0))⟩,
     ⟨(some 41), (some (39, true)), .op (.conv .toStr (.tmp 40))⟩,
     ⟨(some 42), (some (39, true)), .op (.mv (.tmp 3))⟩,
     ⟨(some 43), (some (39, true)), .op (.bin .eql (.tmp 41) (.tmp 42))⟩,
     ⟨(some 44), none, .op (.pick (.tmp 39) (.tmp 43) (.const (.bool false)))⟩,
     ⟨(some 2), none, .op (.mv (.tmp 44))⟩])
  (.ret))))))

end Go.Am

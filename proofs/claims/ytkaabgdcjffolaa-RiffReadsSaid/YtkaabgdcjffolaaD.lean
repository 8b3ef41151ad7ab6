/- The abstract code of the functions that the law reaches; no conditions. -/
import Derived.Test.YtkaabgdcjffolaaA3
set_option linter.unusedSectionVars false
set_option linter.unusedSimpArgs false
set_option linter.unusedVariables false
namespace Go.Am

def ac_le_Value : AC :=
  .seq (.reg [⟨(some 2), none, .op (.mv (.const (.int .u64 0)))⟩,
     ⟨(some 3), none, .op (.mv (.const (.int .i64 0)))⟩])
  (.seq (.seq (.reg [⟨(some 7), none, .op (.mv (.tmp 0))⟩,
      ⟨(some 8), none, .op (.len none (.tmp 7))⟩,
      ⟨(some 9), none, .op (.bin .lss (.tmp 8) (.const (.int .i64 1)))⟩,
      ⟨(some 10), none, .op (.mv (.tmp 9))⟩,
      ⟨(some 11), (some (10, false)), .op (.mv (.tmp 0))⟩,
      ⟨(some 12), (some (10, false)), .op (.len none (.tmp 11))⟩,
      ⟨(some 13), (some (10, false)), .op (.bin .gtr (.tmp 12) (.const (.int .i64 8)))⟩,
      ⟨(some 14), none, .op (.pick (.tmp 10) (.const (.bool true)) (.tmp 13))⟩])
   (.cond (.tmp 14)
     (.seq (.reg [⟨(some 2), none, .op (.mv (.const (.int .u64 0)))⟩,
        ⟨(some 3), none, .op (.mv (.const (.int .i64 2)))⟩])
     (.ret))
     (.skip)))
  (.seq (.reg [⟨(some 4), none, .op (.mv (.const (.int .u64 0)))⟩])
  (.seq (.seq (.reg [⟨(some 15), none, .op (.mv (.tmp 0))⟩,
      ⟨(some 16), none, .op (.len none (.tmp 15))⟩,
      ⟨(some 17), none, .op (.mv (.const (.int .i64 0)))⟩])
   (.block 0 (.loop (.seq (.reg [⟨(some 18), none, .op (.bin .lss (.tmp 17) (.tmp 16))⟩])
     (.seq (.cond (.tmp 18)
        (.skip)
        (.exit 0))
     (.seq (.block 1 (.seq (.reg [⟨(some 19), none, .op (.mv (.tmp 17))⟩,
          ⟨(some 20), none, .op (.iaddr (.slice 1) (.tmp 15) (.tmp 17))⟩,
          ⟨(some 21), none, .op (.load none (.tmp 20))⟩,
          ⟨(some 5), none, .op (.mv (.tmp 19))⟩,
          ⟨(some 6), none, .op (.mv (.tmp 21))⟩])
       (.reg [⟨(some 22), none, .op (.mv (.tmp 4))⟩,
         ⟨(some 23), none, .op (.mv (.tmp 6))⟩,
         ⟨(some 24), none, .op (.conv (.int .u64) (.tmp 23))⟩,
         ⟨(some 25), none, .op (.mv (.tmp 5))⟩,
         ⟨(some 26), none, .op (.bin .mul (.const (.int .i64 8)) (.tmp 25))⟩,
         ⟨(some 27), none, .op (.bin .shl (.tmp 24) (.tmp 26))⟩,
         ⟨(some 28), none, .op (.bin .or (.tmp 22) (.tmp 27))⟩,
         ⟨(some 4), none, .op (.mv (.tmp 28))⟩])))
     (.reg [⟨(some 29), none, .op (.bin .add (.tmp 17) (.const (.int .i64 1)))⟩,
       ⟨(some 17), none, .op (.mv (.tmp 29))⟩])))))))
  (.seq (.reg [⟨(some 30), none, .op (.mv (.tmp 4))⟩,
     ⟨(some 2), none, .op (.mv (.tmp 30))⟩,
     ⟨(some 3), none, .op (.mv (.const (.int .i64 0)))⟩])
  (.ret)))))

def ac_le_At (f_le_Value : Nat) : AC :=
  .seq (.reg [⟨(some 6), none, .op (.mv (.const (.int .u64 0)))⟩,
     ⟨(some 7), none, .op (.mv (.const (.int .i64 0)))⟩])
  (.seq (.seq (.reg [⟨(some 8), none, .op (.mv (.tmp 2))⟩,
      ⟨(some 9), none, .op (.bin .lss (.tmp 8) (.const (.int .i64 1)))⟩,
      ⟨(some 10), none, .op (.mv (.tmp 9))⟩,
      ⟨(some 11), (some (10, false)), .op (.mv (.tmp 2))⟩,
      ⟨(some 12), (some (10, false)), .op (.bin .gtr (.tmp 11) (.const (.int .i64 8)))⟩,
      ⟨(some 13), none, .op (.pick (.tmp 10) (.const (.bool true)) (.tmp 12))⟩,
      ⟨(some 14), none, .op (.mv (.tmp 13))⟩,
      ⟨(some 15), (some (14, false)), .op (.mv (.tmp 1))⟩,
      ⟨(some 16), (some (14, false)), .op (.bin .lss (.tmp 15) (.const (.int .i64 0)))⟩,
      ⟨(some 17), none, .op (.pick (.tmp 14) (.const (.bool true)) (.tmp 16))⟩])
   (.cond (.tmp 17)
     (.seq (.reg [⟨(some 6), none, .op (.mv (.const (.int .u64 0)))⟩,
        ⟨(some 7), none, .op (.mv (.const (.int .i64 2)))⟩])
     (.ret))
     (.skip)))
  (.seq (.seq (.reg [⟨(some 18), none, .op (.mv (.tmp 1))⟩,
      ⟨(some 19), none, .op (.mv (.tmp 0))⟩,
      ⟨(some 20), none, .op (.len none (.tmp 19))⟩,
      ⟨(some 21), none, .op (.mv (.tmp 2))⟩,
      ⟨(some 22), none, .op (.bin .sub (.tmp 20) (.tmp 21))⟩,
      ⟨(some 23), none, .op (.bin .gtr (.tmp 18) (.tmp 22))⟩])
   (.cond (.tmp 23)
     (.seq (.reg [⟨(some 6), none, .op (.mv (.const (.int .u64 0)))⟩,
        ⟨(some 7), none, .op (.mv (.const (.int .i64 24)))⟩])
     (.ret))
     (.skip)))
  (.seq (.reg [⟨(some 24), none, .op (.mv (.tmp 0))⟩,
     ⟨(some 25), none, .op (.mv (.tmp 1))⟩,
     ⟨(some 26), none, .op (.mv (.tmp 1))⟩,
     ⟨(some 27), none, .op (.mv (.tmp 2))⟩,
     ⟨(some 28), none, .op (.bin .add (.tmp 26) (.tmp 27))⟩,
     ⟨(some 29), none, .op (.slice 1 (.tmp 24) (some (.tmp 25)) (some (.tmp 28)) none)⟩,
     ⟨(some 30), none, .call f_le_Value [(.tmp 29)]⟩,
     ⟨(some 31), none, .op (.extract (.tmp 30) 0)⟩,
     ⟨(some 32), none, .op (.extract (.tmp 30) 1)⟩,
     ⟨(some 6), none, .op (.mv (.tmp 31))⟩,
     ⟨(some 7), none, .op (.mv (.tmp 32))⟩])
  (.ret))))

def ac_cadenzaref01_Of : AC :=
  .seq (.reg [⟨(some 2), none, .op (.mv (.const (.int .u64 0)))⟩])
  (.seq (.reg [⟨(some 3), none, .op (.mv (.const (.int .u64 0)))⟩])
  (.seq (.seq (.reg [⟨(some 5), none, .op (.mv (.tmp 0))⟩,
      ⟨(some 6), none, .op (.len none (.tmp 5))⟩,
      ⟨(some 7), none, .op (.bin .sub (.tmp 6) (.const (.int .i64 1)))⟩,
      ⟨(some 4), none, .op (.mv (.tmp 7))⟩])
   (.block 0 (.loop (.seq (.seq (.reg [⟨(some 8), none, .op (.mv (.tmp 4))⟩,
         ⟨(some 9), none, .op (.bin .geq (.tmp 8) (.const (.int .i64 0)))⟩])
      (.cond (.tmp 9)
        (.skip)
        (.exit 0)))
     (.seq (.block 1 (.reg [⟨(some 12), none, .op (.mv (.tmp 3))⟩,
         ⟨(some 13), none, .op (.bin .mul (.const (.int .u64 256)) (.tmp 12))⟩,
         ⟨(some 14), none, .op (.mv (.tmp 0))⟩,
         ⟨(some 15), none, .op (.mv (.tmp 4))⟩,
         ⟨(some 16), none, .op (.iaddr (.slice 1) (.tmp 14) (.tmp 15))⟩,
         ⟨(some 17), none, .op (.load none (.tmp 16))⟩,
         ⟨(some 18), none, .op (.conv (.int .u64) (.tmp 17))⟩,
         ⟨(some 19), none, .op (.bin .add (.tmp 13) (.tmp 18))⟩,
         ⟨(some 3), none, .op (.mv (.tmp 19))⟩]))
     (.reg [⟨(some 10), none, .op (.mv (.tmp 4))⟩,
       ⟨(some 11), none, .op (.bin .sub (.tmp 10) (.const (.int .i64 1)))⟩,
       ⟨(some 4), none, .op (.mv (.tmp 11))⟩]))))))
  (.seq (.reg [⟨(some 20), none, .op (.mv (.tmp 3))⟩,
     ⟨(some 2), none, .op (.mv (.tmp 20))⟩])
  (.ret))))

def ac_riff_isName : AC :=
  .seq (.reg [⟨(some 2), none, .op (.mv (.const (.bool false)))⟩])
  (.seq (.seq (.reg [⟨(some 5), none, .op (.mv (.tmp 0))⟩,
      ⟨(some 6), none, .op (.conv .toBytes (.tmp 5))⟩,
      ⟨(some 7), none, .op (.len none (.tmp 6))⟩,
      ⟨(some 8), none, .op (.mv (.const (.int .i64 0)))⟩])
   (.block 0 (.loop (.seq (.reg [⟨(some 9), none, .op (.bin .lss (.tmp 8) (.tmp 7))⟩])
     (.seq (.cond (.tmp 9)
        (.skip)
        (.exit 0))
     (.seq (.block 1 (.seq (.reg [⟨(some 10), none, .op (.iaddr (.slice 1) (.tmp 6) (.tmp 8))⟩,
          ⟨(some 11), none, .op (.load none (.tmp 10))⟩,
          ⟨(some 4), none, .op (.mv (.tmp 11))⟩])
       (.seq (.reg [⟨(some 12), none, .op (.mv (.tmp 4))⟩,
          ⟨(some 13), none, .op (.bin .lss (.tmp 12) (.const (.int .u8 32)))⟩,
          ⟨(some 14), none, .op (.mv (.tmp 13))⟩,
          ⟨(some 15), (some (14, false)), .op (.mv (.tmp 4))⟩,
          ⟨(some 16), (some (14, false)), .op (.bin .gtr (.tmp 15) (.const (.int .u8 126)))⟩,
          ⟨(some 17), none, .op (.pick (.tmp 14) (.const (.bool true)) (.tmp 16))⟩])
       (.cond (.tmp 17)
         (.seq (.reg [⟨(some 2), none, .op (.mv (.const (.bool false)))⟩])
         (.ret))
         (.skip)))))
     (.reg [⟨(some 18), none, .op (.bin .add (.tmp 8) (.const (.int .i64 1)))⟩,
       ⟨(some 8), none, .op (.mv (.tmp 18))⟩])))))))
  (.seq (.reg [⟨(some 19), none, .op (.mv (.tmp 0))⟩,
     ⟨(some 20), none, .op (.len (some none) (.tmp 19))⟩,
     ⟨(some 21), none, .op (.bin .eql (.tmp 20) (.const (.int .i64 4)))⟩,
     ⟨(some 2), none, .op (.mv (.tmp 21))⟩])
  (.ret)))

def ac_cadenzaref31_Name : AC :=
  .seq (.reg [⟨(some 2), none, .op (.mv (.const (.bool false)))⟩])
  (.seq (.seq (.reg [⟨(some 3), none, .op (.mv (.const (.int .i64 0)))⟩])
   (.block 0 (.loop (.seq (.seq (.reg [⟨(some 4), none, .op (.mv (.tmp 3))⟩,
         ⟨(some 5), none, .op (.mv (.tmp 0))⟩,
         ⟨(some 6), none, .op (.len (some none) (.tmp 5))⟩,
         ⟨(some 7), none, .op (.bin .lss (.tmp 4) (.tmp 6))⟩])
      (.cond (.tmp 7)
        (.skip)
        (.exit 0)))
     (.seq (.block 1 (.seq (.reg [⟨(some 10), none, .op (.mv (.tmp 0))⟩,
          ⟨(some 11), none, .op (.mv (.tmp 3))⟩,
          ⟨(some 12), none, .op (.index .str (.tmp 10) (.tmp 11))⟩,
          ⟨(some 13), none, .op (.bin .lss (.tmp 12) (.const (.int .u8 32)))⟩,
          ⟨(some 14), none, .op (.mv (.tmp 13))⟩,
          ⟨(some 15), (some (14, false)), .op (.mv (.tmp 0))⟩,
          ⟨(some 16), (some (14, false)), .op (.mv (.tmp 3))⟩,
          ⟨(some 17), (some (14, false)), .op (.index .str (.tmp 15) (.tmp 16))⟩,
          ⟨(some 18), (some (14, false)), .op (.bin .gtr (.tmp 17) (.const (.int .u8 126)))⟩,
          ⟨(some 19), none, .op (.pick (.tmp 14) (.const (.bool true)) (.tmp 18))⟩])
       (.cond (.tmp 19)
         (.seq (.reg [⟨(some 2), none, .op (.mv (.const (.bool false)))⟩])
         (.ret))
         (.skip))))
     (.reg [⟨(some 8), none, .op (.mv (.tmp 3))⟩,
       ⟨(some 9), none, .op (.bin .add (.tmp 8) (.const (.int .i64 1)))⟩,
       ⟨(some 3), none, .op (.mv (.tmp 9))⟩]))))))
  (.seq (.reg [⟨(some 20), none, .op (.mv (.tmp 0))⟩,
     ⟨(some 21), none, .op (.len (some none) (.tmp 20))⟩,
     ⟨(some 22), none, .op (.bin .eql (.tmp 21) (.const (.int .i64 4)))⟩,
     ⟨(some 2), none, .op (.mv (.tmp 22))⟩])
  (.ret)))

def ac_bytes_Clone (t0 : Nat) : AC :=
  .seq (.reg [⟨(some 2), none, .op (.mv (.const (.slice none 0 0)))⟩])
  (.seq (.seq (.reg [⟨(some 3), none, .op (.mv (.tmp 0))⟩,
      ⟨(some 4), none, .op (.nileq false (.tmp 3))⟩])
   (.cond (.tmp 4)
     (.seq (.reg [⟨(some 2), none, .op (.mv (.const (.slice none 0 0)))⟩])
     (.ret))
     (.skip)))
  (.seq (.reg [⟨(some 5), none, .op (.bslice t0 1 0 [.int .u8 0] [])⟩,
     ⟨(some 6), none, .op (.mv (.tmp 0))⟩,
     ⟨(some 7), none, .op (.append t0 1 1 false (.tmp 5) (.tmp 6))⟩,
     ⟨(some 2), none, .op (.mv (.tmp 7))⟩])
  (.ret)))

def ac_riff_next (f_riff_isName f_le_At f_bytes_Clone t0 : Nat) : AC :=
  .seq (.reg [⟨(some 2), none, .op (.alloc t0 [.str [], .emp true])⟩,
     ⟨(some 3), none, .op (.mv (.const (.slice none 0 0)))⟩,
     ⟨(some 4), none, .op (.mv (.const (.bool false)))⟩])
  (.seq (.seq (.reg [⟨(some 9), none, .op (.mv (.tmp 0))⟩,
      ⟨(some 10), none, .op (.len none (.tmp 9))⟩,
      ⟨(some 11), none, .op (.bin .lss (.tmp 10) (.const (.int .i64 8)))⟩,
      ⟨(some 12), none, .op (.mv (.tmp 11))⟩,
      ⟨(some 13), (some (12, false)), .op (.mv (.tmp 0))⟩,
      ⟨(some 14), (some (12, false)), .op (.slice 1 (.tmp 13) none (some (.const (.int .i64 4))) none)⟩,
      ⟨(some 15), (some (12, false)), .op (.conv .toStr (.tmp 14))⟩,
      ⟨(some 16), (some (12, false)), .call f_riff_isName [(.tmp 15)]⟩,
      ⟨(some 17), (some (12, false)), .op (.un .not (.tmp 16))⟩,
      ⟨(some 18), none, .op (.pick (.tmp 12) (.const (.bool true)) (.tmp 17))⟩])
   (.cond (.tmp 18)
     (.seq (.reg [⟨(some 19), none, .op (.build [.str [], .emp true] [])⟩,
        ⟨none, none, .op (.store 2 (.tmp 2) (.tmp 19))⟩,
        ⟨(some 3), none, .op (.mv (.const (.slice none 0 0)))⟩,
        ⟨(some 4), none, .op (.mv (.const (.bool false)))⟩])
     (.ret))
     (.skip)))
  (.seq (.reg [⟨(some 21), none, .op (.mv (.tmp 0))⟩,
     ⟨(some 22), none, .call f_le_At [(.tmp 21), (.const (.int .i64 4)), (.const (.int .i64 4))]⟩,
     ⟨(some 20), none, .op (.mv (.tmp 22))⟩,
     ⟨(some 23), none, .op (.extract (.tmp 20) 0)⟩,
     ⟨(some 24), none, .op (.extract (.tmp 20) 1)⟩,
     ⟨(some 5), none, .op (.mv (.tmp 23))⟩,
     ⟨(some 6), none, .op (.mv (.tmp 24))⟩])
  (.seq (.draw [⟨0, false, ⟨(some 25), none, .op (.mv (.tmp 0))⟩⟩,
     ⟨0, false, ⟨(some 26), none, .op (.slice 1 (.tmp 25) none (some (.const (.int .i64 4))) none)⟩⟩,
     ⟨0, false, ⟨(some 27), none, .op (.conv .toStr (.tmp 26))⟩⟩,
     ⟨0, false, ⟨(some 28), none, .op (.mv (.tmp 0))⟩⟩,
     ⟨0, false, ⟨(some 29), none, .op (.slice 1 (.tmp 28) (some (.const (.int .i64 8))) none none)⟩⟩,
     ⟨0, false, ⟨(some 7), none, .op (.mv (.tmp 27))⟩⟩,
     ⟨0, false, ⟨(some 0), none, .op (.mv (.tmp 29))⟩⟩] [])
  (.seq (.seq (.reg [⟨(some 30), none, .op (.mv (.tmp 5))⟩,
      ⟨(some 31), none, .op (.mv (.tmp 0))⟩,
      ⟨(some 32), none, .op (.len none (.tmp 31))⟩,
      ⟨(some 33), none, .op (.conv (.int .u64) (.tmp 32))⟩,
      ⟨(some 34), none, .op (.bin .gtr (.tmp 30) (.tmp 33))⟩])
   (.cond (.tmp 34)
     (.seq (.reg [⟨(some 35), none, .op (.build [.str [], .emp true] [])⟩,
        ⟨none, none, .op (.store 2 (.tmp 2) (.tmp 35))⟩,
        ⟨(some 3), none, .op (.mv (.const (.slice none 0 0)))⟩,
        ⟨(some 4), none, .op (.mv (.const (.bool false)))⟩])
     (.ret))
     (.skip)))
  (.seq (.reg [⟨(some 36), none, .op (.mv (.tmp 7))⟩,
     ⟨(some 37), none, .op (.mv (.tmp 0))⟩,
     ⟨(some 38), none, .op (.mv (.tmp 5))⟩,
     ⟨(some 39), none, .op (.slice 1 (.tmp 37) none (some (.tmp 38)) none)⟩,
     ⟨(some 40), none, .call f_bytes_Clone [(.tmp 39)]⟩,
     ⟨(some 41), none, .op (.build [.str [], .emp true] [(0, 1, (.tmp 36)), (1, 1, (.tmp 40))])⟩,
     ⟨(some 8), none, .op (.alloc t0 [.str [], .emp true])⟩,
     ⟨none, none, .op (.store 2 (.tmp 8) (.tmp 41))⟩])
  (.seq (.reg [⟨(some 42), none, .op (.mv (.tmp 0))⟩,
     ⟨(some 43), none, .op (.mv (.tmp 5))⟩,
     ⟨(some 44), none, .op (.slice 1 (.tmp 42) (some (.tmp 43)) none none)⟩,
     ⟨(some 0), none, .op (.mv (.tmp 44))⟩])
  (.seq (.seq (.reg [⟨(some 45), none, .op (.mv (.tmp 5))⟩,
      ⟨(some 46), none, .op (.bin .rem (.tmp 45) (.const (.int .u64 2)))⟩,
      ⟨(some 47), none, .op (.bin .eql (.tmp 46) (.const (.int .u64 1)))⟩])
   (.cond (.tmp 47)
     (.seq (.seq (.reg [⟨(some 48), none, .op (.mv (.tmp 0))⟩,
         ⟨(some 49), none, .op (.len none (.tmp 48))⟩,
         ⟨(some 50), none, .op (.bin .eql (.tmp 49) (.const (.int .i64 0)))⟩,
         ⟨(some 51), none, .op (.mv (.tmp 50))⟩,
         ⟨(some 52), (some (51, false)), .op (.mv (.tmp 0))⟩,
         ⟨(some 53), (some (51, false)), .op (.iaddr (.slice 1) (.tmp 52) (.const (.int .i64 0)))⟩,
         ⟨(some 54), (some (51, false)), .op (.load none (.tmp 53))⟩,
         ⟨(some 55), (some (51, false)), .op (.bin .neq (.tmp 54) (.const (.int .u8 0)))⟩,
         ⟨(some 56), none, .op (.pick (.tmp 51) (.const (.bool true)) (.tmp 55))⟩])
      (.cond (.tmp 56)
        (.seq (.reg [⟨(some 57), none, .op (.build [.str [], .emp true] [])⟩,
           ⟨none, none, .op (.store 2 (.tmp 2) (.tmp 57))⟩,
           ⟨(some 3), none, .op (.mv (.const (.slice none 0 0)))⟩,
           ⟨(some 4), none, .op (.mv (.const (.bool false)))⟩])
        (.ret))
        (.skip)))
     (.reg [⟨(some 58), none, .op (.mv (.tmp 0))⟩,
       ⟨(some 59), none, .op (.slice 1 (.tmp 58) (some (.const (.int .i64 1))) none none)⟩,
       ⟨(some 0), none, .op (.mv (.tmp 59))⟩]))
     (.skip)))
  (.seq (.reg [⟨(some 60), none, .op (.load (some 2) (.tmp 8))⟩,
     ⟨(some 61), none, .op (.mv (.tmp 0))⟩,
     ⟨none, none, .op (.store 2 (.tmp 2) (.tmp 60))⟩,
     ⟨(some 3), none, .op (.mv (.tmp 61))⟩,
     ⟨(some 4), none, .op (.mv (.const (.bool true)))⟩])
  (.ret)))))))))

def ac_riff_Read (f_le_At f_riff_isName f_riff_next t0 : Nat) : AC :=
  .seq (.reg [⟨(some 2), none, .op (.mv (.const (.string ⟨#[]⟩)))⟩,
     ⟨(some 3), none, .op (.mv (.const (.slice none 0 0)))⟩,
     ⟨(some 4), none, .op (.mv (.const (.int .i64 0)))⟩])
  (.seq (.seq (.reg [⟨(some 13), none, .op (.mv (.tmp 0))⟩,
      ⟨(some 14), none, .op (.len none (.tmp 13))⟩,
      ⟨(some 15), none, .op (.bin .lss (.tmp 14) (.const (.int .i64 12)))⟩])
   (.cond (.tmp 15)
     (.seq (.reg [⟨(some 2), none, .op (.mv (.const (.string ⟨#[]⟩)))⟩,
        ⟨(some 3), none, .op (.mv (.const (.slice none 0 0)))⟩,
        ⟨(some 4), none, .op (.mv (.const (.int .i64 24)))⟩])
     (.ret))
     (.skip)))
  (.seq (.reg [⟨(some 17), none, .op (.mv (.tmp 0))⟩,
     ⟨(some 18), none, .call f_le_At [(.tmp 17), (.const (.int .i64 4)), (.const (.int .i64 4))]⟩,
     ⟨(some 16), none, .op (.mv (.tmp 18))⟩,
     ⟨(some 19), none, .op (.extract (.tmp 16) 0)⟩,
     ⟨(some 20), none, .op (.extract (.tmp 16) 1)⟩,
     ⟨(some 5), none, .op (.mv (.tmp 19))⟩,
     ⟨(some 6), none, .op (.mv (.tmp 20))⟩])
  (.seq (.reg [⟨(some 21), none, .op (.mv (.tmp 0))⟩,
     ⟨(some 22), none, .op (.slice 1 (.tmp 21) (some (.const (.int .i64 8))) (some (.const (.int .i64 12))) none)⟩,
     ⟨(some 23), none, .op (.conv .toStr (.tmp 22))⟩,
     ⟨(some 7), none, .op (.mv (.tmp 23))⟩])
  (.seq (.block 0 (.seq (.reg [⟨(some 25), none, .op (.mv (.tmp 0))⟩,
       ⟨(some 26), none, .op (.slice 1 (.tmp 25) none (some (.const (.int .i64 4))) none)⟩,
       ⟨(some 27), none, .op (.conv .toStr (.tmp 26))⟩,
       ⟨(some 28), none, .op (.bin .neq (.tmp 27) (.const (.string ⟨#[82, 73, 70, 70]⟩)))⟩,
       ⟨(some 29), none, .op (.mv (.tmp 28))⟩,
       ⟨(some 30), (some (29, false)), .op (.mv (.tmp 7))⟩,
       ⟨(some 31), (some (29, false)), .call f_riff_isName [(.tmp 30)]⟩,
       ⟨(some 32), (some (29, false)), .op (.un .not (.tmp 31))⟩,
       ⟨(some 33), none, .op (.pick (.tmp 29) (.const (.bool true)) (.tmp 32))⟩,
       ⟨(some 34), none, .op (.mv (.tmp 33))⟩,
       ⟨(some 35), (some (34, false)), .op (.mv (.tmp 5))⟩,
       ⟨(some 36), (some (34, false)), .op (.bin .lss (.tmp 35) (.const (.int .u64 4)))⟩,
       ⟨(some 37), none, .op (.pick (.tmp 34) (.const (.bool true)) (.tmp 36))⟩,
       ⟨(some 24), none, .op (.mv (.tmp 37))⟩])
    (.cond (.tmp 24)
      (.seq (.reg [⟨(some 2), none, .op (.mv (.const (.string ⟨#[]⟩)))⟩,
         ⟨(some 3), none, .op (.mv (.const (.slice none 0 0)))⟩,
         ⟨(some 4), none, .op (.mv (.const (.int .i64 12)))⟩])
      (.ret))
      (.seq (.reg [⟨(some 39), none, .op (.mv (.tmp 5))⟩,
         ⟨(some 40), none, .op (.bin .add (.tmp 39) (.const (.int .u64 8)))⟩,
         ⟨(some 41), none, .op (.bin .gtr (.tmp 40) (.const (.int .u64 100000)))⟩,
         ⟨(some 38), none, .op (.mv (.tmp 41))⟩])
      (.cond (.tmp 38)
        (.seq (.reg [⟨(some 2), none, .op (.mv (.const (.string ⟨#[]⟩)))⟩,
           ⟨(some 3), none, .op (.mv (.const (.slice none 0 0)))⟩,
           ⟨(some 4), none, .op (.mv (.const (.int .i64 4)))⟩])
        (.ret))
        (.seq (.reg [⟨(some 43), none, .op (.mv (.tmp 5))⟩,
           ⟨(some 44), none, .op (.bin .add (.tmp 43) (.const (.int .u64 8)))⟩,
           ⟨(some 45), none, .op (.mv (.tmp 0))⟩,
           ⟨(some 46), none, .op (.len none (.tmp 45))⟩,
           ⟨(some 47), none, .op (.conv (.int .u64) (.tmp 46))⟩,
           ⟨(some 48), none, .op (.bin .gtr (.tmp 44) (.tmp 47))⟩,
           ⟨(some 42), none, .op (.mv (.tmp 48))⟩])
        (.cond (.tmp 42)
          (.seq (.reg [⟨(some 2), none, .op (.mv (.const (.string ⟨#[]⟩)))⟩,
             ⟨(some 3), none, .op (.mv (.const (.slice none 0 0)))⟩,
             ⟨(some 4), none, .op (.mv (.const (.int .i64 24)))⟩])
          (.ret))
          (.skip))))))))
  (.seq (.reg [⟨(some 8), none, .op (.mv (.const (.slice none 0 0)))⟩])
  (.seq (.seq (.reg [⟨(some 49), none, .op (.mv (.tmp 0))⟩,
      ⟨(some 50), none, .op (.mv (.tmp 5))⟩,
      ⟨(some 51), none, .op (.bin .add (.tmp 50) (.const (.int .u64 8)))⟩,
      ⟨(some 52), none, .op (.slice 1 (.tmp 49) (some (.const (.int .i64 12))) (some (.tmp 51)) none)⟩,
      ⟨(some 9), none, .op (.mv (.tmp 52))⟩])
   (.block 1 (.loop (.seq (.seq (.reg [⟨(some 53), none, .op (.mv (.tmp 9))⟩,
         ⟨(some 54), none, .op (.len none (.tmp 53))⟩,
         ⟨(some 55), none, .op (.bin .gtr (.tmp 54) (.const (.int .i64 0)))⟩])
      (.cond (.tmp 55)
        (.skip)
        (.exit 1)))
     (.block 2 (.seq (.seq (.reg [⟨(some 56), none, .op (.mv (.tmp 8))⟩,
          ⟨(some 57), none, .op (.len none (.tmp 56))⟩,
          ⟨(some 58), none, .op (.bin .eql (.tmp 57) (.const (.int .i64 20)))⟩])
       (.cond (.tmp 58)
         (.seq (.reg [⟨(some 2), none, .op (.mv (.const (.string ⟨#[]⟩)))⟩,
            ⟨(some 3), none, .op (.mv (.const (.slice none 0 0)))⟩,
            ⟨(some 4), none, .op (.mv (.const (.int .i64 4)))⟩])
         (.ret))
         (.skip)))
      (.seq (.reg [⟨(some 60), none, .op (.mv (.tmp 9))⟩,
         ⟨(some 61), none, .call f_riff_next [(.tmp 60)]⟩,
         ⟨(some 59), none, .op (.mv (.tmp 61))⟩,
         ⟨(some 62), none, .op (.extract (.tmp 59) 0)⟩,
         ⟨(some 63), none, .op (.extract (.tmp 59) 1)⟩,
         ⟨(some 64), none, .op (.extract (.tmp 59) 2)⟩,
         ⟨(some 10), none, .op (.alloc t0 [.str [], .emp true])⟩,
         ⟨none, none, .op (.store 2 (.tmp 10) (.tmp 62))⟩,
         ⟨(some 11), none, .op (.mv (.tmp 63))⟩,
         ⟨(some 12), none, .op (.mv (.tmp 64))⟩])
      (.seq (.seq (.reg [⟨(some 65), none, .op (.mv (.tmp 12))⟩,
          ⟨(some 66), none, .op (.un .not (.tmp 65))⟩])
       (.cond (.tmp 66)
         (.seq (.reg [⟨(some 2), none, .op (.mv (.const (.string ⟨#[]⟩)))⟩,
            ⟨(some 3), none, .op (.mv (.const (.slice none 0 0)))⟩,
            ⟨(some 4), none, .op (.mv (.const (.int .i64 12)))⟩])
         (.ret))
         (.skip)))
      (.reg [⟨(some 67), none, .op (.mv (.tmp 8))⟩,
        ⟨(some 68), none, .op (.load (some 2) (.tmp 10))⟩,
        ⟨(some 69), none, .op (.bslice t0 2 1 [.str [], .emp true] [(0, 2, (.tmp 68))])⟩,
        ⟨(some 70), none, .op (.append t0 2 40 false (.tmp 67) (.tmp 69))⟩,
        ⟨(some 71), none, .op (.mv (.tmp 11))⟩,
        ⟨(some 8), none, .op (.mv (.tmp 70))⟩,
        ⟨(some 9), none, .op (.mv (.tmp 71))⟩])))))))))
  (.seq (.seq (.reg [⟨(some 72), none, .op (.mv (.tmp 0))⟩,
      ⟨(some 73), none, .op (.len none (.tmp 72))⟩,
      ⟨(some 74), none, .op (.conv (.int .u64) (.tmp 73))⟩,
      ⟨(some 75), none, .op (.mv (.tmp 5))⟩,
      ⟨(some 76), none, .op (.bin .add (.tmp 75) (.const (.int .u64 8)))⟩,
      ⟨(some 77), none, .op (.bin .gtr (.tmp 74) (.tmp 76))⟩])
   (.cond (.tmp 77)
     (.seq (.reg [⟨(some 2), none, .op (.mv (.const (.string ⟨#[]⟩)))⟩,
        ⟨(some 3), none, .op (.mv (.const (.slice none 0 0)))⟩,
        ⟨(some 4), none, .op (.mv (.const (.int .i64 38)))⟩])
     (.ret))
     (.skip)))
  (.seq (.reg [⟨(some 78), none, .op (.mv (.tmp 7))⟩,
     ⟨(some 79), none, .op (.mv (.tmp 8))⟩,
     ⟨(some 2), none, .op (.mv (.tmp 78))⟩,
     ⟨(some 3), none, .op (.mv (.tmp 79))⟩,
     ⟨(some 4), none, .op (.mv (.const (.int .i64 0)))⟩])
  (.ret)))))))))

def ac_cadenzaref31_Read (f_cadenzaref01_Of f_cadenzaref31_Name t0 t1 : Nat) : AC :=
  .seq (.reg [⟨(some 2), none, .op (.mv (.const (.string ⟨#[]⟩)))⟩,
     ⟨(some 3), none, .op (.mv (.const (.slice none 0 0)))⟩,
     ⟨(some 4), none, .op (.mv (.const (.int .i64 0)))⟩])
  (.seq (.seq (.reg [⟨(some 12), none, .op (.mv (.tmp 0))⟩,
      ⟨(some 13), none, .op (.len none (.tmp 12))⟩,
      ⟨(some 14), none, .op (.bin .lss (.tmp 13) (.const (.int .i64 12)))⟩])
   (.cond (.tmp 14)
     (.seq (.reg [⟨(some 2), none, .op (.mv (.const (.string ⟨#[]⟩)))⟩,
        ⟨(some 3), none, .op (.mv (.const (.slice none 0 0)))⟩,
        ⟨(some 4), none, .op (.mv (.const (.int .i64 24)))⟩])
     (.ret))
     (.skip)))
  (.seq (.reg [⟨(some 15), none, .op (.mv (.tmp 0))⟩,
     ⟨(some 16), none, .op (.slice 1 (.tmp 15) (some (.const (.int .i64 8))) (some (.const (.int .i64 12))) none)⟩,
     ⟨(some 17), none, .op (.conv .toStr (.tmp 16))⟩,
     ⟨(some 5), none, .op (.mv (.tmp 17))⟩])
  (.seq (.reg [⟨(some 18), none, .op (.mv (.tmp 0))⟩,
     ⟨(some 19), none, .op (.slice 1 (.tmp 18) (some (.const (.int .i64 4))) (some (.const (.int .i64 8))) none)⟩,
     ⟨(some 20), none, .call f_cadenzaref01_Of [(.tmp 19)]⟩,
     ⟨(some 6), none, .op (.mv (.tmp 20))⟩])
  (.seq (.seq (.reg [⟨(some 21), none, .op (.mv (.tmp 0))⟩,
      ⟨(some 22), none, .op (.slice 1 (.tmp 21) none (some (.const (.int .i64 4))) none)⟩,
      ⟨(some 23), none, .op (.conv .toStr (.tmp 22))⟩,
      ⟨(some 24), none, .op (.bin .neq (.tmp 23) (.const (.string ⟨#[82, 73, 70, 70]⟩)))⟩,
      ⟨(some 25), none, .op (.mv (.tmp 24))⟩,
      ⟨(some 26), (some (25, false)), .op (.mv (.tmp 5))⟩,
      ⟨(some 27), (some (25, false)), .call f_cadenzaref31_Name [(.tmp 26)]⟩,
      ⟨(some 28), (some (25, false)), .op (.un .not (.tmp 27))⟩,
      ⟨(some 29), none, .op (.pick (.tmp 25) (.const (.bool true)) (.tmp 28))⟩,
      ⟨(some 30), none, .op (.mv (.tmp 29))⟩,
      ⟨(some 31), (some (30, false)), .op (.mv (.tmp 6))⟩,
      ⟨(some 32), (some (30, false)), .op (.bin .lss (.tmp 31) (.const (.int .u64 4)))⟩,
      ⟨(some 33), none, .op (.pick (.tmp 30) (.const (.bool true)) (.tmp 32))⟩])
   (.cond (.tmp 33)
     (.seq (.reg [⟨(some 2), none, .op (.mv (.const (.string ⟨#[]⟩)))⟩,
        ⟨(some 3), none, .op (.mv (.const (.slice none 0 0)))⟩,
        ⟨(some 4), none, .op (.mv (.const (.int .i64 12)))⟩])
     (.ret))
     (.skip)))
  (.seq (.seq (.reg [⟨(some 34), none, .op (.mv (.tmp 6))⟩,
      ⟨(some 35), none, .op (.bin .add (.tmp 34) (.const (.int .u64 8)))⟩,
      ⟨(some 36), none, .op (.bin .gtr (.tmp 35) (.const (.int .u64 100000)))⟩])
   (.cond (.tmp 36)
     (.seq (.reg [⟨(some 2), none, .op (.mv (.const (.string ⟨#[]⟩)))⟩,
        ⟨(some 3), none, .op (.mv (.const (.slice none 0 0)))⟩,
        ⟨(some 4), none, .op (.mv (.const (.int .i64 4)))⟩])
     (.ret))
     (.skip)))
  (.seq (.reg [⟨(some 37), none, .op (.mv (.tmp 6))⟩,
     ⟨(some 38), none, .op (.conv (.int .i64) (.tmp 37))⟩,
     ⟨(some 39), none, .op (.bin .add (.tmp 38) (.const (.int .i64 8)))⟩,
     ⟨(some 7), none, .op (.mv (.tmp 39))⟩])
  (.seq (.seq (.reg [⟨(some 40), none, .op (.mv (.tmp 0))⟩,
      ⟨(some 41), none, .op (.len none (.tmp 40))⟩,
      ⟨(some 42), none, .op (.mv (.tmp 7))⟩,
      ⟨(some 43), none, .op (.bin .lss (.tmp 41) (.tmp 42))⟩])
   (.cond (.tmp 43)
     (.seq (.reg [⟨(some 2), none, .op (.mv (.const (.string ⟨#[]⟩)))⟩,
        ⟨(some 3), none, .op (.mv (.const (.slice none 0 0)))⟩,
        ⟨(some 4), none, .op (.mv (.const (.int .i64 24)))⟩])
     (.ret))
     (.skip)))
  (.seq (.reg [⟨(some 8), none, .op (.mv (.const (.slice none 0 0)))⟩])
  (.seq (.seq (.reg [⟨(some 9), none, .op (.mv (.const (.int .i64 12)))⟩])
   (.block 0 (.loop (.seq (.seq (.reg [⟨(some 44), none, .op (.mv (.tmp 9))⟩,
         ⟨(some 45), none, .op (.mv (.tmp 7))⟩,
         ⟨(some 46), none, .op (.bin .lss (.tmp 44) (.tmp 45))⟩])
      (.cond (.tmp 46)
        (.skip)
        (.exit 0)))
     (.block 1 (.seq (.seq (.reg [⟨(some 47), none, .op (.mv (.tmp 8))⟩,
          ⟨(some 48), none, .op (.len none (.tmp 47))⟩,
          ⟨(some 49), none, .op (.bin .eql (.tmp 48) (.const (.int .i64 20)))⟩])
       (.cond (.tmp 49)
         (.seq (.reg [⟨(some 2), none, .op (.mv (.const (.string ⟨#[]⟩)))⟩,
            ⟨(some 3), none, .op (.mv (.const (.slice none 0 0)))⟩,
            ⟨(some 4), none, .op (.mv (.const (.int .i64 4)))⟩])
         (.ret))
         (.skip)))
      (.seq (.seq (.reg [⟨(some 50), none, .op (.mv (.tmp 7))⟩,
          ⟨(some 51), none, .op (.mv (.tmp 9))⟩,
          ⟨(some 52), none, .op (.bin .sub (.tmp 50) (.tmp 51))⟩,
          ⟨(some 53), none, .op (.bin .lss (.tmp 52) (.const (.int .i64 8)))⟩,
          ⟨(some 54), none, .op (.mv (.tmp 53))⟩,
          ⟨(some 55), (some (54, false)), .op (.mv (.tmp 0))⟩,
          ⟨(some 56), (some (54, false)), .op (.mv (.tmp 9))⟩,
          ⟨(some 57), (some (54, false)), .op (.mv (.tmp 9))⟩,
          ⟨(some 58), (some (54, false)), .op (.bin .add (.tmp 57) (.const (.int .i64 4)))⟩,
          ⟨(some 59), (some (54, false)), .op (.slice 1 (.tmp 55) (some (.tmp 56)) (some (.tmp 58)) none)⟩,
          ⟨(some 60), (some (54, false)), .op (.conv .toStr (.tmp 59))⟩,
          ⟨(some 61), (some (54, false)), .call f_cadenzaref31_Name [(.tmp 60)]⟩,
          ⟨(some 62), (some (54, false)), .op (.un .not (.tmp 61))⟩,
          ⟨(some 63), none, .op (.pick (.tmp 54) (.const (.bool true)) (.tmp 62))⟩])
       (.cond (.tmp 63)
         (.seq (.reg [⟨(some 2), none, .op (.mv (.const (.string ⟨#[]⟩)))⟩,
            ⟨(some 3), none, .op (.mv (.const (.slice none 0 0)))⟩,
            ⟨(some 4), none, .op (.mv (.const (.int .i64 12)))⟩])
         (.ret))
         (.skip)))
      (.seq (.reg [⟨(some 64), none, .op (.mv (.tmp 0))⟩,
         ⟨(some 65), none, .op (.mv (.tmp 9))⟩,
         ⟨(some 66), none, .op (.bin .add (.tmp 65) (.const (.int .i64 4)))⟩,
         ⟨(some 67), none, .op (.mv (.tmp 9))⟩,
         ⟨(some 68), none, .op (.bin .add (.tmp 67) (.const (.int .i64 8)))⟩,
         ⟨(some 69), none, .op (.slice 1 (.tmp 64) (some (.tmp 66)) (some (.tmp 68)) none)⟩,
         ⟨(some 70), none, .call f_cadenzaref01_Of [(.tmp 69)]⟩,
         ⟨(some 10), none, .op (.mv (.tmp 70))⟩])
      (.seq (.reg [⟨(some 71), none, .op (.mv (.tmp 10))⟩,
         ⟨(some 72), none, .op (.mv (.tmp 10))⟩,
         ⟨(some 73), none, .op (.bin .rem (.tmp 72) (.const (.int .u64 2)))⟩,
         ⟨(some 74), none, .op (.bin .add (.tmp 71) (.tmp 73))⟩,
         ⟨(some 11), none, .op (.mv (.tmp 74))⟩])
      (.seq (.seq (.reg [⟨(some 75), none, .op (.mv (.tmp 11))⟩,
          ⟨(some 76), none, .op (.mv (.tmp 7))⟩,
          ⟨(some 77), none, .op (.mv (.tmp 9))⟩,
          ⟨(some 78), none, .op (.bin .sub (.tmp 76) (.tmp 77))⟩,
          ⟨(some 79), none, .op (.bin .sub (.tmp 78) (.const (.int .i64 8)))⟩,
          ⟨(some 80), none, .op (.conv (.int .u64) (.tmp 79))⟩,
          ⟨(some 81), none, .op (.bin .gtr (.tmp 75) (.tmp 80))⟩,
          ⟨(some 82), none, .op (.mv (.tmp 81))⟩,
          ⟨(some 83), (some (82, false)), .op (.mv (.tmp 10))⟩,
          ⟨(some 84), (some (82, false)), .op (.bin .rem (.tmp 83) (.const (.int .u64 2)))⟩,
          ⟨(some 85), (some (82, false)), .op (.bin .eql (.tmp 84) (.const (.int .u64 1)))⟩,
          ⟨(some 86), (some (82, false)), .op (.mv (.tmp 85))⟩,
          ⟨(some 87), (some (86, true)), .op (.mv (.tmp 0))⟩,
          ⟨(some 88), (some (86, true)), .op (.mv (.tmp 9))⟩,
          ⟨(some 89), (some (86, true)), .op (.bin .add (.tmp 88) (.const (.int .i64 8)))⟩,
          ⟨(some 90), (some (86, true)), .op (.mv (.tmp 10))⟩,
          ⟨(some 91), (some (86, true)), .op (.conv (.int .i64) (.tmp 90))⟩,
          ⟨(some 92), (some (86, true)), .op (.bin .add (.tmp 89) (.tmp 91))⟩,
          ⟨(some 93), (some (86, true)), .op (.iaddr (.slice 1) (.tmp 87) (.tmp 92))⟩,
          ⟨(some 94), (some (86, true)), .op (.load none (.tmp 93))⟩,
          ⟨(some 95), (some (86, true)), .op (.bin .neq (.tmp 94) (.const (.int .u8 0)))⟩,
          ⟨(some 96), (some (82, false)), .op (.pick (.tmp 86) (.tmp 95) (.const (.bool false)))⟩,
          ⟨(some 97), none, .op (.pick (.tmp 82) (.const (.bool true)) (.tmp 96))⟩])
       (.cond (.tmp 97)
         (.seq (.reg [⟨(some 2), none, .op (.mv (.const (.string ⟨#[]⟩)))⟩,
            ⟨(some 3), none, .op (.mv (.const (.slice none 0 0)))⟩,
            ⟨(some 4), none, .op (.mv (.const (.int .i64 12)))⟩])
         (.ret))
         (.skip)))
      (.seq (.draw [⟨0, false, ⟨(some 98), none, .op (.mv (.tmp 8))⟩⟩,
         ⟨0, false, ⟨(some 99), none, .op (.mv (.tmp 0))⟩⟩,
         ⟨0, false, ⟨(some 100), none, .op (.mv (.tmp 9))⟩⟩,
         ⟨0, false, ⟨(some 101), none, .op (.mv (.tmp 9))⟩⟩,
         ⟨0, false, ⟨(some 102), none, .op (.bin .add (.tmp 101) (.const (.int .i64 4)))⟩⟩,
         ⟨0, true, ⟨(some 103), none, .op (.slice 1 (.tmp 99) (some (.tmp 100)) (some (.tmp 102)) none)⟩⟩,
         ⟨0, true, ⟨(some 104), none, .op (.conv .toStr (.tmp 103))⟩⟩,
         ⟨0, false, ⟨(some 105), none, .op (.bslice t0 1 0 [.int .u8 0] [])⟩⟩,
         ⟨1, false, ⟨(some 106), none, .op (.mv (.tmp 0))⟩⟩,
         ⟨1, false, ⟨(some 107), none, .op (.mv (.tmp 9))⟩⟩,
         ⟨1, false, ⟨(some 108), none, .op (.bin .add (.tmp 107) (.const (.int .i64 8)))⟩⟩,
         ⟨1, false, ⟨(some 109), none, .op (.mv (.tmp 9))⟩⟩,
         ⟨1, false, ⟨(some 110), none, .op (.bin .add (.tmp 109) (.const (.int .i64 8)))⟩⟩,
         ⟨1, false, ⟨(some 111), none, .op (.mv (.tmp 10))⟩⟩,
         ⟨1, false, ⟨(some 112), none, .op (.conv (.int .i64) (.tmp 111))⟩⟩,
         ⟨1, false, ⟨(some 113), none, .op (.bin .add (.tmp 110) (.tmp 112))⟩⟩,
         ⟨1, false, ⟨(some 114), none, .op (.slice 1 (.tmp 106) (some (.tmp 108)) (some (.tmp 113)) none)⟩⟩,
         ⟨1, false, ⟨(some 115), none, .op (.append t0 1 1 false (.tmp 105) (.tmp 114))⟩⟩,
         ⟨2, false, ⟨(some 116), none, .op (.build [.str [], .emp true] [(0, 1, (.tmp 104)), (1, 1, (.tmp 115))])⟩⟩,
         ⟨2, false, ⟨(some 117), none, .op (.bslice t1 2 1 [.str [], .emp true] [(0, 2, (.tmp 116))])⟩⟩,
         ⟨3, false, ⟨(some 118), none, .op (.append t1 2 40 false (.tmp 98) (.tmp 117))⟩⟩,
         ⟨4, false, ⟨(some 8), none, .op (.mv (.tmp 118))⟩⟩] [ph, ph, ph, ph])
      (.reg [⟨(some 119), none, .op (.mv (.tmp 9))⟩,
        ⟨(some 120), none, .op (.mv (.tmp 11))⟩,
        ⟨(some 121), none, .op (.conv (.int .i64) (.tmp 120))⟩,
        ⟨(some 122), none, .op (.bin .add (.const (.int .i64 8)) (.tmp 121))⟩,
        ⟨(some 123), none, .op (.bin .add (.tmp 119) (.tmp 122))⟩,
        ⟨(some 9), none, .op (.mv (.tmp 123))⟩]))))))))))))
  (.seq (.seq (.reg [⟨(some 124), none, .op (.mv (.tmp 0))⟩,
      ⟨(some 125), none, .op (.len none (.tmp 124))⟩,
      ⟨(some 126), none, .op (.mv (.tmp 7))⟩,
      ⟨(some 127), none, .op (.bin .gtr (.tmp 125) (.tmp 126))⟩])
   (.cond (.tmp 127)
     (.seq (.reg [⟨(some 2), none, .op (.mv (.const (.string ⟨#[]⟩)))⟩,
        ⟨(some 3), none, .op (.mv (.const (.slice none 0 0)))⟩,
        ⟨(some 4), none, .op (.mv (.const (.int .i64 38)))⟩])
     (.ret))
     (.skip)))
  (.seq (.reg [⟨(some 128), none, .op (.mv (.tmp 5))⟩,
     ⟨(some 129), none, .op (.mv (.tmp 8))⟩,
     ⟨(some 2), none, .op (.mv (.tmp 128))⟩,
     ⟨(some 3), none, .op (.mv (.tmp 129))⟩,
     ⟨(some 4), none, .op (.mv (.const (.int .i64 0)))⟩])
  (.ret))))))))))))

def ac_cadenzaref31_Long : AC :=
  .seq (.reg [⟨(some 2), none, .op (.mv (.const (.bool false)))⟩])
  (.seq (.reg [⟨(some 3), none, .op (.mv (.tmp 0))⟩,
     ⟨(some 4), none, .op (.len none (.tmp 3))⟩,
     ⟨(some 5), none, .op (.bin .gtr (.tmp 4) (.const (.int .i64 2000)))⟩,
     ⟨(some 6), none, .op (.mv (.tmp 5))⟩,
     ⟨(some 7), (some (6, true)), .op (.mv (.tmp 0))⟩,
     ⟨(some 8), (some (6, true)), .op (.len none (.tmp 7))⟩,
     ⟨(some 9), (some (6, true)), .op (.bin .lss (.tmp 8) (.const (.int .i64 99900)))⟩,
     ⟨(some 10), none, .op (.pick (.tmp 6) (.tmp 9) (.const (.bool false)))⟩,
     ⟨(some 11), none, .op (.mv (.tmp 10))⟩,
     ⟨(some 12), (some (11, false)), .op (.mv (.tmp 0))⟩,
     ⟨(some 13), (some (11, false)), .op (.len none (.tmp 12))⟩,
     ⟨(some 14), (some (11, false)), .op (.bin .gtr (.tmp 13) (.const (.int .i64 100100)))⟩,
     ⟨(some 15), none, .op (.pick (.tmp 11) (.const (.bool true)) (.tmp 14))⟩,
     ⟨(some 2), none, .op (.mv (.tmp 15))⟩])
  (.ret))

def ac_cadenzaref31_Same : AC :=
  .seq (.reg [⟨(some 4), none, .op (.mv (.const (.bool false)))⟩])
  (.seq (.seq (.reg [⟨(some 6), none, .op (.mv (.tmp 0))⟩,
      ⟨(some 7), none, .op (.len none (.tmp 6))⟩,
      ⟨(some 8), none, .op (.mv (.tmp 1))⟩,
      ⟨(some 9), none, .op (.len none (.tmp 8))⟩,
      ⟨(some 10), none, .op (.bin .neq (.tmp 7) (.tmp 9))⟩])
   (.cond (.tmp 10)
     (.seq (.reg [⟨(some 4), none, .op (.mv (.const (.bool false)))⟩])
     (.ret))
     (.skip)))
  (.seq (.seq (.reg [⟨(some 5), none, .op (.mv (.const (.int .i64 0)))⟩])
   (.block 0 (.loop (.seq (.seq (.reg [⟨(some 11), none, .op (.mv (.tmp 5))⟩,
         ⟨(some 12), none, .op (.mv (.tmp 0))⟩,
         ⟨(some 13), none, .op (.len none (.tmp 12))⟩,
         ⟨(some 14), none, .op (.bin .lss (.tmp 11) (.tmp 13))⟩])
      (.cond (.tmp 14)
        (.skip)
        (.exit 0)))
     (.seq (.block 1 (.seq (.draw [⟨0, false, ⟨(some 17), none, .op (.mv (.tmp 0))⟩⟩,
          ⟨0, false, ⟨(some 18), none, .op (.mv (.tmp 5))⟩⟩,
          ⟨0, false, ⟨(some 19), none, .op (.iaddr (.slice 2) (.tmp 17) (.tmp 18))⟩⟩,
          ⟨0, false, ⟨(some 20), none, .op (.faddr 0 (.tmp 19))⟩⟩,
          ⟨0, false, ⟨(some 21), none, .op (.load none (.tmp 20))⟩⟩,
          ⟨0, false, ⟨(some 22), none, .op (.mv (.tmp 1))⟩⟩,
          ⟨0, false, ⟨(some 23), none, .op (.mv (.tmp 5))⟩⟩,
          ⟨0, false, ⟨(some 24), none, .op (.iaddr (.slice 2) (.tmp 22) (.tmp 23))⟩⟩,
          ⟨0, false, ⟨(some 25), none, .op (.faddr 0 (.tmp 24))⟩⟩,
          ⟨0, false, ⟨(some 26), none, .op (.load none (.tmp 25))⟩⟩,
          ⟨0, false, ⟨(some 27), none, .op (.bin .neq (.tmp 21) (.tmp 26))⟩⟩,
          ⟨0, false, ⟨(some 28), none, .op (.mv (.tmp 27))⟩⟩,
          ⟨0, false, ⟨(some 29), (some (28, false)), .op (.mv (.tmp 0))⟩⟩,
          ⟨0, false, ⟨(some 30), (some (28, false)), .op (.mv (.tmp 5))⟩⟩,
          ⟨0, false, ⟨(some 31), (some (28, false)), .op (.iaddr (.slice 2) (.tmp 29) (.tmp 30))⟩⟩,
          ⟨0, false, ⟨(some 32), (some (28, false)), .op (.faddr 1 (.tmp 31))⟩⟩,
          ⟨0, false, ⟨(some 33), (some (28, false)), .op (.load none (.tmp 32))⟩⟩,
          ⟨0, false, ⟨(some 34), (some (28, false)), .op (.conv .toStr (.tmp 33))⟩⟩,
          ⟨0, false, ⟨(some 35), (some (28, false)), .op (.mv (.tmp 1))⟩⟩,
          ⟨0, false, ⟨(some 36), (some (28, false)), .op (.mv (.tmp 5))⟩⟩,
          ⟨0, false, ⟨(some 37), (some (28, false)), .op (.iaddr (.slice 2) (.tmp 35) (.tmp 36))⟩⟩,
          ⟨0, false, ⟨(some 38), (some (28, false)), .op (.faddr 1 (.tmp 37))⟩⟩,
          ⟨0, false, ⟨(some 39), (some (28, false)), .op (.load none (.tmp 38))⟩⟩,
          ⟨0, false, ⟨(some 40), (some (28, false)), .op (.conv .toStr (.tmp 39))⟩⟩,
          ⟨0, false, ⟨(some 41), (some (28, false)), .op (.bin .neq (.tmp 34) (.tmp 40))⟩⟩,
          ⟨0, false, ⟨(some 42), none, .op (.pick (.tmp 28) (.const (.bool true)) (.tmp 41))⟩⟩] [])
       (.cond (.tmp 42)
         (.seq (.reg [⟨(some 4), none, .op (.mv (.const (.bool false)))⟩])
         (.ret))
         (.skip))))
     (.reg [⟨(some 15), none, .op (.mv (.tmp 5))⟩,
       ⟨(some 16), none, .op (.bin .add (.tmp 15) (.const (.int .i64 1)))⟩,
       ⟨(some 5), none, .op (.mv (.tmp 16))⟩]))))))
  (.seq (.reg [⟨(some 4), none, .op (.mv (.const (.bool true)))⟩])
  (.ret))))

def ac_cadenzalaw31_RiffReads (f_cadenzaref31_Long f_riff_Read f_cadenzaref31_Read f_cadenzaref31_Same : Nat) : AC :=
  .seq (.reg [⟨(some 2), none, .op (.mv (.const (.bool false)))⟩])
  (.seq (.seq (.reg [⟨(some 10), none, .op (.mv (.tmp 0))⟩,
      ⟨(some 11), none, .call f_cadenzaref31_Long [(.tmp 10)]⟩])
   (.cond (.tmp 11)
     (.seq (.reg [⟨(some 2), none, .op (.mv (.const (.bool true)))⟩])
     (.ret))
     (.skip)))
  (.seq (.reg [⟨(some 12), none, .op (.mv (.tmp 0))⟩,
     ⟨(some 13), none, .op (.conv .toStr (.tmp 12))⟩,
     ⟨(some 3), none, .op (.mv (.tmp 13))⟩])
  (.seq (.reg [⟨(some 15), none, .op (.mv (.tmp 0))⟩,
     ⟨(some 16), none, .call f_riff_Read [(.tmp 15)]⟩,
     ⟨(some 14), none, .op (.mv (.tmp 16))⟩,
     ⟨(some 17), none, .op (.extract (.tmp 14) 0)⟩,
     ⟨(some 18), none, .op (.extract (.tmp 14) 1)⟩,
     ⟨(some 19), none, .op (.extract (.tmp 14) 2)⟩,
     ⟨(some 4), none, .op (.mv (.tmp 17))⟩,
     ⟨(some 5), none, .op (.mv (.tmp 18))⟩,
     ⟨(some 6), none, .op (.mv (.tmp 19))⟩])
  (.seq (.reg [⟨(some 21), none, .op (.mv (.tmp 0))⟩,
     ⟨(some 22), none, .call f_cadenzaref31_Read [(.tmp 21)]⟩,
     ⟨(some 20), none, .op (.mv (.tmp 22))⟩,
     ⟨(some 23), none, .op (.extract (.tmp 20) 0)⟩,
     ⟨(some 24), none, .op (.extract (.tmp 20) 1)⟩,
     ⟨(some 25), none, .op (.extract (.tmp 20) 2)⟩,
     ⟨(some 7), none, .op (.mv (.tmp 23))⟩,
     ⟨(some 8), none, .op (.mv (.tmp 24))⟩,
     ⟨(some 9), none, .op (.mv (.tmp 25))⟩])
  (.seq (.reg [⟨(some 26), none, .op (.mv (.tmp 4))⟩,
     ⟨(some 27), none, .op (.mv (.tmp 7))⟩,
     ⟨(some 28), none, .op (.bin .eql (.tmp 26) (.tmp 27))⟩,
     ⟨(some 29), none, .op (.mv (.tmp 28))⟩,
     ⟨(some 30), (some (29, true)), .op (.mv (.tmp 5))⟩,
     ⟨(some 31), (some (29, true)), .op (.mv (.tmp 8))⟩,
     ⟨(some 32), (some (29, true)), .call f_cadenzaref31_Same [(.tmp 30), (.tmp 31)]⟩,
     ⟨(some 33), none, .op (.pick (.tmp 29) (.tmp 32) (.const (.bool false)))⟩,
     ⟨(some 34), none, .op (.mv (.tmp 33))⟩,
     ⟨(some 35), (some (34, true)), .op (.mv (.tmp 6))⟩,
     ⟨(some 36), (some (34, true)), .op (.mv (.tmp 9))⟩,
     ⟨(some 37), (some (34, true)), .op (.bin .eql (.tmp 35) (.tmp 36))⟩,
     ⟨(some 38), none, .op (.pick (.tmp 34) (.tmp 37) (.const (.bool false)))⟩,
     ⟨(some 39), none, .op (.mv (.tmp 38))⟩,
     ⟨(some 40), (some (39, true)), .op (.mv (.tmp 0))⟩,
     ⟨(some 41), (some (39, true)), .op (.conv .toStr (.tmp 40))⟩,
     ⟨(some 42), (some (39, true)), .op (.mv (.tmp 3))⟩,
     ⟨(some 43), (some (39, true)), .op (.bin .eql (.tmp 41) (.tmp 42))⟩,
     ⟨(some 44), none, .op (.pick (.tmp 39) (.tmp 43) (.const (.bool false)))⟩,
     ⟨(some 2), none, .op (.mv (.tmp 44))⟩])
  (.ret))))))

end Go.Am

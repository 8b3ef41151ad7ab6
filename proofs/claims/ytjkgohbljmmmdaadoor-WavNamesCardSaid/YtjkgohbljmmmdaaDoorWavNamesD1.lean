/- The abstract code of the functions that the law reaches; no conditions. -/
import Derived.Test.YtjkgohbljmmmdaaDoorWavNamesK1
set_option linter.unusedSectionVars false
set_option linter.unusedSimpArgs false
set_option linter.unusedVariables false
namespace Go.Am

def ac_cadenzalaw33_WavNames (f_cadenzalaw33_said f_cadenzalaw33_file f_cadenzalaw33_example f_cadenzalaw33_reads f_cadenzaref32_Masked f_cadenzalaw33_fails f_wav_Read f_wav_Write f_wav_Size f_cadenzalaw33_alive f_cadenzaref24_Check t0 t1 t2 t3 : Nat) : AC :=
  .seq (.reg [⟨(some 0), none, .op (.mv (.const (.bool false)))⟩])
  (.seq (.reg [⟨(some 15), none, .call f_cadenzalaw33_said [(.const (.int .i64 1)), (.const (.int .i64 8)), (.const (.int .i64 8000))]⟩,
     ⟨(some 1), none, .op (.mv (.tmp 15))⟩])
  (.seq (.seq (.reg [⟨(some 16), none, .op (.mv (.tmp 1))⟩,
      ⟨(some 17), none, .op (.len (some none) (.tmp 16))⟩,
      ⟨(some 18), none, .op (.bin .neq (.tmp 17) (.const (.int .i64 16)))⟩])
   (.cond (.tmp 18)
     (.seq (.reg [⟨(some 0), none, .op (.mv (.const (.bool false)))⟩])
     (.ret))
     (.skip)))
  (.seq (.reg [⟨(some 19), none, .op (.mv (.tmp 1))⟩,
     ⟨(some 20), none, .op (.bslice t0 1 4 [.str []] [(0, 1, (.const (.string ⟨#[102, 109, 116, 32]⟩))), (1, 1, (.tmp 19)), (2, 1, (.const (.string ⟨#[100, 97, 116, 97]⟩))), (3, 1, (.const (.string ⟨#[128, 127]⟩)))])⟩,
     ⟨(some 21), none, .call f_cadenzalaw33_file [(.const (.string ⟨#[87, 65, 86, 69]⟩)), (.tmp 20)]⟩,
     ⟨(some 22), none, .call f_cadenzalaw33_example []⟩,
     ⟨(some 23), none, .call f_cadenzalaw33_reads [(.tmp 21), (.tmp 22)]⟩,
     ⟨(some 24), none, .op (.mv (.tmp 23))⟩,
     ⟨(some 25), (some (24, true)), .op (.mv (.tmp 1))⟩,
     ⟨(some 26), (some (24, true)), .op (.bslice t0 1 10 [.str []] [(0, 1, (.const (.string ⟨#[76, 73, 83, 84]⟩))), (1, 1, (.const (.string ⟨#[120]⟩))), (2, 1, (.const (.string ⟨#[102, 109, 116, 32]⟩))), (3, 1, (.tmp 25)), (4, 1, (.const (.string ⟨#[102, 97, 99, 116]⟩))), (5, 1, (.const (.string ⟨#[]⟩))), (6, 1, (.const (.string ⟨#[100, 97, 116, 97]⟩))), (7, 1, (.const (.string ⟨#[128, 127]⟩))), (8, 1, (.const (.string ⟨#[76, 73, 83, 84]⟩))), (9, 1, (.const (.string ⟨#[121, 122]⟩)))])⟩,
     ⟨(some 27), (some (24, true)), .call f_cadenzalaw33_file [(.const (.string ⟨#[87, 65, 86, 69]⟩)), (.tmp 26)]⟩,
     ⟨(some 28), (some (24, true)), .call f_cadenzalaw33_example []⟩,
     ⟨(some 29), (some (24, true)), .call f_cadenzalaw33_reads [(.tmp 27), (.tmp 28)]⟩,
     ⟨(some 30), none, .op (.pick (.tmp 24) (.tmp 29) (.const (.bool false)))⟩,
     ⟨(some 31), none, .op (.mv (.tmp 30))⟩,
     ⟨(some 32), (some (31, true)), .call f_cadenzalaw33_said [(.const (.int .i64 2)), (.const (.int .i64 24)), (.const (.int .i64 1))]⟩,
     ⟨(some 33), (some (31, true)), .op (.bslice t0 1 4 [.str []] [(0, 1, (.const (.string ⟨#[102, 109, 116, 32]⟩))), (1, 1, (.tmp 32)), (2, 1, (.const (.string ⟨#[100, 97, 116, 97]⟩))), (3, 1, (.const (.string ⟨#[0, 0, 128, 255, 255, 127]⟩)))])⟩,
     ⟨(some 34), (some (31, true)), .call f_cadenzalaw33_file [(.const (.string ⟨#[87, 65, 86, 69]⟩)), (.tmp 33)]⟩,
     ⟨(some 35), (some (31, true)), .op (.bslice t1 1 2 [.int .i32 0] [(0, 1, (.const (.int .i32 (-8388608)))), (1, 1, (.const (.int .i32 8388607)))])⟩,
     ⟨(some 36), (some (31, true)), .op (.build [.int .i64 0, .int .i64 0, .int .i64 0, .emp true] [(0, 1, (.const (.int .i64 2))), (1, 1, (.const (.int .i64 24))), (2, 1, (.const (.int .i64 1))), (3, 1, (.tmp 35))])⟩,
     ⟨(some 37), (some (31, true)), .call f_cadenzalaw33_reads [(.tmp 34), (.tmp 36)]⟩,
     ⟨(some 38), none, .op (.pick (.tmp 31) (.tmp 37) (.const (.bool false)))⟩,
     ⟨(some 39), none, .op (.mv (.tmp 38))⟩,
     ⟨(some 40), (some (39, true)), .op (.build [.int .i64 0, .int .i64 0, .int .i64 0] [(0, 1, (.const (.int .i64 1))), (1, 1, (.const (.int .i64 8))), (2, 1, (.const (.int .i64 8000)))])⟩,
     ⟨(some 41), (some (39, true)), .call f_cadenzaref32_Masked [(.tmp 40), (.const (.int .u32 0))]⟩,
     ⟨(some 42), (some (39, true)), .op (.conv .toStr (.tmp 41))⟩,
     ⟨(some 43), (some (39, true)), .op (.bslice t0 1 4 [.str []] [(0, 1, (.const (.string ⟨#[102, 109, 116, 32]⟩))), (1, 1, (.tmp 42)), (2, 1, (.const (.string ⟨#[100, 97, 116, 97]⟩))), (3, 1, (.const (.string ⟨#[128, 127]⟩)))])⟩,
     ⟨(some 44), (some (39, true)), .call f_cadenzalaw33_file [(.const (.string ⟨#[87, 65, 86, 69]⟩)), (.tmp 43)]⟩,
     ⟨(some 45), (some (39, true)), .call f_cadenzalaw33_example []⟩,
     ⟨(some 46), (some (39, true)), .call f_cadenzalaw33_reads [(.tmp 44), (.tmp 45)]⟩,
     ⟨(some 47), none, .op (.pick (.tmp 39) (.tmp 46) (.const (.bool false)))⟩,
     ⟨(some 2), none, .op (.mv (.tmp 47))⟩])
  (.seq (.reg [⟨(some 48), none, .op (.mv (.tmp 1))⟩,
     ⟨(some 49), none, .op (.bslice t0 1 4 [.str []] [(0, 1, (.const (.string ⟨#[102, 109, 116, 32]⟩))), (1, 1, (.tmp 48)), (2, 1, (.const (.string ⟨#[100, 97, 116, 97]⟩))), (3, 1, (.const (.string ⟨#[128]⟩)))])⟩,
     ⟨(some 50), none, .call f_cadenzalaw33_file [(.const (.string ⟨#[87, 65, 86, 88]⟩)), (.tmp 49)]⟩,
     ⟨(some 51), none, .call f_cadenzalaw33_fails [(.tmp 50), (.const (.int .i64 12))]⟩,
     ⟨(some 52), none, .op (.mv (.tmp 51))⟩,
     ⟨(some 53), (some (52, true)), .op (.mv (.tmp 1))⟩,
     ⟨(some 54), (some (52, true)), .op (.bslice t0 1 4 [.str []] [(0, 1, (.const (.string ⟨#[100, 97, 116, 97]⟩))), (1, 1, (.const (.string ⟨#[128]⟩))), (2, 1, (.const (.string ⟨#[102, 109, 116, 32]⟩))), (3, 1, (.tmp 53))])⟩,
     ⟨(some 55), (some (52, true)), .call f_cadenzalaw33_file [(.const (.string ⟨#[87, 65, 86, 69]⟩)), (.tmp 54)]⟩,
     ⟨(some 56), (some (52, true)), .call f_cadenzalaw33_fails [(.tmp 55), (.const (.int .i64 12))]⟩,
     ⟨(some 57), none, .op (.pick (.tmp 52) (.tmp 56) (.const (.bool false)))⟩,
     ⟨(some 58), none, .op (.mv (.tmp 57))⟩,
     ⟨(some 59), (some (58, true)), .op (.mv (.tmp 1))⟩,
     ⟨(some 60), (some (58, true)), .op (.mv (.tmp 1))⟩,
     ⟨(some 61), (some (58, true)), .op (.bslice t0 1 6 [.str []] [(0, 1, (.const (.string ⟨#[102, 109, 116, 32]⟩))), (1, 1, (.tmp 59)), (2, 1, (.const (.string ⟨#[102, 109, 116, 32]⟩))), (3, 1, (.tmp 60)), (4, 1, (.const (.string ⟨#[100, 97, 116, 97]⟩))), (5, 1, (.const (.string ⟨#[128]⟩)))])⟩,
     ⟨(some 62), (some (58, true)), .call f_cadenzalaw33_file [(.const (.string ⟨#[87, 65, 86, 69]⟩)), (.tmp 61)]⟩,
     ⟨(some 63), (some (58, true)), .call f_cadenzalaw33_fails [(.tmp 62), (.const (.int .i64 12))]⟩,
     ⟨(some 64), none, .op (.pick (.tmp 58) (.tmp 63) (.const (.bool false)))⟩,
     ⟨(some 65), none, .op (.mv (.tmp 64))⟩,
     ⟨(some 66), (some (65, true)), .op (.mv (.tmp 1))⟩,
     ⟨(some 67), (some (65, true)), .op (.bslice t0 1 6 [.str []] [(0, 1, (.const (.string ⟨#[102, 109, 116, 32]⟩))), (1, 1, (.tmp 66)), (2, 1, (.const (.string ⟨#[100, 97, 116, 97]⟩))), (3, 1, (.const (.string ⟨#[128]⟩))), (4, 1, (.const (.string ⟨#[100, 97, 116, 97]⟩))), (5, 1, (.const (.string ⟨#[128]⟩)))])⟩,
     ⟨(some 68), (some (65, true)), .call f_cadenzalaw33_file [(.const (.string ⟨#[87, 65, 86, 69]⟩)), (.tmp 67)]⟩,
     ⟨(some 69), (some (65, true)), .call f_cadenzalaw33_fails [(.tmp 68), (.const (.int .i64 12))]⟩,
     ⟨(some 70), none, .op (.pick (.tmp 65) (.tmp 69) (.const (.bool false)))⟩,
     ⟨(some 71), none, .op (.mv (.tmp 70))⟩,
     ⟨(some 72), (some (71, true)), .op (.mv (.tmp 1))⟩,
     ⟨(some 73), (some (71, true)), .op (.slices (.tmp 72) none (some (.const (.int .i64 15))))⟩,
     ⟨(some 74), (some (71, true)), .op (.bslice t0 1 4 [.str []] [(0, 1, (.const (.string ⟨#[102, 109, 116, 32]⟩))), (1, 1, (.tmp 73)), (2, 1, (.const (.string ⟨#[100, 97, 116, 97]⟩))), (3, 1, (.const (.string ⟨#[128]⟩)))])⟩,
     ⟨(some 75), (some (71, true)), .call f_cadenzalaw33_file [(.const (.string ⟨#[87, 65, 86, 69]⟩)), (.tmp 74)]⟩,
     ⟨(some 76), (some (71, true)), .call f_cadenzalaw33_fails [(.tmp 75), (.const (.int .i64 12))]⟩,
     ⟨(some 77), none, .op (.pick (.tmp 71) (.tmp 76) (.const (.bool false)))⟩,
     ⟨(some 78), none, .op (.mv (.tmp 77))⟩,
     ⟨(some 79), (some (78, true)), .op (.mv (.tmp 1))⟩,
     ⟨(some 80), (some (78, true)), .op (.bslice t0 1 4 [.str []] [(0, 1, (.const (.string ⟨#[102, 109, 116, 32]⟩))), (1, 1, (.tmp 79)), (2, 1, (.const (.string ⟨#[100, 97, 116, 97]⟩))), (3, 1, (.const (.string ⟨#[]⟩)))])⟩,
     ⟨(some 81), (some (78, true)), .call f_cadenzalaw33_file [(.const (.string ⟨#[87, 65, 86, 69]⟩)), (.tmp 80)]⟩,
     ⟨(some 82), (some (78, true)), .call f_cadenzalaw33_fails [(.tmp 81), (.const (.int .i64 12))]⟩,
     ⟨(some 83), none, .op (.pick (.tmp 78) (.tmp 82) (.const (.bool false)))⟩,
     ⟨(some 84), none, .op (.mv (.tmp 83))⟩,
     ⟨(some 85), (some (84, true)), .call f_cadenzalaw33_said [(.const (.int .i64 2)), (.const (.int .i64 8)), (.const (.int .i64 1))]⟩,
     ⟨(some 86), (some (84, true)), .op (.bslice t0 1 4 [.str []] [(0, 1, (.const (.string ⟨#[102, 109, 116, 32]⟩))), (1, 1, (.tmp 85)), (2, 1, (.const (.string ⟨#[100, 97, 116, 97]⟩))), (3, 1, (.const (.string ⟨#[97, 98, 99]⟩)))])⟩,
     ⟨(some 87), (some (84, true)), .call f_cadenzalaw33_file [(.const (.string ⟨#[87, 65, 86, 69]⟩)), (.tmp 86)]⟩,
     ⟨(some 88), (some (84, true)), .call f_cadenzalaw33_fails [(.tmp 87), (.const (.int .i64 12))]⟩,
     ⟨(some 89), none, .op (.pick (.tmp 84) (.tmp 88) (.const (.bool false)))⟩,
     ⟨(some 90), none, .op (.mv (.tmp 89))⟩,
     ⟨(some 91), (some (90, true)), .call f_cadenzalaw33_said [(.const (.int .i64 1)), (.const (.int .i64 24)), (.const (.int .i64 1))]⟩,
     ⟨(some 92), (some (90, true)), .op (.bslice t0 1 4 [.str []] [(0, 1, (.const (.string ⟨#[102, 109, 116, 32]⟩))), (1, 1, (.tmp 91)), (2, 1, (.const (.string ⟨#[100, 97, 116, 97]⟩))), (3, 1, (.const (.string ⟨#[97, 98, 99, 100]⟩)))])⟩,
     ⟨(some 93), (some (90, true)), .call f_cadenzalaw33_file [(.const (.string ⟨#[87, 65, 86, 69]⟩)), (.tmp 92)]⟩,
     ⟨(some 94), (some (90, true)), .call f_cadenzalaw33_fails [(.tmp 93), (.const (.int .i64 12))]⟩,
     ⟨(some 95), none, .op (.pick (.tmp 90) (.tmp 94) (.const (.bool false)))⟩,
     ⟨(some 3), none, .op (.mv (.tmp 95))⟩])
  (.seq (.reg [⟨(some 96), none, .call f_cadenzalaw33_file [(.const (.string ⟨#[87, 65, 86, 69]⟩)), (.const (.slice none 0 0))]⟩,
     ⟨(some 97), none, .call f_cadenzalaw33_fails [(.tmp 96), (.const (.int .i64 6))]⟩,
     ⟨(some 98), none, .op (.mv (.tmp 97))⟩,
     ⟨(some 99), (some (98, true)), .op (.bslice t0 1 2 [.str []] [(0, 1, (.const (.string ⟨#[102, 109, 116, 32]⟩))), (1, 1, (.const (.string ⟨#[120]⟩)))])⟩,
     ⟨(some 100), (some (98, true)), .call f_cadenzalaw33_file [(.const (.string ⟨#[87, 65, 86, 69]⟩)), (.tmp 99)]⟩,
     ⟨(some 101), (some (98, true)), .call f_cadenzalaw33_fails [(.tmp 100), (.const (.int .i64 6))]⟩,
     ⟨(some 102), none, .op (.pick (.tmp 98) (.tmp 101) (.const (.bool false)))⟩,
     ⟨(some 103), none, .op (.mv (.tmp 102))⟩,
     ⟨(some 104), (some (103, true)), .op (.bslice t0 1 2 [.str []] [(0, 1, (.const (.string ⟨#[100, 97, 116, 97]⟩))), (1, 1, (.const (.string ⟨#[120]⟩)))])⟩,
     ⟨(some 105), (some (103, true)), .call f_cadenzalaw33_file [(.const (.string ⟨#[87, 65, 86, 69]⟩)), (.tmp 104)]⟩,
     ⟨(some 106), (some (103, true)), .call f_cadenzalaw33_fails [(.tmp 105), (.const (.int .i64 6))]⟩,
     ⟨(some 107), none, .op (.pick (.tmp 103) (.tmp 106) (.const (.bool false)))⟩,
     ⟨(some 4), none, .op (.mv (.tmp 107))⟩])
  (.seq (.reg [⟨(some 108), none, .op (.mkslice t2 1 1 [.int .u8 0] (.const (.int .i64 4001)) (.const (.int .i64 4001)))⟩,
     ⟨(some 109), none, .op (.conv .toStr (.tmp 108))⟩,
     ⟨(some 5), none, .op (.mv (.tmp 109))⟩])
  (.seq (.draw [⟨0, false, ⟨(some 110), none, .op (.mv (.tmp 1))⟩⟩,
     ⟨0, false, ⟨(some 111), none, .op (.mv (.tmp 5))⟩⟩,
     ⟨0, true, ⟨(some 112), none, .op (.bslice t0 1 4 [.str []] [(0, 1, (.const (.string ⟨#[102, 109, 116, 32]⟩))), (1, 1, (.tmp 110)), (2, 1, (.const (.string ⟨#[100, 97, 116, 97]⟩))), (3, 1, (.tmp 111))])⟩⟩,
     ⟨1, false, ⟨(some 113), none, .call f_cadenzalaw33_file [(.const (.string ⟨#[87, 65, 86, 69]⟩)), (.tmp 112)]⟩⟩,
     ⟨1, false, ⟨(some 114), none, .call f_cadenzalaw33_fails [(.tmp 113), (.const (.int .i64 4))]⟩⟩,
     ⟨1, false, ⟨(some 115), none, .op (.mv (.tmp 114))⟩⟩,
     ⟨1, false, ⟨(some 116), (some (115, true)), .call f_cadenzalaw33_said [(.const (.int .i64 1)), (.const (.int .i64 8)), (.const (.int .i64 1))]⟩⟩,
     ⟨1, false, ⟨(some 117), (some (115, true)), .op (.mv (.tmp 5))⟩⟩,
     ⟨1, false, ⟨(some 118), (some (115, true)), .op (.slices (.tmp 117) none (some (.const (.int .i64 1001))))⟩⟩,
     ⟨1, true, ⟨(some 119), (some (115, true)), .op (.bslice t0 1 4 [.str []] [(0, 1, (.const (.string ⟨#[102, 109, 116, 32]⟩))), (1, 1, (.tmp 116)), (2, 1, (.const (.string ⟨#[100, 97, 116, 97]⟩))), (3, 1, (.tmp 118))])⟩⟩,
     ⟨2, false, ⟨(some 120), (some (115, true)), .call f_cadenzalaw33_file [(.const (.string ⟨#[87, 65, 86, 69]⟩)), (.tmp 119)]⟩⟩,
     ⟨2, false, ⟨(some 121), (some (115, true)), .call f_cadenzalaw33_fails [(.tmp 120), (.const (.int .i64 4))]⟩⟩,
     ⟨2, false, ⟨(some 122), none, .op (.pick (.tmp 115) (.tmp 121) (.const (.bool false)))⟩⟩,
     ⟨2, false, ⟨(some 6), none, .op (.mv (.tmp 122))⟩⟩] [ph, ph])
  (.seq (.reg [⟨(some 124), none, .op (.mv (.tmp 1))⟩,
     ⟨(some 125), none, .op (.mv (.tmp 5))⟩,
     ⟨(some 126), none, .op (.slices (.tmp 125) none (some (.const (.int .i64 4000))))⟩,
     ⟨(some 127), none, .op (.bslice t0 1 4 [.str []] [(0, 1, (.const (.string ⟨#[102, 109, 116, 32]⟩))), (1, 1, (.tmp 124)), (2, 1, (.const (.string ⟨#[100, 97, 116, 97]⟩))), (3, 1, (.tmp 126))])⟩,
     ⟨(some 128), none, .call f_cadenzalaw33_file [(.const (.string ⟨#[87, 65, 86, 69]⟩)), (.tmp 127)]⟩,
     ⟨(some 129), none, .call f_wav_Read [(.tmp 128)]⟩,
     ⟨(some 123), none, .op (.mv (.tmp 129))⟩,
     ⟨(some 130), none, .op (.extract (.tmp 123) 0)⟩,
     ⟨(some 131), none, .op (.extract (.tmp 123) 1)⟩,
     ⟨(some 7), none, .op (.alloc t3 [.int .i64 0, .int .i64 0, .int .i64 0, .emp true])⟩,
     ⟨none, none, .op (.store 4 (.tmp 7) (.tmp 130))⟩,
     ⟨(some 8), none, .op (.mv (.tmp 131))⟩])
  (.seq (.reg [⟨(some 133), none, .op (.build [.int .i64 0, .int .i64 0, .int .i64 0, .emp true] [])⟩,
     ⟨(some 134), none, .call f_wav_Write [(.tmp 133)]⟩,
     ⟨(some 132), none, .op (.mv (.tmp 134))⟩,
     ⟨(some 135), none, .op (.extract (.tmp 132) 0)⟩,
     ⟨(some 136), none, .op (.extract (.tmp 132) 1)⟩,
     ⟨(some 9), none, .op (.mv (.tmp 135))⟩,
     ⟨(some 10), none, .op (.mv (.tmp 136))⟩])
  (.seq (.reg [⟨(some 138), none, .op (.bslice t1 1 1 [.int .i32 0] [(0, 1, (.const (.int .i32 128)))])⟩,
     ⟨(some 139), none, .op (.build [.int .i64 0, .int .i64 0, .int .i64 0, .emp true] [(0, 1, (.const (.int .i64 1))), (1, 1, (.const (.int .i64 8))), (2, 1, (.const (.int .i64 1))), (3, 1, (.tmp 138))])⟩,
     ⟨(some 140), none, .call f_wav_Size [(.tmp 139)]⟩,
     ⟨(some 137), none, .op (.mv (.tmp 140))⟩,
     ⟨(some 141), none, .op (.extract (.tmp 137) 0)⟩,
     ⟨(some 142), none, .op (.extract (.tmp 137) 1)⟩,
     ⟨(some 11), none, .op (.mv (.tmp 141))⟩,
     ⟨(some 12), none, .op (.mv (.tmp 142))⟩])
  (.seq (.reg [⟨(some 144), none, .op (.bslice t1 1 1 [.int .i32 0] [(0, 1, (.const (.int .i32 5)))])⟩,
     ⟨(some 145), none, .op (.build [.int .i64 0, .int .i64 0, .int .i64 0, .emp true] [(0, 1, (.const (.int .i64 1))), (1, 1, (.const (.int .i64 24))), (2, 1, (.const (.int .i64 1))), (3, 1, (.tmp 144))])⟩,
     ⟨(some 146), none, .call f_wav_Size [(.tmp 145)]⟩,
     ⟨(some 143), none, .op (.mv (.tmp 146))⟩,
     ⟨(some 147), none, .op (.extract (.tmp 143) 0)⟩,
     ⟨(some 148), none, .op (.extract (.tmp 143) 1)⟩,
     ⟨(some 13), none, .op (.mv (.tmp 147))⟩,
     ⟨(some 14), none, .op (.mv (.tmp 148))⟩])
  (.seq (.reg [⟨(some 149), none, .op (.mv (.const (.bool true)))⟩,
     ⟨(some 150), (some (149, true)), .call f_cadenzalaw33_alive []⟩,
     ⟨(some 151), none, .op (.pick (.tmp 149) (.tmp 150) (.const (.bool false)))⟩,
     ⟨(some 152), none, .op (.mv (.tmp 151))⟩,
     ⟨(some 153), (some (152, true)), .op (.mv (.tmp 2))⟩,
     ⟨(some 154), none, .op (.pick (.tmp 152) (.tmp 153) (.const (.bool false)))⟩,
     ⟨(some 155), none, .op (.mv (.tmp 154))⟩,
     ⟨(some 156), (some (155, true)), .op (.mv (.tmp 3))⟩,
     ⟨(some 157), none, .op (.pick (.tmp 155) (.tmp 156) (.const (.bool false)))⟩,
     ⟨(some 158), none, .op (.mv (.tmp 157))⟩,
     ⟨(some 159), (some (158, true)), .op (.mv (.tmp 4))⟩,
     ⟨(some 160), none, .op (.pick (.tmp 158) (.tmp 159) (.const (.bool false)))⟩,
     ⟨(some 161), none, .op (.mv (.tmp 160))⟩,
     ⟨(some 162), (some (161, true)), .op (.mv (.tmp 6))⟩,
     ⟨(some 163), none, .op (.pick (.tmp 161) (.tmp 162) (.const (.bool false)))⟩,
     ⟨(some 164), none, .op (.mv (.tmp 163))⟩,
     ⟨(some 165), (some (164, true)), .call f_cadenzalaw33_fails [(.const (.slice none 0 0)), (.const (.int .i64 24))]⟩,
     ⟨(some 166), none, .op (.pick (.tmp 164) (.tmp 165) (.const (.bool false)))⟩,
     ⟨(some 167), none, .op (.mv (.tmp 166))⟩,
     ⟨(some 168), (some (167, true)), .op (.mv (.tmp 1))⟩,
     ⟨(some 169), (some (167, true)), .op (.bslice t0 1 4 [.str []] [(0, 1, (.const (.string ⟨#[102, 109, 116, 32]⟩))), (1, 1, (.tmp 168)), (2, 1, (.const (.string ⟨#[100, 97, 116, 97]⟩))), (3, 1, (.const (.string ⟨#[128]⟩)))])⟩,
     ⟨(some 170), (some (167, true)), .call f_cadenzalaw33_file [(.const (.string ⟨#[87, 65, 86, 69]⟩)), (.tmp 169)]⟩,
     ⟨(some 171), (some (167, true)), .op (.bslice t2 1 1 [.int .u8 0] [(0, 1, (.const (.int .u8 0)))])⟩,
     ⟨(some 172), (some (167, true)), .op (.append t2 1 1 false (.tmp 170) (.tmp 171))⟩,
     ⟨(some 173), (some (167, true)), .call f_cadenzalaw33_fails [(.tmp 172), (.const (.int .i64 38))]⟩,
     ⟨(some 174), none, .op (.pick (.tmp 167) (.tmp 173) (.const (.bool false)))⟩,
     ⟨(some 175), none, .op (.mv (.tmp 174))⟩,
     ⟨(some 176), (some (175, true)), .op (.mv (.tmp 8))⟩,
     ⟨(some 177), (some (175, true)), .op (.bin .eql (.tmp 176) (.const (.int .i64 0)))⟩,
     ⟨(some 178), none, .op (.pick (.tmp 175) (.tmp 177) (.const (.bool false)))⟩,
     ⟨(some 179), none, .op (.mv (.tmp 178))⟩,
     ⟨(some 180), (some (179, true)), .op (.faddr 3 (.tmp 7))⟩,
     ⟨(some 181), (some (179, true)), .op (.load none (.tmp 180))⟩,
     ⟨(some 182), (some (179, true)), .op (.len none (.tmp 181))⟩,
     ⟨(some 183), (some (179, true)), .op (.bin .eql (.tmp 182) (.const (.int .i64 4000)))⟩,
     ⟨(some 184), none, .op (.pick (.tmp 179) (.tmp 183) (.const (.bool false)))⟩,
     ⟨(some 185), none, .op (.mv (.tmp 184))⟩,
     ⟨(some 186), (some (185, true)), .op (.faddr 3 (.tmp 7))⟩,
     ⟨(some 187), (some (185, true)), .op (.load none (.tmp 186))⟩,
     ⟨(some 188), (some (185, true)), .op (.iaddr (.slice 1) (.tmp 187) (.const (.int .i64 0)))⟩,
     ⟨(some 189), (some (185, true)), .op (.load none (.tmp 188))⟩,
     ⟨(some 190), (some (185, true)), .op (.bin .eql (.tmp 189) (.const (.int .i32 (-128))))⟩,
     ⟨(some 191), none, .op (.pick (.tmp 185) (.tmp 190) (.const (.bool false)))⟩,
     ⟨(some 192), none, .op (.mv (.tmp 191))⟩,
     ⟨(some 193), (some (192, true)), .op (.mv (.tmp 10))⟩,
     ⟨(some 194), (some (192, true)), .op (.build [.int .i64 0, .int .i64 0, .int .i64 0, .emp true] [])⟩,
     ⟨(some 195), (some (192, true)), .call f_cadenzaref24_Check [(.tmp 194)]⟩,
     ⟨(some 196), (some (192, true)), .op (.bin .eql (.tmp 193) (.tmp 195))⟩,
     ⟨(some 197), none, .op (.pick (.tmp 192) (.tmp 196) (.const (.bool false)))⟩,
     ⟨(some 198), none, .op (.mv (.tmp 197))⟩,
     ⟨(some 199), (some (198, true)), .op (.mv (.tmp 10))⟩,
     ⟨(some 200), (some (198, true)), .op (.bin .neq (.tmp 199) (.const (.int .i64 0)))⟩,
     ⟨(some 201), none, .op (.pick (.tmp 198) (.tmp 200) (.const (.bool false)))⟩,
     ⟨(some 202), none, .op (.mv (.tmp 201))⟩,
     ⟨(some 203), (some (202, true)), .op (.mv (.tmp 12))⟩,
     ⟨(some 204), (some (202, true)), .op (.bin .neq (.tmp 203) (.const (.int .i64 0)))⟩,
     ⟨(some 205), none, .op (.pick (.tmp 202) (.tmp 204) (.const (.bool false)))⟩,
     ⟨(some 206), none, .op (.mv (.tmp 205))⟩,
     ⟨(some 207), (some (206, true)), .op (.mv (.tmp 14))⟩,
     ⟨(some 208), (some (206, true)), .op (.bin .eql (.tmp 207) (.const (.int .i64 0)))⟩,
     ⟨(some 209), none, .op (.pick (.tmp 206) (.tmp 208) (.const (.bool false)))⟩,
     ⟨(some 210), none, .op (.mv (.tmp 209))⟩,
     ⟨(some 211), (some (210, true)), .op (.mv (.tmp 13))⟩,
     ⟨(some 212), (some (210, true)), .op (.bin .eql (.tmp 211) (.const (.int .i64 72)))⟩,
     ⟨(some 213), none, .op (.pick (.tmp 210) (.tmp 212) (.const (.bool false)))⟩,
     ⟨(some 0), none, .op (.mv (.tmp 213))⟩])
  (.ret)))))))))))))

def ac_wav_Read (f_riff_Read f_wav_only f_fmtchunk_Read f_width_Samples f_clip_Check t0 t1 : Nat) : AC :=
  .seq (.reg [⟨(some 2), none, .op (.alloc t0 [.int .i64 0, .int .i64 0, .int .i64 0, .emp true])⟩,
     ⟨(some 3), none, .op (.mv (.const (.int .i64 0)))⟩])
  (.seq (.reg [⟨(some 15), none, .op (.mv (.tmp 0))⟩,
     ⟨(some 16), none, .call f_riff_Read [(.tmp 15)]⟩,
     ⟨(some 14), none, .op (.mv (.tmp 16))⟩,
     ⟨(some 17), none, .op (.extract (.tmp 14) 0)⟩,
     ⟨(some 18), none, .op (.extract (.tmp 14) 1)⟩,
     ⟨(some 19), none, .op (.extract (.tmp 14) 2)⟩,
     ⟨(some 4), none, .op (.mv (.tmp 17))⟩,
     ⟨(some 5), none, .op (.mv (.tmp 18))⟩,
     ⟨(some 6), none, .op (.mv (.tmp 19))⟩])
  (.seq (.seq (.reg [⟨(some 20), none, .op (.mv (.tmp 6))⟩,
      ⟨(some 21), none, .op (.bin .neq (.tmp 20) (.const (.int .i64 0)))⟩])
   (.cond (.tmp 21)
     (.seq (.reg [⟨(some 22), none, .op (.build [.int .i64 0, .int .i64 0, .int .i64 0, .emp true] [])⟩,
        ⟨(some 23), none, .op (.mv (.tmp 6))⟩,
        ⟨none, none, .op (.store 4 (.tmp 2) (.tmp 22))⟩,
        ⟨(some 3), none, .op (.mv (.tmp 23))⟩])
     (.ret))
     (.skip)))
  (.seq (.seq (.reg [⟨(some 24), none, .op (.mv (.tmp 4))⟩,
      ⟨(some 25), none, .op (.bin .neq (.tmp 24) (.const (.string ⟨#[87, 65, 86, 69]⟩)))⟩])
   (.cond (.tmp 25)
     (.seq (.reg [⟨(some 26), none, .op (.build [.int .i64 0, .int .i64 0, .int .i64 0, .emp true] [])⟩,
        ⟨none, none, .op (.store 4 (.tmp 2) (.tmp 26))⟩,
        ⟨(some 3), none, .op (.mv (.const (.int .i64 12)))⟩])
     (.ret))
     (.skip)))
  (.seq (.reg [⟨(some 28), none, .op (.mv (.tmp 5))⟩,
     ⟨(some 29), none, .call f_wav_only [(.tmp 28), (.const (.string ⟨#[102, 109, 116, 32]⟩))]⟩,
     ⟨(some 27), none, .op (.mv (.tmp 29))⟩,
     ⟨(some 30), none, .op (.extract (.tmp 27) 0)⟩,
     ⟨(some 31), none, .op (.extract (.tmp 27) 1)⟩,
     ⟨(some 7), none, .op (.mv (.tmp 30))⟩,
     ⟨(some 6), none, .op (.mv (.tmp 31))⟩])
  (.seq (.reg [⟨(some 33), none, .op (.mv (.tmp 5))⟩,
     ⟨(some 34), none, .call f_wav_only [(.tmp 33), (.const (.string ⟨#[100, 97, 116, 97]⟩))]⟩,
     ⟨(some 32), none, .op (.mv (.tmp 34))⟩,
     ⟨(some 35), none, .op (.extract (.tmp 32) 0)⟩,
     ⟨(some 36), none, .op (.extract (.tmp 32) 1)⟩,
     ⟨(some 8), none, .op (.mv (.tmp 35))⟩,
     ⟨(some 9), none, .op (.mv (.tmp 36))⟩])
  (.seq (.block 0 (.seq (.reg [⟨(some 38), none, .op (.mv (.tmp 6))⟩,
       ⟨(some 39), none, .op (.bin .eql (.tmp 38) (.const (.int .i64 6)))⟩,
       ⟨(some 40), none, .op (.mv (.tmp 39))⟩,
       ⟨(some 41), (some (40, false)), .op (.mv (.tmp 9))⟩,
       ⟨(some 42), (some (40, false)), .op (.bin .eql (.tmp 41) (.const (.int .i64 6)))⟩,
       ⟨(some 43), none, .op (.pick (.tmp 40) (.const (.bool true)) (.tmp 42))⟩,
       ⟨(some 37), none, .op (.mv (.tmp 43))⟩])
    (.cond (.tmp 37)
      (.seq (.reg [⟨(some 44), none, .op (.build [.int .i64 0, .int .i64 0, .int .i64 0, .emp true] [])⟩,
         ⟨none, none, .op (.store 4 (.tmp 2) (.tmp 44))⟩,
         ⟨(some 3), none, .op (.mv (.const (.int .i64 6)))⟩])
      (.ret))
      (.seq (.reg [⟨(some 46), none, .op (.mv (.tmp 6))⟩,
         ⟨(some 47), none, .op (.bin .neq (.tmp 46) (.const (.int .i64 0)))⟩,
         ⟨(some 48), none, .op (.mv (.tmp 47))⟩,
         ⟨(some 49), (some (48, false)), .op (.mv (.tmp 9))⟩,
         ⟨(some 50), (some (48, false)), .op (.bin .neq (.tmp 49) (.const (.int .i64 0)))⟩,
         ⟨(some 51), none, .op (.pick (.tmp 48) (.const (.bool true)) (.tmp 50))⟩,
         ⟨(some 52), none, .op (.mv (.tmp 51))⟩,
         ⟨(some 53), (some (52, false)), .op (.mv (.tmp 7))⟩,
         ⟨(some 54), (some (52, false)), .op (.mv (.tmp 8))⟩,
         ⟨(some 55), (some (52, false)), .op (.bin .gtr (.tmp 53) (.tmp 54))⟩,
         ⟨(some 56), none, .op (.pick (.tmp 52) (.const (.bool true)) (.tmp 55))⟩,
         ⟨(some 45), none, .op (.mv (.tmp 56))⟩])
      (.cond (.tmp 45)
        (.seq (.reg [⟨(some 57), none, .op (.build [.int .i64 0, .int .i64 0, .int .i64 0, .emp true] [])⟩,
           ⟨none, none, .op (.store 4 (.tmp 2) (.tmp 57))⟩,
           ⟨(some 3), none, .op (.mv (.const (.int .i64 12)))⟩])
        (.ret))
        (.skip))))))
  (.seq (.reg [⟨(some 59), none, .op (.mv (.tmp 5))⟩,
     ⟨(some 60), none, .op (.mv (.tmp 7))⟩,
     ⟨(some 61), none, .op (.iaddr (.slice 2) (.tmp 59) (.tmp 60))⟩,
     ⟨(some 62), none, .op (.faddr 1 (.tmp 61))⟩,
     ⟨(some 63), none, .op (.load none (.tmp 62))⟩,
     ⟨(some 64), none, .call f_fmtchunk_Read [(.tmp 63)]⟩,
     ⟨(some 58), none, .op (.mv (.tmp 64))⟩,
     ⟨(some 65), none, .op (.extract (.tmp 58) 0)⟩,
     ⟨(some 66), none, .op (.extract (.tmp 58) 1)⟩,
     ⟨(some 10), none, .op (.alloc t1 [.int .i64 0, .int .i64 0, .int .i64 0])⟩,
     ⟨none, none, .op (.store 3 (.tmp 10) (.tmp 65))⟩,
     ⟨(some 6), none, .op (.mv (.tmp 66))⟩])
  (.seq (.seq (.reg [⟨(some 67), none, .op (.mv (.tmp 6))⟩,
      ⟨(some 68), none, .op (.bin .neq (.tmp 67) (.const (.int .i64 0)))⟩])
   (.cond (.tmp 68)
     (.seq (.reg [⟨(some 69), none, .op (.build [.int .i64 0, .int .i64 0, .int .i64 0, .emp true] [])⟩,
        ⟨(some 70), none, .op (.mv (.tmp 6))⟩,
        ⟨none, none, .op (.store 4 (.tmp 2) (.tmp 69))⟩,
        ⟨(some 3), none, .op (.mv (.tmp 70))⟩])
     (.ret))
     (.skip)))
  (.seq (.reg [⟨(some 71), none, .op (.mv (.tmp 5))⟩,
     ⟨(some 72), none, .op (.mv (.tmp 8))⟩,
     ⟨(some 73), none, .op (.iaddr (.slice 2) (.tmp 71) (.tmp 72))⟩,
     ⟨(some 74), none, .op (.faddr 1 (.tmp 73))⟩,
     ⟨(some 75), none, .op (.load none (.tmp 74))⟩,
     ⟨(some 11), none, .op (.mv (.tmp 75))⟩])
  (.seq (.seq (.reg [⟨(some 76), none, .op (.mv (.tmp 11))⟩,
      ⟨(some 77), none, .op (.len none (.tmp 76))⟩,
      ⟨(some 12), none, .op (.mv (.tmp 77))⟩])
   (.seq (.reg [⟨(some 78), none, .op (.mv (.tmp 12))⟩,
      ⟨(some 79), none, .op (.bin .eql (.tmp 78) (.const (.int .i64 0)))⟩,
      ⟨(some 80), none, .op (.mv (.tmp 79))⟩,
      ⟨(some 81), (some (80, false)), .op (.mv (.tmp 12))⟩,
      ⟨(some 82), (some (80, false)), .op (.faddr 0 (.tmp 10))⟩,
      ⟨(some 83), (some (80, false)), .op (.load none (.tmp 82))⟩,
      ⟨(some 84), (some (80, false)), .op (.faddr 1 (.tmp 10))⟩,
      ⟨(some 85), (some (80, false)), .op (.load none (.tmp 84))⟩,
      ⟨(some 86), (some (80, false)), .op (.bin .mul (.tmp 83) (.tmp 85))⟩,
      ⟨(some 87), (some (80, false)), .op (.bin .quo (.tmp 86) (.const (.int .i64 8)))⟩,
      ⟨(some 88), (some (80, false)), .op (.bin .rem (.tmp 81) (.tmp 87))⟩,
      ⟨(some 89), (some (80, false)), .op (.bin .gtr (.tmp 88) (.const (.int .i64 0)))⟩,
      ⟨(some 90), none, .op (.pick (.tmp 80) (.const (.bool true)) (.tmp 89))⟩])
   (.cond (.tmp 90)
     (.seq (.reg [⟨(some 91), none, .op (.build [.int .i64 0, .int .i64 0, .int .i64 0, .emp true] [])⟩,
        ⟨none, none, .op (.store 4 (.tmp 2) (.tmp 91))⟩,
        ⟨(some 3), none, .op (.mv (.const (.int .i64 12)))⟩])
     (.ret))
     (.skip))))
  (.seq (.reg [⟨(some 92), none, .op (.faddr 0 (.tmp 10))⟩,
     ⟨(some 93), none, .op (.load none (.tmp 92))⟩,
     ⟨(some 94), none, .op (.faddr 1 (.tmp 10))⟩,
     ⟨(some 95), none, .op (.load none (.tmp 94))⟩,
     ⟨(some 96), none, .op (.faddr 2 (.tmp 10))⟩,
     ⟨(some 97), none, .op (.load none (.tmp 96))⟩,
     ⟨(some 98), none, .op (.build [.int .i64 0, .int .i64 0, .int .i64 0, .emp true] [(0, 1, (.tmp 93)), (1, 1, (.tmp 95)), (2, 1, (.tmp 97))])⟩,
     ⟨(some 13), none, .op (.alloc t0 [.int .i64 0, .int .i64 0, .int .i64 0, .emp true])⟩,
     ⟨none, none, .op (.store 4 (.tmp 13) (.tmp 98))⟩])
  (.seq (.seq (.reg [⟨(some 100), none, .op (.faddr 1 (.tmp 10))⟩,
      ⟨(some 101), none, .op (.load none (.tmp 100))⟩,
      ⟨(some 102), none, .op (.mv (.tmp 11))⟩,
      ⟨(some 103), none, .call f_width_Samples [(.tmp 101), (.tmp 102)]⟩,
      ⟨(some 99), none, .op (.mv (.tmp 103))⟩,
      ⟨(some 104), none, .op (.extract (.tmp 99) 0)⟩,
      ⟨(some 105), none, .op (.extract (.tmp 99) 1)⟩,
      ⟨(some 106), none, .op (.faddr 3 (.tmp 13))⟩,
      ⟨none, none, .op (.store 1 (.tmp 106) (.tmp 104))⟩,
      ⟨(some 6), none, .op (.mv (.tmp 105))⟩])
   (.seq (.reg [⟨(some 107), none, .op (.mv (.tmp 6))⟩,
      ⟨(some 108), none, .op (.bin .neq (.tmp 107) (.const (.int .i64 0)))⟩,
      ⟨(some 109), none, .op (.mv (.tmp 108))⟩,
      ⟨(some 110), (some (109, false)), .op (.load (some 4) (.tmp 13))⟩,
      ⟨(some 111), (some (109, false)), .call f_clip_Check [(.tmp 110)]⟩,
      ⟨(some 112), (some (109, false)), .op (.bin .neq (.tmp 111) (.const (.int .i64 0)))⟩,
      ⟨(some 113), none, .op (.pick (.tmp 109) (.const (.bool true)) (.tmp 112))⟩])
   (.cond (.tmp 113)
     (.seq (.reg [⟨(some 114), none, .op (.build [.int .i64 0, .int .i64 0, .int .i64 0, .emp true] [])⟩,
        ⟨none, none, .op (.store 4 (.tmp 2) (.tmp 114))⟩,
        ⟨(some 3), none, .op (.mv (.const (.int .i64 4)))⟩])
     (.ret))
     (.skip))))
  (.seq (.reg [⟨(some 115), none, .op (.load (some 4) (.tmp 13))⟩,
     ⟨none, none, .op (.store 4 (.tmp 2) (.tmp 115))⟩,
     ⟨(some 3), none, .op (.mv (.const (.int .i64 0)))⟩])
  (.ret))))))))))))))

def ac_cadenzaref33_Same (t0 : Nat) : AC :=
  .seq (.reg [⟨(some 2), none, .op (.box t0 4 (.tmp 0))⟩,
     ⟨(some 3), none, .op (.box t0 4 (.tmp 1))⟩,
     ⟨(some 4), none, .op (.mv (.const (.bool false)))⟩])
  (.seq (.seq (.reg [⟨(some 6), none, .op (.faddr 0 (.tmp 2))⟩,
      ⟨(some 7), none, .op (.load none (.tmp 6))⟩,
      ⟨(some 8), none, .op (.faddr 0 (.tmp 3))⟩,
      ⟨(some 9), none, .op (.load none (.tmp 8))⟩,
      ⟨(some 10), none, .op (.bin .neq (.tmp 7) (.tmp 9))⟩,
      ⟨(some 11), none, .op (.mv (.tmp 10))⟩,
      ⟨(some 12), (some (11, false)), .op (.faddr 1 (.tmp 2))⟩,
      ⟨(some 13), (some (11, false)), .op (.load none (.tmp 12))⟩,
      ⟨(some 14), (some (11, false)), .op (.faddr 1 (.tmp 3))⟩,
      ⟨(some 15), (some (11, false)), .op (.load none (.tmp 14))⟩,
      ⟨(some 16), (some (11, false)), .op (.bin .neq (.tmp 13) (.tmp 15))⟩,
      ⟨(some 17), none, .op (.pick (.tmp 11) (.const (.bool true)) (.tmp 16))⟩,
      ⟨(some 18), none, .op (.mv (.tmp 17))⟩,
      ⟨(some 19), (some (18, false)), .op (.faddr 2 (.tmp 2))⟩,
      ⟨(some 20), (some (18, false)), .op (.load none (.tmp 19))⟩,
      ⟨(some 21), (some (18, false)), .op (.faddr 2 (.tmp 3))⟩,
      ⟨(some 22), (some (18, false)), .op (.load none (.tmp 21))⟩,
      ⟨(some 23), (some (18, false)), .op (.bin .neq (.tmp 20) (.tmp 22))⟩,
      ⟨(some 24), none, .op (.pick (.tmp 18) (.const (.bool true)) (.tmp 23))⟩,
      ⟨(some 25), none, .op (.mv (.tmp 24))⟩,
      ⟨(some 26), (some (25, false)), .op (.faddr 3 (.tmp 2))⟩,
      ⟨(some 27), (some (25, false)), .op (.load none (.tmp 26))⟩,
      ⟨(some 28), (some (25, false)), .op (.len none (.tmp 27))⟩,
      ⟨(some 29), (some (25, false)), .op (.faddr 3 (.tmp 3))⟩,
      ⟨(some 30), (some (25, false)), .op (.load none (.tmp 29))⟩,
      ⟨(some 31), (some (25, false)), .op (.len none (.tmp 30))⟩,
      ⟨(some 32), (some (25, false)), .op (.bin .neq (.tmp 28) (.tmp 31))⟩,
      ⟨(some 33), none, .op (.pick (.tmp 25) (.const (.bool true)) (.tmp 32))⟩])
   (.cond (.tmp 33)
     (.seq (.reg [⟨(some 4), none, .op (.mv (.const (.bool false)))⟩])
     (.ret))
     (.skip)))
  (.seq (.seq (.reg [⟨(some 5), none, .op (.mv (.const (.int .i64 0)))⟩])
   (.block 0 (.loop (.seq (.seq (.reg [⟨(some 34), none, .op (.mv (.tmp 5))⟩,
         ⟨(some 35), none, .op (.faddr 3 (.tmp 2))⟩,
         ⟨(some 36), none, .op (.load none (.tmp 35))⟩,
         ⟨(some 37), none, .op (.len none (.tmp 36))⟩,
         ⟨(some 38), none, .op (.bin .lss (.tmp 34) (.tmp 37))⟩])
      (.cond (.tmp 38)
        (.skip)
        (.exit 0)))
     (.seq (.block 1 (.seq (.draw [⟨0, false, ⟨(some 41), none, .op (.faddr 3 (.tmp 2))⟩⟩,
          ⟨0, false, ⟨(some 42), none, .op (.load none (.tmp 41))⟩⟩,
          ⟨0, false, ⟨(some 43), none, .op (.mv (.tmp 5))⟩⟩,
          ⟨0, false, ⟨(some 44), none, .op (.iaddr (.slice 1) (.tmp 42) (.tmp 43))⟩⟩,
          ⟨0, false, ⟨(some 45), none, .op (.load none (.tmp 44))⟩⟩,
          ⟨0, false, ⟨(some 46), none, .op (.faddr 3 (.tmp 3))⟩⟩,
          ⟨0, false, ⟨(some 47), none, .op (.load none (.tmp 46))⟩⟩,
          ⟨0, false, ⟨(some 48), none, .op (.mv (.tmp 5))⟩⟩,
          ⟨0, false, ⟨(some 49), none, .op (.iaddr (.slice 1) (.tmp 47) (.tmp 48))⟩⟩,
          ⟨0, false, ⟨(some 50), none, .op (.load none (.tmp 49))⟩⟩,
          ⟨0, false, ⟨(some 51), none, .op (.bin .neq (.tmp 45) (.tmp 50))⟩⟩] [])
       (.cond (.tmp 51)
         (.seq (.reg [⟨(some 4), none, .op (.mv (.const (.bool false)))⟩])
         (.ret))
         (.skip))))
     (.reg [⟨(some 39), none, .op (.mv (.tmp 5))⟩,
       ⟨(some 40), none, .op (.bin .add (.tmp 39) (.const (.int .i64 1)))⟩,
       ⟨(some 5), none, .op (.mv (.tmp 40))⟩]))))))
  (.seq (.reg [⟨(some 4), none, .op (.mv (.const (.bool true)))⟩])
  (.ret))))

def ac_wav_Write (f_clip_Check f_fmtchunk_Write f_width_Bytes f_riff_Write t0 t1 : Nat) : AC :=
  .seq (.reg [⟨(some 1), none, .op (.box t0 4 (.tmp 0))⟩,
     ⟨(some 2), none, .op (.mv (.const (.slice none 0 0)))⟩,
     ⟨(some 3), none, .op (.mv (.const (.int .i64 0)))⟩])
  (.seq (.seq (.reg [⟨(some 9), none, .op (.load (some 4) (.tmp 1))⟩,
      ⟨(some 10), none, .call f_clip_Check [(.tmp 9)]⟩,
      ⟨(some 4), none, .op (.mv (.tmp 10))⟩])
   (.seq (.reg [⟨(some 11), none, .op (.mv (.tmp 4))⟩,
      ⟨(some 12), none, .op (.bin .neq (.tmp 11) (.const (.int .i64 0)))⟩])
   (.cond (.tmp 12)
     (.seq (.reg [⟨(some 13), none, .op (.mv (.tmp 4))⟩,
        ⟨(some 2), none, .op (.mv (.const (.slice none 0 0)))⟩,
        ⟨(some 3), none, .op (.mv (.tmp 13))⟩])
     (.ret))
     (.skip))))
  (.seq (.reg [⟨(some 15), none, .op (.faddr 0 (.tmp 1))⟩,
     ⟨(some 16), none, .op (.load none (.tmp 15))⟩,
     ⟨(some 17), none, .op (.faddr 1 (.tmp 1))⟩,
     ⟨(some 18), none, .op (.load none (.tmp 17))⟩,
     ⟨(some 19), none, .op (.faddr 2 (.tmp 1))⟩,
     ⟨(some 20), none, .op (.load none (.tmp 19))⟩,
     ⟨(some 21), none, .op (.build [.int .i64 0, .int .i64 0, .int .i64 0] [(0, 1, (.tmp 16)), (1, 1, (.tmp 18)), (2, 1, (.tmp 20))])⟩,
     ⟨(some 22), none, .call f_fmtchunk_Write [(.tmp 21)]⟩,
     ⟨(some 14), none, .op (.mv (.tmp 22))⟩,
     ⟨(some 23), none, .op (.extract (.tmp 14) 0)⟩,
     ⟨(some 24), none, .op (.extract (.tmp 14) 1)⟩,
     ⟨(some 5), none, .op (.mv (.tmp 23))⟩,
     ⟨(some 6), none, .op (.mv (.tmp 24))⟩])
  (.seq (.reg [⟨(some 26), none, .op (.faddr 1 (.tmp 1))⟩,
     ⟨(some 27), none, .op (.load none (.tmp 26))⟩,
     ⟨(some 28), none, .op (.faddr 3 (.tmp 1))⟩,
     ⟨(some 29), none, .op (.load none (.tmp 28))⟩,
     ⟨(some 30), none, .call f_width_Bytes [(.tmp 27), (.tmp 29)]⟩,
     ⟨(some 25), none, .op (.mv (.tmp 30))⟩,
     ⟨(some 31), none, .op (.extract (.tmp 25) 0)⟩,
     ⟨(some 32), none, .op (.extract (.tmp 25) 1)⟩,
     ⟨(some 7), none, .op (.mv (.tmp 31))⟩,
     ⟨(some 8), none, .op (.mv (.tmp 32))⟩])
  (.seq (.reg [⟨(some 33), none, .op (.mv (.tmp 5))⟩,
     ⟨(some 34), none, .op (.build [.str [], .emp true] [(0, 1, (.const (.string ⟨#[102, 109, 116, 32]⟩))), (1, 1, (.tmp 33))])⟩,
     ⟨(some 35), none, .op (.mv (.tmp 7))⟩,
     ⟨(some 36), none, .op (.build [.str [], .emp true] [(0, 1, (.const (.string ⟨#[100, 97, 116, 97]⟩))), (1, 1, (.tmp 35))])⟩,
     ⟨(some 37), none, .op (.bslice t1 2 2 [.str [], .emp true] [(0, 2, (.tmp 34)), (2, 2, (.tmp 36))])⟩,
     ⟨(some 38), none, .call f_riff_Write [(.const (.string ⟨#[87, 65, 86, 69]⟩)), (.tmp 37)]⟩,
     ⟨(some 39), none, .op (.extract (.tmp 38) 0)⟩,
     ⟨(some 40), none, .op (.extract (.tmp 38) 1)⟩,
     ⟨(some 2), none, .op (.mv (.tmp 39))⟩,
     ⟨(some 3), none, .op (.mv (.tmp 40))⟩])
  (.ret)))))

def ac_wav_Size (f_wav_Write t0 : Nat) : AC :=
  .seq (.reg [⟨(some 1), none, .op (.box t0 4 (.tmp 0))⟩,
     ⟨(some 2), none, .op (.mv (.const (.int .i64 0)))⟩,
     ⟨(some 3), none, .op (.mv (.const (.int .i64 0)))⟩])
  (.seq (.reg [⟨(some 7), none, .op (.load (some 4) (.tmp 1))⟩,
     ⟨(some 8), none, .call f_wav_Write [(.tmp 7)]⟩,
     ⟨(some 6), none, .op (.mv (.tmp 8))⟩,
     ⟨(some 9), none, .op (.extract (.tmp 6) 0)⟩,
     ⟨(some 10), none, .op (.extract (.tmp 6) 1)⟩,
     ⟨(some 4), none, .op (.mv (.tmp 9))⟩,
     ⟨(some 5), none, .op (.mv (.tmp 10))⟩])
  (.seq (.reg [⟨(some 11), none, .op (.mv (.tmp 4))⟩,
     ⟨(some 12), none, .op (.len none (.tmp 11))⟩,
     ⟨(some 13), none, .op (.mv (.tmp 5))⟩,
     ⟨(some 2), none, .op (.mv (.tmp 12))⟩,
     ⟨(some 3), none, .op (.mv (.tmp 13))⟩])
  (.ret)))

def ac_cadenzalaw33_alive (f_cadenzalaw33_example f_wav_Write f_cadenzalaw33_reads : Nat) : AC :=
  .seq (.reg [⟨(some 0), none, .op (.mv (.const (.bool false)))⟩])
  (.seq (.reg [⟨(some 4), none, .call f_cadenzalaw33_example []⟩,
     ⟨(some 5), none, .call f_wav_Write [(.tmp 4)]⟩,
     ⟨(some 3), none, .op (.mv (.tmp 5))⟩,
     ⟨(some 6), none, .op (.extract (.tmp 3) 0)⟩,
     ⟨(some 7), none, .op (.extract (.tmp 3) 1)⟩,
     ⟨(some 1), none, .op (.mv (.tmp 6))⟩,
     ⟨(some 2), none, .op (.mv (.tmp 7))⟩])
  (.seq (.reg [⟨(some 8), none, .op (.mv (.tmp 2))⟩,
     ⟨(some 9), none, .op (.bin .eql (.tmp 8) (.const (.int .i64 0)))⟩,
     ⟨(some 10), none, .op (.mv (.tmp 9))⟩,
     ⟨(some 11), (some (10, true)), .op (.mv (.tmp 1))⟩,
     ⟨(some 12), (some (10, true)), .op (.len none (.tmp 11))⟩,
     ⟨(some 13), (some (10, true)), .op (.bin .eql (.tmp 12) (.const (.int .i64 46)))⟩,
     ⟨(some 14), none, .op (.pick (.tmp 10) (.tmp 13) (.const (.bool false)))⟩,
     ⟨(some 15), none, .op (.mv (.tmp 14))⟩,
     ⟨(some 16), (some (15, true)), .op (.mv (.tmp 1))⟩,
     ⟨(some 17), (some (15, true)), .op (.iaddr (.slice 1) (.tmp 16) (.const (.int .i64 44)))⟩,
     ⟨(some 18), (some (15, true)), .op (.load none (.tmp 17))⟩,
     ⟨(some 19), (some (15, true)), .op (.bin .eql (.tmp 18) (.const (.int .u8 128)))⟩,
     ⟨(some 20), none, .op (.pick (.tmp 15) (.tmp 19) (.const (.bool false)))⟩,
     ⟨(some 21), none, .op (.mv (.tmp 20))⟩,
     ⟨(some 22), (some (21, true)), .op (.mv (.tmp 1))⟩,
     ⟨(some 23), (some (21, true)), .op (.iaddr (.slice 1) (.tmp 22) (.const (.int .i64 45)))⟩,
     ⟨(some 24), (some (21, true)), .op (.load none (.tmp 23))⟩,
     ⟨(some 25), (some (21, true)), .op (.bin .eql (.tmp 24) (.const (.int .u8 127)))⟩,
     ⟨(some 26), none, .op (.pick (.tmp 21) (.tmp 25) (.const (.bool false)))⟩,
     ⟨(some 27), none, .op (.mv (.tmp 26))⟩,
     ⟨(some 28), (some (27, true)), .op (.mv (.tmp 1))⟩,
     ⟨(some 29), (some (27, true)), .call f_cadenzalaw33_example []⟩,
     ⟨(some 30), (some (27, true)), .call f_cadenzalaw33_reads [(.tmp 28), (.tmp 29)]⟩,
     ⟨(some 31), none, .op (.pick (.tmp 27) (.tmp 30) (.const (.bool false)))⟩,
     ⟨(some 0), none, .op (.mv (.tmp 31))⟩])
  (.ret)))

def ac_cadenzaref24_Check (f_cadenzaref24_Shape f_cadenzaref20_Asked f_cadenzaref24_Head t0 : Nat) : AC :=
  .seq (.reg [⟨(some 1), none, .op (.box t0 4 (.tmp 0))⟩,
     ⟨(some 2), none, .op (.mv (.const (.int .i64 0)))⟩])
  (.seq (.seq (.draw [⟨0, false, ⟨(some 3), none, .op (.load (some 4) (.tmp 1))⟩⟩,
      ⟨0, false, ⟨(some 4), none, .call f_cadenzaref24_Shape [(.tmp 3)]⟩⟩,
      ⟨0, false, ⟨(some 5), none, .op (.faddr 3 (.tmp 1))⟩⟩,
      ⟨0, false, ⟨(some 6), none, .op (.load none (.tmp 5))⟩⟩,
      ⟨0, false, ⟨(some 7), none, .call f_cadenzaref20_Asked [(.tmp 4), (.tmp 6)]⟩⟩,
      ⟨0, false, ⟨(some 8), none, .op (.bin .neq (.tmp 7) (.const (.int .i64 0)))⟩⟩,
      ⟨0, false, ⟨(some 9), none, .op (.mv (.tmp 8))⟩⟩,
      ⟨0, false, ⟨(some 10), (some (9, false)), .op (.load (some 4) (.tmp 1))⟩⟩,
      ⟨0, false, ⟨(some 11), (some (9, false)), .op (.faddr 3 (.tmp 1))⟩⟩,
      ⟨0, false, ⟨(some 12), (some (9, false)), .op (.load none (.tmp 11))⟩⟩,
      ⟨0, false, ⟨(some 13), (some (9, false)), .op (.len none (.tmp 12))⟩⟩,
      ⟨0, false, ⟨(some 14), (some (9, false)), .op (.faddr 0 (.tmp 1))⟩⟩,
      ⟨0, false, ⟨(some 15), (some (9, false)), .op (.load none (.tmp 14))⟩⟩,
      ⟨0, false, ⟨(some 16), (some (9, false)), .op (.bin .quo (.tmp 13) (.tmp 15))⟩⟩,
      ⟨0, false, ⟨(some 17), (some (9, false)), .call f_cadenzaref24_Head [(.tmp 10), (.tmp 16)]⟩⟩,
      ⟨0, false, ⟨(some 18), (some (9, false)), .op (.un .not (.tmp 17))⟩⟩,
      ⟨0, false, ⟨(some 19), none, .op (.pick (.tmp 9) (.const (.bool true)) (.tmp 18))⟩⟩] [])
   (.cond (.tmp 19)
     (.seq (.reg [⟨(some 2), none, .op (.mv (.const (.int .i64 8)))⟩])
     (.ret))
     (.skip)))
  (.seq (.reg [⟨(some 2), none, .op (.mv (.const (.int .i64 0)))⟩])
  (.ret)))

def ac_riff_Read (f_le_At f_riff_isName f_riff_next t0 : Nat) : AC :=
  .seq (.reg [⟨(some 2), none, .op (.mv (.const (.string ⟨#[]⟩)))⟩,
     ⟨(some 3), none, .op (.mv (.const (.slice none 0 0)))⟩,
     ⟨(some 4), none, .op (.mv (.const (.int .i64 0)))⟩])
  (.seq (.seq (.reg [⟨(some 13), none, .op (.mv (.tmp 0))⟩,
      ⟨(some 14), none, .op (.len none (.tmp 13))⟩,
      ⟨(some 15), none, .op (.bin .lss (.tmp 14) (.const (.int .i64 12)))⟩])
   (.cond (.tmp 15)
     (.seq (.reg [⟨(some 2), none, .op (.mv (.const (.string ⟨#[]⟩)))⟩,
        ⟨(some 3), none, .op (.mv (.const (.slice none 0 0)))⟩,
        ⟨(some 4), none, .op (.mv (.const (.int .i64 24)))⟩])
     (.ret))
     (.skip)))
  (.seq (.reg [⟨(some 17), none, .op (.mv (.tmp 0))⟩,
     ⟨(some 18), none, .call f_le_At [(.tmp 17), (.const (.int .i64 4)), (.const (.int .i64 4))]⟩,
     ⟨(some 16), none, .op (.mv (.tmp 18))⟩,
     ⟨(some 19), none, .op (.extract (.tmp 16) 0)⟩,
     ⟨(some 20), none, .op (.extract (.tmp 16) 1)⟩,
     ⟨(some 5), none, .op (.mv (.tmp 19))⟩,
     ⟨(some 6), none, .op (.mv (.tmp 20))⟩])
  (.seq (.reg [⟨(some 21), none, .op (.mv (.tmp 0))⟩,
     ⟨(some 22), none, .op (.slice 1 (.tmp 21) (some (.const (.int .i64 8))) (some (.const (.int .i64 12))) none)⟩,
     ⟨(some 23), none, .op (.conv .toStr (.tmp 22))⟩,
     ⟨(some 7), none, .op (.mv (.tmp 23))⟩])
  (.seq (.block 0 (.seq (.reg [⟨(some 25), none, .op (.mv (.tmp 0))⟩,
       ⟨(some 26), none, .op (.slice 1 (.tmp 25) none (some (.const (.int .i64 4))) none)⟩,
       ⟨(some 27), none, .op (.conv .toStr (.tmp 26))⟩,
       ⟨(some 28), none, .op (.bin .neq (.tmp 27) (.const (.string ⟨#[82, 73, 70, 70]⟩)))⟩,
       ⟨(some 29), none, .op (.mv (.tmp 28))⟩,
       ⟨(some 30), (some (29, false)), .op (.mv (.tmp 7))⟩,
       ⟨(some 31), (some (29, false)), .call f_riff_isName [(.tmp 30)]⟩,
       ⟨(some 32), (some (29, false)), .op (.un .not (.tmp 31))⟩,
       ⟨(some 33), none, .op (.pick (.tmp 29) (.const (.bool true)) (.tmp 32))⟩,
       ⟨(some 34), none, .op (.mv (.tmp 33))⟩,
       ⟨(some 35), (some (34, false)), .op (.mv (.tmp 5))⟩,
       ⟨(some 36), (some (34, false)), .op (.bin .lss (.tmp 35) (.const (.int .u64 4)))⟩,
       ⟨(some 37), none, .op (.pick (.tmp 34) (.const (.bool true)) (.tmp 36))⟩,
       ⟨(some 24), none, .op (.mv (.tmp 37))⟩])
    (.cond (.tmp 24)
      (.seq (.reg [⟨(some 2), none, .op (.mv (.const (.string ⟨#[]⟩)))⟩,
         ⟨(some 3), none, .op (.mv (.const (.slice none 0 0)))⟩,
         ⟨(some 4), none, .op (.mv (.const (.int .i64 12)))⟩])
      (.ret))
      (.seq (.reg [⟨(some 39), none, .op (.mv (.tmp 5))⟩,
         ⟨(some 40), none, .op (.bin .add (.tmp 39) (.const (.int .u64 8)))⟩,
         ⟨(some 41), none, .op (.bin .gtr (.tmp 40) (.const (.int .u64 100000)))⟩,
         ⟨(some 38), none, .op (.mv (.tmp 41))⟩])
      (.cond (.tmp 38)
        (.seq (.reg [⟨(some 2), none, .op (.mv (.const (.string ⟨#[]⟩)))⟩,
           ⟨(some 3), none, .op (.mv (.const (.slice none 0 0)))⟩,
           ⟨(some 4), none, .op (.mv (.const (.int .i64 4)))⟩])
        (.ret))
        (.seq (.reg [⟨(some 43), none, .op (.mv (.tmp 5))⟩,
           ⟨(some 44), none, .op (.bin .add (.tmp 43) (.const (.int .u64 8)))⟩,
           ⟨(some 45), none, .op (.mv (.tmp 0))⟩,
           ⟨(some 46), none, .op (.len none (.tmp 45))⟩,
           ⟨(some 47), none, .op (.conv (.int .u64) (.tmp 46))⟩,
           ⟨(some 48), none, .op (.bin .gtr (.tmp 44) (.tmp 47))⟩,
           ⟨(some 42), none, .op (.mv (.tmp 48))⟩])
        (.cond (.tmp 42)
          (.seq (.reg [⟨(some 2), none, .op (.mv (.const (.string ⟨#[]⟩)))⟩,
             ⟨(some 3), none, .op (.mv (.const (.slice none 0 0)))⟩,
             ⟨(some 4), none, .op (.mv (.const (.int .i64 24)))⟩])
          (.ret))
          (.skip))))))))
  (.seq (.reg [⟨(some 8), none, .op (.mv (.const (.slice none 0 0)))⟩])
  (.seq (.seq (.reg [⟨(some 49), none, .op (.mv (.tmp 0))⟩,
      ⟨(some 50), none, .op (.mv (.tmp 5))⟩,
      ⟨(some 51), none, .op (.bin .add (.tmp 50) (.const (.int .u64 8)))⟩,
      ⟨(some 52), none, .op (.slice 1 (.tmp 49) (some (.const (.int .i64 12))) (some (.tmp 51)) none)⟩,
      ⟨(some 9), none, .op (.mv (.tmp 52))⟩])
   (.block 1 (.loop (.seq (.seq (.reg [⟨(some 53), none, .op (.mv (.tmp 9))⟩,
         ⟨(some 54), none, .op (.len none (.tmp 53))⟩,
         ⟨(some 55), none, .op (.bin .gtr (.tmp 54) (.const (.int .i64 0)))⟩])
      (.cond (.tmp 55)
        (.skip)
        (.exit 1)))
     (.block 2 (.seq (.seq (.reg [⟨(some 56), none, .op (.mv (.tmp 8))⟩,
          ⟨(some 57), none, .op (.len none (.tmp 56))⟩,
          ⟨(some 58), none, .op (.bin .eql (.tmp 57) (.const (.int .i64 20)))⟩])
       (.cond (.tmp 58)
         (.seq (.reg [⟨(some 2), none, .op (.mv (.const (.string ⟨#[]⟩)))⟩,
            ⟨(some 3), none, .op (.mv (.const (.slice none 0 0)))⟩,
            ⟨(some 4), none, .op (.mv (.const (.int .i64 4)))⟩])
         (.ret))
         (.skip)))
      (.seq (.reg [⟨(some 60), none, .op (.mv (.tmp 9))⟩,
         ⟨(some 61), none, .call f_riff_next [(.tmp 60)]⟩,
         ⟨(some 59), none, .op (.mv (.tmp 61))⟩,
         ⟨(some 62), none, .op (.extract (.tmp 59) 0)⟩,
         ⟨(some 63), none, .op (.extract (.tmp 59) 1)⟩,
         ⟨(some 64), none, .op (.extract (.tmp 59) 2)⟩,
         ⟨(some 10), none, .op (.alloc t0 [.str [], .emp true])⟩,
         ⟨none, none, .op (.store 2 (.tmp 10) (.tmp 62))⟩,
         ⟨(some 11), none, .op (.mv (.tmp 63))⟩,
         ⟨(some 12), none, .op (.mv (.tmp 64))⟩])
      (.seq (.seq (.reg [⟨(some 65), none, .op (.mv (.tmp 12))⟩,
          ⟨(some 66), none, .op (.un .not (.tmp 65))⟩])
       (.cond (.tmp 66)
         (.seq (.reg [⟨(some 2), none, .op (.mv (.const (.string ⟨#[]⟩)))⟩,
            ⟨(some 3), none, .op (.mv (.const (.slice none 0 0)))⟩,
            ⟨(some 4), none, .op (.mv (.const (.int .i64 12)))⟩])
         (.ret))
         (.skip)))
      (.reg [⟨(some 67), none, .op (.mv (.tmp 8))⟩,
        ⟨(some 68), none, .op (.load (some 2) (.tmp 10))⟩,
        ⟨(some 69), none, .op (.bslice t0 2 1 [.str [], .emp true] [(0, 2, (.tmp 68))])⟩,
        ⟨(some 70), none, .op (.append t0 2 40 false (.tmp 67) (.tmp 69))⟩,
        ⟨(some 71), none, .op (.mv (.tmp 11))⟩,
        ⟨(some 8), none, .op (.mv (.tmp 70))⟩,
        ⟨(some 9), none, .op (.mv (.tmp 71))⟩])))))))))
  (.seq (.seq (.reg [⟨(some 72), none, .op (.mv (.tmp 0))⟩,
      ⟨(some 73), none, .op (.len none (.tmp 72))⟩,
      ⟨(some 74), none, .op (.conv (.int .u64) (.tmp 73))⟩,
      ⟨(some 75), none, .op (.mv (.tmp 5))⟩,
      ⟨(some 76), none, .op (.bin .add (.tmp 75) (.const (.int .u64 8)))⟩,
      ⟨(some 77), none, .op (.bin .gtr (.tmp 74) (.tmp 76))⟩])
   (.cond (.tmp 77)
     (.seq (.reg [⟨(some 2), none, .op (.mv (.const (.string ⟨#[]⟩)))⟩,
        ⟨(some 3), none, .op (.mv (.const (.slice none 0 0)))⟩,
        ⟨(some 4), none, .op (.mv (.const (.int .i64 38)))⟩])
     (.ret))
     (.skip)))
  (.seq (.reg [⟨(some 78), none, .op (.mv (.tmp 7))⟩,
     ⟨(some 79), none, .op (.mv (.tmp 8))⟩,
     ⟨(some 2), none, .op (.mv (.tmp 78))⟩,
     ⟨(some 3), none, .op (.mv (.tmp 79))⟩,
     ⟨(some 4), none, .op (.mv (.const (.int .i64 0)))⟩])
  (.ret)))))))))

def ac_riff_Write (f_riff_Check f_riff_Write_1 f_riff_size f_bytes_Buffer_WriteString f_bytes_Buffer_Write f_bytes_Buffer_Bytes t0 t1 t2 : Nat) : AC :=
  .seq (.reg [⟨(some 4), none, .op (.mv (.const (.slice none 0 0)))⟩,
     ⟨(some 5), none, .op (.mv (.const (.int .i64 0)))⟩])
  (.seq (.seq (.reg [⟨(some 11), none, .op (.mv (.tmp 0))⟩,
      ⟨(some 12), none, .op (.mv (.tmp 1))⟩,
      ⟨(some 13), none, .call f_riff_Check [(.tmp 11), (.tmp 12)]⟩,
      ⟨(some 6), none, .op (.mv (.tmp 13))⟩])
   (.seq (.reg [⟨(some 14), none, .op (.mv (.tmp 6))⟩,
      ⟨(some 15), none, .op (.bin .neq (.tmp 14) (.const (.int .i64 0)))⟩])
   (.cond (.tmp 15)
     (.seq (.reg [⟨(some 16), none, .op (.mv (.tmp 6))⟩,
        ⟨(some 4), none, .op (.mv (.const (.slice none 0 0)))⟩,
        ⟨(some 5), none, .op (.mv (.tmp 16))⟩])
     (.ret))
     (.skip))))
  (.seq (.reg [⟨(some 7), none, .op (.alloc t0 [.emp true, .int .i64 0, .int .i8 0])⟩])
  (.seq (.reg [⟨(some 17), none, .op (.mkfn (.func f_riff_Write_1) [] [(.tmp 7)])⟩,
     ⟨(some 8), none, .op (.mv (.tmp 17))⟩])
  (.seq (.reg [⟨(some 18), none, .op (.mv (.tmp 8))⟩,
     ⟨(some 19), none, .op (.mv (.tmp 1))⟩,
     ⟨(some 20), none, .call f_riff_size [(.tmp 19)]⟩,
     ⟨(some 21), none, .callv 18 [(.const (.string ⟨#[82, 73, 70, 70]⟩)), (.tmp 20)]⟩])
  (.seq (.reg [⟨(some 22), none, .op (.mv (.tmp 0))⟩,
     ⟨(some 23), none, .call f_bytes_Buffer_WriteString [(.tmp 7), (.tmp 22)]⟩])
  (.seq (.seq (.reg [⟨(some 24), none, .op (.mv (.tmp 1))⟩,
      ⟨(some 25), none, .op (.len none (.tmp 24))⟩,
      ⟨(some 26), none, .op (.mv (.const (.int .i64 0)))⟩])
   (.block 0 (.loop (.seq (.reg [⟨(some 27), none, .op (.bin .lss (.tmp 26) (.tmp 25))⟩])
     (.seq (.cond (.tmp 27)
        (.skip)
        (.exit 0))
     (.seq (.block 1 (.seq (.reg [⟨(some 28), none, .op (.iaddr (.slice 2) (.tmp 24) (.tmp 26))⟩,
          ⟨(some 29), none, .op (.load (some 2) (.tmp 28))⟩,
          ⟨(some 10), none, .op (.alloc t1 [.str [], .emp true])⟩,
          ⟨none, none, .op (.store 2 (.tmp 10) (.tmp 29))⟩])
       (.seq (.reg [⟨(some 30), none, .op (.mv (.tmp 8))⟩,
          ⟨(some 31), none, .op (.faddr 0 (.tmp 10))⟩,
          ⟨(some 32), none, .op (.load none (.tmp 31))⟩,
          ⟨(some 33), none, .op (.faddr 1 (.tmp 10))⟩,
          ⟨(some 34), none, .op (.load none (.tmp 33))⟩,
          ⟨(some 35), none, .op (.len none (.tmp 34))⟩,
          ⟨(some 36), none, .callv 30 [(.tmp 32), (.tmp 35)]⟩])
       (.seq (.reg [⟨(some 37), none, .op (.faddr 1 (.tmp 10))⟩,
          ⟨(some 38), none, .op (.load none (.tmp 37))⟩,
          ⟨(some 39), none, .call f_bytes_Buffer_Write [(.tmp 7), (.tmp 38)]⟩])
       (.reg [⟨(some 40), none, .op (.faddr 1 (.tmp 10))⟩,
         ⟨(some 41), none, .op (.load none (.tmp 40))⟩,
         ⟨(some 42), none, .op (.len none (.tmp 41))⟩,
         ⟨(some 43), none, .op (.bin .and (.tmp 42) (.const (.int .i64 1)))⟩,
         ⟨(some 44), none, .op (.mkslice t2 1 1 [.int .u8 0] (.tmp 43) (.tmp 43))⟩,
         ⟨(some 45), none, .call f_bytes_Buffer_Write [(.tmp 7), (.tmp 44)]⟩])))))
     (.reg [⟨(some 46), none, .op (.bin .add (.tmp 26) (.const (.int .i64 1)))⟩,
       ⟨(some 26), none, .op (.mv (.tmp 46))⟩])))))))
  (.seq (.reg [⟨(some 47), none, .call f_bytes_Buffer_Bytes [(.tmp 7)]⟩,
     ⟨(some 4), none, .op (.mv (.tmp 47))⟩,
     ⟨(some 5), none, .op (.mv (.const (.int .i64 0)))⟩])
  (.ret))))))))

def ac_cadenzalaw33_reads (f_wav_Read f_cadenzaref33_Same t0 : Nat) : AC :=
  .seq (.reg [⟨(some 3), none, .op (.box t0 4 (.tmp 1))⟩,
     ⟨(some 4), none, .op (.mv (.const (.bool false)))⟩])
  (.seq (.reg [⟨(some 8), none, .op (.mv (.tmp 0))⟩,
     ⟨(some 9), none, .call f_wav_Read [(.tmp 8)]⟩,
     ⟨(some 7), none, .op (.mv (.tmp 9))⟩,
     ⟨(some 10), none, .op (.extract (.tmp 7) 0)⟩,
     ⟨(some 11), none, .op (.extract (.tmp 7) 1)⟩,
     ⟨(some 5), none, .op (.alloc t0 [.int .i64 0, .int .i64 0, .int .i64 0, .emp true])⟩,
     ⟨none, none, .op (.store 4 (.tmp 5) (.tmp 10))⟩,
     ⟨(some 6), none, .op (.mv (.tmp 11))⟩])
  (.seq (.reg [⟨(some 12), none, .op (.mv (.tmp 6))⟩,
     ⟨(some 13), none, .op (.bin .eql (.tmp 12) (.const (.int .i64 0)))⟩,
     ⟨(some 14), none, .op (.mv (.tmp 13))⟩,
     ⟨(some 15), (some (14, true)), .op (.load (some 4) (.tmp 5))⟩,
     ⟨(some 16), (some (14, true)), .op (.load (some 4) (.tmp 3))⟩,
     ⟨(some 17), (some (14, true)), .call f_cadenzaref33_Same [(.tmp 15), (.tmp 16)]⟩,
     ⟨(some 18), none, .op (.pick (.tmp 14) (.tmp 17) (.const (.bool false)))⟩,
     ⟨(some 4), none, .op (.mv (.tmp 18))⟩])
  (.ret)))

def ac_width_Bytes (f_width_Check t0 : Nat) : AC :=
  .seq (.reg [⟨(some 4), none, .op (.mv (.const (.slice none 0 0)))⟩,
     ⟨(some 5), none, .op (.mv (.const (.int .i64 0)))⟩])
  (.seq (.seq (.reg [⟨(some 11), none, .op (.mv (.tmp 0))⟩,
      ⟨(some 12), none, .op (.mv (.tmp 1))⟩,
      ⟨(some 13), none, .call f_width_Check [(.tmp 11), (.tmp 12)]⟩,
      ⟨(some 6), none, .op (.mv (.tmp 13))⟩])
   (.seq (.reg [⟨(some 14), none, .op (.mv (.tmp 6))⟩,
      ⟨(some 15), none, .op (.bin .neq (.tmp 14) (.const (.int .i64 0)))⟩])
   (.cond (.tmp 15)
     (.seq (.reg [⟨(some 16), none, .op (.mv (.tmp 6))⟩,
        ⟨(some 4), none, .op (.mv (.const (.slice none 0 0)))⟩,
        ⟨(some 5), none, .op (.mv (.tmp 16))⟩])
     (.ret))
     (.skip))))
  (.seq (.reg [⟨(some 7), none, .op (.mv (.const (.slice none 0 0)))⟩])
  (.seq (.seq (.reg [⟨(some 17), none, .op (.mv (.tmp 1))⟩,
      ⟨(some 18), none, .op (.len none (.tmp 17))⟩,
      ⟨(some 19), none, .op (.mv (.const (.int .i64 0)))⟩])
   (.block 0 (.loop (.seq (.reg [⟨(some 20), none, .op (.bin .lss (.tmp 19) (.tmp 18))⟩])
     (.seq (.cond (.tmp 20)
        (.skip)
        (.exit 0))
     (.seq (.block 1 (.seq (.reg [⟨(some 21), none, .op (.iaddr (.slice 1) (.tmp 17) (.tmp 19))⟩,
          ⟨(some 22), none, .op (.load none (.tmp 21))⟩,
          ⟨(some 9), none, .op (.mv (.tmp 22))⟩])
       (.seq (.seq (.reg [⟨(some 23), none, .op (.mv (.tmp 0))⟩,
           ⟨(some 24), none, .op (.bin .eql (.tmp 23) (.const (.int .i64 8)))⟩])
        (.cond (.tmp 24)
          (.reg [⟨(some 25), none, .op (.mv (.tmp 9))⟩,
            ⟨(some 26), none, .op (.bin .add (.tmp 25) (.const (.int .i32 128)))⟩,
            ⟨(some 9), none, .op (.mv (.tmp 26))⟩])
          (.skip)))
       (.seq (.reg [⟨(some 27), none, .op (.mv (.tmp 0))⟩,
          ⟨(some 28), none, .op (.bin .quo (.tmp 27) (.const (.int .i64 8)))⟩,
          ⟨(some 29), none, .op (.mv (.const (.int .i64 0)))⟩])
       (.block 2 (.loop (.seq (.reg [⟨(some 30), none, .op (.bin .lss (.tmp 29) (.tmp 28))⟩])
         (.seq (.cond (.tmp 30)
            (.skip)
            (.exit 2))
         (.seq (.block 3 (.seq (.reg [⟨(some 31), none, .op (.mv (.tmp 29))⟩,
              ⟨(some 10), none, .op (.mv (.tmp 31))⟩])
           (.reg [⟨(some 32), none, .op (.mv (.tmp 7))⟩,
             ⟨(some 33), none, .op (.mv (.tmp 9))⟩,
             ⟨(some 34), none, .op (.mv (.tmp 10))⟩,
             ⟨(some 35), none, .op (.bin .mul (.const (.int .i64 8)) (.tmp 34))⟩,
             ⟨(some 36), none, .op (.bin .shr (.tmp 33) (.tmp 35))⟩,
             ⟨(some 37), none, .op (.conv (.int .u8) (.tmp 36))⟩,
             ⟨(some 38), none, .op (.bslice t0 1 1 [.int .u8 0] [(0, 1, (.tmp 37))])⟩,
             ⟨(some 39), none, .op (.append t0 1 1 false (.tmp 32) (.tmp 38))⟩,
             ⟨(some 7), none, .op (.mv (.tmp 39))⟩])))
         (.reg [⟨(some 40), none, .op (.bin .add (.tmp 29) (.const (.int .i64 1)))⟩,
           ⟨(some 29), none, .op (.mv (.tmp 40))⟩]))))))))))
     (.reg [⟨(some 41), none, .op (.bin .add (.tmp 19) (.const (.int .i64 1)))⟩,
       ⟨(some 19), none, .op (.mv (.tmp 41))⟩])))))))
  (.seq (.reg [⟨(some 42), none, .op (.mv (.tmp 7))⟩,
     ⟨(some 4), none, .op (.mv (.tmp 42))⟩,
     ⟨(some 5), none, .op (.mv (.const (.int .i64 0)))⟩])
  (.ret)))))

def ac_fmtchunk_Write (f_fmtchunk_Wide f_fmtchunk_form t0 : Nat) : AC :=
  .seq (.reg [⟨(some 1), none, .op (.box t0 3 (.tmp 0))⟩,
     ⟨(some 2), none, .op (.mv (.const (.slice none 0 0)))⟩,
     ⟨(some 3), none, .op (.mv (.const (.int .i64 0)))⟩])
  (.seq (.reg [⟨(some 7), none, .op (.load (some 3) (.tmp 1))⟩,
     ⟨(some 8), none, .call f_fmtchunk_Wide [(.tmp 7)]⟩,
     ⟨(some 6), none, .op (.mv (.tmp 8))⟩,
     ⟨(some 9), none, .op (.extract (.tmp 6) 0)⟩,
     ⟨(some 10), none, .op (.extract (.tmp 6) 1)⟩,
     ⟨(some 4), none, .op (.mv (.tmp 9))⟩,
     ⟨(some 5), none, .op (.mv (.tmp 10))⟩])
  (.seq (.seq (.reg [⟨(some 11), none, .op (.mv (.tmp 5))⟩,
      ⟨(some 12), none, .op (.bin .neq (.tmp 11) (.const (.int .i64 0)))⟩])
   (.cond (.tmp 12)
     (.seq (.reg [⟨(some 13), none, .op (.mv (.tmp 5))⟩,
        ⟨(some 2), none, .op (.mv (.const (.slice none 0 0)))⟩,
        ⟨(some 3), none, .op (.mv (.tmp 13))⟩])
     (.ret))
     (.skip)))
  (.seq (.draw [⟨0, false, ⟨(some 14), none, .op (.load (some 3) (.tmp 1))⟩⟩,
     ⟨0, false, ⟨(some 15), none, .op (.mv (.tmp 4))⟩⟩,
     ⟨0, false, ⟨(some 16), none, .op (.faddr 0 (.tmp 1))⟩⟩,
     ⟨0, false, ⟨(some 17), none, .op (.load none (.tmp 16))⟩⟩,
     ⟨0, false, ⟨(some 18), none, .op (.bin .shl (.const (.int .u64 1)) (.tmp 17))⟩⟩,
     ⟨0, false, ⟨(some 19), none, .op (.bin .sub (.tmp 18) (.const (.int .u64 1)))⟩⟩,
     ⟨0, false, ⟨(some 20), none, .call f_fmtchunk_form [(.tmp 14), (.tmp 15), (.tmp 19)]⟩⟩,
     ⟨0, false, ⟨(some 2), none, .op (.mv (.tmp 20))⟩⟩,
     ⟨0, false, ⟨(some 3), none, .op (.mv (.const (.int .i64 0)))⟩⟩] [])
  (.ret))))

def ac_cadenzalaw33_said (f_fmtchunk_Write : Nat) : AC :=
  .seq (.reg [⟨(some 6), none, .op (.mv (.const (.string ⟨#[]⟩)))⟩])
  (.seq (.reg [⟨(some 10), none, .op (.mv (.tmp 0))⟩,
     ⟨(some 11), none, .op (.mv (.tmp 1))⟩,
     ⟨(some 12), none, .op (.mv (.tmp 2))⟩,
     ⟨(some 13), none, .op (.build [.int .i64 0, .int .i64 0, .int .i64 0] [(0, 1, (.tmp 10)), (1, 1, (.tmp 11)), (2, 1, (.tmp 12))])⟩,
     ⟨(some 14), none, .call f_fmtchunk_Write [(.tmp 13)]⟩,
     ⟨(some 9), none, .op (.mv (.tmp 14))⟩,
     ⟨(some 15), none, .op (.extract (.tmp 9) 0)⟩,
     ⟨(some 16), none, .op (.extract (.tmp 9) 1)⟩,
     ⟨(some 7), none, .op (.mv (.tmp 15))⟩,
     ⟨(some 8), none, .op (.mv (.tmp 16))⟩])
  (.seq (.reg [⟨(some 17), none, .op (.mv (.tmp 7))⟩,
     ⟨(some 18), none, .op (.conv .toStr (.tmp 17))⟩,
     ⟨(some 6), none, .op (.mv (.tmp 18))⟩])
  (.ret)))

def ac_cadenzalaw33_file (f_riff_Write t0 : Nat) : AC :=
  .seq (.reg [⟨(some 4), none, .op (.mv (.const (.slice none 0 0)))⟩])
  (.seq (.reg [⟨(some 5), none, .op (.mv (.const (.slice none 0 0)))⟩])
  (.seq (.seq (.reg [⟨(some 6), none, .op (.mv (.const (.int .i64 0)))⟩])
   (.block 0 (.loop (.seq (.seq (.reg [⟨(some 9), none, .op (.mv (.tmp 6))⟩,
         ⟨(some 10), none, .op (.bin .add (.tmp 9) (.const (.int .i64 1)))⟩,
         ⟨(some 11), none, .op (.mv (.tmp 1))⟩,
         ⟨(some 12), none, .op (.len none (.tmp 11))⟩,
         ⟨(some 13), none, .op (.bin .lss (.tmp 10) (.tmp 12))⟩])
      (.cond (.tmp 13)
        (.skip)
        (.exit 0)))
     (.seq (.block 1 (.draw [⟨0, false, ⟨(some 16), none, .op (.mv (.tmp 5))⟩⟩,
         ⟨0, false, ⟨(some 17), none, .op (.mv (.tmp 1))⟩⟩,
         ⟨0, false, ⟨(some 18), none, .op (.mv (.tmp 6))⟩⟩,
         ⟨0, false, ⟨(some 19), none, .op (.iaddr (.slice 1) (.tmp 17) (.tmp 18))⟩⟩,
         ⟨0, false, ⟨(some 20), none, .op (.load none (.tmp 19))⟩⟩,
         ⟨0, false, ⟨(some 21), none, .op (.mv (.tmp 1))⟩⟩,
         ⟨0, false, ⟨(some 22), none, .op (.mv (.tmp 6))⟩⟩,
         ⟨0, false, ⟨(some 23), none, .op (.bin .add (.tmp 22) (.const (.int .i64 1)))⟩⟩,
         ⟨0, false, ⟨(some 24), none, .op (.iaddr (.slice 1) (.tmp 21) (.tmp 23))⟩⟩,
         ⟨0, false, ⟨(some 25), none, .op (.load none (.tmp 24))⟩⟩,
         ⟨0, false, ⟨(some 26), none, .op (.conv .toBytes (.tmp 25))⟩⟩,
         ⟨0, false, ⟨(some 27), none, .op (.build [.str [], .emp true] [(0, 1, (.tmp 20)), (1, 1, (.tmp 26))])⟩⟩,
         ⟨0, false, ⟨(some 28), none, .op (.bslice t0 2 1 [.str [], .emp true] [(0, 2, (.tmp 27))])⟩⟩,
         ⟨1, false, ⟨(some 29), none, .op (.append t0 2 40 false (.tmp 16) (.tmp 28))⟩⟩,
         ⟨2, false, ⟨(some 5), none, .op (.mv (.tmp 29))⟩⟩] [ph, ph]))
     (.reg [⟨(some 14), none, .op (.mv (.tmp 6))⟩,
       ⟨(some 15), none, .op (.bin .add (.tmp 14) (.const (.int .i64 2)))⟩,
       ⟨(some 6), none, .op (.mv (.tmp 15))⟩]))))))
  (.seq (.reg [⟨(some 31), none, .op (.mv (.tmp 0))⟩,
     ⟨(some 32), none, .op (.mv (.tmp 5))⟩,
     ⟨(some 33), none, .call f_riff_Write [(.tmp 31), (.tmp 32)]⟩,
     ⟨(some 30), none, .op (.mv (.tmp 33))⟩,
     ⟨(some 34), none, .op (.extract (.tmp 30) 0)⟩,
     ⟨(some 35), none, .op (.extract (.tmp 30) 1)⟩,
     ⟨(some 7), none, .op (.mv (.tmp 34))⟩,
     ⟨(some 8), none, .op (.mv (.tmp 35))⟩])
  (.seq (.reg [⟨(some 36), none, .op (.mv (.tmp 7))⟩,
     ⟨(some 4), none, .op (.mv (.tmp 36))⟩])
  (.ret)))))

def ac_cadenzalaw33_example (t0 t1 : Nat) : AC :=
  .seq (.reg [⟨(some 0), none, .op (.alloc t0 [.int .i64 0, .int .i64 0, .int .i64 0, .emp true])⟩])
  (.seq (.reg [⟨(some 1), none, .op (.bslice t1 1 2 [.int .i32 0] [(0, 1, (.const (.int .i32 0))), (1, 1, (.const (.int .i32 (-1))))])⟩,
     ⟨(some 2), none, .op (.build [.int .i64 0, .int .i64 0, .int .i64 0, .emp true] [(0, 1, (.const (.int .i64 1))), (1, 1, (.const (.int .i64 8))), (2, 1, (.const (.int .i64 8000))), (3, 1, (.tmp 1))])⟩,
     ⟨none, none, .op (.store 4 (.tmp 0) (.tmp 2))⟩])
  (.ret))

def ac_cadenzaref32_Masked (f_cadenzaref32_first f_cadenzaref01_Written t0 t1 : Nat) : AC :=
  .seq (.reg [⟨(some 2), none, .op (.box t0 3 (.tmp 0))⟩,
     ⟨(some 4), none, .op (.mv (.const (.slice none 0 0)))⟩])
  (.seq (.reg [⟨(some 6), none, .op (.load (some 3) (.tmp 2))⟩,
     ⟨(some 7), none, .call f_cadenzaref32_first [(.tmp 6), (.const (.int .u64 65534))]⟩,
     ⟨(some 5), none, .op (.mv (.tmp 7))⟩])
  (.seq (.reg [⟨(some 8), none, .op (.mv (.tmp 5))⟩,
     ⟨(some 9), none, .op (.bslice t1 1 2 [.int .u8 0] [(0, 1, (.const (.int .u8 22))), (1, 1, (.const (.int .u8 0)))])⟩,
     ⟨(some 10), none, .op (.append t1 1 1 false (.tmp 8) (.tmp 9))⟩,
     ⟨(some 5), none, .op (.mv (.tmp 10))⟩])
  (.seq (.reg [⟨(some 11), none, .op (.mv (.tmp 5))⟩,
     ⟨(some 12), none, .op (.faddr 1 (.tmp 2))⟩,
     ⟨(some 13), none, .op (.load none (.tmp 12))⟩,
     ⟨(some 14), none, .op (.conv (.int .u64) (.tmp 13))⟩,
     ⟨(some 15), none, .call f_cadenzaref01_Written [(.tmp 14), (.const (.int .i64 2))]⟩,
     ⟨(some 16), none, .op (.append t1 1 1 false (.tmp 11) (.tmp 15))⟩,
     ⟨(some 5), none, .op (.mv (.tmp 16))⟩])
  (.seq (.reg [⟨(some 17), none, .op (.mv (.tmp 5))⟩,
     ⟨(some 18), none, .op (.mv (.tmp 1))⟩,
     ⟨(some 19), none, .op (.conv (.int .u64) (.tmp 18))⟩,
     ⟨(some 20), none, .call f_cadenzaref01_Written [(.tmp 19), (.const (.int .i64 4))]⟩,
     ⟨(some 21), none, .op (.append t1 1 1 false (.tmp 17) (.tmp 20))⟩,
     ⟨(some 5), none, .op (.mv (.tmp 21))⟩])
  (.seq (.reg [⟨(some 22), none, .op (.mv (.tmp 5))⟩,
     ⟨(some 23), none, .op (.bslice t1 1 16 [.int .u8 0] [(0, 1, (.const (.int .u8 1))), (1, 1, (.const (.int .u8 0))), (2, 1, (.const (.int .u8 0))), (3, 1, (.const (.int .u8 0))), (4, 1, (.const (.int .u8 0))), (5, 1, (.const (.int .u8 0))), (6, 1, (.const (.int .u8 16))), (7, 1, (.const (.int .u8 0))), (8, 1, (.const (.int .u8 128))), (9, 1, (.const (.int .u8 0))), (10, 1, (.const (.int .u8 0))), (11, 1, (.const (.int .u8 170))), (12, 1, (.const (.int .u8 0))), (13, 1, (.const (.int .u8 56))), (14, 1, (.const (.int .u8 155))), (15, 1, (.const (.int .u8 113)))])⟩,
     ⟨(some 24), none, .op (.append t1 1 1 false (.tmp 22) (.tmp 23))⟩,
     ⟨(some 4), none, .op (.mv (.tmp 24))⟩])
  (.ret))))))

def ac_cadenzalaw33_fails (f_wav_Read f_cadenzaref33_Same t0 : Nat) : AC :=
  .seq (.reg [⟨(some 4), none, .op (.mv (.const (.bool false)))⟩])
  (.seq (.reg [⟨(some 8), none, .op (.mv (.tmp 0))⟩,
     ⟨(some 9), none, .call f_wav_Read [(.tmp 8)]⟩,
     ⟨(some 7), none, .op (.mv (.tmp 9))⟩,
     ⟨(some 10), none, .op (.extract (.tmp 7) 0)⟩,
     ⟨(some 11), none, .op (.extract (.tmp 7) 1)⟩,
     ⟨(some 5), none, .op (.alloc t0 [.int .i64 0, .int .i64 0, .int .i64 0, .emp true])⟩,
     ⟨none, none, .op (.store 4 (.tmp 5) (.tmp 10))⟩,
     ⟨(some 6), none, .op (.mv (.tmp 11))⟩])
  (.seq (.reg [⟨(some 12), none, .op (.mv (.tmp 6))⟩,
     ⟨(some 13), none, .op (.mv (.tmp 1))⟩,
     ⟨(some 14), none, .op (.bin .eql (.tmp 12) (.tmp 13))⟩,
     ⟨(some 15), none, .op (.mv (.tmp 14))⟩,
     ⟨(some 16), (some (15, true)), .op (.load (some 4) (.tmp 5))⟩,
     ⟨(some 17), (some (15, true)), .op (.build [.int .i64 0, .int .i64 0, .int .i64 0, .emp true] [])⟩,
     ⟨(some 18), (some (15, true)), .call f_cadenzaref33_Same [(.tmp 16), (.tmp 17)]⟩,
     ⟨(some 19), none, .op (.pick (.tmp 15) (.tmp 18) (.const (.bool false)))⟩,
     ⟨(some 4), none, .op (.mv (.tmp 19))⟩])
  (.ret)))

def ac_wav_only (f_riff_Find : Nat) : AC :=
  .seq (.reg [⟨(some 4), none, .op (.mv (.const (.int .i64 0)))⟩,
     ⟨(some 5), none, .op (.mv (.const (.int .i64 0)))⟩])
  (.seq (.reg [⟨(some 11), none, .op (.mv (.tmp 0))⟩,
     ⟨(some 12), none, .op (.mv (.tmp 1))⟩,
     ⟨(some 13), none, .call f_riff_Find [(.tmp 11), (.tmp 12)]⟩,
     ⟨(some 10), none, .op (.mv (.tmp 13))⟩,
     ⟨(some 14), none, .op (.extract (.tmp 10) 0)⟩,
     ⟨(some 15), none, .op (.extract (.tmp 10) 1)⟩,
     ⟨(some 6), none, .op (.mv (.tmp 14))⟩,
     ⟨(some 7), none, .op (.mv (.tmp 15))⟩])
  (.seq (.seq (.reg [⟨(some 16), none, .op (.mv (.tmp 7))⟩,
      ⟨(some 17), none, .op (.bin .neq (.tmp 16) (.const (.int .i64 0)))⟩])
   (.cond (.tmp 17)
     (.seq (.reg [⟨(some 18), none, .op (.mv (.tmp 7))⟩,
        ⟨(some 4), none, .op (.mv (.const (.int .i64 0)))⟩,
        ⟨(some 5), none, .op (.mv (.tmp 18))⟩])
     (.ret))
     (.skip)))
  (.seq (.seq (.reg [⟨(some 20), none, .op (.mv (.tmp 0))⟩,
      ⟨(some 21), none, .op (.mv (.tmp 6))⟩,
      ⟨(some 22), none, .op (.bin .add (.tmp 21) (.const (.int .i64 1)))⟩,
      ⟨(some 23), none, .op (.slice 2 (.tmp 20) (some (.tmp 22)) none none)⟩,
      ⟨(some 24), none, .op (.mv (.tmp 1))⟩,
      ⟨(some 25), none, .call f_riff_Find [(.tmp 23), (.tmp 24)]⟩,
      ⟨(some 19), none, .op (.mv (.tmp 25))⟩,
      ⟨(some 26), none, .op (.extract (.tmp 19) 0)⟩,
      ⟨(some 27), none, .op (.extract (.tmp 19) 1)⟩,
      ⟨(some 8), none, .op (.mv (.tmp 26))⟩,
      ⟨(some 9), none, .op (.mv (.tmp 27))⟩])
   (.seq (.reg [⟨(some 28), none, .op (.mv (.tmp 9))⟩,
      ⟨(some 29), none, .op (.bin .eql (.tmp 28) (.const (.int .i64 0)))⟩])
   (.cond (.tmp 29)
     (.seq (.reg [⟨(some 4), none, .op (.mv (.const (.int .i64 0)))⟩,
        ⟨(some 5), none, .op (.mv (.const (.int .i64 12)))⟩])
     (.ret))
     (.skip))))
  (.seq (.reg [⟨(some 30), none, .op (.mv (.tmp 6))⟩,
     ⟨(some 4), none, .op (.mv (.tmp 30))⟩,
     ⟨(some 5), none, .op (.mv (.const (.int .i64 0)))⟩])
  (.ret)))))

def ac_fmtchunk_Read (f_le_At f_fmtchunk_Check f_fmtchunk_form f_bytes_Equal t0 t1 g0 : Nat) : AC :=
  .seq (.reg [⟨(some 2), none, .op (.alloc t0 [.int .i64 0, .int .i64 0, .int .i64 0])⟩,
     ⟨(some 3), none, .op (.mv (.const (.int .i64 0)))⟩])
  (.seq (.reg [⟨(some 9), none, .op (.build [.int .u64 0, .int .u64 0, .int .u64 0, .int .u64 0, .int .u64 0, .int .u64 0, .int .u64 0, .int .u64 0, .int .u64 0] [])⟩,
     ⟨(some 5), none, .op (.alloc t1 [.int .u64 0, .int .u64 0, .int .u64 0, .int .u64 0, .int .u64 0, .int .u64 0, .int .u64 0, .int .u64 0, .int .u64 0])⟩,
     ⟨(some 4), none, .op (.mv (.const (.int .i64 0)))⟩,
     ⟨none, none, .op (.store 9 (.tmp 5) (.tmp 9))⟩])
  (.seq (.seq (.reg [⟨(some 10), none, .op (.load (some 9) (.global g0))⟩,
      ⟨(some 11), none, .op (.mv (.const (.int .i64 0)))⟩])
   (.block 0 (.loop (.seq (.reg [⟨(some 12), none, .op (.bin .lss (.tmp 11) (.const (.int .i64 9)))⟩])
     (.seq (.cond (.tmp 12)
        (.skip)
        (.exit 0))
     (.seq (.block 1 (.seq (.reg [⟨(some 13), none, .op (.mv (.tmp 11))⟩,
          ⟨(some 14), none, .op (.index (.arr 9 1 none) (.tmp 10) (.tmp 11))⟩,
          ⟨(some 6), none, .op (.mv (.tmp 13))⟩,
          ⟨(some 7), none, .op (.mv (.tmp 14))⟩])
       (.seq (.seq (.reg [⟨(some 15), none, .op (.mv (.tmp 4))⟩,
           ⟨(some 16), none, .op (.mv (.tmp 7))⟩,
           ⟨(some 17), none, .op (.bin .add (.tmp 15) (.tmp 16))⟩,
           ⟨(some 18), none, .op (.mv (.tmp 0))⟩,
           ⟨(some 19), none, .op (.len none (.tmp 18))⟩,
           ⟨(some 20), none, .op (.bin .leq (.tmp 17) (.tmp 19))⟩])
        (.cond (.tmp 20)
          (.reg [⟨(some 22), none, .op (.mv (.tmp 6))⟩,
            ⟨(some 23), none, .op (.mv (.tmp 0))⟩,
            ⟨(some 24), none, .op (.mv (.tmp 4))⟩,
            ⟨(some 25), none, .op (.mv (.tmp 7))⟩,
            ⟨(some 26), none, .call f_le_At [(.tmp 23), (.tmp 24), (.tmp 25)]⟩,
            ⟨(some 21), none, .op (.mv (.tmp 26))⟩,
            ⟨(some 27), none, .op (.extract (.tmp 21) 0)⟩,
            ⟨(some 28), none, .op (.extract (.tmp 21) 1)⟩,
            ⟨(some 29), none, .op (.iaddr (.arr 9 1) (.tmp 5) (.tmp 22))⟩,
            ⟨none, none, .op (.store 1 (.tmp 29) (.tmp 27))⟩])
          (.skip)))
       (.reg [⟨(some 30), none, .op (.mv (.tmp 4))⟩,
         ⟨(some 31), none, .op (.mv (.tmp 7))⟩,
         ⟨(some 32), none, .op (.bin .add (.tmp 30) (.tmp 31))⟩,
         ⟨(some 4), none, .op (.mv (.tmp 32))⟩]))))
     (.reg [⟨(some 33), none, .op (.bin .add (.tmp 11) (.const (.int .i64 1)))⟩,
       ⟨(some 11), none, .op (.mv (.tmp 33))⟩])))))))
  (.seq (.reg [⟨(some 34), none, .op (.iaddr (.arr 9 1) (.tmp 5) (.const (.int .i64 1)))⟩,
     ⟨(some 35), none, .op (.load none (.tmp 34))⟩,
     ⟨(some 36), none, .op (.conv (.int .i64) (.tmp 35))⟩,
     ⟨(some 37), none, .op (.iaddr (.arr 9 1) (.tmp 5) (.const (.int .i64 5)))⟩,
     ⟨(some 38), none, .op (.load none (.tmp 37))⟩,
     ⟨(some 39), none, .op (.conv (.int .i64) (.tmp 38))⟩,
     ⟨(some 40), none, .op (.iaddr (.arr 9 1) (.tmp 5) (.const (.int .i64 2)))⟩,
     ⟨(some 41), none, .op (.load none (.tmp 40))⟩,
     ⟨(some 42), none, .op (.conv (.int .i64) (.tmp 41))⟩,
     ⟨(some 43), none, .op (.build [.int .i64 0, .int .i64 0, .int .i64 0] [(0, 1, (.tmp 36)), (1, 1, (.tmp 39)), (2, 1, (.tmp 42))])⟩,
     ⟨(some 8), none, .op (.alloc t0 [.int .i64 0, .int .i64 0, .int .i64 0])⟩,
     ⟨none, none, .op (.store 3 (.tmp 8) (.tmp 43))⟩])
  (.seq (.seq (.reg [⟨(some 44), none, .op (.load (some 3) (.tmp 8))⟩,
      ⟨(some 45), none, .call f_fmtchunk_Check [(.tmp 44)]⟩,
      ⟨(some 46), none, .op (.bin .neq (.tmp 45) (.const (.int .i64 0)))⟩,
      ⟨(some 47), none, .op (.mv (.tmp 46))⟩,
      ⟨(some 48), (some (47, false)), .op (.mv (.tmp 0))⟩,
      ⟨(some 49), (some (47, false)), .op (.load (some 3) (.tmp 8))⟩,
      ⟨(some 50), (some (47, false)), .op (.iaddr (.arr 9 1) (.tmp 5) (.const (.int .i64 0)))⟩,
      ⟨(some 51), (some (47, false)), .op (.load none (.tmp 50))⟩,
      ⟨(some 52), (some (47, false)), .op (.bin .eql (.tmp 51) (.const (.int .u64 65534)))⟩,
      ⟨(some 53), (some (47, false)), .op (.iaddr (.arr 9 1) (.tmp 5) (.const (.int .i64 8)))⟩,
      ⟨(some 54), (some (47, false)), .op (.load none (.tmp 53))⟩,
      ⟨(some 55), (some (47, false)), .call f_fmtchunk_form [(.tmp 49), (.tmp 52), (.tmp 54)]⟩,
      ⟨(some 56), (some (47, false)), .call f_bytes_Equal [(.tmp 48), (.tmp 55)]⟩,
      ⟨(some 57), (some (47, false)), .op (.un .not (.tmp 56))⟩,
      ⟨(some 58), none, .op (.pick (.tmp 47) (.const (.bool true)) (.tmp 57))⟩])
   (.cond (.tmp 58)
     (.seq (.reg [⟨(some 59), none, .op (.build [.int .i64 0, .int .i64 0, .int .i64 0] [])⟩,
        ⟨none, none, .op (.store 3 (.tmp 2) (.tmp 59))⟩,
        ⟨(some 3), none, .op (.mv (.const (.int .i64 12)))⟩])
     (.ret))
     (.skip)))
  (.seq (.reg [⟨(some 60), none, .op (.load (some 3) (.tmp 8))⟩,
     ⟨none, none, .op (.store 3 (.tmp 2) (.tmp 60))⟩,
     ⟨(some 3), none, .op (.mv (.const (.int .i64 0)))⟩])
  (.ret))))))

def ac_width_Samples (f_width_Range t0 : Nat) : AC :=
  .seq (.reg [⟨(some 4), none, .op (.mv (.const (.slice none 0 0)))⟩,
     ⟨(some 5), none, .op (.mv (.const (.int .i64 0)))⟩])
  (.seq (.seq (.reg [⟨(some 15), none, .op (.mv (.tmp 0))⟩,
      ⟨(some 16), none, .call f_width_Range [(.tmp 15)]⟩,
      ⟨(some 14), none, .op (.mv (.tmp 16))⟩,
      ⟨(some 17), none, .op (.extract (.tmp 14) 0)⟩,
      ⟨(some 18), none, .op (.extract (.tmp 14) 1)⟩,
      ⟨(some 19), none, .op (.extract (.tmp 14) 2)⟩,
      ⟨(some 6), none, .op (.mv (.tmp 17))⟩,
      ⟨(some 7), none, .op (.mv (.tmp 18))⟩,
      ⟨(some 8), none, .op (.mv (.tmp 19))⟩])
   (.seq (.reg [⟨(some 20), none, .op (.mv (.tmp 8))⟩,
      ⟨(some 21), none, .op (.bin .neq (.tmp 20) (.const (.int .i64 0)))⟩])
   (.cond (.tmp 21)
     (.seq (.reg [⟨(some 22), none, .op (.mv (.tmp 8))⟩,
        ⟨(some 4), none, .op (.mv (.const (.slice none 0 0)))⟩,
        ⟨(some 5), none, .op (.mv (.tmp 22))⟩])
     (.ret))
     (.skip))))
  (.seq (.reg [⟨(some 23), none, .op (.mv (.tmp 0))⟩,
     ⟨(some 24), none, .op (.bin .quo (.tmp 23) (.const (.int .i64 8)))⟩,
     ⟨(some 9), none, .op (.mv (.tmp 24))⟩])
  (.seq (.seq (.reg [⟨(some 25), none, .op (.mv (.tmp 1))⟩,
      ⟨(some 26), none, .op (.len none (.tmp 25))⟩,
      ⟨(some 27), none, .op (.mv (.tmp 9))⟩,
      ⟨(some 28), none, .op (.bin .rem (.tmp 26) (.tmp 27))⟩,
      ⟨(some 29), none, .op (.bin .neq (.tmp 28) (.const (.int .i64 0)))⟩])
   (.cond (.tmp 29)
     (.seq (.reg [⟨(some 4), none, .op (.mv (.const (.slice none 0 0)))⟩,
        ⟨(some 5), none, .op (.mv (.const (.int .i64 12)))⟩])
     (.ret))
     (.skip)))
  (.seq (.seq (.reg [⟨(some 30), none, .op (.mv (.tmp 1))⟩,
      ⟨(some 31), none, .op (.len none (.tmp 30))⟩,
      ⟨(some 32), none, .op (.mv (.tmp 9))⟩,
      ⟨(some 33), none, .op (.bin .quo (.tmp 31) (.tmp 32))⟩,
      ⟨(some 34), none, .op (.bin .gtr (.tmp 33) (.const (.int .i64 4000)))⟩])
   (.cond (.tmp 34)
     (.seq (.reg [⟨(some 4), none, .op (.mv (.const (.slice none 0 0)))⟩,
        ⟨(some 5), none, .op (.mv (.const (.int .i64 4)))⟩])
     (.ret))
     (.skip)))
  (.seq (.reg [⟨(some 10), none, .op (.mv (.const (.slice none 0 0)))⟩])
  (.seq (.seq (.reg [⟨(some 11), none, .op (.mv (.const (.int .i64 0)))⟩])
   (.block 0 (.loop (.seq (.seq (.reg [⟨(some 35), none, .op (.mv (.tmp 11))⟩,
         ⟨(some 36), none, .op (.mv (.tmp 1))⟩,
         ⟨(some 37), none, .op (.len none (.tmp 36))⟩,
         ⟨(some 38), none, .op (.bin .lss (.tmp 35) (.tmp 37))⟩])
      (.cond (.tmp 38)
        (.skip)
        (.exit 0)))
     (.seq (.block 1 (.seq (.seq (.reg [⟨(some 42), none, .op (.mv (.tmp 0))⟩,
           ⟨(some 43), none, .op (.bin .eql (.tmp 42) (.const (.int .i64 8)))⟩])
        (.cond (.tmp 43)
          (.seq (.reg [⟨(some 44), none, .op (.mv (.tmp 10))⟩,
             ⟨(some 45), none, .op (.mv (.tmp 1))⟩,
             ⟨(some 46), none, .op (.mv (.tmp 11))⟩,
             ⟨(some 47), none, .op (.iaddr (.slice 1) (.tmp 45) (.tmp 46))⟩,
             ⟨(some 48), none, .op (.load none (.tmp 47))⟩,
             ⟨(some 49), none, .op (.conv (.int .i32) (.tmp 48))⟩,
             ⟨(some 50), none, .op (.bin .sub (.tmp 49) (.const (.int .i32 128)))⟩,
             ⟨(some 51), none, .op (.bslice t0 1 1 [.int .i32 0] [(0, 1, (.tmp 50))])⟩,
             ⟨(some 52), none, .op (.append t0 1 4 false (.tmp 44) (.tmp 51))⟩,
             ⟨(some 10), none, .op (.mv (.tmp 52))⟩])
          (.exit 1))
          (.skip)))
       (.seq (.reg [⟨(some 12), none, .op (.mv (.const (.int .i32 0)))⟩])
       (.seq (.seq (.reg [⟨(some 53), none, .op (.mv (.tmp 9))⟩,
           ⟨(some 54), none, .op (.mv (.const (.int .i64 0)))⟩])
        (.block 2 (.loop (.seq (.reg [⟨(some 55), none, .op (.bin .lss (.tmp 54) (.tmp 53))⟩])
          (.seq (.cond (.tmp 55)
             (.skip)
             (.exit 2))
          (.seq (.block 3 (.seq (.reg [⟨(some 56), none, .op (.mv (.tmp 54))⟩,
               ⟨(some 13), none, .op (.mv (.tmp 56))⟩])
            (.reg [⟨(some 57), none, .op (.mv (.tmp 12))⟩,
              ⟨(some 58), none, .op (.mv (.tmp 1))⟩,
              ⟨(some 59), none, .op (.mv (.tmp 11))⟩,
              ⟨(some 60), none, .op (.mv (.tmp 13))⟩,
              ⟨(some 61), none, .op (.bin .add (.tmp 59) (.tmp 60))⟩,
              ⟨(some 62), none, .op (.iaddr (.slice 1) (.tmp 58) (.tmp 61))⟩,
              ⟨(some 63), none, .op (.load none (.tmp 62))⟩,
              ⟨(some 64), none, .op (.conv (.int .i32) (.tmp 63))⟩,
              ⟨(some 65), none, .op (.mv (.tmp 13))⟩,
              ⟨(some 66), none, .op (.bin .mul (.const (.int .i64 8)) (.tmp 65))⟩,
              ⟨(some 67), none, .op (.bin .shl (.tmp 64) (.tmp 66))⟩,
              ⟨(some 68), none, .op (.bin .or (.tmp 57) (.tmp 67))⟩,
              ⟨(some 12), none, .op (.mv (.tmp 68))⟩])))
          (.reg [⟨(some 69), none, .op (.bin .add (.tmp 54) (.const (.int .i64 1)))⟩,
            ⟨(some 54), none, .op (.mv (.tmp 69))⟩])))))))
       (.reg [⟨(some 70), none, .op (.mv (.tmp 10))⟩,
         ⟨(some 71), none, .op (.mv (.tmp 12))⟩,
         ⟨(some 72), none, .op (.mv (.tmp 0))⟩,
         ⟨(some 73), none, .op (.bin .sub (.const (.int .i64 32)) (.tmp 72))⟩,
         ⟨(some 74), none, .op (.bin .shl (.tmp 71) (.tmp 73))⟩,
         ⟨(some 75), none, .op (.mv (.tmp 0))⟩,
         ⟨(some 76), none, .op (.bin .sub (.const (.int .i64 32)) (.tmp 75))⟩,
         ⟨(some 77), none, .op (.bin .shr (.tmp 74) (.tmp 76))⟩,
         ⟨(some 78), none, .op (.bslice t0 1 1 [.int .i32 0] [(0, 1, (.tmp 77))])⟩,
         ⟨(some 79), none, .op (.append t0 1 4 false (.tmp 70) (.tmp 78))⟩,
         ⟨(some 10), none, .op (.mv (.tmp 79))⟩])))))
     (.reg [⟨(some 39), none, .op (.mv (.tmp 11))⟩,
       ⟨(some 40), none, .op (.mv (.tmp 9))⟩,
       ⟨(some 41), none, .op (.bin .add (.tmp 39) (.tmp 40))⟩,
       ⟨(some 11), none, .op (.mv (.tmp 41))⟩]))))))
  (.seq (.reg [⟨(some 80), none, .op (.mv (.tmp 10))⟩,
     ⟨(some 4), none, .op (.mv (.tmp 80))⟩,
     ⟨(some 5), none, .op (.mv (.const (.int .i64 0)))⟩])
  (.ret))))))))

def ac_clip_Check (f_clip_head f_width_Check t0 : Nat) : AC :=
  .seq (.reg [⟨(some 1), none, .op (.box t0 4 (.tmp 0))⟩,
     ⟨(some 2), none, .op (.mv (.const (.int .i64 0)))⟩])
  (.seq (.seq (.reg [⟨(some 4), none, .op (.faddr 0 (.tmp 1))⟩,
      ⟨(some 5), none, .op (.load none (.tmp 4))⟩,
      ⟨(some 6), none, .op (.bin .lss (.tmp 5) (.const (.int .i64 1)))⟩,
      ⟨(some 7), none, .op (.mv (.tmp 6))⟩,
      ⟨(some 8), (some (7, false)), .op (.faddr 3 (.tmp 1))⟩,
      ⟨(some 9), (some (7, false)), .op (.load none (.tmp 8))⟩,
      ⟨(some 10), (some (7, false)), .op (.len none (.tmp 9))⟩,
      ⟨(some 11), (some (7, false)), .op (.faddr 0 (.tmp 1))⟩,
      ⟨(some 12), (some (7, false)), .op (.load none (.tmp 11))⟩,
      ⟨(some 13), (some (7, false)), .op (.bin .rem (.tmp 10) (.tmp 12))⟩,
      ⟨(some 14), (some (7, false)), .op (.bin .neq (.tmp 13) (.const (.int .i64 0)))⟩,
      ⟨(some 15), none, .op (.pick (.tmp 7) (.const (.bool true)) (.tmp 14))⟩])
   (.cond (.tmp 15)
     (.seq (.reg [⟨(some 2), none, .op (.mv (.const (.int .i64 8)))⟩])
     (.ret))
     (.skip)))
  (.seq (.seq (.draw [⟨0, false, ⟨(some 16), none, .op (.load (some 4) (.tmp 1))⟩⟩,
      ⟨0, false, ⟨(some 17), none, .op (.faddr 3 (.tmp 1))⟩⟩,
      ⟨0, false, ⟨(some 18), none, .op (.load none (.tmp 17))⟩⟩,
      ⟨0, false, ⟨(some 19), none, .op (.len none (.tmp 18))⟩⟩,
      ⟨0, false, ⟨(some 20), none, .op (.faddr 0 (.tmp 1))⟩⟩,
      ⟨0, false, ⟨(some 21), none, .op (.load none (.tmp 20))⟩⟩,
      ⟨0, false, ⟨(some 22), none, .op (.bin .quo (.tmp 19) (.tmp 21))⟩⟩,
      ⟨0, false, ⟨(some 23), none, .call f_clip_head [(.tmp 16), (.tmp 22)]⟩⟩,
      ⟨0, false, ⟨(some 3), none, .op (.mv (.tmp 23))⟩⟩] [])
   (.seq (.reg [⟨(some 24), none, .op (.mv (.tmp 3))⟩,
      ⟨(some 25), none, .op (.bin .neq (.tmp 24) (.const (.int .i64 0)))⟩])
   (.cond (.tmp 25)
     (.seq (.reg [⟨(some 26), none, .op (.mv (.tmp 3))⟩,
        ⟨(some 2), none, .op (.mv (.tmp 26))⟩])
     (.ret))
     (.skip))))
  (.seq (.seq (.reg [⟨(some 27), none, .op (.faddr 1 (.tmp 1))⟩,
      ⟨(some 28), none, .op (.load none (.tmp 27))⟩,
      ⟨(some 29), none, .op (.faddr 3 (.tmp 1))⟩,
      ⟨(some 30), none, .op (.load none (.tmp 29))⟩,
      ⟨(some 31), none, .call f_width_Check [(.tmp 28), (.tmp 30)]⟩,
      ⟨(some 32), none, .op (.bin .neq (.tmp 31) (.const (.int .i64 0)))⟩])
   (.cond (.tmp 32)
     (.seq (.reg [⟨(some 2), none, .op (.mv (.const (.int .i64 8)))⟩])
     (.ret))
     (.skip)))
  (.seq (.reg [⟨(some 2), none, .op (.mv (.const (.int .i64 0)))⟩])
  (.ret)))))

def ac_cadenzaref20_Asked (f_cadenzaref20_Check f_cadenzaref18_Check t0 : Nat) : AC :=
  .seq (.reg [⟨(some 2), none, .op (.box t0 2 (.tmp 0))⟩,
     ⟨(some 4), none, .op (.mv (.const (.int .i64 0)))⟩])
  (.seq (.seq (.reg [⟨(some 5), none, .op (.load (some 2) (.tmp 2))⟩,
      ⟨(some 6), none, .call f_cadenzaref20_Check [(.tmp 5)]⟩,
      ⟨(some 7), none, .op (.bin .neq (.tmp 6) (.const (.int .i64 0)))⟩])
   (.cond (.tmp 7)
     (.seq (.reg [⟨(some 4), none, .op (.mv (.const (.int .i64 2)))⟩])
     (.ret))
     (.skip)))
  (.seq (.seq (.reg [⟨(some 8), none, .op (.faddr 1 (.tmp 2))⟩,
      ⟨(some 9), none, .op (.load none (.tmp 8))⟩,
      ⟨(some 10), none, .op (.mv (.tmp 1))⟩,
      ⟨(some 11), none, .call f_cadenzaref18_Check [(.tmp 9), (.tmp 10)]⟩,
      ⟨(some 12), none, .op (.bin .neq (.tmp 11) (.const (.int .i64 0)))⟩])
   (.cond (.tmp 12)
     (.seq (.reg [⟨(some 13), none, .op (.faddr 1 (.tmp 2))⟩,
        ⟨(some 14), none, .op (.load none (.tmp 13))⟩,
        ⟨(some 15), none, .op (.mv (.tmp 1))⟩,
        ⟨(some 16), none, .call f_cadenzaref18_Check [(.tmp 14), (.tmp 15)]⟩,
        ⟨(some 4), none, .op (.mv (.tmp 16))⟩])
     (.ret))
     (.skip)))
  (.seq (.seq (.reg [⟨(some 17), none, .op (.mv (.tmp 1))⟩,
      ⟨(some 18), none, .op (.len none (.tmp 17))⟩,
      ⟨(some 19), none, .op (.bin .lss (.tmp 18) (.const (.int .i64 1)))⟩,
      ⟨(some 20), none, .op (.mv (.tmp 19))⟩,
      ⟨(some 21), (some (20, false)), .op (.mv (.tmp 1))⟩,
      ⟨(some 22), (some (20, false)), .op (.len none (.tmp 21))⟩,
      ⟨(some 23), (some (20, false)), .op (.faddr 0 (.tmp 2))⟩,
      ⟨(some 24), (some (20, false)), .op (.load none (.tmp 23))⟩,
      ⟨(some 25), (some (20, false)), .op (.bin .rem (.tmp 22) (.tmp 24))⟩,
      ⟨(some 26), (some (20, false)), .op (.bin .gtr (.tmp 25) (.const (.int .i64 0)))⟩,
      ⟨(some 27), none, .op (.pick (.tmp 20) (.const (.bool true)) (.tmp 26))⟩])
   (.cond (.tmp 27)
     (.seq (.reg [⟨(some 4), none, .op (.mv (.const (.int .i64 2)))⟩])
     (.ret))
     (.skip)))
  (.seq (.reg [⟨(some 4), none, .op (.mv (.const (.int .i64 0)))⟩])
  (.ret)))))

def ac_cadenzaref24_Shape (t0 t1 : Nat) : AC :=
  .seq (.reg [⟨(some 1), none, .op (.box t0 4 (.tmp 0))⟩,
     ⟨(some 2), none, .op (.alloc t1 [.int .i64 0, .int .i64 0])⟩])
  (.seq (.reg [⟨(some 3), none, .op (.faddr 0 (.tmp 1))⟩,
     ⟨(some 4), none, .op (.load none (.tmp 3))⟩,
     ⟨(some 5), none, .op (.faddr 1 (.tmp 1))⟩,
     ⟨(some 6), none, .op (.load none (.tmp 5))⟩,
     ⟨(some 7), none, .op (.build [.int .i64 0, .int .i64 0] [(0, 1, (.tmp 4)), (1, 1, (.tmp 6))])⟩,
     ⟨none, none, .op (.store 2 (.tmp 2) (.tmp 7))⟩])
  (.ret))

def ac_cadenzaref24_Head (f_cadenzaref24_Shape f_cadenzaref21_Asked f_cadenzaref22_Count t0 : Nat) : AC :=
  .seq (.reg [⟨(some 2), none, .op (.box t0 4 (.tmp 0))⟩,
     ⟨(some 4), none, .op (.mv (.const (.bool false)))⟩])
  (.seq (.seq (.reg [⟨(some 7), none, .op (.load (some 4) (.tmp 2))⟩,
      ⟨(some 8), none, .call f_cadenzaref24_Shape [(.tmp 7)]⟩,
      ⟨(some 9), none, .op (.mv (.tmp 1))⟩,
      ⟨(some 10), none, .call f_cadenzaref21_Asked [(.tmp 8), (.tmp 9)]⟩,
      ⟨(some 11), none, .op (.bin .neq (.tmp 10) (.const (.int .i64 0)))⟩])
   (.cond (.tmp 11)
     (.seq (.reg [⟨(some 4), none, .op (.mv (.const (.bool false)))⟩])
     (.ret))
     (.skip)))
  (.seq (.reg [⟨(some 13), none, .op (.faddr 2 (.tmp 2))⟩,
     ⟨(some 14), none, .op (.load none (.tmp 13))⟩,
     ⟨(some 15), none, .op (.mv (.tmp 1))⟩,
     ⟨(some 16), none, .call f_cadenzaref22_Count [(.tmp 14), (.tmp 15)]⟩,
     ⟨(some 12), none, .op (.mv (.tmp 16))⟩,
     ⟨(some 17), none, .op (.extract (.tmp 12) 0)⟩,
     ⟨(some 18), none, .op (.extract (.tmp 12) 1)⟩,
     ⟨(some 5), none, .op (.mv (.tmp 17))⟩,
     ⟨(some 6), none, .op (.mv (.tmp 18))⟩])
  (.seq (.reg [⟨(some 19), none, .op (.mv (.tmp 6))⟩,
     ⟨(some 20), none, .op (.bin .eql (.tmp 19) (.const (.int .i64 0)))⟩,
     ⟨(some 4), none, .op (.mv (.tmp 20))⟩])
  (.ret))))

def ac_le_At (f_le_Value : Nat) : AC :=
  .seq (.reg [⟨(some 6), none, .op (.mv (.const (.int .u64 0)))⟩,
     ⟨(some 7), none, .op (.mv (.const (.int .i64 0)))⟩])
  (.seq (.seq (.reg [⟨(some 8), none, .op (.mv (.tmp 2))⟩,
      ⟨(some 9), none, .op (.bin .lss (.tmp 8) (.const (.int .i64 1)))⟩,
      ⟨(some 10), none, .op (.mv (.tmp 9))⟩,
      ⟨(some 11), (some (10, false)), .op (.mv (.tmp 2))⟩,
      ⟨(some 12), (some (10, false)), .op (.bin .gtr (.tmp 11) (.const (.int .i64 8)))⟩,
      ⟨(some 13), none, .op (.pick (.tmp 10) (.const (.bool true)) (.tmp 12))⟩,
      ⟨(some 14), none, .op (.mv (.tmp 13))⟩,
      ⟨(some 15), (some (14, false)), .op (.mv (.tmp 1))⟩,
      ⟨(some 16), (some (14, false)), .op (.bin .lss (.tmp 15) (.const (.int .i64 0)))⟩,
      ⟨(some 17), none, .op (.pick (.tmp 14) (.const (.bool true)) (.tmp 16))⟩])
   (.cond (.tmp 17)
     (.seq (.reg [⟨(some 6), none, .op (.mv (.const (.int .u64 0)))⟩,
        ⟨(some 7), none, .op (.mv (.const (.int .i64 2)))⟩])
     (.ret))
     (.skip)))
  (.seq (.seq (.reg [⟨(some 18), none, .op (.mv (.tmp 1))⟩,
      ⟨(some 19), none, .op (.mv (.tmp 0))⟩,
      ⟨(some 20), none, .op (.len none (.tmp 19))⟩,
      ⟨(some 21), none, .op (.mv (.tmp 2))⟩,
      ⟨(some 22), none, .op (.bin .sub (.tmp 20) (.tmp 21))⟩,
      ⟨(some 23), none, .op (.bin .gtr (.tmp 18) (.tmp 22))⟩])
   (.cond (.tmp 23)
     (.seq (.reg [⟨(some 6), none, .op (.mv (.const (.int .u64 0)))⟩,
        ⟨(some 7), none, .op (.mv (.const (.int .i64 24)))⟩])
     (.ret))
     (.skip)))
  (.seq (.reg [⟨(some 24), none, .op (.mv (.tmp 0))⟩,
     ⟨(some 25), none, .op (.mv (.tmp 1))⟩,
     ⟨(some 26), none, .op (.mv (.tmp 1))⟩,
     ⟨(some 27), none, .op (.mv (.tmp 2))⟩,
     ⟨(some 28), none, .op (.bin .add (.tmp 26) (.tmp 27))⟩,
     ⟨(some 29), none, .op (.slice 1 (.tmp 24) (some (.tmp 25)) (some (.tmp 28)) none)⟩,
     ⟨(some 30), none, .call f_le_Value [(.tmp 29)]⟩,
     ⟨(some 31), none, .op (.extract (.tmp 30) 0)⟩,
     ⟨(some 32), none, .op (.extract (.tmp 30) 1)⟩,
     ⟨(some 6), none, .op (.mv (.tmp 31))⟩,
     ⟨(some 7), none, .op (.mv (.tmp 32))⟩])
  (.ret))))

def ac_riff_isName : AC :=
  .seq (.reg [⟨(some 2), none, .op (.mv (.const (.bool false)))⟩])
  (.seq (.seq (.reg [⟨(some 5), none, .op (.mv (.tmp 0))⟩,
      ⟨(some 6), none, .op (.conv .toBytes (.tmp 5))⟩,
      ⟨(some 7), none, .op (.len none (.tmp 6))⟩,
      ⟨(some 8), none, .op (.mv (.const (.int .i64 0)))⟩])
   (.block 0 (.loop (.seq (.reg [⟨(some 9), none, .op (.bin .lss (.tmp 8) (.tmp 7))⟩])
     (.seq (.cond (.tmp 9)
        (.skip)
        (.exit 0))
     (.seq (.block 1 (.seq (.reg [⟨(some 10), none, .op (.iaddr (.slice 1) (.tmp 6) (.tmp 8))⟩,
          ⟨(some 11), none, .op (.load none (.tmp 10))⟩,
          ⟨(some 4), none, .op (.mv (.tmp 11))⟩])
       (.seq (.reg [⟨(some 12), none, .op (.mv (.tmp 4))⟩,
          ⟨(some 13), none, .op (.bin .lss (.tmp 12) (.const (.int .u8 32)))⟩,
          ⟨(some 14), none, .op (.mv (.tmp 13))⟩,
          ⟨(some 15), (some (14, false)), .op (.mv (.tmp 4))⟩,
          ⟨(some 16), (some (14, false)), .op (.bin .gtr (.tmp 15) (.const (.int .u8 126)))⟩,
          ⟨(some 17), none, .op (.pick (.tmp 14) (.const (.bool true)) (.tmp 16))⟩])
       (.cond (.tmp 17)
         (.seq (.reg [⟨(some 2), none, .op (.mv (.const (.bool false)))⟩])
         (.ret))
         (.skip)))))
     (.reg [⟨(some 18), none, .op (.bin .add (.tmp 8) (.const (.int .i64 1)))⟩,
       ⟨(some 8), none, .op (.mv (.tmp 18))⟩])))))))
  (.seq (.reg [⟨(some 19), none, .op (.mv (.tmp 0))⟩,
     ⟨(some 20), none, .op (.len (some none) (.tmp 19))⟩,
     ⟨(some 21), none, .op (.bin .eql (.tmp 20) (.const (.int .i64 4)))⟩,
     ⟨(some 2), none, .op (.mv (.tmp 21))⟩])
  (.ret)))

def ac_riff_next (f_riff_isName f_le_At f_bytes_Clone t0 : Nat) : AC :=
  .seq (.reg [⟨(some 2), none, .op (.alloc t0 [.str [], .emp true])⟩,
     ⟨(some 3), none, .op (.mv (.const (.slice none 0 0)))⟩,
     ⟨(some 4), none, .op (.mv (.const (.bool false)))⟩])
  (.seq (.seq (.reg [⟨(some 9), none, .op (.mv (.tmp 0))⟩,
      ⟨(some 10), none, .op (.len none (.tmp 9))⟩,
      ⟨(some 11), none, .op (.bin .lss (.tmp 10) (.const (.int .i64 8)))⟩,
      ⟨(some 12), none, .op (.mv (.tmp 11))⟩,
      ⟨(some 13), (some (12, false)), .op (.mv (.tmp 0))⟩,
      ⟨(some 14), (some (12, false)), .op (.slice 1 (.tmp 13) none (some (.const (.int .i64 4))) none)⟩,
      ⟨(some 15), (some (12, false)), .op (.conv .toStr (.tmp 14))⟩,
      ⟨(some 16), (some (12, false)), .call f_riff_isName [(.tmp 15)]⟩,
      ⟨(some 17), (some (12, false)), .op (.un .not (.tmp 16))⟩,
      ⟨(some 18), none, .op (.pick (.tmp 12) (.const (.bool true)) (.tmp 17))⟩])
   (.cond (.tmp 18)
     (.seq (.reg [⟨(some 19), none, .op (.build [.str [], .emp true] [])⟩,
        ⟨none, none, .op (.store 2 (.tmp 2) (.tmp 19))⟩,
        ⟨(some 3), none, .op (.mv (.const (.slice none 0 0)))⟩,
        ⟨(some 4), none, .op (.mv (.const (.bool false)))⟩])
     (.ret))
     (.skip)))
  (.seq (.reg [⟨(some 21), none, .op (.mv (.tmp 0))⟩,
     ⟨(some 22), none, .call f_le_At [(.tmp 21), (.const (.int .i64 4)), (.const (.int .i64 4))]⟩,
     ⟨(some 20), none, .op (.mv (.tmp 22))⟩,
     ⟨(some 23), none, .op (.extract (.tmp 20) 0)⟩,
     ⟨(some 24), none, .op (.extract (.tmp 20) 1)⟩,
     ⟨(some 5), none, .op (.mv (.tmp 23))⟩,
     ⟨(some 6), none, .op (.mv (.tmp 24))⟩])
  (.seq (.draw [⟨0, false, ⟨(some 25), none, .op (.mv (.tmp 0))⟩⟩,
     ⟨0, false, ⟨(some 26), none, .op (.slice 1 (.tmp 25) none (some (.const (.int .i64 4))) none)⟩⟩,
     ⟨0, false, ⟨(some 27), none, .op (.conv .toStr (.tmp 26))⟩⟩,
     ⟨0, false, ⟨(some 28), none, .op (.mv (.tmp 0))⟩⟩,
     ⟨0, false, ⟨(some 29), none, .op (.slice 1 (.tmp 28) (some (.const (.int .i64 8))) none none)⟩⟩,
     ⟨0, false, ⟨(some 7), none, .op (.mv (.tmp 27))⟩⟩,
     ⟨0, false, ⟨(some 0), none, .op (.mv (.tmp 29))⟩⟩] [])
  (.seq (.seq (.reg [⟨(some 30), none, .op (.mv (.tmp 5))⟩,
      ⟨(some 31), none, .op (.mv (.tmp 0))⟩,
      ⟨(some 32), none, .op (.len none (.tmp 31))⟩,
      ⟨(some 33), none, .op (.conv (.int .u64) (.tmp 32))⟩,
      ⟨(some 34), none, .op (.bin .gtr (.tmp 30) (.tmp 33))⟩])
   (.cond (.tmp 34)
     (.seq (.reg [⟨(some 35), none, .op (.build [.str [], .emp true] [])⟩,
        ⟨none, none, .op (.store 2 (.tmp 2) (.tmp 35))⟩,
        ⟨(some 3), none, .op (.mv (.const (.slice none 0 0)))⟩,
        ⟨(some 4), none, .op (.mv (.const (.bool false)))⟩])
     (.ret))
     (.skip)))
  (.seq (.reg [⟨(some 36), none, .op (.mv (.tmp 7))⟩,
     ⟨(some 37), none, .op (.mv (.tmp 0))⟩,
     ⟨(some 38), none, .op (.mv (.tmp 5))⟩,
     ⟨(some 39), none, .op (.slice 1 (.tmp 37) none (some (.tmp 38)) none)⟩,
     ⟨(some 40), none, .call f_bytes_Clone [(.tmp 39)]⟩,
     ⟨(some 41), none, .op (.build [.str [], .emp true] [(0, 1, (.tmp 36)), (1, 1, (.tmp 40))])⟩,
     ⟨(some 8), none, .op (.alloc t0 [.str [], .emp true])⟩,
     ⟨none, none, .op (.store 2 (.tmp 8) (.tmp 41))⟩])
  (.seq (.reg [⟨(some 42), none, .op (.mv (.tmp 0))⟩,
     ⟨(some 43), none, .op (.mv (.tmp 5))⟩,
     ⟨(some 44), none, .op (.slice 1 (.tmp 42) (some (.tmp 43)) none none)⟩,
     ⟨(some 0), none, .op (.mv (.tmp 44))⟩])
  (.seq (.seq (.reg [⟨(some 45), none, .op (.mv (.tmp 5))⟩,
      ⟨(some 46), none, .op (.bin .rem (.tmp 45) (.const (.int .u64 2)))⟩,
      ⟨(some 47), none, .op (.bin .eql (.tmp 46) (.const (.int .u64 1)))⟩])
   (.cond (.tmp 47)
     (.seq (.seq (.reg [⟨(some 48), none, .op (.mv (.tmp 0))⟩,
         ⟨(some 49), none, .op (.len none (.tmp 48))⟩,
         ⟨(some 50), none, .op (.bin .eql (.tmp 49) (.const (.int .i64 0)))⟩,
         ⟨(some 51), none, .op (.mv (.tmp 50))⟩,
         ⟨(some 52), (some (51, false)), .op (.mv (.tmp 0))⟩,
         ⟨(some 53), (some (51, false)), .op (.iaddr (.slice 1) (.tmp 52) (.const (.int .i64 0)))⟩,
         ⟨(some 54), (some (51, false)), .op (.load none (.tmp 53))⟩,
         ⟨(some 55), (some (51, false)), .op (.bin .neq (.tmp 54) (.const (.int .u8 0)))⟩,
         ⟨(some 56), none, .op (.pick (.tmp 51) (.const (.bool true)) (.tmp 55))⟩])
      (.cond (.tmp 56)
        (.seq (.reg [⟨(some 57), none, .op (.build [.str [], .emp true] [])⟩,
           ⟨none, none, .op (.store 2 (.tmp 2) (.tmp 57))⟩,
           ⟨(some 3), none, .op (.mv (.const (.slice none 0 0)))⟩,
           ⟨(some 4), none, .op (.mv (.const (.bool false)))⟩])
        (.ret))
        (.skip)))
     (.reg [⟨(some 58), none, .op (.mv (.tmp 0))⟩,
       ⟨(some 59), none, .op (.slice 1 (.tmp 58) (some (.const (.int .i64 1))) none none)⟩,
       ⟨(some 0), none, .op (.mv (.tmp 59))⟩]))
     (.skip)))
  (.seq (.reg [⟨(some 60), none, .op (.load (some 2) (.tmp 8))⟩,
     ⟨(some 61), none, .op (.mv (.tmp 0))⟩,
     ⟨none, none, .op (.store 2 (.tmp 2) (.tmp 60))⟩,
     ⟨(some 3), none, .op (.mv (.tmp 61))⟩,
     ⟨(some 4), none, .op (.mv (.const (.bool true)))⟩])
  (.ret)))))))))

def ac_riff_Check (f_riff_isName f_riff_size f_slices_ContainsFunc_api_Chunk_api_Chunk f_riff_Check_1 : Nat) : AC :=
  .seq (.reg [⟨(some 4), none, .op (.mv (.const (.int .i64 0)))⟩])
  (.seq (.seq (.reg [⟨(some 5), none, .op (.mv (.tmp 1))⟩,
      ⟨(some 6), none, .op (.len none (.tmp 5))⟩,
      ⟨(some 7), none, .op (.bin .gtr (.tmp 6) (.const (.int .i64 20)))⟩])
   (.cond (.tmp 7)
     (.seq (.reg [⟨(some 4), none, .op (.mv (.const (.int .i64 4)))⟩])
     (.ret))
     (.skip)))
  (.seq (.seq (.reg [⟨(some 8), none, .op (.mv (.tmp 0))⟩,
      ⟨(some 9), none, .call f_riff_isName [(.tmp 8)]⟩,
      ⟨(some 10), none, .op (.un .not (.tmp 9))⟩,
      ⟨(some 11), none, .op (.mv (.tmp 10))⟩,
      ⟨(some 12), (some (11, false)), .op (.mv (.tmp 1))⟩,
      ⟨(some 13), (some (11, false)), .call f_riff_size [(.tmp 12)]⟩,
      ⟨(some 14), (some (11, false)), .op (.bin .add (.tmp 13) (.const (.int .i64 8)))⟩,
      ⟨(some 15), (some (11, false)), .op (.bin .gtr (.tmp 14) (.const (.int .i64 100000)))⟩,
      ⟨(some 16), none, .op (.pick (.tmp 11) (.const (.bool true)) (.tmp 15))⟩,
      ⟨(some 17), none, .op (.mv (.tmp 16))⟩,
      ⟨(some 18), (some (17, false)), .op (.mv (.tmp 1))⟩,
      ⟨(some 19), (some (17, false)), .call f_slices_ContainsFunc_api_Chunk_api_Chunk [(.tmp 18), (.func f_riff_Check_1)]⟩,
      ⟨(some 20), none, .op (.pick (.tmp 17) (.const (.bool true)) (.tmp 19))⟩])
   (.cond (.tmp 20)
     (.seq (.reg [⟨(some 4), none, .op (.mv (.const (.int .i64 8)))⟩])
     (.ret))
     (.skip)))
  (.seq (.reg [⟨(some 4), none, .op (.mv (.const (.int .i64 0)))⟩])
  (.ret))))

def ac_riff_Write_1 (f_le_Bytes f_bytes_Buffer_WriteString f_bytes_Buffer_Write : Nat) : AC :=
  .seq (.reg [⟨(some 8), none, .op (.mv (.tmp 1))⟩,
     ⟨(some 9), none, .op (.conv (.int .u64) (.tmp 8))⟩,
     ⟨(some 10), none, .call f_le_Bytes [(.tmp 9), (.const (.int .i64 4))]⟩,
     ⟨(some 7), none, .op (.mv (.tmp 10))⟩,
     ⟨(some 11), none, .op (.extract (.tmp 7) 0)⟩,
     ⟨(some 12), none, .op (.extract (.tmp 7) 1)⟩,
     ⟨(some 5), none, .op (.mv (.tmp 11))⟩,
     ⟨(some 6), none, .op (.mv (.tmp 12))⟩])
  (.seq (.reg [⟨(some 13), none, .op (.mv (.tmp 0))⟩,
     ⟨(some 14), none, .call f_bytes_Buffer_WriteString [(.tmp 2), (.tmp 13)]⟩])
  (.reg [⟨(some 15), none, .op (.mv (.tmp 5))⟩,
    ⟨(some 16), none, .call f_bytes_Buffer_Write [(.tmp 2), (.tmp 15)]⟩]))

def ac_le_Bytes (f_le_fits t0 : Nat) : AC :=
  .seq (.reg [⟨(some 4), none, .op (.mv (.const (.slice none 0 0)))⟩,
     ⟨(some 5), none, .op (.mv (.const (.int .i64 0)))⟩])
  (.seq (.seq (.reg [⟨(some 8), none, .op (.mv (.tmp 1))⟩,
      ⟨(some 9), none, .op (.bin .lss (.tmp 8) (.const (.int .i64 1)))⟩,
      ⟨(some 10), none, .op (.mv (.tmp 9))⟩,
      ⟨(some 11), (some (10, false)), .op (.mv (.tmp 1))⟩,
      ⟨(some 12), (some (10, false)), .op (.bin .gtr (.tmp 11) (.const (.int .i64 8)))⟩,
      ⟨(some 13), none, .op (.pick (.tmp 10) (.const (.bool true)) (.tmp 12))⟩])
   (.cond (.tmp 13)
     (.seq (.reg [⟨(some 4), none, .op (.mv (.const (.slice none 0 0)))⟩,
        ⟨(some 5), none, .op (.mv (.const (.int .i64 2)))⟩])
     (.ret))
     (.skip)))
  (.seq (.seq (.reg [⟨(some 14), none, .op (.mv (.tmp 0))⟩,
      ⟨(some 15), none, .op (.mv (.tmp 1))⟩,
      ⟨(some 16), none, .call f_le_fits [(.tmp 14), (.tmp 15)]⟩,
      ⟨(some 17), none, .op (.un .not (.tmp 16))⟩])
   (.cond (.tmp 17)
     (.seq (.reg [⟨(some 4), none, .op (.mv (.const (.slice none 0 0)))⟩,
        ⟨(some 5), none, .op (.mv (.const (.int .i64 16)))⟩])
     (.ret))
     (.skip)))
  (.seq (.reg [⟨(some 18), none, .op (.mv (.tmp 1))⟩,
     ⟨(some 19), none, .op (.mkslice t0 1 1 [.int .u8 0] (.tmp 18) (.tmp 18))⟩,
     ⟨(some 6), none, .op (.mv (.tmp 19))⟩])
  (.seq (.seq (.reg [⟨(some 20), none, .op (.mv (.tmp 6))⟩,
      ⟨(some 21), none, .op (.len none (.tmp 20))⟩,
      ⟨(some 22), none, .op (.mv (.const (.int .i64 0)))⟩])
   (.block 0 (.loop (.seq (.reg [⟨(some 23), none, .op (.bin .lss (.tmp 22) (.tmp 21))⟩])
     (.seq (.cond (.tmp 23)
        (.skip)
        (.exit 0))
     (.seq (.block 1 (.seq (.reg [⟨(some 24), none, .op (.mv (.tmp 22))⟩,
          ⟨(some 7), none, .op (.mv (.tmp 24))⟩])
       (.reg [⟨(some 25), none, .op (.mv (.tmp 6))⟩,
         ⟨(some 26), none, .op (.mv (.tmp 7))⟩,
         ⟨(some 27), none, .op (.mv (.tmp 0))⟩,
         ⟨(some 28), none, .op (.mv (.tmp 7))⟩,
         ⟨(some 29), none, .op (.bin .mul (.const (.int .i64 8)) (.tmp 28))⟩,
         ⟨(some 30), none, .op (.bin .shr (.tmp 27) (.tmp 29))⟩,
         ⟨(some 31), none, .op (.conv (.int .u8) (.tmp 30))⟩,
         ⟨(some 32), none, .op (.iaddr (.slice 1) (.tmp 25) (.tmp 26))⟩,
         ⟨none, none, .op (.store 1 (.tmp 32) (.tmp 31))⟩])))
     (.reg [⟨(some 33), none, .op (.bin .add (.tmp 22) (.const (.int .i64 1)))⟩,
       ⟨(some 22), none, .op (.mv (.tmp 33))⟩])))))))
  (.seq (.reg [⟨(some 34), none, .op (.mv (.tmp 6))⟩,
     ⟨(some 4), none, .op (.mv (.tmp 34))⟩,
     ⟨(some 5), none, .op (.mv (.const (.int .i64 0)))⟩])
  (.ret))))))

def ac_bytes_Buffer_WriteString (f_bytes_Buffer_tryGrowByReslice f_bytes_Buffer_grow : Nat) : AC :=
  .seq (.reg [⟨(some 4), none, .op (.mv (.const (.int .i64 0)))⟩,
     ⟨(some 5), none, .op (.mv (.const .nilIface))⟩])
  (.seq (.reg [⟨(some 8), none, .op (.mv (.tmp 0))⟩,
     ⟨(some 9), none, .op (.nilck (.tmp 8))⟩,
     ⟨(some 10), none, .op (.faddr 2 (.tmp 9))⟩,
     ⟨none, none, .op (.store 1 (.tmp 10) (.const (.int .i8 0)))⟩])
  (.seq (.reg [⟨(some 12), none, .op (.mv (.tmp 0))⟩,
     ⟨(some 13), none, .op (.mv (.tmp 1))⟩,
     ⟨(some 14), none, .op (.len (some none) (.tmp 13))⟩,
     ⟨(some 15), none, .call f_bytes_Buffer_tryGrowByReslice [(.tmp 12), (.tmp 14)]⟩,
     ⟨(some 11), none, .op (.mv (.tmp 15))⟩,
     ⟨(some 16), none, .op (.extract (.tmp 11) 0)⟩,
     ⟨(some 17), none, .op (.extract (.tmp 11) 1)⟩,
     ⟨(some 6), none, .op (.mv (.tmp 16))⟩,
     ⟨(some 7), none, .op (.mv (.tmp 17))⟩])
  (.seq (.seq (.reg [⟨(some 18), none, .op (.mv (.tmp 7))⟩,
      ⟨(some 19), none, .op (.un .not (.tmp 18))⟩])
   (.cond (.tmp 19)
     (.reg [⟨(some 20), none, .op (.mv (.tmp 0))⟩,
       ⟨(some 21), none, .op (.mv (.tmp 1))⟩,
       ⟨(some 22), none, .op (.len (some none) (.tmp 21))⟩,
       ⟨(some 23), none, .call f_bytes_Buffer_grow [(.tmp 20), (.tmp 22)]⟩,
       ⟨(some 6), none, .op (.mv (.tmp 23))⟩])
     (.skip)))
  (.seq (.reg [⟨(some 24), none, .op (.mv (.tmp 0))⟩,
     ⟨(some 25), none, .op (.nilck (.tmp 24))⟩,
     ⟨(some 26), none, .op (.faddr 0 (.tmp 25))⟩,
     ⟨(some 27), none, .op (.load none (.tmp 26))⟩,
     ⟨(some 28), none, .op (.mv (.tmp 6))⟩,
     ⟨(some 29), none, .op (.slice 1 (.tmp 27) (some (.tmp 28)) none none)⟩,
     ⟨(some 30), none, .op (.mv (.tmp 1))⟩,
     ⟨(some 31), none, .op (.copy 1 true (.tmp 29) (.tmp 30))⟩,
     ⟨(some 4), none, .op (.mv (.tmp 31))⟩,
     ⟨(some 5), none, .op (.mv (.const .nilIface))⟩])
  (.ret)))))

def ac_bytes_Buffer_Write (f_bytes_Buffer_tryGrowByReslice f_bytes_Buffer_grow : Nat) : AC :=
  .seq (.reg [⟨(some 4), none, .op (.mv (.const (.int .i64 0)))⟩,
     ⟨(some 5), none, .op (.mv (.const .nilIface))⟩])
  (.seq (.reg [⟨(some 8), none, .op (.mv (.tmp 0))⟩,
     ⟨(some 9), none, .op (.nilck (.tmp 8))⟩,
     ⟨(some 10), none, .op (.faddr 2 (.tmp 9))⟩,
     ⟨none, none, .op (.store 1 (.tmp 10) (.const (.int .i8 0)))⟩])
  (.seq (.reg [⟨(some 12), none, .op (.mv (.tmp 0))⟩,
     ⟨(some 13), none, .op (.mv (.tmp 1))⟩,
     ⟨(some 14), none, .op (.len none (.tmp 13))⟩,
     ⟨(some 15), none, .call f_bytes_Buffer_tryGrowByReslice [(.tmp 12), (.tmp 14)]⟩,
     ⟨(some 11), none, .op (.mv (.tmp 15))⟩,
     ⟨(some 16), none, .op (.extract (.tmp 11) 0)⟩,
     ⟨(some 17), none, .op (.extract (.tmp 11) 1)⟩,
     ⟨(some 6), none, .op (.mv (.tmp 16))⟩,
     ⟨(some 7), none, .op (.mv (.tmp 17))⟩])
  (.seq (.seq (.reg [⟨(some 18), none, .op (.mv (.tmp 7))⟩,
      ⟨(some 19), none, .op (.un .not (.tmp 18))⟩])
   (.cond (.tmp 19)
     (.reg [⟨(some 20), none, .op (.mv (.tmp 0))⟩,
       ⟨(some 21), none, .op (.mv (.tmp 1))⟩,
       ⟨(some 22), none, .op (.len none (.tmp 21))⟩,
       ⟨(some 23), none, .call f_bytes_Buffer_grow [(.tmp 20), (.tmp 22)]⟩,
       ⟨(some 6), none, .op (.mv (.tmp 23))⟩])
     (.skip)))
  (.seq (.reg [⟨(some 24), none, .op (.mv (.tmp 0))⟩,
     ⟨(some 25), none, .op (.nilck (.tmp 24))⟩,
     ⟨(some 26), none, .op (.faddr 0 (.tmp 25))⟩,
     ⟨(some 27), none, .op (.load none (.tmp 26))⟩,
     ⟨(some 28), none, .op (.mv (.tmp 6))⟩,
     ⟨(some 29), none, .op (.slice 1 (.tmp 27) (some (.tmp 28)) none none)⟩,
     ⟨(some 30), none, .op (.mv (.tmp 1))⟩,
     ⟨(some 31), none, .op (.copy 1 false (.tmp 29) (.tmp 30))⟩,
     ⟨(some 4), none, .op (.mv (.tmp 31))⟩,
     ⟨(some 5), none, .op (.mv (.const .nilIface))⟩])
  (.ret)))))

def ac_riff_size (t0 : Nat) : AC :=
  .seq (.reg [⟨(some 2), none, .op (.mv (.const (.int .i64 0)))⟩])
  (.seq (.reg [⟨(some 3), none, .op (.mv (.const (.int .i64 4)))⟩])
  (.seq (.seq (.reg [⟨(some 6), none, .op (.mv (.tmp 0))⟩,
      ⟨(some 7), none, .op (.len none (.tmp 6))⟩,
      ⟨(some 8), none, .op (.mv (.const (.int .i64 0)))⟩])
   (.block 0 (.loop (.seq (.reg [⟨(some 9), none, .op (.bin .lss (.tmp 8) (.tmp 7))⟩])
     (.seq (.cond (.tmp 9)
        (.skip)
        (.exit 0))
     (.seq (.block 1 (.seq (.reg [⟨(some 10), none, .op (.iaddr (.slice 2) (.tmp 6) (.tmp 8))⟩,
          ⟨(some 11), none, .op (.load (some 2) (.tmp 10))⟩,
          ⟨(some 5), none, .op (.alloc t0 [.str [], .emp true])⟩,
          ⟨none, none, .op (.store 2 (.tmp 5) (.tmp 11))⟩])
       (.reg [⟨(some 12), none, .op (.mv (.tmp 3))⟩,
         ⟨(some 13), none, .op (.faddr 1 (.tmp 5))⟩,
         ⟨(some 14), none, .op (.load none (.tmp 13))⟩,
         ⟨(some 15), none, .op (.len none (.tmp 14))⟩,
         ⟨(some 16), none, .op (.bin .add (.const (.int .i64 8)) (.tmp 15))⟩,
         ⟨(some 17), none, .op (.faddr 1 (.tmp 5))⟩,
         ⟨(some 18), none, .op (.load none (.tmp 17))⟩,
         ⟨(some 19), none, .op (.len none (.tmp 18))⟩,
         ⟨(some 20), none, .op (.bin .and (.tmp 19) (.const (.int .i64 1)))⟩,
         ⟨(some 21), none, .op (.bin .add (.tmp 16) (.tmp 20))⟩,
         ⟨(some 22), none, .op (.bin .add (.tmp 12) (.tmp 21))⟩,
         ⟨(some 3), none, .op (.mv (.tmp 22))⟩])))
     (.reg [⟨(some 23), none, .op (.bin .add (.tmp 8) (.const (.int .i64 1)))⟩,
       ⟨(some 8), none, .op (.mv (.tmp 23))⟩])))))))
  (.seq (.reg [⟨(some 24), none, .op (.mv (.tmp 3))⟩,
     ⟨(some 2), none, .op (.mv (.tmp 24))⟩])
  (.ret))))

def ac_bytes_Buffer_Bytes : AC :=
  .seq (.reg [⟨(some 2), none, .op (.mv (.const (.slice none 0 0)))⟩])
  (.seq (.draw [⟨0, false, ⟨(some 3), none, .op (.mv (.tmp 0))⟩⟩,
     ⟨0, false, ⟨(some 4), none, .op (.nilck (.tmp 3))⟩⟩,
     ⟨0, false, ⟨(some 5), none, .op (.faddr 0 (.tmp 4))⟩⟩,
     ⟨0, false, ⟨(some 6), none, .op (.load none (.tmp 5))⟩⟩,
     ⟨0, false, ⟨(some 7), none, .op (.mv (.tmp 0))⟩⟩,
     ⟨0, false, ⟨(some 8), none, .op (.nilck (.tmp 7))⟩⟩,
     ⟨0, false, ⟨(some 9), none, .op (.faddr 1 (.tmp 8))⟩⟩,
     ⟨0, false, ⟨(some 10), none, .op (.load none (.tmp 9))⟩⟩,
     ⟨0, false, ⟨(some 11), none, .op (.slice 1 (.tmp 6) (some (.tmp 10)) none none)⟩⟩,
     ⟨0, false, ⟨(some 2), none, .op (.mv (.tmp 11))⟩⟩] [])
  (.ret))

def ac_width_Check (f_width_Range : Nat) : AC :=
  .seq (.reg [⟨(some 4), none, .op (.mv (.const (.int .i64 0)))⟩])
  (.seq (.reg [⟨(some 11), none, .op (.mv (.tmp 0))⟩,
     ⟨(some 12), none, .call f_width_Range [(.tmp 11)]⟩,
     ⟨(some 10), none, .op (.mv (.tmp 12))⟩,
     ⟨(some 13), none, .op (.extract (.tmp 10) 0)⟩,
     ⟨(some 14), none, .op (.extract (.tmp 10) 1)⟩,
     ⟨(some 15), none, .op (.extract (.tmp 10) 2)⟩,
     ⟨(some 5), none, .op (.mv (.tmp 13))⟩,
     ⟨(some 6), none, .op (.mv (.tmp 14))⟩,
     ⟨(some 7), none, .op (.mv (.tmp 15))⟩])
  (.seq (.seq (.reg [⟨(some 16), none, .op (.mv (.tmp 7))⟩,
      ⟨(some 17), none, .op (.bin .neq (.tmp 16) (.const (.int .i64 0)))⟩])
   (.cond (.tmp 17)
     (.seq (.reg [⟨(some 18), none, .op (.mv (.tmp 7))⟩,
        ⟨(some 4), none, .op (.mv (.tmp 18))⟩])
     (.ret))
     (.skip)))
  (.seq (.seq (.reg [⟨(some 19), none, .op (.mv (.tmp 1))⟩,
      ⟨(some 20), none, .op (.len none (.tmp 19))⟩,
      ⟨(some 21), none, .op (.bin .gtr (.tmp 20) (.const (.int .i64 4000)))⟩])
   (.cond (.tmp 21)
     (.seq (.reg [⟨(some 4), none, .op (.mv (.const (.int .i64 4)))⟩])
     (.ret))
     (.skip)))
  (.seq (.seq (.reg [⟨(some 22), none, .op (.mv (.tmp 1))⟩,
      ⟨(some 23), none, .op (.len none (.tmp 22))⟩,
      ⟨(some 24), none, .op (.mv (.const (.int .i64 0)))⟩])
   (.block 0 (.loop (.seq (.reg [⟨(some 25), none, .op (.bin .lss (.tmp 24) (.tmp 23))⟩])
     (.seq (.cond (.tmp 25)
        (.skip)
        (.exit 0))
     (.seq (.block 1 (.seq (.reg [⟨(some 26), none, .op (.iaddr (.slice 1) (.tmp 22) (.tmp 24))⟩,
          ⟨(some 27), none, .op (.load none (.tmp 26))⟩,
          ⟨(some 9), none, .op (.mv (.tmp 27))⟩])
       (.seq (.reg [⟨(some 28), none, .op (.mv (.tmp 9))⟩,
          ⟨(some 29), none, .op (.mv (.tmp 5))⟩,
          ⟨(some 30), none, .op (.bin .lss (.tmp 28) (.tmp 29))⟩,
          ⟨(some 31), none, .op (.mv (.tmp 30))⟩,
          ⟨(some 32), (some (31, false)), .op (.mv (.tmp 9))⟩,
          ⟨(some 33), (some (31, false)), .op (.mv (.tmp 6))⟩,
          ⟨(some 34), (some (31, false)), .op (.bin .gtr (.tmp 32) (.tmp 33))⟩,
          ⟨(some 35), none, .op (.pick (.tmp 31) (.const (.bool true)) (.tmp 34))⟩])
       (.cond (.tmp 35)
         (.seq (.reg [⟨(some 4), none, .op (.mv (.const (.int .i64 16)))⟩])
         (.ret))
         (.skip)))))
     (.reg [⟨(some 36), none, .op (.bin .add (.tmp 24) (.const (.int .i64 1)))⟩,
       ⟨(some 24), none, .op (.mv (.tmp 36))⟩])))))))
  (.seq (.reg [⟨(some 4), none, .op (.mv (.const (.int .i64 0)))⟩])
  (.ret))))))

def ac_fmtchunk_Wide (f_fmtchunk_Check t0 : Nat) : AC :=
  .seq (.reg [⟨(some 1), none, .op (.box t0 3 (.tmp 0))⟩,
     ⟨(some 2), none, .op (.mv (.const (.bool false)))⟩,
     ⟨(some 3), none, .op (.mv (.const (.int .i64 0)))⟩])
  (.seq (.seq (.reg [⟨(some 5), none, .op (.load (some 3) (.tmp 1))⟩,
      ⟨(some 6), none, .call f_fmtchunk_Check [(.tmp 5)]⟩,
      ⟨(some 4), none, .op (.mv (.tmp 6))⟩])
   (.seq (.reg [⟨(some 7), none, .op (.mv (.tmp 4))⟩,
      ⟨(some 8), none, .op (.bin .neq (.tmp 7) (.const (.int .i64 0)))⟩])
   (.cond (.tmp 8)
     (.seq (.reg [⟨(some 9), none, .op (.mv (.tmp 4))⟩,
        ⟨(some 2), none, .op (.mv (.const (.bool false)))⟩,
        ⟨(some 3), none, .op (.mv (.tmp 9))⟩])
     (.ret))
     (.skip))))
  (.seq (.reg [⟨(some 10), none, .op (.faddr 0 (.tmp 1))⟩,
     ⟨(some 11), none, .op (.load none (.tmp 10))⟩,
     ⟨(some 12), none, .op (.bin .gtr (.tmp 11) (.const (.int .i64 2)))⟩,
     ⟨(some 13), none, .op (.mv (.tmp 12))⟩,
     ⟨(some 14), (some (13, false)), .op (.faddr 1 (.tmp 1))⟩,
     ⟨(some 15), (some (13, false)), .op (.load none (.tmp 14))⟩,
     ⟨(some 16), (some (13, false)), .op (.bin .gtr (.tmp 15) (.const (.int .i64 16)))⟩,
     ⟨(some 17), none, .op (.pick (.tmp 13) (.const (.bool true)) (.tmp 16))⟩,
     ⟨(some 2), none, .op (.mv (.tmp 17))⟩,
     ⟨(some 3), none, .op (.mv (.const (.int .i64 0)))⟩])
  (.ret)))

def ac_fmtchunk_form (f_le_Bytes t0 t1 t2 g0 g1 : Nat) : AC :=
  .seq (.reg [⟨(some 3), none, .op (.box t0 3 (.tmp 0))⟩,
     ⟨(some 6), none, .op (.mv (.const (.slice none 0 0)))⟩])
  (.seq (.reg [⟨(some 14), none, .op (.faddr 0 (.tmp 3))⟩,
     ⟨(some 15), none, .op (.load none (.tmp 14))⟩,
     ⟨(some 16), none, .op (.faddr 1 (.tmp 3))⟩,
     ⟨(some 17), none, .op (.load none (.tmp 16))⟩,
     ⟨(some 18), none, .op (.bin .mul (.tmp 15) (.tmp 17))⟩,
     ⟨(some 19), none, .op (.bin .quo (.tmp 18) (.const (.int .i64 8)))⟩,
     ⟨(some 7), none, .op (.mv (.tmp 19))⟩])
  (.seq (.reg [⟨(some 20), none, .op (.faddr 0 (.tmp 3))⟩,
     ⟨(some 21), none, .op (.load none (.tmp 20))⟩,
     ⟨(some 22), none, .op (.conv (.int .u64) (.tmp 21))⟩,
     ⟨(some 23), none, .op (.faddr 2 (.tmp 3))⟩,
     ⟨(some 24), none, .op (.load none (.tmp 23))⟩,
     ⟨(some 25), none, .op (.conv (.int .u64) (.tmp 24))⟩,
     ⟨(some 26), none, .op (.faddr 2 (.tmp 3))⟩,
     ⟨(some 27), none, .op (.load none (.tmp 26))⟩,
     ⟨(some 28), none, .op (.conv (.int .u64) (.tmp 27))⟩,
     ⟨(some 29), none, .op (.mv (.tmp 7))⟩,
     ⟨(some 30), none, .op (.conv (.int .u64) (.tmp 29))⟩,
     ⟨(some 31), none, .op (.bin .mul (.tmp 28) (.tmp 30))⟩,
     ⟨(some 32), none, .op (.mv (.tmp 7))⟩,
     ⟨(some 33), none, .op (.conv (.int .u64) (.tmp 32))⟩,
     ⟨(some 34), none, .op (.faddr 1 (.tmp 3))⟩,
     ⟨(some 35), none, .op (.load none (.tmp 34))⟩,
     ⟨(some 36), none, .op (.conv (.int .u64) (.tmp 35))⟩,
     ⟨(some 37), none, .op (.faddr 1 (.tmp 3))⟩,
     ⟨(some 38), none, .op (.load none (.tmp 37))⟩,
     ⟨(some 39), none, .op (.conv (.int .u64) (.tmp 38))⟩,
     ⟨(some 40), none, .op (.mv (.tmp 2))⟩,
     ⟨(some 41), none, .op (.build [.int .u64 0, .int .u64 0, .int .u64 0, .int .u64 0, .int .u64 0, .int .u64 0, .int .u64 0, .int .u64 0, .int .u64 0] [(0, 1, (.const (.int .u64 1))), (1, 1, (.tmp 22)), (2, 1, (.tmp 25)), (3, 1, (.tmp 31)), (4, 1, (.tmp 33)), (5, 1, (.tmp 36)), (6, 1, (.const (.int .u64 22))), (7, 1, (.tmp 39)), (8, 1, (.tmp 40))])⟩,
     ⟨(some 8), none, .op (.alloc t1 [.int .u64 0, .int .u64 0, .int .u64 0, .int .u64 0, .int .u64 0, .int .u64 0, .int .u64 0, .int .u64 0, .int .u64 0])⟩,
     ⟨none, none, .op (.store 9 (.tmp 8) (.tmp 41))⟩])
  (.seq (.reg [⟨(some 9), none, .op (.mv (.const (.int .i64 6)))⟩])
  (.seq (.seq (.reg [⟨(some 42), none, .op (.mv (.tmp 1))⟩])
   (.cond (.tmp 42)
     (.reg [⟨(some 43), none, .op (.iaddr (.arr 9 1) (.tmp 8) (.const (.int .i64 0)))⟩,
       ⟨none, none, .op (.store 1 (.tmp 43) (.const (.int .u64 65534)))⟩,
       ⟨(some 9), none, .op (.mv (.const (.int .i64 9)))⟩])
     (.skip)))
  (.seq (.reg [⟨(some 10), none, .op (.mv (.const (.slice none 0 0)))⟩])
  (.seq (.seq (.reg [⟨(some 44), none, .op (.mv (.tmp 9))⟩,
      ⟨(some 45), none, .op (.mv (.const (.int .i64 0)))⟩])
   (.block 0 (.loop (.seq (.reg [⟨(some 46), none, .op (.bin .lss (.tmp 45) (.tmp 44))⟩])
     (.seq (.cond (.tmp 46)
        (.skip)
        (.exit 0))
     (.seq (.block 1 (.seq (.reg [⟨(some 47), none, .op (.mv (.tmp 45))⟩,
          ⟨(some 11), none, .op (.mv (.tmp 47))⟩])
       (.seq (.draw [⟨0, false, ⟨(some 49), none, .op (.mv (.tmp 11))⟩⟩,
          ⟨0, false, ⟨(some 50), none, .op (.iaddr (.arr 9 1) (.tmp 8) (.tmp 49))⟩⟩,
          ⟨0, false, ⟨(some 51), none, .op (.load none (.tmp 50))⟩⟩,
          ⟨0, false, ⟨(some 52), none, .op (.mv (.tmp 11))⟩⟩,
          ⟨0, false, ⟨(some 53), none, .op (.iaddr (.arr 9 1) (.global g0) (.tmp 52))⟩⟩,
          ⟨0, false, ⟨(some 54), none, .op (.load none (.tmp 53))⟩⟩,
          ⟨0, false, ⟨(some 55), none, .call f_le_Bytes [(.tmp 51), (.tmp 54)]⟩⟩,
          ⟨0, false, ⟨(some 48), none, .op (.mv (.tmp 55))⟩⟩,
          ⟨0, false, ⟨(some 56), none, .op (.extract (.tmp 48) 0)⟩⟩,
          ⟨0, false, ⟨(some 57), none, .op (.extract (.tmp 48) 1)⟩⟩,
          ⟨0, false, ⟨(some 12), none, .op (.mv (.tmp 56))⟩⟩,
          ⟨0, false, ⟨(some 13), none, .op (.mv (.tmp 57))⟩⟩] [])
       (.reg [⟨(some 58), none, .op (.mv (.tmp 10))⟩,
         ⟨(some 59), none, .op (.mv (.tmp 12))⟩,
         ⟨(some 60), none, .op (.append t2 1 1 false (.tmp 58) (.tmp 59))⟩,
         ⟨(some 10), none, .op (.mv (.tmp 60))⟩]))))
     (.reg [⟨(some 61), none, .op (.bin .add (.tmp 45) (.const (.int .i64 1)))⟩,
       ⟨(some 45), none, .op (.mv (.tmp 61))⟩])))))))
  (.seq (.seq (.reg [⟨(some 62), none, .op (.mv (.tmp 1))⟩])
   (.cond (.tmp 62)
     (.reg [⟨(some 63), none, .op (.mv (.tmp 10))⟩,
       ⟨(some 64), none, .op (.slicea 16 1 (.global g1) none none)⟩,
       ⟨(some 65), none, .op (.append t2 1 1 false (.tmp 63) (.tmp 64))⟩,
       ⟨(some 10), none, .op (.mv (.tmp 65))⟩])
     (.skip)))
  (.seq (.reg [⟨(some 66), none, .op (.mv (.tmp 10))⟩,
     ⟨(some 6), none, .op (.mv (.tmp 66))⟩])
  (.ret)))))))))

def ac_cadenzaref32_first (f_cadenzaref01_Written t0 t1 : Nat) : AC :=
  .seq (.reg [⟨(some 2), none, .op (.box t0 3 (.tmp 0))⟩,
     ⟨(some 4), none, .op (.mv (.const (.slice none 0 0)))⟩])
  (.seq (.reg [⟨(some 7), none, .op (.faddr 0 (.tmp 2))⟩,
     ⟨(some 8), none, .op (.load none (.tmp 7))⟩,
     ⟨(some 9), none, .op (.faddr 1 (.tmp 2))⟩,
     ⟨(some 10), none, .op (.load none (.tmp 9))⟩,
     ⟨(some 11), none, .op (.bin .mul (.tmp 8) (.tmp 10))⟩,
     ⟨(some 12), none, .op (.bin .quo (.tmp 11) (.const (.int .i64 8)))⟩,
     ⟨(some 13), none, .op (.conv (.int .u64) (.tmp 12))⟩,
     ⟨(some 5), none, .op (.mv (.tmp 13))⟩])
  (.seq (.reg [⟨(some 14), none, .op (.mv (.tmp 1))⟩,
     ⟨(some 15), none, .call f_cadenzaref01_Written [(.tmp 14), (.const (.int .i64 2))]⟩,
     ⟨(some 6), none, .op (.mv (.tmp 15))⟩])
  (.seq (.reg [⟨(some 16), none, .op (.mv (.tmp 6))⟩,
     ⟨(some 17), none, .op (.faddr 0 (.tmp 2))⟩,
     ⟨(some 18), none, .op (.load none (.tmp 17))⟩,
     ⟨(some 19), none, .op (.conv (.int .u64) (.tmp 18))⟩,
     ⟨(some 20), none, .call f_cadenzaref01_Written [(.tmp 19), (.const (.int .i64 2))]⟩,
     ⟨(some 21), none, .op (.append t1 1 1 false (.tmp 16) (.tmp 20))⟩,
     ⟨(some 6), none, .op (.mv (.tmp 21))⟩])
  (.seq (.reg [⟨(some 22), none, .op (.mv (.tmp 6))⟩,
     ⟨(some 23), none, .op (.faddr 2 (.tmp 2))⟩,
     ⟨(some 24), none, .op (.load none (.tmp 23))⟩,
     ⟨(some 25), none, .op (.conv (.int .u64) (.tmp 24))⟩,
     ⟨(some 26), none, .call f_cadenzaref01_Written [(.tmp 25), (.const (.int .i64 4))]⟩,
     ⟨(some 27), none, .op (.append t1 1 1 false (.tmp 22) (.tmp 26))⟩,
     ⟨(some 6), none, .op (.mv (.tmp 27))⟩])
  (.seq (.reg [⟨(some 28), none, .op (.mv (.tmp 6))⟩,
     ⟨(some 29), none, .op (.faddr 2 (.tmp 2))⟩,
     ⟨(some 30), none, .op (.load none (.tmp 29))⟩,
     ⟨(some 31), none, .op (.conv (.int .u64) (.tmp 30))⟩,
     ⟨(some 32), none, .op (.mv (.tmp 5))⟩,
     ⟨(some 33), none, .op (.bin .mul (.tmp 31) (.tmp 32))⟩,
     ⟨(some 34), none, .call f_cadenzaref01_Written [(.tmp 33), (.const (.int .i64 4))]⟩,
     ⟨(some 35), none, .op (.append t1 1 1 false (.tmp 28) (.tmp 34))⟩,
     ⟨(some 6), none, .op (.mv (.tmp 35))⟩])
  (.seq (.reg [⟨(some 36), none, .op (.mv (.tmp 6))⟩,
     ⟨(some 37), none, .op (.mv (.tmp 5))⟩,
     ⟨(some 38), none, .call f_cadenzaref01_Written [(.tmp 37), (.const (.int .i64 2))]⟩,
     ⟨(some 39), none, .op (.append t1 1 1 false (.tmp 36) (.tmp 38))⟩,
     ⟨(some 6), none, .op (.mv (.tmp 39))⟩])
  (.seq (.reg [⟨(some 40), none, .op (.mv (.tmp 6))⟩,
     ⟨(some 41), none, .op (.faddr 1 (.tmp 2))⟩,
     ⟨(some 42), none, .op (.load none (.tmp 41))⟩,
     ⟨(some 43), none, .op (.conv (.int .u64) (.tmp 42))⟩,
     ⟨(some 44), none, .call f_cadenzaref01_Written [(.tmp 43), (.const (.int .i64 2))]⟩,
     ⟨(some 45), none, .op (.append t1 1 1 false (.tmp 40) (.tmp 44))⟩,
     ⟨(some 4), none, .op (.mv (.tmp 45))⟩])
  (.ret))))))))

def ac_cadenzaref01_Written (t0 : Nat) : AC :=
  .seq (.reg [⟨(some 4), none, .op (.mv (.const (.slice none 0 0)))⟩])
  (.seq (.reg [⟨(some 5), none, .op (.mv (.const (.slice none 0 0)))⟩])
  (.seq (.seq (.reg [⟨(some 6), none, .op (.mv (.const (.int .i64 0)))⟩])
   (.block 0 (.loop (.seq (.seq (.reg [⟨(some 7), none, .op (.mv (.tmp 6))⟩,
         ⟨(some 8), none, .op (.mv (.tmp 1))⟩,
         ⟨(some 9), none, .op (.bin .lss (.tmp 7) (.tmp 8))⟩])
      (.cond (.tmp 9)
        (.skip)
        (.exit 0)))
     (.seq (.block 1 (.seq (.reg [⟨(some 12), none, .op (.mv (.tmp 5))⟩,
          ⟨(some 13), none, .op (.mv (.tmp 0))⟩,
          ⟨(some 14), none, .op (.bin .rem (.tmp 13) (.const (.int .u64 256)))⟩,
          ⟨(some 15), none, .op (.conv (.int .u8) (.tmp 14))⟩,
          ⟨(some 16), none, .op (.bslice t0 1 1 [.int .u8 0] [(0, 1, (.tmp 15))])⟩,
          ⟨(some 17), none, .op (.append t0 1 1 false (.tmp 12) (.tmp 16))⟩,
          ⟨(some 5), none, .op (.mv (.tmp 17))⟩])
       (.reg [⟨(some 18), none, .op (.mv (.tmp 0))⟩,
         ⟨(some 19), none, .op (.bin .quo (.tmp 18) (.const (.int .u64 256)))⟩,
         ⟨(some 0), none, .op (.mv (.tmp 19))⟩])))
     (.reg [⟨(some 10), none, .op (.mv (.tmp 6))⟩,
       ⟨(some 11), none, .op (.bin .add (.tmp 10) (.const (.int .i64 1)))⟩,
       ⟨(some 6), none, .op (.mv (.tmp 11))⟩]))))))
  (.seq (.reg [⟨(some 20), none, .op (.mv (.tmp 5))⟩,
     ⟨(some 4), none, .op (.mv (.tmp 20))⟩])
  (.ret))))

def ac_riff_Find (f_riff_Find_1 f_slices_IndexFunc_api_Chunk_api_Chunk t0 : Nat) : AC :=
  .seq (.reg [⟨(some 3), none, .op (.box t0 1 (.tmp 1))⟩,
     ⟨(some 4), none, .op (.mv (.const (.int .i64 0)))⟩,
     ⟨(some 5), none, .op (.mv (.const (.int .i64 0)))⟩])
  (.seq (.reg [⟨(some 7), none, .op (.mv (.tmp 0))⟩,
     ⟨(some 8), none, .op (.mkfn (.func f_riff_Find_1) [] [(.tmp 3)])⟩,
     ⟨(some 9), none, .call f_slices_IndexFunc_api_Chunk_api_Chunk [(.tmp 7), (.tmp 8)]⟩,
     ⟨(some 6), none, .op (.mv (.tmp 9))⟩])
  (.seq (.seq (.reg [⟨(some 10), none, .op (.mv (.tmp 6))⟩,
      ⟨(some 11), none, .op (.bin .lss (.tmp 10) (.const (.int .i64 0)))⟩])
   (.cond (.tmp 11)
     (.seq (.reg [⟨(some 4), none, .op (.mv (.const (.int .i64 0)))⟩,
        ⟨(some 5), none, .op (.mv (.const (.int .i64 6)))⟩])
     (.ret))
     (.skip)))
  (.seq (.reg [⟨(some 12), none, .op (.mv (.tmp 6))⟩,
     ⟨(some 4), none, .op (.mv (.tmp 12))⟩,
     ⟨(some 5), none, .op (.mv (.const (.int .i64 0)))⟩])
  (.ret))))

def ac_fmtchunk_Check (t0 : Nat) : AC :=
  .seq (.reg [⟨(some 1), none, .op (.box t0 3 (.tmp 0))⟩,
     ⟨(some 2), none, .op (.mv (.const (.int .i64 0)))⟩])
  (.seq (.seq (.reg [⟨(some 3), none, .op (.faddr 0 (.tmp 1))⟩,
      ⟨(some 4), none, .op (.load none (.tmp 3))⟩,
      ⟨(some 5), none, .op (.bin .lss (.tmp 4) (.const (.int .i64 1)))⟩,
      ⟨(some 6), none, .op (.mv (.tmp 5))⟩,
      ⟨(some 7), (some (6, false)), .op (.faddr 0 (.tmp 1))⟩,
      ⟨(some 8), (some (6, false)), .op (.load none (.tmp 7))⟩,
      ⟨(some 9), (some (6, false)), .op (.bin .gtr (.tmp 8) (.const (.int .i64 6)))⟩,
      ⟨(some 10), none, .op (.pick (.tmp 6) (.const (.bool true)) (.tmp 9))⟩,
      ⟨(some 11), none, .op (.mv (.tmp 10))⟩,
      ⟨(some 12), (some (11, false)), .op (.faddr 2 (.tmp 1))⟩,
      ⟨(some 13), (some (11, false)), .op (.load none (.tmp 12))⟩,
      ⟨(some 14), (some (11, false)), .op (.bin .lss (.tmp 13) (.const (.int .i64 1)))⟩,
      ⟨(some 15), none, .op (.pick (.tmp 11) (.const (.bool true)) (.tmp 14))⟩,
      ⟨(some 16), none, .op (.mv (.tmp 15))⟩,
      ⟨(some 17), (some (16, false)), .op (.faddr 2 (.tmp 1))⟩,
      ⟨(some 18), (some (16, false)), .op (.load none (.tmp 17))⟩,
      ⟨(some 19), (some (16, false)), .op (.bin .gtr (.tmp 18) (.const (.int .i64 1048576)))⟩,
      ⟨(some 20), none, .op (.pick (.tmp 16) (.const (.bool true)) (.tmp 19))⟩])
   (.cond (.tmp 20)
     (.seq (.reg [⟨(some 2), none, .op (.mv (.const (.int .i64 8)))⟩])
     (.ret))
     (.skip)))
  (.seq (.seq (.reg [⟨(some 21), none, .op (.faddr 1 (.tmp 1))⟩,
      ⟨(some 22), none, .op (.load none (.tmp 21))⟩])
   (.block 0 (.seq (.seq (.reg [⟨(some 24), none, .op (.bin .eql (.tmp 22) (.const (.int .i64 8)))⟩,
        ⟨(some 23), none, .op (.mv (.tmp 24))⟩])
     (.cond (.tmp 23)
       (.skip)
       (.seq (.reg [⟨(some 25), none, .op (.bin .eql (.tmp 22) (.const (.int .i64 16)))⟩,
          ⟨(some 23), none, .op (.mv (.tmp 25))⟩])
       (.cond (.tmp 23)
         (.skip)
         (.reg [⟨(some 26), none, .op (.bin .eql (.tmp 22) (.const (.int .i64 24)))⟩,
           ⟨(some 23), none, .op (.mv (.tmp 26))⟩])))))
    (.cond (.tmp 23)
      (.seq (.reg [⟨(some 2), none, .op (.mv (.const (.int .i64 0)))⟩])
      (.ret))
      (.skip)))))
  (.seq (.reg [⟨(some 2), none, .op (.mv (.const (.int .i64 8)))⟩])
  (.ret))))

def ac_bytes_Equal : AC :=
  .seq (.reg [⟨(some 4), none, .op (.mv (.const (.bool false)))⟩])
  (.seq (.reg [⟨(some 5), none, .op (.mv (.tmp 0))⟩,
     ⟨(some 6), none, .op (.conv .toStr (.tmp 5))⟩,
     ⟨(some 7), none, .op (.mv (.tmp 1))⟩,
     ⟨(some 8), none, .op (.conv .toStr (.tmp 7))⟩,
     ⟨(some 9), none, .op (.bin .eql (.tmp 6) (.tmp 8))⟩,
     ⟨(some 4), none, .op (.mv (.tmp 9))⟩])
  (.ret))

def ac_width_Range : AC :=
  .seq (.reg [⟨(some 2), none, .op (.mv (.const (.int .i32 0)))⟩,
     ⟨(some 3), none, .op (.mv (.const (.int .i32 0)))⟩,
     ⟨(some 4), none, .op (.mv (.const (.int .i64 0)))⟩])
  (.seq (.seq (.reg [⟨(some 6), none, .op (.mv (.tmp 0))⟩])
   (.block 0 (.seq (.seq (.reg [⟨(some 8), none, .op (.bin .eql (.tmp 6) (.const (.int .i64 8)))⟩,
        ⟨(some 7), none, .op (.mv (.tmp 8))⟩])
     (.cond (.tmp 7)
       (.skip)
       (.seq (.reg [⟨(some 9), none, .op (.bin .eql (.tmp 6) (.const (.int .i64 16)))⟩,
          ⟨(some 7), none, .op (.mv (.tmp 9))⟩])
       (.cond (.tmp 7)
         (.skip)
         (.reg [⟨(some 10), none, .op (.bin .eql (.tmp 6) (.const (.int .i64 24)))⟩,
           ⟨(some 7), none, .op (.mv (.tmp 10))⟩])))))
    (.cond (.tmp 7)
      (.seq (.reg [⟨(some 11), none, .op (.mv (.tmp 0))⟩,
         ⟨(some 12), none, .op (.bin .sub (.tmp 11) (.const (.int .i64 1)))⟩,
         ⟨(some 13), none, .op (.bin .shl (.const (.int .i32 1)) (.tmp 12))⟩,
         ⟨(some 5), none, .op (.mv (.tmp 13))⟩])
      (.seq (.reg [⟨(some 14), none, .op (.mv (.tmp 5))⟩,
         ⟨(some 15), none, .op (.un .neg (.tmp 14))⟩,
         ⟨(some 16), none, .op (.mv (.tmp 5))⟩,
         ⟨(some 17), none, .op (.bin .sub (.tmp 16) (.const (.int .i32 1)))⟩,
         ⟨(some 2), none, .op (.mv (.tmp 15))⟩,
         ⟨(some 3), none, .op (.mv (.tmp 17))⟩,
         ⟨(some 4), none, .op (.mv (.const (.int .i64 0)))⟩])
      (.ret)))
      (.skip)))))
  (.seq (.reg [⟨(some 2), none, .op (.mv (.const (.int .i32 0)))⟩,
     ⟨(some 3), none, .op (.mv (.const (.int .i32 0)))⟩,
     ⟨(some 4), none, .op (.mv (.const (.int .i64 2)))⟩])
  (.ret)))

def ac_clip_head (f_clip_shape f_enframe_Check f_lengths_Count t0 : Nat) : AC :=
  .seq (.reg [⟨(some 2), none, .op (.box t0 4 (.tmp 0))⟩,
     ⟨(some 4), none, .op (.mv (.const (.int .i64 0)))⟩])
  (.seq (.seq (.reg [⟨(some 7), none, .op (.load (some 4) (.tmp 2))⟩,
      ⟨(some 8), none, .call f_clip_shape [(.tmp 7)]⟩,
      ⟨(some 9), none, .call f_enframe_Check [(.tmp 8)]⟩,
      ⟨(some 10), none, .op (.bin .neq (.tmp 9) (.const (.int .i64 0)))⟩,
      ⟨(some 11), none, .op (.mv (.tmp 10))⟩,
      ⟨(some 12), (some (11, false)), .op (.mv (.tmp 1))⟩,
      ⟨(some 13), (some (11, false)), .op (.bin .lss (.tmp 12) (.const (.int .i64 1)))⟩,
      ⟨(some 14), none, .op (.pick (.tmp 11) (.const (.bool true)) (.tmp 13))⟩,
      ⟨(some 15), none, .op (.mv (.tmp 14))⟩,
      ⟨(some 16), (some (15, false)), .op (.mv (.tmp 1))⟩,
      ⟨(some 17), (some (15, false)), .op (.faddr 0 (.tmp 2))⟩,
      ⟨(some 18), (some (15, false)), .op (.load none (.tmp 17))⟩,
      ⟨(some 19), (some (15, false)), .op (.bin .quo (.const (.int .i64 4000)) (.tmp 18))⟩,
      ⟨(some 20), (some (15, false)), .op (.bin .gtr (.tmp 16) (.tmp 19))⟩,
      ⟨(some 21), none, .op (.pick (.tmp 15) (.const (.bool true)) (.tmp 20))⟩])
   (.cond (.tmp 21)
     (.seq (.reg [⟨(some 4), none, .op (.mv (.const (.int .i64 8)))⟩])
     (.ret))
     (.skip)))
  (.seq (.seq (.reg [⟨(some 23), none, .op (.faddr 2 (.tmp 2))⟩,
      ⟨(some 24), none, .op (.load none (.tmp 23))⟩,
      ⟨(some 25), none, .op (.mv (.tmp 1))⟩,
      ⟨(some 26), none, .call f_lengths_Count [(.tmp 24), (.tmp 25)]⟩,
      ⟨(some 22), none, .op (.mv (.tmp 26))⟩,
      ⟨(some 27), none, .op (.extract (.tmp 22) 0)⟩,
      ⟨(some 28), none, .op (.extract (.tmp 22) 1)⟩,
      ⟨(some 5), none, .op (.mv (.tmp 27))⟩,
      ⟨(some 6), none, .op (.mv (.tmp 28))⟩])
   (.seq (.reg [⟨(some 29), none, .op (.mv (.tmp 6))⟩,
      ⟨(some 30), none, .op (.bin .neq (.tmp 29) (.const (.int .i64 0)))⟩])
   (.cond (.tmp 30)
     (.seq (.reg [⟨(some 4), none, .op (.mv (.const (.int .i64 8)))⟩])
     (.ret))
     (.skip))))
  (.seq (.reg [⟨(some 4), none, .op (.mv (.const (.int .i64 0)))⟩])
  (.ret))))

def ac_cadenzaref18_Half : AC :=
  .seq (.reg [⟨(some 2), none, .op (.mv (.const (.int .i64 0)))⟩])
  (.seq (.seq (.reg [⟨(some 3), none, .op (.mv (.tmp 0))⟩])
   (.block 0 (.seq (.reg [⟨(some 5), none, .op (.bin .eql (.tmp 3) (.const (.int .i64 8)))⟩,
       ⟨(some 4), none, .op (.mv (.tmp 5))⟩])
    (.cond (.tmp 4)
      (.seq (.reg [⟨(some 2), none, .op (.mv (.const (.int .i64 128)))⟩])
      (.ret))
      (.seq (.reg [⟨(some 7), none, .op (.bin .eql (.tmp 3) (.const (.int .i64 16)))⟩,
         ⟨(some 6), none, .op (.mv (.tmp 7))⟩])
      (.cond (.tmp 6)
        (.seq (.reg [⟨(some 2), none, .op (.mv (.const (.int .i64 32768)))⟩])
        (.ret))
        (.seq (.reg [⟨(some 9), none, .op (.bin .eql (.tmp 3) (.const (.int .i64 24)))⟩,
           ⟨(some 8), none, .op (.mv (.tmp 9))⟩])
        (.cond (.tmp 8)
          (.seq (.reg [⟨(some 2), none, .op (.mv (.const (.int .i64 8388608)))⟩])
          (.ret))
          (.skip)))))))))
  (.seq (.reg [⟨(some 2), none, .op (.mv (.const (.int .i64 0)))⟩])
  (.ret)))

def ac_cadenzaref20_Check (f_cadenzaref18_Half t0 : Nat) : AC :=
  .seq (.reg [⟨(some 1), none, .op (.box t0 2 (.tmp 0))⟩,
     ⟨(some 2), none, .op (.mv (.const (.int .i64 0)))⟩])
  (.seq (.seq (.reg [⟨(some 3), none, .op (.faddr 0 (.tmp 1))⟩,
      ⟨(some 4), none, .op (.load none (.tmp 3))⟩,
      ⟨(some 5), none, .op (.bin .lss (.tmp 4) (.const (.int .i64 1)))⟩,
      ⟨(some 6), none, .op (.mv (.tmp 5))⟩,
      ⟨(some 7), (some (6, false)), .op (.faddr 0 (.tmp 1))⟩,
      ⟨(some 8), (some (6, false)), .op (.load none (.tmp 7))⟩,
      ⟨(some 9), (some (6, false)), .op (.bin .gtr (.tmp 8) (.const (.int .i64 6)))⟩,
      ⟨(some 10), none, .op (.pick (.tmp 6) (.const (.bool true)) (.tmp 9))⟩,
      ⟨(some 11), none, .op (.mv (.tmp 10))⟩,
      ⟨(some 12), (some (11, false)), .op (.faddr 1 (.tmp 1))⟩,
      ⟨(some 13), (some (11, false)), .op (.load none (.tmp 12))⟩,
      ⟨(some 14), (some (11, false)), .call f_cadenzaref18_Half [(.tmp 13)]⟩,
      ⟨(some 15), (some (11, false)), .op (.bin .eql (.tmp 14) (.const (.int .i64 0)))⟩,
      ⟨(some 16), none, .op (.pick (.tmp 11) (.const (.bool true)) (.tmp 15))⟩])
   (.cond (.tmp 16)
     (.seq (.reg [⟨(some 2), none, .op (.mv (.const (.int .i64 2)))⟩])
     (.ret))
     (.skip)))
  (.seq (.reg [⟨(some 2), none, .op (.mv (.const (.int .i64 0)))⟩])
  (.ret)))

def ac_cadenzaref18_Check (f_cadenzaref18_Half : Nat) : AC :=
  .seq (.reg [⟨(some 4), none, .op (.mv (.const (.int .i64 0)))⟩])
  (.seq (.reg [⟨(some 7), none, .op (.mv (.tmp 0))⟩,
     ⟨(some 8), none, .call f_cadenzaref18_Half [(.tmp 7)]⟩,
     ⟨(some 5), none, .op (.mv (.tmp 8))⟩])
  (.seq (.seq (.reg [⟨(some 9), none, .op (.mv (.tmp 5))⟩,
      ⟨(some 10), none, .op (.bin .eql (.tmp 9) (.const (.int .i64 0)))⟩])
   (.cond (.tmp 10)
     (.seq (.reg [⟨(some 4), none, .op (.mv (.const (.int .i64 2)))⟩])
     (.ret))
     (.skip)))
  (.seq (.seq (.reg [⟨(some 11), none, .op (.mv (.tmp 1))⟩,
      ⟨(some 12), none, .op (.len none (.tmp 11))⟩,
      ⟨(some 13), none, .op (.bin .gtr (.tmp 12) (.const (.int .i64 4000)))⟩])
   (.cond (.tmp 13)
     (.seq (.reg [⟨(some 4), none, .op (.mv (.const (.int .i64 4)))⟩])
     (.ret))
     (.skip)))
  (.seq (.seq (.reg [⟨(some 6), none, .op (.mv (.const (.int .i64 0)))⟩])
   (.block 0 (.loop (.seq (.seq (.reg [⟨(some 14), none, .op (.mv (.tmp 6))⟩,
         ⟨(some 15), none, .op (.mv (.tmp 1))⟩,
         ⟨(some 16), none, .op (.len none (.tmp 15))⟩,
         ⟨(some 17), none, .op (.bin .lss (.tmp 14) (.tmp 16))⟩])
      (.cond (.tmp 17)
        (.skip)
        (.exit 0)))
     (.seq (.block 1 (.seq (.reg [⟨(some 20), none, .op (.mv (.tmp 1))⟩,
          ⟨(some 21), none, .op (.mv (.tmp 6))⟩,
          ⟨(some 22), none, .op (.iaddr (.slice 1) (.tmp 20) (.tmp 21))⟩,
          ⟨(some 23), none, .op (.load none (.tmp 22))⟩,
          ⟨(some 24), none, .op (.conv (.int .i64) (.tmp 23))⟩,
          ⟨(some 25), none, .op (.mv (.tmp 5))⟩,
          ⟨(some 26), none, .op (.un .neg (.tmp 25))⟩,
          ⟨(some 27), none, .op (.bin .lss (.tmp 24) (.tmp 26))⟩,
          ⟨(some 28), none, .op (.mv (.tmp 27))⟩,
          ⟨(some 29), (some (28, false)), .op (.mv (.tmp 1))⟩,
          ⟨(some 30), (some (28, false)), .op (.mv (.tmp 6))⟩,
          ⟨(some 31), (some (28, false)), .op (.iaddr (.slice 1) (.tmp 29) (.tmp 30))⟩,
          ⟨(some 32), (some (28, false)), .op (.load none (.tmp 31))⟩,
          ⟨(some 33), (some (28, false)), .op (.conv (.int .i64) (.tmp 32))⟩,
          ⟨(some 34), (some (28, false)), .op (.mv (.tmp 5))⟩,
          ⟨(some 35), (some (28, false)), .op (.bin .geq (.tmp 33) (.tmp 34))⟩,
          ⟨(some 36), none, .op (.pick (.tmp 28) (.const (.bool true)) (.tmp 35))⟩])
       (.cond (.tmp 36)
         (.seq (.reg [⟨(some 4), none, .op (.mv (.const (.int .i64 16)))⟩])
         (.ret))
         (.skip))))
     (.reg [⟨(some 18), none, .op (.mv (.tmp 6))⟩,
       ⟨(some 19), none, .op (.bin .add (.tmp 18) (.const (.int .i64 1)))⟩,
       ⟨(some 6), none, .op (.mv (.tmp 19))⟩]))))))
  (.seq (.reg [⟨(some 4), none, .op (.mv (.const (.int .i64 0)))⟩])
  (.ret))))))

def ac_cadenzaref21_Asked (f_cadenzaref20_Check t0 : Nat) : AC :=
  .seq (.reg [⟨(some 2), none, .op (.box t0 2 (.tmp 0))⟩,
     ⟨(some 4), none, .op (.mv (.const (.int .i64 0)))⟩])
  (.seq (.seq (.reg [⟨(some 5), none, .op (.load (some 2) (.tmp 2))⟩,
      ⟨(some 6), none, .call f_cadenzaref20_Check [(.tmp 5)]⟩,
      ⟨(some 7), none, .op (.bin .neq (.tmp 6) (.const (.int .i64 0)))⟩,
      ⟨(some 8), none, .op (.mv (.tmp 7))⟩,
      ⟨(some 9), (some (8, false)), .op (.mv (.tmp 1))⟩,
      ⟨(some 10), (some (8, false)), .op (.bin .lss (.tmp 9) (.const (.int .i64 1)))⟩,
      ⟨(some 11), none, .op (.pick (.tmp 8) (.const (.bool true)) (.tmp 10))⟩,
      ⟨(some 12), none, .op (.mv (.tmp 11))⟩,
      ⟨(some 13), (some (12, false)), .op (.mv (.tmp 1))⟩,
      ⟨(some 14), (some (12, false)), .op (.faddr 0 (.tmp 2))⟩,
      ⟨(some 15), (some (12, false)), .op (.load none (.tmp 14))⟩,
      ⟨(some 16), (some (12, false)), .op (.bin .quo (.const (.int .i64 4000)) (.tmp 15))⟩,
      ⟨(some 17), (some (12, false)), .op (.bin .gtr (.tmp 13) (.tmp 16))⟩,
      ⟨(some 18), none, .op (.pick (.tmp 12) (.const (.bool true)) (.tmp 17))⟩])
   (.cond (.tmp 18)
     (.seq (.reg [⟨(some 4), none, .op (.mv (.const (.int .i64 2)))⟩])
     (.ret))
     (.skip)))
  (.seq (.reg [⟨(some 4), none, .op (.mv (.const (.int .i64 0)))⟩])
  (.ret)))

def ac_cadenzaref22_Count (f_cadenzaref22_All : Nat) : AC :=
  .seq (.reg [⟨(some 4), none, .op (.mv (.const (.int .i64 0)))⟩,
     ⟨(some 5), none, .op (.mv (.const (.int .i64 0)))⟩])
  (.seq (.reg [⟨(some 9), none, .op (.mv (.tmp 0))⟩,
     ⟨(some 10), none, .op (.mv (.tmp 1))⟩,
     ⟨(some 11), none, .call f_cadenzaref22_All [(.tmp 9), (.tmp 10)]⟩,
     ⟨(some 8), none, .op (.mv (.tmp 11))⟩,
     ⟨(some 12), none, .op (.extract (.tmp 8) 0)⟩,
     ⟨(some 13), none, .op (.extract (.tmp 8) 1)⟩,
     ⟨(some 6), none, .op (.mv (.tmp 12))⟩,
     ⟨(some 7), none, .op (.mv (.tmp 13))⟩])
  (.seq (.reg [⟨(some 14), none, .op (.mv (.tmp 6))⟩,
     ⟨(some 15), none, .op (.len none (.tmp 14))⟩,
     ⟨(some 16), none, .op (.mv (.tmp 7))⟩,
     ⟨(some 4), none, .op (.mv (.tmp 15))⟩,
     ⟨(some 5), none, .op (.mv (.tmp 16))⟩])
  (.ret)))

def ac_le_Value : AC :=
  .seq (.reg [⟨(some 2), none, .op (.mv (.const (.int .u64 0)))⟩,
     ⟨(some 3), none, .op (.mv (.const (.int .i64 0)))⟩])
  (.seq (.seq (.reg [⟨(some 7), none, .op (.mv (.tmp 0))⟩,
      ⟨(some 8), none, .op (.len none (.tmp 7))⟩,
      ⟨(some 9), none, .op (.bin .lss (.tmp 8) (.const (.int .i64 1)))⟩,
      ⟨(some 10), none, .op (.mv (.tmp 9))⟩,
      ⟨(some 11), (some (10, false)), .op (.mv (.tmp 0))⟩,
      ⟨(some 12), (some (10, false)), .op (.len none (.tmp 11))⟩,
      ⟨(some 13), (some (10, false)), .op (.bin .gtr (.tmp 12) (.const (.int .i64 8)))⟩,
      ⟨(some 14), none, .op (.pick (.tmp 10) (.const (.bool true)) (.tmp 13))⟩])
   (.cond (.tmp 14)
     (.seq (.reg [⟨(some 2), none, .op (.mv (.const (.int .u64 0)))⟩,
        ⟨(some 3), none, .op (.mv (.const (.int .i64 2)))⟩])
     (.ret))
     (.skip)))
  (.seq (.reg [⟨(some 4), none, .op (.mv (.const (.int .u64 0)))⟩])
  (.seq (.seq (.reg [⟨(some 15), none, .op (.mv (.tmp 0))⟩,
      ⟨(some 16), none, .op (.len none (.tmp 15))⟩,
      ⟨(some 17), none, .op (.mv (.const (.int .i64 0)))⟩])
   (.block 0 (.loop (.seq (.reg [⟨(some 18), none, .op (.bin .lss (.tmp 17) (.tmp 16))⟩])
     (.seq (.cond (.tmp 18)
        (.skip)
        (.exit 0))
     (.seq (.block 1 (.seq (.reg [⟨(some 19), none, .op (.mv (.tmp 17))⟩,
          ⟨(some 20), none, .op (.iaddr (.slice 1) (.tmp 15) (.tmp 17))⟩,
          ⟨(some 21), none, .op (.load none (.tmp 20))⟩,
          ⟨(some 5), none, .op (.mv (.tmp 19))⟩,
          ⟨(some 6), none, .op (.mv (.tmp 21))⟩])
       (.reg [⟨(some 22), none, .op (.mv (.tmp 4))⟩,
         ⟨(some 23), none, .op (.mv (.tmp 6))⟩,
         ⟨(some 24), none, .op (.conv (.int .u64) (.tmp 23))⟩,
         ⟨(some 25), none, .op (.mv (.tmp 5))⟩,
         ⟨(some 26), none, .op (.bin .mul (.const (.int .i64 8)) (.tmp 25))⟩,
         ⟨(some 27), none, .op (.bin .shl (.tmp 24) (.tmp 26))⟩,
         ⟨(some 28), none, .op (.bin .or (.tmp 22) (.tmp 27))⟩,
         ⟨(some 4), none, .op (.mv (.tmp 28))⟩])))
     (.reg [⟨(some 29), none, .op (.bin .add (.tmp 17) (.const (.int .i64 1)))⟩,
       ⟨(some 17), none, .op (.mv (.tmp 29))⟩])))))))
  (.seq (.reg [⟨(some 30), none, .op (.mv (.tmp 4))⟩,
     ⟨(some 2), none, .op (.mv (.tmp 30))⟩,
     ⟨(some 3), none, .op (.mv (.const (.int .i64 0)))⟩])
  (.ret)))))

def ac_bytes_Clone (t0 : Nat) : AC :=
  .seq (.reg [⟨(some 2), none, .op (.mv (.const (.slice none 0 0)))⟩])
  (.seq (.seq (.reg [⟨(some 3), none, .op (.mv (.tmp 0))⟩,
      ⟨(some 4), none, .op (.nileq false (.tmp 3))⟩])
   (.cond (.tmp 4)
     (.seq (.reg [⟨(some 2), none, .op (.mv (.const (.slice none 0 0)))⟩])
     (.ret))
     (.skip)))
  (.seq (.reg [⟨(some 5), none, .op (.bslice t0 1 0 [.int .u8 0] [])⟩,
     ⟨(some 6), none, .op (.mv (.tmp 0))⟩,
     ⟨(some 7), none, .op (.append t0 1 1 false (.tmp 5) (.tmp 6))⟩,
     ⟨(some 2), none, .op (.mv (.tmp 7))⟩])
  (.ret)))

def ac_slices_ContainsFunc_api_Chunk_api_Chunk (f_slices_IndexFunc_api_Chunk_api_Chunk : Nat) : AC :=
  .seq (.reg [⟨(some 4), none, .op (.mv (.const (.bool false)))⟩])
  (.seq (.reg [⟨(some 5), none, .op (.mv (.tmp 0))⟩,
     ⟨(some 6), none, .op (.mv (.tmp 1))⟩,
     ⟨(some 7), none, .call f_slices_IndexFunc_api_Chunk_api_Chunk [(.tmp 5), (.tmp 6)]⟩,
     ⟨(some 8), none, .op (.bin .geq (.tmp 7) (.const (.int .i64 0)))⟩,
     ⟨(some 4), none, .op (.mv (.tmp 8))⟩])
  (.ret))

def ac_riff_Check_1 (f_riff_isName t0 : Nat) : AC :=
  .seq (.reg [⟨(some 1), none, .op (.box t0 2 (.tmp 0))⟩,
     ⟨(some 2), none, .op (.mv (.const (.bool false)))⟩])
  (.seq (.reg [⟨(some 3), none, .op (.faddr 0 (.tmp 1))⟩,
     ⟨(some 4), none, .op (.load none (.tmp 3))⟩,
     ⟨(some 5), none, .call f_riff_isName [(.tmp 4)]⟩,
     ⟨(some 6), none, .op (.un .not (.tmp 5))⟩,
     ⟨(some 2), none, .op (.mv (.tmp 6))⟩])
  (.ret))

def ac_le_fits : AC :=
  .seq (.reg [⟨(some 4), none, .op (.mv (.const (.bool false)))⟩])
  (.seq (.reg [⟨(some 5), none, .op (.mv (.tmp 1))⟩,
     ⟨(some 6), none, .op (.bin .eql (.tmp 5) (.const (.int .i64 8)))⟩,
     ⟨(some 7), none, .op (.mv (.tmp 6))⟩,
     ⟨(some 8), (some (7, false)), .op (.mv (.tmp 0))⟩,
     ⟨(some 9), (some (7, false)), .op (.mv (.tmp 1))⟩,
     ⟨(some 10), (some (7, false)), .op (.bin .mul (.const (.int .i64 8)) (.tmp 9))⟩,
     ⟨(some 11), (some (7, false)), .op (.bin .shr (.tmp 8) (.tmp 10))⟩,
     ⟨(some 12), (some (7, false)), .op (.bin .eql (.tmp 11) (.const (.int .u64 0)))⟩,
     ⟨(some 13), none, .op (.pick (.tmp 7) (.const (.bool true)) (.tmp 12))⟩,
     ⟨(some 4), none, .op (.mv (.tmp 13))⟩])
  (.ret))

def ac_bytes_Buffer_tryGrowByReslice : AC :=
  .seq (.reg [⟨(some 4), none, .op (.mv (.const (.int .i64 0)))⟩,
     ⟨(some 5), none, .op (.mv (.const (.bool false)))⟩])
  (.seq (.seq (.reg [⟨(some 7), none, .op (.mv (.tmp 0))⟩,
      ⟨(some 8), none, .op (.nilck (.tmp 7))⟩,
      ⟨(some 9), none, .op (.faddr 0 (.tmp 8))⟩,
      ⟨(some 10), none, .op (.load none (.tmp 9))⟩,
      ⟨(some 11), none, .op (.len none (.tmp 10))⟩,
      ⟨(some 6), none, .op (.mv (.tmp 11))⟩])
   (.seq (.reg [⟨(some 12), none, .op (.mv (.tmp 1))⟩,
      ⟨(some 13), none, .op (.mv (.tmp 0))⟩,
      ⟨(some 14), none, .op (.nilck (.tmp 13))⟩,
      ⟨(some 15), none, .op (.faddr 0 (.tmp 14))⟩,
      ⟨(some 16), none, .op (.load none (.tmp 15))⟩,
      ⟨(some 17), none, .op (.cap (.tmp 16))⟩,
      ⟨(some 18), none, .op (.mv (.tmp 6))⟩,
      ⟨(some 19), none, .op (.bin .sub (.tmp 17) (.tmp 18))⟩,
      ⟨(some 20), none, .op (.bin .leq (.tmp 12) (.tmp 19))⟩])
   (.cond (.tmp 20)
     (.seq (.reg [⟨(some 21), none, .op (.mv (.tmp 0))⟩,
        ⟨(some 22), none, .op (.mv (.tmp 0))⟩,
        ⟨(some 23), none, .op (.nilck (.tmp 22))⟩,
        ⟨(some 24), none, .op (.faddr 0 (.tmp 23))⟩,
        ⟨(some 25), none, .op (.load none (.tmp 24))⟩,
        ⟨(some 26), none, .op (.mv (.tmp 6))⟩,
        ⟨(some 27), none, .op (.mv (.tmp 1))⟩,
        ⟨(some 28), none, .op (.bin .add (.tmp 26) (.tmp 27))⟩,
        ⟨(some 29), none, .op (.slice 1 (.tmp 25) none (some (.tmp 28)) none)⟩,
        ⟨(some 30), none, .op (.nilck (.tmp 21))⟩,
        ⟨(some 31), none, .op (.faddr 0 (.tmp 30))⟩,
        ⟨none, none, .op (.store 1 (.tmp 31) (.tmp 29))⟩])
     (.seq (.reg [⟨(some 32), none, .op (.mv (.tmp 6))⟩,
        ⟨(some 4), none, .op (.mv (.tmp 32))⟩,
        ⟨(some 5), none, .op (.mv (.const (.bool true)))⟩])
     (.ret)))
     (.skip))))
  (.seq (.reg [⟨(some 4), none, .op (.mv (.const (.int .i64 0)))⟩,
     ⟨(some 5), none, .op (.mv (.const (.bool false)))⟩])
  (.ret)))

def ac_bytes_Buffer_grow (f_bytes_Buffer_Len f_bytes_Buffer_Reset f_bytes_Buffer_tryGrowByReslice f_bytes_growSlice t0 g0 : Nat) : AC :=
  .seq (.reg [⟨(some 4), none, .op (.mv (.const (.int .i64 0)))⟩])
  (.seq (.reg [⟨(some 9), none, .op (.mv (.tmp 0))⟩,
     ⟨(some 10), none, .call f_bytes_Buffer_Len [(.tmp 9)]⟩,
     ⟨(some 5), none, .op (.mv (.tmp 10))⟩])
  (.seq (.seq (.reg [⟨(some 11), none, .op (.mv (.tmp 5))⟩,
      ⟨(some 12), none, .op (.bin .eql (.tmp 11) (.const (.int .i64 0)))⟩,
      ⟨(some 13), none, .op (.mv (.tmp 12))⟩,
      ⟨(some 14), (some (13, true)), .op (.mv (.tmp 0))⟩,
      ⟨(some 15), (some (13, true)), .op (.nilck (.tmp 14))⟩,
      ⟨(some 16), (some (13, true)), .op (.faddr 1 (.tmp 15))⟩,
      ⟨(some 17), (some (13, true)), .op (.load none (.tmp 16))⟩,
      ⟨(some 18), (some (13, true)), .op (.bin .neq (.tmp 17) (.const (.int .i64 0)))⟩,
      ⟨(some 19), none, .op (.pick (.tmp 13) (.tmp 18) (.const (.bool false)))⟩])
   (.cond (.tmp 19)
     (.reg [⟨(some 20), none, .op (.mv (.tmp 0))⟩,
       ⟨(some 21), none, .call f_bytes_Buffer_Reset [(.tmp 20)]⟩])
     (.skip)))
  (.seq (.seq (.reg [⟨(some 23), none, .op (.mv (.tmp 0))⟩,
      ⟨(some 24), none, .op (.mv (.tmp 1))⟩,
      ⟨(some 25), none, .call f_bytes_Buffer_tryGrowByReslice [(.tmp 23), (.tmp 24)]⟩,
      ⟨(some 22), none, .op (.mv (.tmp 25))⟩,
      ⟨(some 26), none, .op (.extract (.tmp 22) 0)⟩,
      ⟨(some 27), none, .op (.extract (.tmp 22) 1)⟩,
      ⟨(some 6), none, .op (.mv (.tmp 26))⟩,
      ⟨(some 7), none, .op (.mv (.tmp 27))⟩])
   (.seq (.reg [⟨(some 28), none, .op (.mv (.tmp 7))⟩])
   (.cond (.tmp 28)
     (.seq (.reg [⟨(some 29), none, .op (.mv (.tmp 6))⟩,
        ⟨(some 4), none, .op (.mv (.tmp 29))⟩])
     (.ret))
     (.skip))))
  (.seq (.seq (.reg [⟨(some 30), none, .op (.mv (.tmp 0))⟩,
      ⟨(some 31), none, .op (.nilck (.tmp 30))⟩,
      ⟨(some 32), none, .op (.faddr 0 (.tmp 31))⟩,
      ⟨(some 33), none, .op (.load none (.tmp 32))⟩,
      ⟨(some 34), none, .op (.nileq false (.tmp 33))⟩,
      ⟨(some 35), none, .op (.mv (.tmp 34))⟩,
      ⟨(some 36), (some (35, true)), .op (.mv (.tmp 1))⟩,
      ⟨(some 37), (some (35, true)), .op (.bin .leq (.tmp 36) (.const (.int .i64 64)))⟩,
      ⟨(some 38), none, .op (.pick (.tmp 35) (.tmp 37) (.const (.bool false)))⟩])
   (.cond (.tmp 38)
     (.seq (.reg [⟨(some 39), none, .op (.mv (.tmp 0))⟩,
        ⟨(some 40), none, .op (.mv (.tmp 1))⟩,
        ⟨(some 41), none, .op (.mkslice t0 1 1 [.int .u8 0] (.tmp 40) (.const (.int .i64 64)))⟩,
        ⟨(some 42), none, .op (.nilck (.tmp 39))⟩,
        ⟨(some 43), none, .op (.faddr 0 (.tmp 42))⟩,
        ⟨none, none, .op (.store 1 (.tmp 43) (.tmp 41))⟩])
     (.seq (.reg [⟨(some 4), none, .op (.mv (.const (.int .i64 0)))⟩])
     (.ret)))
     (.skip)))
  (.seq (.reg [⟨(some 44), none, .op (.mv (.tmp 0))⟩,
     ⟨(some 45), none, .op (.nilck (.tmp 44))⟩,
     ⟨(some 46), none, .op (.faddr 0 (.tmp 45))⟩,
     ⟨(some 47), none, .op (.load none (.tmp 46))⟩,
     ⟨(some 48), none, .op (.cap (.tmp 47))⟩,
     ⟨(some 8), none, .op (.mv (.tmp 48))⟩])
  (.seq (.seq (.reg [⟨(some 49), none, .op (.mv (.tmp 1))⟩,
      ⟨(some 50), none, .op (.mv (.tmp 8))⟩,
      ⟨(some 51), none, .op (.bin .quo (.tmp 50) (.const (.int .i64 2)))⟩,
      ⟨(some 52), none, .op (.mv (.tmp 5))⟩,
      ⟨(some 53), none, .op (.bin .sub (.tmp 51) (.tmp 52))⟩,
      ⟨(some 54), none, .op (.bin .leq (.tmp 49) (.tmp 53))⟩])
   (.cond (.tmp 54)
     (.draw [⟨0, false, ⟨(some 55), none, .op (.mv (.tmp 0))⟩⟩,
       ⟨0, false, ⟨(some 56), none, .op (.nilck (.tmp 55))⟩⟩,
       ⟨0, false, ⟨(some 57), none, .op (.faddr 0 (.tmp 56))⟩⟩,
       ⟨0, false, ⟨(some 58), none, .op (.load none (.tmp 57))⟩⟩,
       ⟨0, false, ⟨(some 59), none, .op (.mv (.tmp 0))⟩⟩,
       ⟨0, false, ⟨(some 60), none, .op (.nilck (.tmp 59))⟩⟩,
       ⟨0, false, ⟨(some 61), none, .op (.faddr 0 (.tmp 60))⟩⟩,
       ⟨0, false, ⟨(some 62), none, .op (.load none (.tmp 61))⟩⟩,
       ⟨0, false, ⟨(some 63), none, .op (.mv (.tmp 0))⟩⟩,
       ⟨0, false, ⟨(some 64), none, .op (.nilck (.tmp 63))⟩⟩,
       ⟨0, false, ⟨(some 65), none, .op (.faddr 1 (.tmp 64))⟩⟩,
       ⟨0, false, ⟨(some 66), none, .op (.load none (.tmp 65))⟩⟩,
       ⟨0, false, ⟨(some 67), none, .op (.slice 1 (.tmp 62) (some (.tmp 66)) none none)⟩⟩,
       ⟨0, false, ⟨(some 68), none, .op (.copy 1 false (.tmp 58) (.tmp 67))⟩⟩] [])
     (.seq (.reg [⟨(some 69), none, .op (.mv (.tmp 8))⟩,
        ⟨(some 70), none, .op (.mv (.tmp 8))⟩,
        ⟨(some 71), none, .op (.bin .sub (.const (.int .i64 9223372036854775807)) (.tmp 70))⟩,
        ⟨(some 72), none, .op (.mv (.tmp 1))⟩,
        ⟨(some 73), none, .op (.bin .sub (.tmp 71) (.tmp 72))⟩,
        ⟨(some 74), none, .op (.bin .gtr (.tmp 69) (.tmp 73))⟩])
     (.cond (.tmp 74)
       (.reg [⟨(some 75), none, .op (.load none (.global g0))⟩,
         ⟨none, none, .op (.bad)⟩])
       (.draw [⟨0, false, ⟨(some 76), none, .op (.mv (.tmp 0))⟩⟩,
         ⟨0, false, ⟨(some 77), none, .op (.mv (.tmp 0))⟩⟩,
         ⟨0, false, ⟨(some 78), none, .op (.nilck (.tmp 77))⟩⟩,
         ⟨0, false, ⟨(some 79), none, .op (.faddr 0 (.tmp 78))⟩⟩,
         ⟨0, false, ⟨(some 80), none, .op (.load none (.tmp 79))⟩⟩,
         ⟨0, false, ⟨(some 81), none, .op (.mv (.tmp 0))⟩⟩,
         ⟨0, false, ⟨(some 82), none, .op (.nilck (.tmp 81))⟩⟩,
         ⟨0, false, ⟨(some 83), none, .op (.faddr 1 (.tmp 82))⟩⟩,
         ⟨0, false, ⟨(some 84), none, .op (.load none (.tmp 83))⟩⟩,
         ⟨0, false, ⟨(some 85), none, .op (.slice 1 (.tmp 80) (some (.tmp 84)) none none)⟩⟩,
         ⟨0, false, ⟨(some 86), none, .op (.mv (.tmp 0))⟩⟩,
         ⟨0, false, ⟨(some 87), none, .op (.nilck (.tmp 86))⟩⟩,
         ⟨0, false, ⟨(some 88), none, .op (.faddr 1 (.tmp 87))⟩⟩,
         ⟨0, false, ⟨(some 89), none, .op (.load none (.tmp 88))⟩⟩,
         ⟨0, false, ⟨(some 90), none, .op (.mv (.tmp 1))⟩⟩,
         ⟨0, false, ⟨(some 91), none, .op (.bin .add (.tmp 89) (.tmp 90))⟩⟩,
         ⟨0, false, ⟨(some 92), none, .call f_bytes_growSlice [(.tmp 85), (.tmp 91)]⟩⟩,
         ⟨0, false, ⟨(some 93), none, .op (.nilck (.tmp 76))⟩⟩,
         ⟨0, false, ⟨(some 94), none, .op (.faddr 0 (.tmp 93))⟩⟩,
         ⟨0, false, ⟨none, none, .op (.store 1 (.tmp 94) (.tmp 92))⟩⟩] [])))))
  (.seq (.reg [⟨(some 95), none, .op (.mv (.tmp 0))⟩,
     ⟨(some 96), none, .op (.nilck (.tmp 95))⟩,
     ⟨(some 97), none, .op (.faddr 1 (.tmp 96))⟩,
     ⟨none, none, .op (.store 1 (.tmp 97) (.const (.int .i64 0)))⟩])
  (.seq (.reg [⟨(some 98), none, .op (.mv (.tmp 0))⟩,
     ⟨(some 99), none, .op (.mv (.tmp 0))⟩,
     ⟨(some 100), none, .op (.nilck (.tmp 99))⟩,
     ⟨(some 101), none, .op (.faddr 0 (.tmp 100))⟩,
     ⟨(some 102), none, .op (.load none (.tmp 101))⟩,
     ⟨(some 103), none, .op (.mv (.tmp 5))⟩,
     ⟨(some 104), none, .op (.mv (.tmp 1))⟩,
     ⟨(some 105), none, .op (.bin .add (.tmp 103) (.tmp 104))⟩,
     ⟨(some 106), none, .op (.slice 1 (.tmp 102) none (some (.tmp 105)) none)⟩,
     ⟨(some 107), none, .op (.nilck (.tmp 98))⟩,
     ⟨(some 108), none, .op (.faddr 0 (.tmp 107))⟩,
     ⟨none, none, .op (.store 1 (.tmp 108) (.tmp 106))⟩])
  (.seq (.reg [⟨(some 109), none, .op (.mv (.tmp 5))⟩,
     ⟨(some 4), none, .op (.mv (.tmp 109))⟩])
  (.ret))))))))))

def ac_slices_IndexFunc_api_Chunk_api_Chunk : AC :=
  .seq (.reg [⟨(some 4), none, .op (.mv (.const (.int .i64 0)))⟩])
  (.seq (.seq (.reg [⟨(some 6), none, .op (.mv (.tmp 0))⟩,
      ⟨(some 7), none, .op (.len none (.tmp 6))⟩,
      ⟨(some 8), none, .op (.mv (.const (.int .i64 0)))⟩])
   (.block 0 (.loop (.seq (.reg [⟨(some 9), none, .op (.bin .lss (.tmp 8) (.tmp 7))⟩])
     (.seq (.cond (.tmp 9)
        (.skip)
        (.exit 0))
     (.seq (.block 1 (.seq (.reg [⟨(some 10), none, .op (.mv (.tmp 8))⟩,
          ⟨(some 5), none, .op (.mv (.tmp 10))⟩])
       (.seq (.reg [⟨(some 11), none, .op (.mv (.tmp 1))⟩,
          ⟨(some 12), none, .op (.mv (.tmp 0))⟩,
          ⟨(some 13), none, .op (.mv (.tmp 5))⟩,
          ⟨(some 14), none, .op (.iaddr (.slice 2) (.tmp 12) (.tmp 13))⟩,
          ⟨(some 15), none, .op (.load (some 2) (.tmp 14))⟩,
          ⟨(some 16), none, .callv 11 [(.tmp 15)]⟩])
       (.cond (.tmp 16)
         (.seq (.reg [⟨(some 17), none, .op (.mv (.tmp 5))⟩,
            ⟨(some 4), none, .op (.mv (.tmp 17))⟩])
         (.ret))
         (.skip)))))
     (.reg [⟨(some 18), none, .op (.bin .add (.tmp 8) (.const (.int .i64 1)))⟩,
       ⟨(some 8), none, .op (.mv (.tmp 18))⟩])))))))
  (.seq (.reg [⟨(some 4), none, .op (.mv (.const (.int .i64 (-1))))⟩])
  (.ret)))

def ac_riff_Find_1 (t0 : Nat) : AC :=
  .seq (.reg [⟨(some 2), none, .op (.box t0 2 (.tmp 0))⟩,
     ⟨(some 3), none, .op (.mv (.const (.bool false)))⟩])
  (.seq (.reg [⟨(some 4), none, .op (.faddr 0 (.tmp 2))⟩,
     ⟨(some 5), none, .op (.load none (.tmp 4))⟩,
     ⟨(some 6), none, .op (.load none (.tmp 1))⟩,
     ⟨(some 7), none, .op (.bin .eql (.tmp 5) (.tmp 6))⟩,
     ⟨(some 3), none, .op (.mv (.tmp 7))⟩])
  (.ret))

def ac_enframe_Check (f_width_Range t0 : Nat) : AC :=
  .seq (.reg [⟨(some 1), none, .op (.box t0 2 (.tmp 0))⟩,
     ⟨(some 2), none, .op (.mv (.const (.int .i64 0)))⟩])
  (.seq (.seq (.reg [⟨(some 7), none, .op (.faddr 1 (.tmp 1))⟩,
      ⟨(some 8), none, .op (.load none (.tmp 7))⟩,
      ⟨(some 9), none, .call f_width_Range [(.tmp 8)]⟩,
      ⟨(some 6), none, .op (.mv (.tmp 9))⟩,
      ⟨(some 10), none, .op (.extract (.tmp 6) 0)⟩,
      ⟨(some 11), none, .op (.extract (.tmp 6) 1)⟩,
      ⟨(some 12), none, .op (.extract (.tmp 6) 2)⟩,
      ⟨(some 3), none, .op (.mv (.tmp 10))⟩,
      ⟨(some 4), none, .op (.mv (.tmp 11))⟩,
      ⟨(some 5), none, .op (.mv (.tmp 12))⟩])
   (.seq (.reg [⟨(some 13), none, .op (.mv (.tmp 5))⟩,
      ⟨(some 14), none, .op (.bin .neq (.tmp 13) (.const (.int .i64 0)))⟩,
      ⟨(some 15), none, .op (.mv (.tmp 14))⟩,
      ⟨(some 16), (some (15, false)), .op (.faddr 0 (.tmp 1))⟩,
      ⟨(some 17), (some (15, false)), .op (.load none (.tmp 16))⟩,
      ⟨(some 18), (some (15, false)), .op (.bin .lss (.tmp 17) (.const (.int .i64 1)))⟩,
      ⟨(some 19), none, .op (.pick (.tmp 15) (.const (.bool true)) (.tmp 18))⟩,
      ⟨(some 20), none, .op (.mv (.tmp 19))⟩,
      ⟨(some 21), (some (20, false)), .op (.faddr 0 (.tmp 1))⟩,
      ⟨(some 22), (some (20, false)), .op (.load none (.tmp 21))⟩,
      ⟨(some 23), (some (20, false)), .op (.bin .gtr (.tmp 22) (.const (.int .i64 6)))⟩,
      ⟨(some 24), none, .op (.pick (.tmp 20) (.const (.bool true)) (.tmp 23))⟩])
   (.cond (.tmp 24)
     (.seq (.reg [⟨(some 2), none, .op (.mv (.const (.int .i64 2)))⟩])
     (.ret))
     (.skip))))
  (.seq (.reg [⟨(some 2), none, .op (.mv (.const (.int .i64 0)))⟩])
  (.ret)))

def ac_clip_shape (t0 t1 : Nat) : AC :=
  .seq (.reg [⟨(some 1), none, .op (.box t0 4 (.tmp 0))⟩,
     ⟨(some 2), none, .op (.alloc t1 [.int .i64 0, .int .i64 0])⟩])
  (.seq (.reg [⟨(some 3), none, .op (.faddr 0 (.tmp 1))⟩,
     ⟨(some 4), none, .op (.load none (.tmp 3))⟩,
     ⟨(some 5), none, .op (.faddr 1 (.tmp 1))⟩,
     ⟨(some 6), none, .op (.load none (.tmp 5))⟩,
     ⟨(some 7), none, .op (.build [.int .i64 0, .int .i64 0] [(0, 1, (.tmp 4)), (1, 1, (.tmp 6))])⟩,
     ⟨none, none, .op (.store 2 (.tmp 2) (.tmp 7))⟩])
  (.ret))

def ac_lengths_Count (f_lengths_Long : Nat) : AC :=
  .seq (.reg [⟨(some 4), none, .op (.mv (.const (.int .i64 0)))⟩,
     ⟨(some 5), none, .op (.mv (.const (.int .i64 0)))⟩])
  (.seq (.reg [⟨(some 10), none, .op (.mv (.tmp 0))⟩,
     ⟨(some 11), none, .call f_lengths_Long [(.tmp 10)]⟩,
     ⟨(some 9), none, .op (.mv (.tmp 11))⟩,
     ⟨(some 12), none, .op (.extract (.tmp 9) 0)⟩,
     ⟨(some 13), none, .op (.extract (.tmp 9) 1)⟩,
     ⟨(some 6), none, .op (.mv (.tmp 12))⟩,
     ⟨(some 7), none, .op (.mv (.tmp 13))⟩])
  (.seq (.seq (.reg [⟨(some 14), none, .op (.mv (.tmp 7))⟩,
      ⟨(some 15), none, .op (.bin .neq (.tmp 14) (.const (.int .i64 0)))⟩])
   (.cond (.tmp 15)
     (.seq (.reg [⟨(some 16), none, .op (.mv (.tmp 7))⟩,
        ⟨(some 4), none, .op (.mv (.const (.int .i64 0)))⟩,
        ⟨(some 5), none, .op (.mv (.tmp 16))⟩])
     (.ret))
     (.skip)))
  (.seq (.seq (.reg [⟨(some 17), none, .op (.mv (.tmp 1))⟩,
      ⟨(some 18), none, .op (.bin .lss (.tmp 17) (.const (.int .i64 1)))⟩,
      ⟨(some 19), none, .op (.mv (.tmp 18))⟩,
      ⟨(some 20), (some (19, false)), .op (.mv (.tmp 1))⟩,
      ⟨(some 21), (some (19, false)), .op (.bin .gtr (.tmp 20) (.const (.int .i64 4000)))⟩,
      ⟨(some 22), none, .op (.pick (.tmp 19) (.const (.bool true)) (.tmp 21))⟩])
   (.cond (.tmp 22)
     (.seq (.reg [⟨(some 4), none, .op (.mv (.const (.int .i64 0)))⟩,
        ⟨(some 5), none, .op (.mv (.const (.int .i64 2)))⟩])
     (.ret))
     (.skip)))
  (.seq (.reg [⟨(some 23), none, .op (.mv (.tmp 1))⟩,
     ⟨(some 24), none, .op (.mv (.tmp 6))⟩,
     ⟨(some 25), none, .op (.bin .add (.tmp 23) (.tmp 24))⟩,
     ⟨(some 26), none, .op (.bin .sub (.tmp 25) (.const (.int .i64 1)))⟩,
     ⟨(some 27), none, .op (.mv (.tmp 6))⟩,
     ⟨(some 28), none, .op (.bin .quo (.tmp 26) (.tmp 27))⟩,
     ⟨(some 8), none, .op (.mv (.tmp 28))⟩])
  (.seq (.seq (.reg [⟨(some 29), none, .op (.mv (.tmp 8))⟩,
      ⟨(some 30), none, .op (.bin .gtr (.tmp 29) (.const (.int .i64 1000)))⟩])
   (.cond (.tmp 30)
     (.seq (.reg [⟨(some 4), none, .op (.mv (.const (.int .i64 0)))⟩,
        ⟨(some 5), none, .op (.mv (.const (.int .i64 4)))⟩])
     (.ret))
     (.skip)))
  (.seq (.reg [⟨(some 31), none, .op (.mv (.tmp 8))⟩,
     ⟨(some 4), none, .op (.mv (.tmp 31))⟩,
     ⟨(some 5), none, .op (.mv (.const (.int .i64 0)))⟩])
  (.ret)))))))

def ac_cadenzaref22_All (f_cadenzaref22_Long t0 : Nat) : AC :=
  .seq (.reg [⟨(some 4), none, .op (.mv (.const (.slice none 0 0)))⟩,
     ⟨(some 5), none, .op (.mv (.const (.int .i64 0)))⟩])
  (.seq (.reg [⟨(some 10), none, .op (.mv (.tmp 0))⟩,
     ⟨(some 11), none, .call f_cadenzaref22_Long [(.tmp 10)]⟩,
     ⟨(some 9), none, .op (.mv (.tmp 11))⟩,
     ⟨(some 12), none, .op (.extract (.tmp 9) 0)⟩,
     ⟨(some 13), none, .op (.extract (.tmp 9) 1)⟩,
     ⟨(some 6), none, .op (.mv (.tmp 12))⟩,
     ⟨(some 7), none, .op (.mv (.tmp 13))⟩])
  (.seq (.seq (.reg [⟨(some 14), none, .op (.mv (.tmp 7))⟩,
      ⟨(some 15), none, .op (.bin .neq (.tmp 14) (.const (.int .i64 0)))⟩,
      ⟨(some 16), none, .op (.mv (.tmp 15))⟩,
      ⟨(some 17), (some (16, false)), .op (.mv (.tmp 1))⟩,
      ⟨(some 18), (some (16, false)), .op (.bin .lss (.tmp 17) (.const (.int .i64 1)))⟩,
      ⟨(some 19), none, .op (.pick (.tmp 16) (.const (.bool true)) (.tmp 18))⟩,
      ⟨(some 20), none, .op (.mv (.tmp 19))⟩,
      ⟨(some 21), (some (20, false)), .op (.mv (.tmp 1))⟩,
      ⟨(some 22), (some (20, false)), .op (.bin .gtr (.tmp 21) (.const (.int .i64 4000)))⟩,
      ⟨(some 23), none, .op (.pick (.tmp 20) (.const (.bool true)) (.tmp 22))⟩])
   (.cond (.tmp 23)
     (.seq (.reg [⟨(some 4), none, .op (.mv (.const (.slice none 0 0)))⟩,
        ⟨(some 5), none, .op (.mv (.const (.int .i64 2)))⟩])
     (.ret))
     (.skip)))
  (.seq (.reg [⟨(some 8), none, .op (.mv (.const (.slice none 0 0)))⟩])
  (.seq (.block 0 (.loop (.seq (.seq (.reg [⟨(some 24), none, .op (.mv (.tmp 1))⟩,
         ⟨(some 25), none, .op (.bin .gtr (.tmp 24) (.const (.int .i64 0)))⟩])
      (.cond (.tmp 25)
        (.skip)
        (.exit 0)))
     (.block 1 (.seq (.reg [⟨(some 26), none, .op (.mv (.tmp 8))⟩,
         ⟨(some 27), none, .op (.mv (.tmp 1))⟩,
         ⟨(some 28), none, .op (.mv (.tmp 6))⟩,
         ⟨(some 29), none, .op (.min [(.tmp 27), (.tmp 28)])⟩,
         ⟨(some 30), none, .op (.bslice t0 1 1 [.int .i64 0] [(0, 1, (.tmp 29))])⟩,
         ⟨(some 31), none, .op (.append t0 1 8 false (.tmp 26) (.tmp 30))⟩,
         ⟨(some 8), none, .op (.mv (.tmp 31))⟩])
      (.reg [⟨(some 32), none, .op (.mv (.tmp 1))⟩,
        ⟨(some 33), none, .op (.mv (.tmp 1))⟩,
        ⟨(some 34), none, .op (.mv (.tmp 6))⟩,
        ⟨(some 35), none, .op (.min [(.tmp 33), (.tmp 34)])⟩,
        ⟨(some 36), none, .op (.bin .sub (.tmp 32) (.tmp 35))⟩,
        ⟨(some 1), none, .op (.mv (.tmp 36))⟩]))))))
  (.seq (.seq (.reg [⟨(some 37), none, .op (.mv (.tmp 8))⟩,
      ⟨(some 38), none, .op (.len none (.tmp 37))⟩,
      ⟨(some 39), none, .op (.bin .gtr (.tmp 38) (.const (.int .i64 1000)))⟩])
   (.cond (.tmp 39)
     (.seq (.reg [⟨(some 4), none, .op (.mv (.const (.slice none 0 0)))⟩,
        ⟨(some 5), none, .op (.mv (.const (.int .i64 4)))⟩])
     (.ret))
     (.skip)))
  (.seq (.reg [⟨(some 40), none, .op (.mv (.tmp 8))⟩,
     ⟨(some 4), none, .op (.mv (.tmp 40))⟩,
     ⟨(some 5), none, .op (.mv (.const (.int .i64 0)))⟩])
  (.ret)))))))

def ac_bytes_Buffer_Len : AC :=
  .seq (.reg [⟨(some 2), none, .op (.mv (.const (.int .i64 0)))⟩])
  (.seq (.draw [⟨0, false, ⟨(some 3), none, .op (.mv (.tmp 0))⟩⟩,
     ⟨0, false, ⟨(some 4), none, .op (.nilck (.tmp 3))⟩⟩,
     ⟨0, false, ⟨(some 5), none, .op (.faddr 0 (.tmp 4))⟩⟩,
     ⟨0, false, ⟨(some 6), none, .op (.load none (.tmp 5))⟩⟩,
     ⟨0, false, ⟨(some 7), none, .op (.len none (.tmp 6))⟩⟩,
     ⟨0, false, ⟨(some 8), none, .op (.mv (.tmp 0))⟩⟩,
     ⟨0, false, ⟨(some 9), none, .op (.nilck (.tmp 8))⟩⟩,
     ⟨0, false, ⟨(some 10), none, .op (.faddr 1 (.tmp 9))⟩⟩,
     ⟨0, false, ⟨(some 11), none, .op (.load none (.tmp 10))⟩⟩,
     ⟨0, false, ⟨(some 12), none, .op (.bin .sub (.tmp 7) (.tmp 11))⟩⟩,
     ⟨0, false, ⟨(some 2), none, .op (.mv (.tmp 12))⟩⟩] [])
  (.ret))

def ac_lengths_Long : AC :=
  .seq (.reg [⟨(some 2), none, .op (.mv (.const (.int .i64 0)))⟩,
     ⟨(some 3), none, .op (.mv (.const (.int .i64 0)))⟩])
  (.seq (.seq (.reg [⟨(some 4), none, .op (.mv (.tmp 0))⟩,
      ⟨(some 5), none, .op (.bin .lss (.tmp 4) (.const (.int .i64 1)))⟩,
      ⟨(some 6), none, .op (.mv (.tmp 5))⟩,
      ⟨(some 7), (some (6, false)), .op (.mv (.tmp 0))⟩,
      ⟨(some 8), (some (6, false)), .op (.bin .gtr (.tmp 7) (.const (.int .i64 1048576)))⟩,
      ⟨(some 9), none, .op (.pick (.tmp 6) (.const (.bool true)) (.tmp 8))⟩])
   (.cond (.tmp 9)
     (.seq (.reg [⟨(some 2), none, .op (.mv (.const (.int .i64 0)))⟩,
        ⟨(some 3), none, .op (.mv (.const (.int .i64 2)))⟩])
     (.ret))
     (.skip)))
  (.seq (.reg [⟨(some 10), none, .op (.mv (.tmp 0))⟩,
     ⟨(some 11), none, .op (.bin .mul (.const (.int .i64 256)) (.tmp 10))⟩,
     ⟨(some 12), none, .op (.bin .quo (.tmp 11) (.const (.int .i64 245)))⟩,
     ⟨(some 13), none, .op (.max [(.const (.int .i64 1)), (.tmp 12)])⟩,
     ⟨(some 2), none, .op (.mv (.tmp 13))⟩,
     ⟨(some 3), none, .op (.mv (.const (.int .i64 0)))⟩])
  (.ret)))

def ac_cadenzaref22_Long : AC :=
  .seq (.reg [⟨(some 2), none, .op (.mv (.const (.int .i64 0)))⟩,
     ⟨(some 3), none, .op (.mv (.const (.int .i64 0)))⟩])
  (.seq (.seq (.reg [⟨(some 5), none, .op (.mv (.tmp 0))⟩,
      ⟨(some 6), none, .op (.bin .lss (.tmp 5) (.const (.int .i64 1)))⟩,
      ⟨(some 7), none, .op (.mv (.tmp 6))⟩,
      ⟨(some 8), (some (7, false)), .op (.mv (.tmp 0))⟩,
      ⟨(some 9), (some (7, false)), .op (.bin .gtr (.tmp 8) (.const (.int .i64 1048576)))⟩,
      ⟨(some 10), none, .op (.pick (.tmp 7) (.const (.bool true)) (.tmp 9))⟩])
   (.cond (.tmp 10)
     (.seq (.reg [⟨(some 2), none, .op (.mv (.const (.int .i64 0)))⟩,
        ⟨(some 3), none, .op (.mv (.const (.int .i64 2)))⟩])
     (.ret))
     (.skip)))
  (.seq (.reg [⟨(some 11), none, .op (.mv (.tmp 0))⟩,
     ⟨(some 12), none, .op (.bin .mul (.tmp 11) (.const (.int .i64 256)))⟩,
     ⟨(some 13), none, .op (.bin .quo (.tmp 12) (.const (.int .i64 245)))⟩,
     ⟨(some 4), none, .op (.mv (.tmp 13))⟩])
  (.seq (.seq (.reg [⟨(some 14), none, .op (.mv (.tmp 4))⟩,
      ⟨(some 15), none, .op (.bin .eql (.tmp 14) (.const (.int .i64 0)))⟩])
   (.cond (.tmp 15)
     (.reg [⟨(some 4), none, .op (.mv (.const (.int .i64 1)))⟩])
     (.skip)))
  (.seq (.reg [⟨(some 16), none, .op (.mv (.tmp 4))⟩,
     ⟨(some 2), none, .op (.mv (.tmp 16))⟩,
     ⟨(some 3), none, .op (.mv (.const (.int .i64 0)))⟩])
  (.ret)))))

end Go.Am

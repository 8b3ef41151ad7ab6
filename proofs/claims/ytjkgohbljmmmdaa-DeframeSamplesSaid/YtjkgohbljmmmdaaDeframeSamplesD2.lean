/- The abstract code of the functions that the law reaches; no conditions. -/
import Derived.Test.YtjkgohbljmmmdaaDeframeSamplesD1
set_option linter.unusedSectionVars false
set_option linter.unusedSimpArgs false
set_option linter.unusedVariables false
namespace Go.Am

def ac_cadenzaref14_Pushed (t0 : Nat) : AC :=
  .seq (.reg [⟨(some 2), none, .op (.box t0 33 (.tmp 0))⟩,
     ⟨(some 4), none, .op (.alloc t0 [.int .i64 0, .int .i32 0, .int .i32 0, .int .i32 0, .int .i32 0, .int .i32 0, .int .i32 0, .int .i32 0, .int .i32 0, .int .i32 0, .int .i32 0, .int .i32 0, .int .i32 0, .int .i32 0, .int .i32 0, .int .i32 0, .int .i32 0, .int .i32 0, .int .i32 0, .int .i32 0, .int .i32 0, .int .i32 0, .int .i32 0, .int .i32 0, .int .i32 0, .int .i32 0, .int .i32 0, .int .i32 0, .int .i32 0, .int .i32 0, .int .i32 0, .int .i32 0, .int .i32 0])⟩])
  (.seq (.seq (.reg [⟨(some 5), none, .op (.mv (.const (.int .i64 15)))⟩])
   (.block 0 (.loop (.seq (.seq (.reg [⟨(some 6), none, .op (.mv (.tmp 5))⟩,
         ⟨(some 7), none, .op (.bin .gtr (.tmp 6) (.const (.int .i64 0)))⟩])
      (.cond (.tmp 7)
        (.skip)
        (.exit 0)))
     (.seq (.block 1 (.reg [⟨(some 10), none, .op (.mv (.tmp 5))⟩,
         ⟨(some 11), none, .op (.mv (.tmp 5))⟩,
         ⟨(some 12), none, .op (.bin .sub (.tmp 11) (.const (.int .i64 1)))⟩,
         ⟨(some 13), none, .op (.faddr 17 (.tmp 2))⟩,
         ⟨(some 14), none, .op (.iaddr (.arr 16 1) (.tmp 13) (.tmp 12))⟩,
         ⟨(some 15), none, .op (.load none (.tmp 14))⟩,
         ⟨(some 16), none, .op (.faddr 17 (.tmp 2))⟩,
         ⟨(some 17), none, .op (.iaddr (.arr 16 1) (.tmp 16) (.tmp 10))⟩,
         ⟨none, none, .op (.store 1 (.tmp 17) (.tmp 15))⟩]))
     (.reg [⟨(some 8), none, .op (.mv (.tmp 5))⟩,
       ⟨(some 9), none, .op (.bin .sub (.tmp 8) (.const (.int .i64 1)))⟩,
       ⟨(some 5), none, .op (.mv (.tmp 9))⟩]))))))
  (.seq (.reg [⟨(some 18), none, .op (.mv (.tmp 1))⟩,
     ⟨(some 19), none, .op (.faddr 17 (.tmp 2))⟩,
     ⟨(some 20), none, .op (.iaddr (.arr 16 1) (.tmp 19) (.const (.int .i64 0)))⟩,
     ⟨none, none, .op (.store 1 (.tmp 20) (.tmp 18))⟩])
  (.seq (.reg [⟨(some 21), none, .op (.load (some 33) (.tmp 2))⟩,
     ⟨none, none, .op (.store 33 (.tmp 4) (.tmp 21))⟩])
  (.ret))))

def ac_cadenzaref14_Learned (f_cadenzaref14_Step f_cadenzaref14_Sign t0 : Nat) : AC :=
  .seq (.reg [⟨(some 2), none, .op (.box t0 33 (.tmp 0))⟩,
     ⟨(some 4), none, .op (.alloc t0 [.int .i64 0, .int .i32 0, .int .i32 0, .int .i32 0, .int .i32 0, .int .i32 0, .int .i32 0, .int .i32 0, .int .i32 0, .int .i32 0, .int .i32 0, .int .i32 0, .int .i32 0, .int .i32 0, .int .i32 0, .int .i32 0, .int .i32 0, .int .i32 0, .int .i32 0, .int .i32 0, .int .i32 0, .int .i32 0, .int .i32 0, .int .i32 0, .int .i32 0, .int .i32 0, .int .i32 0, .int .i32 0, .int .i32 0, .int .i32 0, .int .i32 0, .int .i32 0, .int .i32 0])⟩])
  (.seq (.seq (.reg [⟨(some 5), none, .op (.mv (.const (.int .i64 0)))⟩])
   (.block 0 (.loop (.seq (.seq (.reg [⟨(some 6), none, .op (.mv (.tmp 5))⟩,
         ⟨(some 7), none, .op (.bin .lss (.tmp 6) (.const (.int .i64 16)))⟩])
      (.cond (.tmp 7)
        (.skip)
        (.exit 0)))
     (.seq (.block 1 (.draw [⟨0, false, ⟨(some 10), none, .op (.mv (.tmp 5))⟩⟩,
         ⟨0, false, ⟨(some 11), none, .op (.faddr 1 (.tmp 2))⟩⟩,
         ⟨0, false, ⟨(some 12), none, .op (.iaddr (.arr 16 1) (.tmp 11) (.tmp 10))⟩⟩,
         ⟨0, false, ⟨(some 13), none, .op (.load none (.tmp 12))⟩⟩,
         ⟨0, false, ⟨(some 14), none, .op (.mv (.tmp 5))⟩⟩,
         ⟨0, false, ⟨(some 15), none, .call f_cadenzaref14_Step [(.tmp 14)]⟩⟩,
         ⟨0, false, ⟨(some 16), none, .op (.mv (.tmp 5))⟩⟩,
         ⟨0, false, ⟨(some 17), none, .op (.faddr 17 (.tmp 2))⟩⟩,
         ⟨0, false, ⟨(some 18), none, .op (.iaddr (.arr 16 1) (.tmp 17) (.tmp 16))⟩⟩,
         ⟨0, false, ⟨(some 19), none, .op (.load none (.tmp 18))⟩⟩,
         ⟨0, false, ⟨(some 20), none, .call f_cadenzaref14_Sign [(.tmp 19)]⟩⟩,
         ⟨0, false, ⟨(some 21), none, .op (.bin .mul (.tmp 15) (.tmp 20))⟩⟩,
         ⟨0, false, ⟨(some 22), none, .op (.mv (.tmp 1))⟩⟩,
         ⟨0, false, ⟨(some 23), none, .call f_cadenzaref14_Sign [(.tmp 22)]⟩⟩,
         ⟨0, false, ⟨(some 24), none, .op (.bin .mul (.tmp 21) (.tmp 23))⟩⟩,
         ⟨0, false, ⟨(some 25), none, .op (.bin .add (.tmp 13) (.tmp 24))⟩⟩,
         ⟨0, false, ⟨(some 26), none, .op (.faddr 1 (.tmp 2))⟩⟩,
         ⟨0, false, ⟨(some 27), none, .op (.iaddr (.arr 16 1) (.tmp 26) (.tmp 10))⟩⟩,
         ⟨0, false, ⟨none, none, .op (.store 1 (.tmp 27) (.tmp 25))⟩⟩] []))
     (.reg [⟨(some 8), none, .op (.mv (.tmp 5))⟩,
       ⟨(some 9), none, .op (.bin .add (.tmp 8) (.const (.int .i64 1)))⟩,
       ⟨(some 5), none, .op (.mv (.tmp 9))⟩]))))))
  (.seq (.reg [⟨(some 28), none, .op (.load (some 33) (.tmp 2))⟩,
     ⟨none, none, .op (.store 33 (.tmp 4) (.tmp 28))⟩])
  (.ret)))

def ac_taps_step : AC :=
  .seq (.reg [⟨(some 2), none, .op (.mv (.const (.int .i32 0)))⟩])
  (.seq (.block 0 (.seq (.reg [⟨(some 4), none, .op (.mv (.tmp 0))⟩,
       ⟨(some 5), none, .op (.bin .eql (.tmp 4) (.const (.int .i64 0)))⟩,
       ⟨(some 3), none, .op (.mv (.tmp 5))⟩])
    (.cond (.tmp 3)
      (.seq (.reg [⟨(some 2), none, .op (.mv (.const (.int .i32 4)))⟩])
      (.ret))
      (.seq (.reg [⟨(some 7), none, .op (.mv (.tmp 0))⟩,
         ⟨(some 8), none, .op (.bin .lss (.tmp 7) (.const (.int .i64 4)))⟩,
         ⟨(some 6), none, .op (.mv (.tmp 8))⟩])
      (.cond (.tmp 6)
        (.seq (.reg [⟨(some 2), none, .op (.mv (.const (.int .i32 2)))⟩])
        (.ret))
        (.skip))))))
  (.seq (.reg [⟨(some 2), none, .op (.mv (.const (.int .i32 1)))⟩])
  (.ret)))

def ac_cadenzaref14_Sum (f_cadenzaref13_Wrap t0 : Nat) : AC :=
  .seq (.reg [⟨(some 1), none, .op (.box t0 33 (.tmp 0))⟩,
     ⟨(some 2), none, .op (.mv (.const (.int .i32 0)))⟩])
  (.seq (.reg [⟨(some 3), none, .op (.mv (.const (.int .i64 0)))⟩])
  (.seq (.seq (.reg [⟨(some 4), none, .op (.mv (.const (.int .i64 0)))⟩])
   (.block 0 (.loop (.seq (.seq (.reg [⟨(some 5), none, .op (.mv (.tmp 4))⟩,
         ⟨(some 6), none, .op (.bin .lss (.tmp 5) (.const (.int .i64 16)))⟩])
      (.cond (.tmp 6)
        (.skip)
        (.exit 0)))
     (.seq (.block 1 (.draw [⟨0, false, ⟨(some 9), none, .op (.mv (.tmp 3))⟩⟩,
         ⟨0, false, ⟨(some 10), none, .op (.mv (.tmp 4))⟩⟩,
         ⟨0, false, ⟨(some 11), none, .op (.faddr 1 (.tmp 1))⟩⟩,
         ⟨0, false, ⟨(some 12), none, .op (.iaddr (.arr 16 1) (.tmp 11) (.tmp 10))⟩⟩,
         ⟨0, false, ⟨(some 13), none, .op (.load none (.tmp 12))⟩⟩,
         ⟨0, false, ⟨(some 14), none, .op (.conv (.int .i64) (.tmp 13))⟩⟩,
         ⟨0, false, ⟨(some 15), none, .op (.mv (.tmp 4))⟩⟩,
         ⟨0, false, ⟨(some 16), none, .op (.faddr 17 (.tmp 1))⟩⟩,
         ⟨0, false, ⟨(some 17), none, .op (.iaddr (.arr 16 1) (.tmp 16) (.tmp 15))⟩⟩,
         ⟨0, false, ⟨(some 18), none, .op (.load none (.tmp 17))⟩⟩,
         ⟨0, false, ⟨(some 19), none, .op (.conv (.int .i64) (.tmp 18))⟩⟩,
         ⟨0, false, ⟨(some 20), none, .op (.bin .mul (.tmp 14) (.tmp 19))⟩⟩,
         ⟨0, false, ⟨(some 21), none, .call f_cadenzaref13_Wrap [(.tmp 20)]⟩⟩,
         ⟨0, false, ⟨(some 22), none, .op (.conv (.int .i64) (.tmp 21))⟩⟩,
         ⟨0, false, ⟨(some 23), none, .op (.bin .add (.tmp 9) (.tmp 22))⟩⟩,
         ⟨0, false, ⟨(some 24), none, .call f_cadenzaref13_Wrap [(.tmp 23)]⟩⟩,
         ⟨0, false, ⟨(some 25), none, .op (.conv (.int .i64) (.tmp 24))⟩⟩,
         ⟨0, false, ⟨(some 3), none, .op (.mv (.tmp 25))⟩⟩] []))
     (.reg [⟨(some 7), none, .op (.mv (.tmp 4))⟩,
       ⟨(some 8), none, .op (.bin .add (.tmp 7) (.const (.int .i64 1)))⟩,
       ⟨(some 4), none, .op (.mv (.tmp 8))⟩]))))))
  (.seq (.reg [⟨(some 26), none, .op (.mv (.tmp 3))⟩,
     ⟨(some 27), none, .op (.conv (.int .i32) (.tmp 26))⟩,
     ⟨(some 2), none, .op (.mv (.tmp 27))⟩])
  (.ret))))

def ac_cadenzaref14_Step : AC :=
  .seq (.reg [⟨(some 2), none, .op (.mv (.const (.int .i32 0)))⟩])
  (.seq (.seq (.reg [⟨(some 3), none, .op (.mv (.tmp 0))⟩,
      ⟨(some 4), none, .op (.bin .eql (.tmp 3) (.const (.int .i64 0)))⟩])
   (.cond (.tmp 4)
     (.seq (.reg [⟨(some 2), none, .op (.mv (.const (.int .i32 4)))⟩])
     (.ret))
     (.skip)))
  (.seq (.seq (.reg [⟨(some 5), none, .op (.mv (.tmp 0))⟩,
      ⟨(some 6), none, .op (.bin .leq (.tmp 5) (.const (.int .i64 3)))⟩])
   (.cond (.tmp 6)
     (.seq (.reg [⟨(some 2), none, .op (.mv (.const (.int .i32 2)))⟩])
     (.ret))
     (.skip)))
  (.seq (.reg [⟨(some 2), none, .op (.mv (.const (.int .i32 1)))⟩])
  (.ret))))

def ac_cadenzaref14_Sign : AC :=
  .seq (.reg [⟨(some 2), none, .op (.mv (.const (.int .i32 0)))⟩])
  (.seq (.seq (.reg [⟨(some 3), none, .op (.mv (.tmp 0))⟩,
      ⟨(some 4), none, .op (.bin .lss (.tmp 3) (.const (.int .i32 0)))⟩])
   (.cond (.tmp 4)
     (.seq (.reg [⟨(some 2), none, .op (.mv (.const (.int .i32 (-1))))⟩])
     (.ret))
     (.skip)))
  (.seq (.seq (.reg [⟨(some 5), none, .op (.mv (.tmp 0))⟩,
      ⟨(some 6), none, .op (.bin .gtr (.tmp 5) (.const (.int .i32 0)))⟩])
   (.cond (.tmp 6)
     (.seq (.reg [⟨(some 2), none, .op (.mv (.const (.int .i32 1)))⟩])
     (.ret))
     (.skip)))
  (.seq (.reg [⟨(some 2), none, .op (.mv (.const (.int .i32 0)))⟩])
  (.ret))))

end Go.Am

/- An abstract machine for pure Go code, part 2: sound for the given semantics; no conditions. -/
import Derived.Test.YthckgihcbjpjeaaGreatDoorLinesTellsA1
set_option linter.unusedSectionVars false
set_option linter.unusedSimpArgs false
set_option linter.unusedVariables false
/- The abstract machine: an operation is what 'aop' says of it. -/
namespace Go.Am
open Go.RowKit
theorem QmL {ob : List Ob} {o : Nat} {y : Ob} (h : ob[o]? = some y) (x : Ob) : app ob (some (o, x)) = ob.set o x := by
 have := (qd.1 h).1
 simp [app, this]
theorem XN {P : Program} {t e : TypeId} (h : Qpd P t = some e) : P.underlying t = some (.slice e) := by
 unfold Qpd at h
 split at h
 ·cases h; assumption
 ·cases h
theorem QP {α : Type} {a : Array α} {l : List α} (h : a.toList = l) : a = l.toArray := by rw [← h]
theorem QA5 {v : Value} (h : QDo v = true) : v = .int .u8 0 := by
 unfold QDo at h
 split at h
 ·simp only [beq_iff_eq] at h; subst h; rfl
 ·cases h
theorem QBS (n : Nat) : u8 (List.replicate n 0) = List.replicate n (.int .u8 0) := by simp [u8]
theorem QhJ {P : Program} {w : World} {t u ty e : TypeId} {i : TypeInfo} {k : IntKind} (ht : P.underlying t = some (.slice e)) (hu : P.underlying u = some (.int k)) (hi : P.info? e = some i) (hz0 : i.zero = some (.int .u8 0)) (hs : i.size = 1) (hb : i.bytes = 1)
  {base : Option Addr} {sLen sCap n : Nat} (hn1 : 1 ≤ n) (hn64 : n ≤ 64) (hby : sLen + n ≤ 140737488355328) :
  (Builtin.append_ #[t, u] ty #[.slice base sLen sCap, .int .i64 n]).run P w = (Builtin.append_ #[t, t] ty #[.slice base sLen sCap, .string ⟨Array.replicate n 0⟩]).run P w := by
 have h64 : IntKind.i64.wrap (n : Int) = n := (by decide : ∀ m, m < 65 → IntKind.i64.wrap ((m : Nat) : Int) = m) n (by omega)
 have hfirst : ∀ w', (Builtin.firstCells 1 n (.string ⟨Array.replicate n 0⟩)).run P w' = .ok (Array.replicate n (Value.int .u8 0)) w' := by
  intro w'
  simp [Builtin.firstCells]
 have hzc : Builtin.zeroCells (Value.int .u8 0).cells n = Array.replicate n (Value.int .u8 0) := by
  refine Array.ext (by simp [Builtin.zeroCells, Value.cells]) fun j h1 h2 => ?_
  simp [Builtin.zeroCells, Value.cells, Yb]
 have hai : ∀ w', (asInt (.int .i64 n)).run P w' = .ok (n : Int) w' := fun w' => by simp [asInt, asIntOf]
 have hsz : (⟨Array.replicate n 0⟩ : ByteArray).size = n := by simp [ByteArray.size]
 have hn00 : ¬ n = 0 := by omega
 have hn0 : ¬ ((n : Int) < 0) := by omega
 have hn48 : ¬ (281474976710656 < (n : Int)) := by omega
 by_cases hle : sLen + n ≤ sCap
 ·cases base with
  | none => simp [Builtin.append_, run_underlying ht, run_underlying hu, sizeOf, typeInfo, zeroValue, hi, hz0, hs, hb, h64, hle, hfirst, hzc, hai, hn0, hn48, hsz, hn00, Builtin.lenOf]
  | some a => simp [Builtin.append_, run_underlying ht, run_underlying hu, sizeOf, typeInfo, zeroValue, hi, hz0, hs, hb, h64, hle, hfirst, hzc, hai, hn0, hn48, hsz, hn00, Builtin.lenOf]
 ·have hfit := growslice_fits (show sCap < sLen + n by omega) (show (sLen + n) * 1 ≤ 140737488355328 by omega)
  have h48' : ¬ (281474976710656 < Builtin.nextslicecap (sLen + n) sCap) := by omega
  have h63' : ¬ (9223372036854775807 < ((sLen : Int) + (n : Int))) := by omega
  simp [Builtin.append_, run_underlying ht, run_underlying hu, sizeOf, typeInfo, zeroValue, hi, hz0, hs, hb, h64, hle, hfirst, hzc, h48', h63', hai, hn0, hn48, hsz, hn00, Builtin.lenOf]
section
variable {P : Program} {B : Nat} {X : Cx} (g : Held B X) {ρ : Operand → Value} {η : Operand → AV} (hρ : ∀ x, Rep X (η x) (ρ x)) {o : Oper} {id : Nat} (hid : QpW X.ob id)
include g hρ hid
theorem QvY {t : TypeId} {p : AOp} {av : AV} {u : Option (Nat × Ob)} (ho : o.op = .alloc t) (hc : cOp P (.alloc t) = some p) (h : aop η X.ob id p = some (av, u)) : Eff B X ((execOp ρ o).run P X.w) av (app X.ob u) := by
 simp only [cOp, qb] at hc
 obtain ⟨z, hz, rfl⟩ := hc
 simp only [aop] at h
 split at h <;> cases h
 rename_i h1
 simp only [qo, qr] at h1
 exact Qxg g hρ hid ho hz (by omega) h1.1
theorem QAB {t : TypeId} {x : Operand} {p : AOp} {av : AV} {u : Option (Nat × Ob)} (ho : o.op = .box t x) (hc : cOp P (.box t x) = some p) (h : aop η X.ob id p = some (av, u)) : Eff B X ((execOp ρ o).run P X.w) av (app X.ob u) := by
 simp only [cOp, qb] at hc
 obtain ⟨z, hz, rfl⟩ := hc
 simp only [aop] at h
 split at h <;> cases h
 rename_i h1
 simp only [qo, beq_iff_eq, qr] at h1
 rw [← h1.1.2]
 exact QBi g hρ hid ho (by omega) h1.1.1
theorem QvX {t : TypeId} {ps : Array (Nat × Operand)} {p : AOp} {av : AV} {u : Option (Nat × Ob)} (ho : o.op = .build t ps) (hc : Qtm P t ps = some p) (h : aop η X.ob id p = some (av, u)) :
  Eff B X ((execOp ρ o).run P X.w) av (app X.ob u) := by
 unfold Qtm at hc
 split at hc
 case h_3 => cases hc
 case h_1 fields ht =>
  simp only [qC, qn] at hc
  obtain ⟨z, hz, hc⟩ := hc
  split at hc
  case isFalse => cases hc
  rename_i hf
  simp only [qn, yu, qi] at hc
  obtain ⟨qs, hq, rfl⟩ := hc
  simp only [aop] at h
  split at h
  ·cases h
  rename_i h1
  split at h <;> cases h
  rename_i cs hcs
  refine QhN g hρ ho ht hz (fun f hf' => ?_) hq (by simpa using h1) hcs
  have := ya.1 hf f hf'
  exact Option.isSome_iff_exists.1 this
 case h_2 len e ht =>
  simp only [qC, qn, yu, qi] at hc
  obtain ⟨z, hz, s, hs, rfl⟩ := hc
  simp only [aop, Yr] at h
  split at h
  ·cases h
  rename_i h1
  split at h <;> cases h
  rename_i cs hcs
  exact Qmh g hρ ho ht hz hs (by simpa using h1) (by simpa [Function.comp_def] using hcs)
theorem QtN {t : TypeId} {len : Nat} {ps : Array (Nat × Operand)} {p : AOp} {av : AV} {u : Option (Nat × Ob)} (ho : o.op = .buildSlice t len ps) (hc : QiZ P t len ps = some p) (h : aop η X.ob id p = some (av, u)) :
  Eff B X ((execOp ρ o).run P X.w) av (app X.ob u) := by
 unfold QiZ at hc
 simp only [qC, qn] at hc
 obtain ⟨e, he, s, hs, z, hz, hc⟩ := hc
 split at hc <;> cases hc
 rename_i hle
 simp only [aop, Yr] at h
 split at h
 case isFalse => cases h
 rename_i h1
 simp only [qo, beq_iff_eq, qr] at h1
 split at h <;> cases h
 rename_i cs hcs
 exact QuG g hρ hid ho (XN he) hs hz hle h1.1.1 h1.1.2 h1.2 (by simpa [Function.comp_def] using hcs)
theorem Qqv {t : TypeId} {l c : Operand} {p : AOp} {av : AV} {u : Option (Nat × Ob)} (ho : o.op = .makeSlice t l c) (hc : Qd5 P t l c = some p) (h : aop η X.ob id p = some (av, u)) :
  Eff B X ((execOp ρ o).run P X.w) av (app X.ob u) := by
 unfold Qd5 at hc
 simp only [qC, qn, yu, qi] at hc
 obtain ⟨e, he, s, hs, b, hb, z, hz, rfl⟩ := hc
 simp only [aop] at h
 split at h
 case h_2 => cases h
 rename_i k n k' n' hl hcap
 split at h
 ·cases h
  rename_i hh
  obtain ⟨rfl, h0, h1, h2, h3, h4, h5⟩ := hh
  exact Qro g hρ hid ho (XN he) hs hb hz hl hcap h0 h1 h2 h3 h4 h5
 ·split at h <;> cases h
  rename_i hh
  obtain ⟨hlt, h0, h1, h2, h3, h4, h5⟩ := hh
  exact QiU g hρ hid ho (XN he) hs hb hz hl hcap hlt h0 h1 h2 h3 h4 h5
theorem Qyz {t : TypeId} {x : Operand} {p : AOp} {av : AV} {u : Option (Nat × Ob)} (ho : o.op = .load t x) (hc : cOp P (.load t x) = some p) (h : aop η X.ob id p = some (av, u)) : Eff B X ((execOp ρ o).run P X.w) av (app X.ob u) := by
 simp only [cOp, qb] at hc
 obtain ⟨sz, hz, rfl⟩ := hc
 simp only [aop] at h
 split at h
 case h_2 => cases h
 rename_i cs hcs
 split at h
 ·split at h <;> cases h
  exact Qtc g hρ ho hz hcs (.inl ⟨rfl, rfl⟩)
 ·split at h <;> cases h
  rename_i hle
  exact Qtc g hρ ho hz hcs (.inr ⟨_, rfl, hle, rfl⟩)
theorem QvQ {t : TypeId} {x v : Operand} {p : AOp} {av : AV} {u : Option (Nat × Ob)} (ho : o.op = .store t x v) (hc : cOp P (.store t x v) = some p) (h : aop η X.ob id p = some (av, u)) : Eff B X ((execOp ρ o).run P X.w) av (app X.ob u) := by
 simp only [cOp, qb] at hc
 obtain ⟨sz, hz, rfl⟩ := hc
 simp only [aop] at h
 split at h
 case h_2 => cases h
 rename_i oo ver k hx
 split at h
 case h_2 => cases h
 rename_i b hb
 split at h <;> cases h
 rename_i hh
 obtain ⟨h1, h2, h3, h4, h5⟩ := hh
 rw [QmL hb]
 exact Qxd g hρ ho hz hx hb h1 h2 h3 h4 h5
theorem QvS {x : Operand} {p : AOp} {av : AV} {u : Option (Nat × Ob)} (ho : o.op = .nilCheck x) (hc : cOp P (.nilCheck x) = some p) (h : aop η X.ob id p = some (av, u)) : Eff B X ((execOp ρ o).run P X.w) av (app X.ob u) := by
 simp only [cOp, qi] at hc
 subst hc
 simp only [aop] at h
 split at h
 ·rename_i oo ver k hx
  split at h
  case h_2 => cases h
  rename_i b hb
  split at h <;> cases h
  exact Qmc g hρ ho hx hb (by assumption)
 ·cases h
  exact Qj1 g hρ ho (by assumption)
 ·cases h
  exact Qpf g hρ ho (by assumption)
 ·cases h
theorem QAC {op : BinOp} {t t' : TypeId} {x y : Operand} {p : AOp} {av : AV} {u : Option (Nat × Ob)} (hk : ∀ v, ρ (.const v) = v) (ho : o.op = .binOp op t x y t') (hc : QC1 P op t x y = some p) (h : aop η X.ob id p = some (av, u)) : Eff B X ((execOp ρ o).run P X.w) av (app X.ob u) := by
 unfold QC1 at hc
 split at hc
 case h_7 => cases hc
 case h_5 =>
  rename_i ms ht
  split at hc
  case isFalse => cases hc
  rename_i hn
  have hy : y = .const .nilIface := by
   unfold Qz5 at hn
   split at hn
   ·rfl
   ·cases hn
  subst hy
  split at hc
  case h_3 => cases hc
  all_goals
   cases hc
   simp only [aop] at h
   split at h
   case h_3 => cases h
   all_goals
    cases h
    rename_i hq
  ·exact Qh4 g hρ (neg := false) ho (hk _) ht hq (.inl ⟨rfl, rfl⟩)
  ·exact Qh4 g hρ (neg := false) ho (hk _) ht hq (.inr ⟨⟨_, _, rfl⟩, rfl⟩)
  ·exact Qh4 g hρ (neg := true) ho (hk _) ht hq (.inl ⟨rfl, rfl⟩)
  ·exact Qh4 g hρ (neg := true) ho (hk _) ht hq (.inr ⟨⟨_, _, rfl⟩, rfl⟩)
 case h_6 =>
  rename_i ht
  split at hc
  case isFalse => cases hc
  rename_i hq
  split at hc
  case h_3 => cases hc
  all_goals
   rw [qb] at hc
   obtain ⟨l, hl, rfl⟩ := hc
   simp only [aop] at h
   split at h
   case h_2 => cases h
   rw [qb] at h
   obtain ⟨r, hr, e⟩ := h
   cases e
  ·exact Qpj g hρ (neg := false) ho ht hq.1 hq.2 hl (by assumption) (by assumption) hr
  ·exact Qpj g hρ (neg := true) ho ht hq.1 hq.2 hl (by assumption) (by assumption) hr
 ·cases hc
  simp only [aop, qb] at h
  obtain ⟨v, hv, e⟩ := h
  cases e
  exact Qxe g hρ ho hv
 ·cases hc
  simp only [aop, qb] at h
  obtain ⟨v, hv, e⟩ := h
  cases e
  exact Qxe g hρ ho hv
 ·rename_i ht
  split at hc
  case h_3 => cases hc
  all_goals
   cases hc
   simp only [aop] at h
   split at h <;> cases h
  ·exact Qxf g hρ (neg := false) ho ht (by assumption) (by assumption)
  ·exact Qxf g hρ (neg := true) ho ht (by assumption) (by assumption)
 ·rename_i e ht
  split at hc
  case isFalse => cases hc
  rename_i hn
  have hy : y = .const (.slice none 0 0) := by
   unfold Qz6 at hn
   split at hn
   ·rfl
   ·cases hn
  subst hy
  split at hc
  case h_3 => cases hc
  all_goals
   cases hc
   simp only [aop] at h
   split at h
   case h_3 => cases h
   all_goals
    cases h
    rename_i hq
  ·exact Qgc g hρ (neg := false) ho (hk _) ht hq
  ·exact Qgc g hρ (neg := false) ho (hk _) ht hq
  ·exact Qgc g hρ (neg := true) ho (hk _) ht hq
  ·exact Qgc g hρ (neg := true) ho (hk _) ht hq
theorem QyB {s d : TypeId} {x : Operand} {p : AOp} {av : AV} {u : Option (Nat × Ob)} (ho : o.op = .convert s d x) (hc : QzB P s d x = some p) (h : aop η X.ob id p = some (av, u)) : Eff B X ((execOp ρ o).run P X.w) av (app X.ob u) := by
 unfold QzB at hc
 split at hc
 case h_6 => cases hc
 ·rename_i y k hs hd
  cases hc
  simp only [aop] at h
  split at h <;> cases h
  exact Qrt g hρ ho hd ⟨y, hs⟩ (by assumption)
 ·rename_i hs hd
  cases hc
  simp only [aop] at h
  split at h <;> cases h
  exact Qrs g hρ ho hd hs (by assumption)
 ·rename_i e hs hd
  split at hc <;> cases hc
  rename_i he
  simp only [aop] at h
  split at h <;> cases h
  exact Qrn g hρ ho hs he hd (by assumption)
 ·rename_i e hs hd
  split at hc <;> cases hc
  rename_i he
  simp only [aop] at h
  split at h
  case h_2 => cases h
  rename_i n cs hcs
  split at h
  case isFalse => cases h
  rename_i hn
  simp only [qb] at h
  obtain ⟨l, hl, e⟩ := h
  cases e
  exact Qxb g hρ ho hs he hd hcs hn hl
 ·rename_i e' e hs hd
  split at hc
  case isFalse => cases hc
  rename_i hsd
  subst hsd
  split at hc <;> cases hc
  rename_i he
  simp only [aop] at h
  split at h
  case h_2 => cases h
  rename_i oo n hx
  split at h
  case h_2 => cases h
  rename_i bb hob
  split at h <;> cases h
  rename_i hq
  have hol : oo < X.ob.length := (qd.1 hob).1
  simp only [app, hol, yf]
  exact Qxc g hρ ho hd he hx hob hq.1 hq.2.1 hq.2.2
theorem QvR {t : TypeId} {x : Operand} {lo hi mx : Option Operand} {p : AOp} {av : AV} {u : Option (Nat × Ob)} (ho : o.op = .slice t x lo hi mx) (hc : Qtg P t x lo hi mx = some p) (h : aop η X.ob id p = some (av, u)) : Eff B X ((execOp ρ o).run P X.w) av (app X.ob u) := by
 unfold Qtg at hc
 split at hc
 case h_4 => cases hc
 ·rename_i ht
  split at hc <;> cases hc
  rename_i hm
  have hm' : mx = none := by simpa using hm
  subst hm'
  simp only [aop] at h
  split at h
  case h_2 => cases h
  rename_i s l hx hl
  split at h
  case h_2 => cases h
  rename_i hh hhi
  split at h <;> cases h
  rename_i hb
  exact QuE g hρ ho ht hx hl hhi hb.1 hb.2.1 hb.2.2
 ·rename_i e ht
  simp only [qb] at hc
  obtain ⟨s, hs, rfl⟩ := hc
  simp only [aop] at h
  split at h
  ·split at h
   ·rename_i oo n c hx
    split at h
    case h_2 => cases h
    rename_i l hh hl hhi
    exact Qzo g hρ ho ht hs hx hl hhi h
   ·split at h
    case h_2 => cases h
    rename_i n cs l hn hl
    split at h
    case h_2 => cases h
    rename_i hh hhi
    simp only [qb] at h
    obtain ⟨r, hr, e⟩ := h
    cases e
    exact Qpe g hρ ho ht hs hn hl hhi hr
  ·rename_i m
   split at h
   case h_2 => cases h
   rename_i n cs l k hh k' m' hn hl hhi hm
   split at h
   case isFalse => cases h
   rename_i e
   subst e
   cases hi with
   | none => simp at hhi
   | some hi =>
    simp at hhi
    split at h
    ·rename_i e
     split at h <;> cases h
     rename_i hb
     exact QkO g hρ ho ht hs hn hl hhi hm (.inl ⟨e, hb.1, hb.2, rfl⟩)
    ·rename_i e
     simp only [qb] at h
     obtain ⟨r, hr, e2⟩ := h
     cases e2
     exact QkO g hρ ho ht hs hn hl hhi hm (.inr ⟨e, hr⟩)
 ·rename_i len e ht
  split at hc
  case isTrue => cases hc
  rename_i hm
  have hm' : mx = none := by simpa using hm
  subst hm'
  simp only [qb] at hc
  obtain ⟨s, hs, rfl⟩ := hc
  simp only [aop] at h
  split at h
  case h_3 => cases h
  ·rename_i oo ver k l hh hx hl hhi
   split at h
   case h_2 => cases h
   rename_i b hb
   split at h <;> cases h
   rename_i hq
   exact QuF g hρ ho ht hs hx hb hq.1 hl hhi hq.2.1 hq.2.2.1 hq.2.2.2.1
  ·rename_i cs l hh hx hl hhi
   split at h <;> cases h
   rename_i hq
   exact QiS g hρ ho ht hs hx hl hhi hq.1 hq.2.1 hq.2.2
theorem QvW {t : TypeId} {x : Operand} {f : Nat} {p : AOp} {av : AV} {u : Option (Nat × Ob)} (ho : o.op = .fieldAddr t x f) (hc : Qtl P t x f = some p) (h : aop η X.ob id p = some (av, u)) : Eff B X ((execOp ρ o).run P X.w) av (app X.ob u) := by
 unfold Qtl at hc
 split at hc
 case h_2 => cases hc
 rename_i fields ht
 simp only [qC, qn] at hc
 obtain ⟨fd, hf, s, hs, hc⟩ := hc
 split at hc <;> cases hc
 rename_i h0
 simp only [aop] at h
 split at h
 ·split at h
  case h_2 => cases h
  split at h <;> cases h
  exact Qmf g hρ ho ht hf hs h0 (by assumption) (by assumption) (by assumption)
 ·cases h
  exact Qj3 g hρ ho ht hf hs h0 (by assumption)
 ·cases h
theorem QvV {t : TypeId} {x : Operand} {f : Nat} {p : AOp} {av : AV} {u : Option (Nat × Ob)} (ho : o.op = .field t x f) (hc : Qtk P t x f = some p) (h : aop η X.ob id p = some (av, u)) : Eff B X ((execOp ρ o).run P X.w) av (app X.ob u) := by
 unfold Qtk at hc
 split at hc
 case h_2 => cases hc
 rename_i fields ht
 simp only [qC, qn, yu, qi] at hc
 obtain ⟨fd, hf, a, ha, rfl⟩ := hc
 simp only [aop] at h
 split at h
 case h_2 => cases h
 rename_i cs hx
 split at h
 ·split at h <;> cases h
  exact Qpi g hρ ho ht hf ha hx (.inl ⟨rfl, by assumption⟩)
 ·split at h <;> cases h
  exact Qpi g hρ ho ht hf ha hx (.inr ⟨_, rfl, by assumption, rfl⟩)
theorem QvU {t : TypeId} {x i : Operand} {p : AOp} {av : AV} {u : Option (Nat × Ob)} (ho : o.op = .indexAddr t x i) (hc : Qtj P t x i = some p) (h : aop η X.ob id p = some (av, u)) : Eff B X ((execOp ρ o).run P X.w) av (app X.ob u) := by
 unfold Qtj at hc
 split at hc
 case h_3 => cases hc
 ·rename_i e ht
  simp only [qb] at hc
  obtain ⟨s, hs, rfl⟩ := hc
  simp only [aop] at h
  split at h
  case h_2 => cases h
  rename_i k j hi
  split at h
  ·split at h <;> cases h
   rename_i hq
   exact QhM g hρ ho ht hs hi (by assumption) hq.1 hq.2.1 hq.2.2
  ·split at h
   case h_2 => cases h
   split at h <;> cases h
   rename_i hq
   exact Qme g hρ ho ht hs hi (by assumption) (by assumption) hq.1 hq.2.1 hq.2.2
  ·split at h
   case h_2 => cases h
   split at h <;> cases h
   rename_i hq
   exact Qj2 g hρ ho ht hs hi (by assumption) (by assumption) hq.1 hq.2.1 hq.2.2
  ·cases h
 ·rename_i len e ht
  simp only [qb] at hc
  obtain ⟨s, hs, rfl⟩ := hc
  simp only [aop] at h
  split at h
  case h_2 => cases h
  rename_i k j hi
  split at h
  ·split at h <;> cases h
   rename_i hq
   exact Qgd g hρ ho ht hs hi (by assumption) hq.1 hq.2
  ·split at h
   case h_2 => cases h
   split at h <;> cases h
   rename_i hq
   exact QgT g hρ ho ht hs hi (by assumption) (by assumption) hq.1 hq.2.1 hq.2.2
  ·cases h
theorem QvT {t : TypeId} {x i : Operand} {p : AOp} {av : AV} {u : Option (Nat × Ob)} (ho : o.op = .index t x i) (hc : Qti P t x i = some p) (h : aop η X.ob id p = some (av, u)) : Eff B X ((execOp ρ o).run P X.w) av (app X.ob u) := by
 unfold Qti at hc
 split at hc
 case h_3 => cases hc
 ·rename_i ht
  cases hc
  simp only [aop] at h
  split at h
  case h_2 => cases h
  rename_i k j hi
  split at h
  ·rename_i e hx
   split at h <;> cases h
   rename_i hb
   split at hb
   ·exact Qph g hρ ho ht hx hi (by assumption) hb
   ·cases hb
  ·rename_i e _; cases e
  ·cases h
 ·rename_i len e ht
  simp only [qC, qn, yu, qi] at hc
  obtain ⟨s, hs, a, ha, rfl⟩ := hc
  simp only [aop] at h
  split at h
  case h_2 => cases h
  rename_i k j hi
  split at h
  ·rename_i e _; cases e
  ·rename_i e hx
   cases e
   split at h
   case isFalse => cases h
   rename_i hb
   split at h
   ·split at h <;> cases h
    exact Qhy g hρ ho ht hs ha hx hi hb.1 hb.2 (.inr ⟨_, rfl, by assumption, rfl⟩)
   ·split at h <;> cases h
    exact Qhy g hρ ho ht hs ha hx hi hb.1 hb.2 (.inl ⟨rfl, by assumption⟩)
  ·cases h
theorem Qqw {x : Operand} {i : Nat} {p : AOp} {av : AV} {u : Option (Nat × Ob)} (ho : o.op = .extract x i) (hc : cOp P (.extract x i) = some p) (h : aop η X.ob id p = some (av, u)) : Eff B X ((execOp ρ o).run P X.w) av (app X.ob u) := by
 simp only [cOp, qi] at hc
 subst hc
 simp only [aop] at h
 split at h
 case h_2 => cases h
 split at h <;> cases h
 exact Qrr g hρ ho (by assumption) (by assumption)
theorem QAA {c : Call} {p : AOp} {av : AV} {u : Option (Nat × Ob)} (ho : o.op = .call c) (hcal : c.callee = .builtin .len) (hc : QC0 P c = some p) (h : aop η X.ob id p = some (av, u)) : Eff B X ((execOp ρ o).run P X.w) av (app X.ob u) := by
 unfold QC0 at hc
 split at hc
 case h_4 => cases hc
 ·rename_i x ht ha
  cases hc
  simp only [qn] at ht
  obtain ⟨t, hat, ht⟩ := ht
  simp only [aop] at h
  split at h <;> cases h
  exact Qrp g hρ ho hcal (QP ha) hat ht (by assumption)
 ·rename_i e x ht ha
  cases hc
  simp only [qn] at ht
  obtain ⟨t, hat, ht⟩ := ht
  simp only [aop] at h
  split at h
  ·split at h
   case h_2 => cases h
   split at h <;> cases h
   exact Qpg g hρ ho hcal (QP ha) hat ht (by assumption) (by assumption) (by assumption)
  ·split at h <;> cases h
   exact Qmd g hρ ho hcal (QP ha) hat ht (by assumption)
 ·rename_i n e x ht ha
  cases hc
  simp only [qn] at ht
  obtain ⟨t, hat, ht⟩ := ht
  simp only [aop] at h
  cases h
  exact Qrq g hρ ho hcal (QP ha) hat ht
theorem QgP {c : Call} {t t2 e : TypeId} {s b : Nat} {z : Value} {x y : Operand} {av : AV} {u : Option (Nat × Ob)} (ho : o.op = .call c) (hcal : c.callee = .builtin .append) (hat : c.argTypes.toList = [t, t2]) (ha : c.args.toList = [x, y]) (he : Qpd P t = some e) (hs : szO P e = some s) (hb : byO P e = some b) (hz : Qbv P e = some z)
  (hzs : z.cells.size = s ∧ z.cells.toList.all (fun v => v.oneCell') = true) (st : Bool) (d : TypeDesc) (hu : P.underlying t2 = some d) (hd : ∀ k, d ≠ .int k) (hst : st = true → s = 1) (h : aop η X.ob id (.append e s b st x y) = some (av, u)) : Eff B X ((execOp ρ o).run P X.w) av (app X.ob u) := by
 simp only [aop] at h
 split at h
 case h_2 => cases h
 rename_i m cs hy
 split at h
 case isFalse => cases h
 rename_i hl
 split at h
 ·split at h <;> cases h
  rename_i hq
  exact Qj5 g hρ hid ho hcal (QP ha) (QP hat) (XN he) hu hd hs hb hz hzs.1 (fun v hv => ya.1 hzs.2 v (by simpa using hv)) (by assumption) hy hl.1 hl.2 hst hq.1 hq.2
 ·split at h
  case h_2 => cases h
  rename_i bb hbb
  split at h <;> cases h
  rename_i hq
  rw [QmL hbb]
  exact Qj4 g hρ ho hcal (QP ha) (QP hat) (XN he) hu hd hs hb hz hzs.1 (fun v hv => ya.1 hzs.2 v (by simpa using hv)) (by assumption) hbb hq.1 hq.2.1 hq.2.2.1 hq.2.2.2.2.2 hy hl.1 hl.2 hst hq.2.2.2.1 hq.2.2.2.2.1
 ·cases h
theorem Qqx {c : Call} {t t2 e : TypeId} {x y : Operand} {k : IntKind} {av : AV} {u : Option (Nat × Ob)} (ho : o.op = .call c) (hcal : c.callee = .builtin .append) (hat : c.argTypes.toList = [t, t2]) (ha : c.args.toList = [x, y]) (he : Qpd P t = some e) (hs : szO P e = some 1) (hb : byO P e = some 1) (hz : Qbv P e = some (.int .u8 0))
  (hzs : (Value.int .u8 0).cells.size = 1 ∧ (Value.int .u8 0).cells.toList.all (fun v => v.oneCell') = true) (hu : P.underlying t2 = some (.int k)) (h : aop η X.ob id (.appendz e x y) = some (av, u)) : Eff B X ((execOp ρ o).run P X.w) av (app X.ob u) := by
 classical
 obtain ⟨i, hi, hib, his, hiz⟩ := Qmm hb hs hz
 simp only [aop] at h
 split at h
 case h_2 => cases h
 rename_i m hy
 split at h
 case isFalse => cases h
 rename_i hm
 obtain ⟨n, rfl⟩ : ∃ n : Nat, m = n := ⟨m.toNat, by omega⟩
 simp only [qu] at h
 have hry := hρ y
 rw [hy] at hry
 simp only [Rep] at hry
 have hxy : x ≠ y := fun e' => by
  rw [e', hy] at h
  cases h
 let ρ' : Operand → Value := fun w => if w = y then .string ⟨Array.replicate n 0⟩ else ρ w
 let η' : Operand → AV := fun w => if w = y then .str (List.replicate n 0) else η w
 have hρ' : ∀ w, Rep X (η' w) (ρ' w) := fun w => by
  by_cases e' : w = y
  ·simp only [η', ρ', qc e', Rep]
   simp
  ·simp only [η', ρ', qa e']
   exact hρ w
 have ex : η' x = η x := qa hxy
 have ey : η' y = .str (List.replicate n 0) := qc rfl
 have rx : ρ' x = ρ x := qa hxy
 have ry : ρ' y = .string ⟨Array.replicate n 0⟩ := qc rfl
 have hsrc : QfY X.ob 1 true (η' y) = some (n, List.replicate n (.int .u8 0)) := by
  rw [ey]
  simp only [QfY, yf, yT, QBS]
 have h' : aop η' X.ob id (.append e 1 1 true x y) = some (av, u) ∧ ∃ (base : Option Addr) (sLen sCap : Nat), ρ x = .slice base sLen sCap ∧ sLen + n ≤ 140737488355328 := by
  simp only [aop, hsrc, ex]
  rw [qc (by simp)]
  have hrx := hρ x
  split at h
  ·rename_i zz hx
   rw [hx] at hrx
   cases h
   simp only [Rep] at hrx
   obtain ⟨a, hax, _⟩ := hrx
   exact ⟨by rw [qc (by omega)], a, 0, 0, hax, by omega⟩
  ·rename_i oo kk hx
   rw [hx] at hrx
   split at h
   case h_2 => cases h
   rename_i bb hbb
   split at h <;> cases h
   rename_i hq
   refine ⟨by rw [qc ⟨hq.1, hq.2.1, hq.2.2.1, by omega, by omega, hq.2.2.2.2⟩], ?_⟩
   simp only [Rep] at hrx
   obtain ⟨⟨b', hb', _, _, hp⟩, _⟩ := hrx
   rw [hbb] at hb'
   cases hb'
   have h6 := hp hq.1
   rcases hbe : X.be[oo]? with _ | _ | ⟨bq, cp⟩ <;> simp only [hbe, OwnV] at h6
   ·obtain ⟨a, h6⟩ := h6
    exact ⟨_, _, _, h6, by omega⟩
   ·exact ⟨_, _, _, h6, by omega⟩
  ·cases h
 obtain ⟨h', base, sLen, sCap, hx, hle⟩ := h'
 have E := QgP (ρ := ρ') (η := η') g hρ' hid (o := { o with op := .call { c with argTypes := #[t, t] } }) (c := { c with argTypes := #[t, t] }) rfl hcal rfl ha he hs hb hz hzs true _ (XN he) (fun k h => by cases h) (fun _ => rfl) h'
 have hrun := QhJ (P := P) (w := X.w) (ty := o.type) (base := base) (sLen := sLen) (sCap := sCap) (n := n) (XN he) hu hi hiz his hib (by omega) (by omega) hle
 have ea := QP ha
 have et := QP hat
 have heq : (execOp ρ o).run P X.w = (execOp ρ' { o with op := .call { c with argTypes := #[t, t] } }).run P X.w := by
  simp [execOp, ho, resolve, hcal, ea, et, invoke, builtin, rx, ry, hx, hry, hrun]
 rw [heq]
 exact E
theorem QtO {c : Call} {p : AOp} {av : AV} {u : Option (Nat × Ob)} (ho : o.op = .call c) (hcal : c.callee = .builtin .append) (hc : Qml P c = some p) (h : aop η X.ob id p = some (av, u)) : Eff B X ((execOp ρ o).run P X.w) av (app X.ob u) := by
 unfold Qml at hc
 split at hc
 case h_2 => cases hc
 rename_i t t2 x y hat ha
 simp only [qC, qn] at hc
 obtain ⟨e, he, s, hs, b, hb, z, hz, hc⟩ := hc
 split at hc
 case isFalse => cases hc
 rename_i hzs
 split at hc
 case h_4 => cases hc
 ·rename_i hu
  cases hc
  exact QgP g hρ hid ho hcal hat ha he hs hb hz hzs false _ hu (fun k h => by cases h) (fun h => by cases h) h
 ·rename_i hu
  split at hc <;> cases hc
  exact QgP g hρ hid ho hcal hat ha he hs hb hz hzs true _ hu (fun k h => by cases h) (fun _ => by assumption) h
 ·rename_i k hu
  split at hc <;> cases hc
  rename_i hq
  simp only [qo, beq_iff_eq] at hq
  obtain ⟨⟨rfl, rfl⟩, hzz⟩ := hq
  obtain rfl := QA5 hzz
  exact Qqx g hρ hid ho hcal hat ha he hs hb hz hzs hu h
theorem QyA {c : Call} {p : AOp} {av : AV} {u : Option (Nat × Ob)} (ho : o.op = .call c) (hcal : c.callee = .builtin .copy) (hc : QzA P c = some p) (h : aop η X.ob id p = some (av, u)) : Eff B X ((execOp ρ o).run P X.w) av (app X.ob u) := by
 unfold QzA at hc
 split at hc
 case h_2 => cases hc
 rename_i t t2 x y hat ha
 simp only [qC, qn] at hc
 obtain ⟨e, he, s, hs, hc⟩ := hc
 have key : ∀ (st : Bool), (st = true → s = 1) → aop η X.ob id (.copy s st x y) = some (av, u) → Eff B X ((execOp ρ o).run P X.w) av (app X.ob u) := by
  intro st hst h
  simp only [aop] at h
  split at h
  case h_2 => cases h
  rename_i m cs hy
  split at h
  case isFalse => cases h
  rename_i hl
  obtain ⟨hl, h0⟩ := hl
  have hr := hρ x
  split at h
  ·rename_i z hx
   cases h
   rw [hx] at hr
   simp only [Rep] at hr
   obtain ⟨a, ex, _⟩ := hr
   exact QaX g hρ ho hcal (QP ha) (QP hat) (XN he) hs ex hy hl h0 hst (YB _)
  ·rename_i oo ver k n hx
   split at h
   case h_2 => cases h
   rename_i bb hbb
   split at h <;> cases h
   rename_i hq
   rw [QmL hbb]
   rw [hx] at hr
   simp only [Rep] at hr
   obtain ⟨⟨b', hb', hb0, _, hp⟩, _⟩ := hr
   rw [hbb] at hb'
   cases hb'
   obtain ⟨a, cap, ex, _, h2⟩ := hp hq.1
   rcases h2 with rfl | ⟨blk, cc, he2, rfl⟩
   ·have hmin : Nat.min m 0 = 0 := YB _
    rw [hmin]
    have hsame : bb.cs.take k ++ cs.take (0 * s) ++ bb.cs.drop (k + 0 * s) = bb.cs := by simp
    rw [hsame]
    have : X.ob.set oo { bb with cs := bb.cs } = X.ob := Qf1 hbb
    rw [this]
    exact QaX g hρ ho hcal (QP ha) (QP hat) (XN he) hs ex hy hl h0 hst (YB _)
   ·exact Qtd g hρ ho hcal (QP ha) (QP hat) (XN he) hs ex hbb he2 hq.2.1 hq.2.2.1 hy hl h0 hst
  ·rename_i oo n hx
   split at h
   case h_2 => cases h
   rename_i bb hbb
   split at h <;> cases h
   rename_i hq
   rw [QmL hbb]
   rw [hx] at hr
   simp only [Rep] at hr
   obtain ⟨⟨b', hb', hb0, _, hp⟩, _⟩ := hr
   rw [hbb] at hb'
   cases hb'
   have h2 := hp hq.1
   obtain ⟨ee, he2, hoo⟩ := g.get hbb
   cases ee with
   | none =>
    simp only [he2, OwnV] at h2
    obtain ⟨a, ex⟩ := h2
    have hn0 : n = 0 := by rw [← hq.1]; exact hoo.1
    subst hn0
    have hmin : Nat.min m 0 = 0 := YB _
    rw [hmin]
    have hsame : cs.take (0 * s) ++ bb.cs.drop (0 * s) = bb.cs := by simp
    rw [hsame]
    have : X.ob.set oo { bb with cs := bb.cs } = X.ob := Qf1 hbb
    rw [this]
    exact QaX g hρ ho hcal (QP ha) (QP hat) (XN he) hs ex hy hl h0 hst (YB _)
   | some pp =>
    obtain ⟨blk, cap⟩ := pp
    simp only [he2, OwnV] at h2
    have := Qtd g hρ (P := P) (o := o) (k := 0) (n := n) ho hcal (QP ha) (QP hat) (XN he) hs h2 hbb he2 (by omega) (by simpa using hq.2.2.1) hy hl h0 hst
    simpa using this
  ·cases h
 split at hc
 case h_3 => cases hc
 ·cases hc
  exact key false (fun h => by cases h) h
 ·split at hc <;> cases hc
  exact key true (fun _ => by assumption) h
theorem Qgs (hk : ∀ v, ρ (.const v) = v) {p : AOp} (hc : cOp P o.op = some p) {av : AV} {u : Option (Nat × Ob)} (h : aop η X.ob id p = some (av, u)) : Eff B X ((execOp ρ o).run P X.w) av (app X.ob u) := by
 cases ho : o.op <;> rw [ho] at hc <;> first | (simp only [cOp] at hc; cases hc; done) | skip
 case move x => simp only [cOp, qi] at hc; subst hc; simp only [aop] at h; cases h; exact QAc g hρ (.inl ho)
 case assign x => simp only [cOp, qi] at hc; subst hc; simp only [aop] at h; cases h; exact QAc g hρ (.inr ho)
 case pick c a b =>
  simp only [cOp, qi] at hc; subst hc; simp only [aop] at h
  split at h <;> cases h
  exact Qzp g hρ ho (by assumption)
 case alloc => exact QvY g hρ hid ho hc h
 case box => exact QAB g hρ hid ho hc h
 case build => exact QvX g hρ hid ho hc h
 case buildSlice => exact QtN g hρ hid ho hc h
 case load => exact Qyz g hρ hid ho hc h
 case store => exact QvQ g hρ hid ho hc h
 case nilCheck => exact QvS g hρ hid ho hc h
 case binOp => exact QAC g hρ hid hk ho hc h
 case unOp op t x =>
  simp only [cOp, qi] at hc; subst hc; simp only [aop, qb] at h
  obtain ⟨v, hv, e⟩ := h
  cases e
  exact QCB g hρ ho hv
 case convert => exact QyB g hρ hid ho hc h
 case makeFunc f fs cs =>
  simp only [cOp, qi] at hc; subst hc; simp only [aop] at h
  cases h
  exact Qzq g hρ ho
 case makeSlice => exact Qqv g hρ hid ho hc h
 case slice => exact QvR g hρ hid ho hc h
 case fieldAddr => exact QvW g hρ hid ho hc h
 case field => exact QvV g hρ hid ho hc h
 case indexAddr => exact QvU g hρ hid ho hc h
 case index => exact QvT g hρ hid ho hc h
 case extract => exact Qqw g hρ hid ho hc h
 case call c =>
  simp only [cOp] at hc
  unfold QBm at hc
  split at hc
  ·unfold QDs at hc
   split at hc <;> cases hc
   simp only [aop] at h
   split at h
   ·cases h
    exact QBh g hρ ho (by assumption) (by assumption) (by assumption) (by assumption)
   ·split at h
    ·split at h <;> cases h
     exact Qmg g hρ ho (by assumption) (by assumption) (by assumption) (by assumption) (by assumption) (by assumption)
    ·cases h
   ·cases h
  ·exact QAA g hρ hid ho (by assumption) hc h
  ·exact QtO g hρ hid ho (by assumption) hc h
  ·exact QyA g hρ hid ho (by assumption) hc h
  ·cases hc
   simp only [aop] at h
   split at h
   ·rename_i x r hx
    simp only [qb] at h
    obtain ⟨v, hv, e⟩ := h
    cases e
    exact QBf g hρ ho (by assumption) hx hv
   ·cases h
  ·cases hc
   simp only [aop] at h
   split at h
   ·rename_i x r hx
    simp only [qb] at h
    obtain ⟨v, hv, e⟩ := h
    cases e
    exact QBg g hρ ho (by assumption) hx hv
   ·cases h
  ·cases hc
end
end Go.Am
/- The abstract machine: states, calls, operations in their order. -/
namespace Go.Am
open Go.RowKit
mutual
def isD : AV → Bool
 | .own _ _ | .ownc _ _ _ | .view _ _ _ _ | .ref _ _ _ => false
 | .list _ cs | .cell cs | .agg cs | .tup cs => isDL cs
 | .fn _ a b => isDL a && isDL b
 | _ => true
def isDL : List AV → Bool
 | [] => true
 | c :: cs => isD c && isDL cs
end
mutual
theorem Rep.data {X Y : Cx} (h : ∀ (b k : Nat) (v : Value), X.w.cell? ⟨b, k, none⟩ = some v → ¬ X.av b k → Y.w.cell? ⟨b, k, none⟩ = some v ∧ ¬ Y.av b k) : ∀ (c : AV) (v : Value), isD c = true → Rep X c v → Rep Y c v
 | .any, _, _, g => g
 | .int _ _, _, _, g => g
 | .bool _, _, _, g => g
 | .ubool, _, _, g => g
 | .str _, _, _, g => g
 | .lit _, _, _, g => g
 | .emp _, _, _, g => g
 | .list _ cs, _, hd, g => by
  simp only [Rep] at g ⊢
  simp only [isD] at hd
  obtain ⟨a, cap, vs, e, gc, g1, g2⟩ := g
  refine ⟨a, cap, vs, e, gc, ?_, RepL.data h cs vs hd g2⟩
  rcases g1 with g1 | ⟨b, k, e1, g1⟩
  ·exact .inl g1
  ·exact .inr ⟨b, k, e1, fun i v hv => ⟨h _ _ _ (g1 i v hv).1.1 (g1 i v hv).1.2, (g1 i v hv).2⟩⟩
 | .cell cs, _, hd, g => by
  simp only [Rep] at g ⊢
  simp only [isD] at hd
  obtain ⟨b, k, vs, e, g1, g2⟩ := g
  exact ⟨b, k, vs, e, fun i v hv => ⟨h _ _ _ (g1 i v hv).1.1 (g1 i v hv).1.2, (g1 i v hv).2⟩, RepL.data h cs vs hd g2⟩
 | .own _ _, _, hd, _ => by simp only [isD] at hd; cases hd
 | .ownc _ _ _, _, hd, _ => by simp only [isD] at hd; cases hd
 | .view _ _ _ _, _, hd, _ => by simp only [isD] at hd; cases hd
 | .ref _ _ _, _, hd, _ => by simp only [isD] at hd; cases hd
 | .agg cs, _, hd, g => by
  simp only [Rep] at g ⊢
  simp only [isD] at hd
  obtain ⟨vs, e, g2⟩ := g
  exact ⟨vs, e, RepL.data h cs vs hd g2⟩
 | .tup cs, _, hd, g => by
  simp only [Rep] at g ⊢
  simp only [isD] at hd
  obtain ⟨vs, e, g2⟩ := g
  exact ⟨vs, e, RepL.data h cs vs hd g2⟩
 | .fn _ fs cs, _, hd, g => by
  simp only [Rep] at g ⊢
  simp only [isD, qo] at hd
  obtain ⟨va, vb, e, g1, g2⟩ := g
  exact ⟨va, vb, e, RepL.data h fs va hd.1 g1, RepL.data h cs vb hd.2 g2⟩
theorem RepL.data {X Y : Cx} (h : ∀ (b k : Nat) (v : Value), X.w.cell? ⟨b, k, none⟩ = some v → ¬ X.av b k → Y.w.cell? ⟨b, k, none⟩ = some v ∧ ¬ Y.av b k) : ∀ (cs : List AV) (vs : List Value), isDL cs = true → RepL X cs vs → RepL Y cs vs
 | [], _, _, g => by simp only [RepL] at g ⊢; exact g
 | c :: cs, _, hd, g => by
  simp only [RepL] at g ⊢
  simp only [isDL, qo] at hd
  obtain ⟨v, rest, e, g1, g2⟩ := g
  exact ⟨v, rest, e, Rep.data h c v hd.1 g1, RepL.data h cs rest hd.2 g2⟩
end
structure Prg where
 prog : Program
 G : List (Nat × List AV)
 gd : ∀ (g : Nat) (cs : List AV), G.lookup g = some cs → isDL cs = true
instance : Coe Prg Program := ⟨Prg.prog⟩
theorem GOk.data {P : Prg} {X Y : Cx} (hG : GOk P.G X) (h : ∀ (b k : Nat) (v : Value), X.w.cell? ⟨b, k, none⟩ = some v → ¬ X.av b k → Y.w.cell? ⟨b, k, none⟩ = some v ∧ ¬ Y.av b k) : GOk P.G Y :=
 fun q cs hq => Rep.data h _ _ (by simp only [isD]; exact P.gd q cs hq) (hG q cs hq)
def QgA (P : Program) (f : FuncId) : Prop := ∃ fn, P.funcs[f]? = some fn ∧ (fn.name == "runtime.NumGoroutine") = false ∧ fn.body.isNone = false
def VC (P : Prg) (f : FuncId) (ds : List AV) (r : AV) : Prop :=
 QgA P f ∧ isDL ds = true ∧ isD r = true ∧ ∀ (w : World) (C : Nat → Nat → Prop) (vs : List Value), (∀ b k, C b k → b < w.heap.size) → GOk P.G ⟨w, [], [], C⟩ → RepL ⟨w, [], [], C⟩ ds vs →
  Calls P f vs.toArray w fun e w' => ∃ v, e = .returned v ∧ Below w.heap.size w w' ∧ Rep ⟨w', [], [], C⟩ r v
def ACall (P : Prg) (f : FuncId) (avs : List AV) (ob : List Ob) (K : AV → List Ob → Prop) : Prop :=
 QgA P f ∧ ∀ (B : Nat) (w : World) (be : List (Option (Nat × Nat))) (C : Nat → Nat → Prop) (vs : List Value), Held B ⟨w, ob, be, C⟩ → GOk P.G ⟨w, ob, be, C⟩ → RepL ⟨w, ob, be, C⟩ avs vs →
  Calls P f vs.toArray w fun e w' => ∃ v r ob' be', e = .returned v ∧ Below B w w' ∧ Held B ⟨w', ob', be', C⟩ ∧ Moves ⟨w, ob, be, C⟩ ⟨w', ob', be', C⟩ ∧ Rep ⟨w', ob', be', C⟩ r v ∧ K r ob'
theorem ACall.of_vc {P : Prg} {f : FuncId} {ds : List AV} {r : AV} (h : VC P f ds r) {ob : List Ob} {K : AV → List Ob → Prop} (hK : K r ob) : ACall P f ds ob K := by
 obtain ⟨h0, h1, h2, h3⟩ := h
 refine ⟨h0, fun B w be C vs g hG hr => ?_⟩
 let X : Cx := ⟨w, ob, be, C⟩
 have hav : ∀ w' b k, (Cx.mk w' [] [] X.av).av b k ↔ X.av b k := fun w' b k => by
  constructor
  ·rintro (h | ⟨o, x, c, h, _⟩)
   ·exact h
   ·simp at h
  ·exact fun h => .inl h
 have hbnd : ∀ b k, X.av b k → b < w.heap.size := by
  rintro b k (h | ⟨o, x, c, q1, q2, _⟩)
  ·exact yy (g.bnd b k h) g.size
  ·exact g.block_lt q1 q2
 have hG' : GOk P.G ⟨w, [], [], X.av⟩ := fun q cs hq => Rep.data (X := X) (Y := ⟨w, [], [], X.av⟩) (fun b k v hc ha => ⟨hc, fun h => ha ((hav w b k).1 h)⟩) _ _ (by simp only [isD]; exact P.gd q cs hq) (hG q cs hq)
 refine (h3 w X.av vs hbnd hG' (RepL.data (X := X) (Y := ⟨w, [], [], X.av⟩) (fun b k v hc ha => ⟨hc, fun h => ha ((hav w b k).1 h)⟩) _ _ h1 hr)).mono ?_
 rintro e w' ⟨v, rfl, hb, hv⟩
 refine ⟨v, r, ob, be, rfl, hb.mono g.size, g.below hb, Moves.below (X := X) hb, ?_, hK⟩
 refine Rep.data (X := ⟨w', [], [], X.av⟩) (Y := ⟨w', ob, be, C⟩) (fun b k u hc ha => ⟨hc, fun h => ha ((hav w' b k).2 ?_)⟩) _ _ h2 hv
 rcases h with h | ⟨o, x, c, q1, q2, q3⟩
 ·exact .inl h
 ·exact .inr ⟨o, x, c, q1, q2, q3⟩
structure St where
 fr : List (Nat × AV)
 ob : List Ob
structure Ctx where
 B : Nat
 X0 : Cx
 N : Nat
 /-- What stands deferred. -/
 ds : List Deferred
def Sim (Γ : Ctx) (st : St) (a : Act) (w : World) : Prop :=
 a.defers = Γ.ds ∧ a.tmps.size = Γ.N ∧ Below Γ.B Γ.X0.w w ∧ ∃ be, Held Γ.B ⟨w, st.ob, be, Γ.X0.C⟩ ∧ Moves Γ.X0 ⟨w, st.ob, be, Γ.X0.C⟩ ∧
  ∀ i, Rep ⟨w, st.ob, be, Γ.X0.C⟩ (look st.fr i) (a.tmps.getD i undef)
def Xy (fr : List (Nat × AV)) (dst : Option Nat) (v : AV) : List (Nat × AV) :=
 match dst with
 | some d => (d, v) :: fr
 | none => fr
def Zz (fr : List (Nat × AV)) : Option (Nat × Bool) → Option Bool
 | none => some true
 | some (d, b) =>
  match look fr d with
  | .bool t => some (t == b)
  | .tup [] => some false
  | _ => none
def wpO (P : Prg) : List AO → (St → Prop) → St → Prop
 | [], K, st => K st
 | o :: os, K, st =>
  match Zz st.fr o.guard with
  | some true =>
   match o.op with
   | .call f args => ACall P f (args.map (opd P.G st.fr)) st.ob fun r ob' => wpO P os K ⟨Xy st.fr o.dst r, ob'⟩
   | .callv f args =>
    match look st.fr f with
    | .fn (.func g) fs cs => ACall P g (fs ++ args.map (opd P.G st.fr) ++ cs) st.ob fun r ob' => wpO P os K ⟨Xy st.fr o.dst r, ob'⟩
    | _ => False
   | .op p =>
    match aop (opd P.G st.fr) st.ob st.ob.length p with
    | some (v, u) => wpO P os K ⟨Xy st.fr o.dst v, app st.ob u⟩
    | none => False
  | some false => wpO P os K ⟨Xy st.fr o.dst (.tup []), st.ob⟩
  | none => False
theorem Qf7 {fr : List (Nat × AV)} {d i : Nat} {v : AV} : look ((d, v) :: fr) i = if i = d then v else look fr i := rfl
theorem QiH {X : Cx} {fr : List (Nat × AV)} {a : Act} {N : Nat} (hN : a.tmps.size = N) (h : ∀ i, Rep X (look fr i) (a.tmps.getD i undef)) {dst : Option Nat} (hd : ∀ d, dst = some d → d < N) {v : Value} {av : AV} (hv : Rep X av v) :
  ∀ i, Rep X (look (Xy fr dst av) i) ((a.put dst v).tmps.getD i undef) := by
 intro i
 cases dst with
 | none => exact h i
 | some d =>
  have hlt := hd d rfl
  simp only [Xy, Qf7, Act.put]
  split
  ·rename_i e
   subst e
   have : i < a.tmps.size := by omega
   simp [this]
   exact hv
  ·rename_i e
   have := h i
   simp only [qD] at this ⊢
   rw [yZ (fun h => e h.symm)]
   exact this
theorem QbG {a : Act} {dst : Option Nat} {v : Value} : (a.put dst v).tmps.size = a.tmps.size := by
 cases dst <;> simp [Act.put]
theorem QkC {a : Act} {dst : Option Nat} {v : Value} : (a.put dst v).defers = a.defers := by
 cases dst <;> rfl
theorem J1 {P : Program} {N : Nat} {ops : Array Oper} {o : Oper} {q : AO} (h : Qby P N ops o = some q) :
  cAK P o.op = some q.op ∧ q.dst = o.dst ∧ (∀ d, o.dst = some d → d < N) ∧
   ((o.guard = none ∧ q.guard = none) ∨ ∃ j b d, o.guard = some (j, b) ∧ (ops[j]?).bind (·.dst) = some d ∧ q.guard = some (d, b)) := by
 unfold Qby at h
 split at h
 ·cases h
 rename_i p hp
 split at h
 case isFalse => cases h
 rename_i hd
 have hd' : ∀ d, o.dst = some d → d < N := fun d e => by rw [e] at hd; simpa [QCC] using hd
 split at h
 ·cases h
  exact ⟨hp, rfl, hd', .inl ⟨by assumption, rfl⟩⟩
 ·rename_i j b hg
  split at h <;> cases h
  exact ⟨hp, rfl, hd', .inr ⟨j, b, _, hg, by assumption, rfl⟩⟩
theorem ZV {P : Program} {N : Nat} {ops : Array Oper} {o : Oper} {q : AO} (hc : Qby P N ops o = some q) {X : Cx} {fr : List (Nat × AV)} {a : Act} (h : ∀ i, Rep X (look fr i) (a.tmps.getD i undef)) {t : Bool}
  (hw : Zz fr q.guard = some t) : Region.wanted o (yielded ops a.tmps) = t := by
 obtain ⟨_, _, _, hg⟩ := J1 hc
 rcases hg with ⟨h1, h2⟩ | ⟨j, b, d, h1, h2, h3⟩
 ·rw [h2] at hw
  simp [Zz] at hw
  subst hw
  simp [Region.wanted, h1]
 ·rw [h3] at hw
  simp only [Zz] at hw
  have hr := h d
  split at hw
  ·rename_i t' hl
   rw [hl] at hr
   simp only [Rep] at hr
   cases hw
   have hd : a.tmps[d]? = some (.bool t') := by
    simp only [qD] at hr
    cases hq : a.tmps[d]? with
    | none => rw [hq] at hr; simp [undef] at hr
    | some v => rw [hq] at hr; simp at hr; rw [hr]
   simp only [Region.wanted, h1, yielded, h2, Option.bind_some, hd]
   cases t' <;> cases b <;> rfl
  ·rename_i hl
   rw [hl] at hr
   simp only [Rep] at hr
   cases hw
   obtain ⟨vs, hr, h4⟩ := hr
   simp only [RepL] at h4
   subst h4
   have hd : ∀ u, a.tmps[d]? = some u → u = .tuple #[] := fun u hu => by
    simp only [qD, hu] at hr
    simpa using hr
   simp only [Region.wanted, h1, yielded, h2, Option.bind_some]
   cases hq : a.tmps[d]? with
   | none => simp
   | some u => rw [hd u hq]; simp
  ·cases hw
end Go.Am
/- The abstract machine: code. -/
namespace Go.Am
open Go.RowKit
theorem JW {P : Program} {f : FuncId} (h : QgA P f) (args : Array Value) (w : World) : (callFunc f args).run P w = .ok (.enter f args) w := by
 obtain ⟨fn, h1, h2, h3⟩ := h
 simp only [callFunc, Sem.run_bind, run_program, Result.andThen_ok, h1, h2, h3, qS, yl, Sem.run_pure]
theorem Qzz {op : Op} {f : FuncId} {args : List Operand} (h : cFn op = some (.call f args)) : ∃ c, op = .call c ∧ c.callee = .value (.func f) ∧ args = c.args.toList := by
 unfold cFn at h
 split at h
 ·split at h <;> cases h
  exact ⟨_, rfl, by assumption, rfl⟩
 ·cases h
theorem QxD {op : Op} {t : Nat} {args : List Operand} (h : cFn op = some (.callv t args)) : ∃ c, op = .call c ∧ c.callee = .value (.tmp t) ∧ args = c.args.toList := by
 unfold cFn at h
 split at h
 ·split at h <;> cases h
  exact ⟨_, rfl, by assumption, rfl⟩
 ·cases h
theorem QCF {op : Op} {p : AOp} : cFn op ≠ some (.op p) := by
 intro h
 unfold cFn at h
 split at h
 ·split at h <;> cases h
 ·cases h
theorem Qh8 {P : Program} {op : Op} {f : FuncId} {args : List Operand} (h : cAK P op = some (.call f args)) : ∃ c, op = .call c ∧ c.callee = .value (.func f) ∧ args = c.args.toList := by
 unfold cAK at h
 split at h
 ·cases h; exact Qzz (by assumption)
 ·simp at h
theorem Qdv {P : Program} {op : Op} {f : Nat} {args : List Operand} (h : cAK P op = some (.callv f args)) : ∃ c, op = .call c ∧ c.callee = .value (.tmp f) ∧ args = c.args.toList := by
 unfold cAK at h
 split at h
 ·cases h; exact QxD (by assumption)
 ·simp at h
theorem Qpw {P : Program} {op : Op} {p : AOp} (h : cAK P op = some (.op p)) (hp : p ≠ .bad) : cOp P op = some p := by
 unfold cAK at h
 split at h
 ·rename_i hk; cases h; exact absurd hk QCF
 ·cases hc : cOp P op with
  | none => rw [hc] at h; simp at h; exact absurd h.symm hp
  | some q => rw [hc] at h; simp at h; rw [h]
theorem Qe0 {η : Operand → AV} {ob : List Ob} {id : Nat} {p : AOp} {r : AV × Option (Nat × Ob)} (h : aop η ob id p = some r) : p ≠ .bad := by
 rintro rfl
 simp [aop] at h
section
variable {P : Prg} {N : Nat} {Γ : Ctx}
def Fit (P : Prg) (N : Nat) (Γ : Ctx) : Prop := Γ.N = N ∧ GOk P.G Γ.X0
theorem Sim.eta {st : St} {a : Act} {w : World} (hs : Sim Γ st a w) (hG : GOk P.G Γ.X0) : ∃ be, Held Γ.B ⟨w, st.ob, be, Γ.X0.C⟩ ∧ Moves Γ.X0 ⟨w, st.ob, be, Γ.X0.C⟩ ∧ (∀ x, Rep ⟨w, st.ob, be, Γ.X0.C⟩ (opd P.G st.fr x) (a.eval x)) ∧ ∀ i, Rep ⟨w, st.ob, be, Γ.X0.C⟩ (look st.fr i) (a.tmps.getD i undef) := by
 obtain ⟨_, _, _, be, h1, h2, h3⟩ := hs
 exact ⟨be, h1, h2, QAR (hG.move h2) h3, h3⟩
theorem Sim.put {st : St} {a : Act} {w w' : World} (hs : Sim Γ st a w) {dst : Option Nat} (hd : ∀ d, dst = some d → d < Γ.N) {be be' : List (Option (Nat × Nat))} (hm0 : Moves Γ.X0 ⟨w, st.ob, be, Γ.X0.C⟩)
  (h3 : ∀ i, Rep ⟨w, st.ob, be, Γ.X0.C⟩ (look st.fr i) (a.tmps.getD i undef)) {ob' : List Ob} (hb : Below Γ.B w w') (hh : Held Γ.B ⟨w', ob', be', Γ.X0.C⟩) (hm : Moves ⟨w, st.ob, be, Γ.X0.C⟩ ⟨w', ob', be', Γ.X0.C⟩) {v : Value} {av : AV}
  (hv : Rep ⟨w', ob', be', Γ.X0.C⟩ av v) : Sim Γ ⟨Xy st.fr dst av, ob'⟩ (a.put dst v) w' := by
 obtain ⟨q1, q2, q3, _⟩ := hs
 refine ⟨by rw [QkC]; exact q1, by rw [QbG]; exact q2, q3.trans hb, be', hh, hm0.trans hm, ?_⟩
 exact QiH q2 (fun i => Rep.move hm _ _ (h3 i)) hd hv
theorem Qde (hN : Fit P N Γ) {ops : Array Oper} {Q : Exit → Act → World → Prop} {K : St → Prop} (hK : ∀ st a w, K st → Sim Γ st a w → Q .normal a w) : ∀ (l : List Oper) (qs : List AO) (st : St) (a : Act) (w : World),
  l.mapM (Qby P N ops) = some qs → wpO P qs K st → Sim Γ st a w → wpList P ops Q l a w
 | [], qs, st, a, w, hl, hw, hs => by
  simp at hl
  subst hl
  simp only [wpO] at hw
  exact hK st a w hw hs
 | o :: l, qs, st, a, w, hl, hw, hs => by
  simp only [yQ, yu, qC, qn, qi] at hl
  obtain ⟨q, hq, qs', hqs, rfl⟩ := hl
  have hsp := J1 hq
  obtain ⟨c1, c2, c3, _⟩ := hsp
  obtain ⟨be, g, hm0, hη, hfr⟩ := hs.eta hN.2
  have hd : ∀ d, o.dst = some d → d < Γ.N := fun d e => by rw [hN.1]; exact c3 d e
  simp only [wpO] at hw
  unfold wpList
  split at hw
  case h_3 => exact hw.elim
  case h_2 hwant =>
   have hwd := ZV hq hfr hwant
   rw [hwd]
   simp only [qS, yl]
   rw [c2] at hw
   exact Qde hN hK l qs' _ _ _ hqs hw (hs.put hd hm0 hfr (Below.refl _ _) g (Moves.refl _) (by simp [Rep, undef, RepL]))
  case h_1 hwant =>
   have hwd := ZV hq hfr hwant
   rw [hwd]
   simp only [yf]
   refine .inl ?_
   have call : ∀ (f : FuncId) (avs : List AV) (vs : List Value), RepL ⟨w, st.ob, be, Γ.X0.C⟩ avs vs → (execOp a.eval o).run P w = (callFunc f vs.toArray).run P w →
     ACall P f avs st.ob (fun r ob' => wpO P qs' K ⟨Xy st.fr o.dst r, ob'⟩) → o.wp P a w (wpList P ops Q l) Q := by
    intro f avs vs hr hrun hcall
    obtain ⟨he, hcall⟩ := hcall
    unfold Oper.wp
    rw [hrun, JW he]
    refine (hcall Γ.B w be Γ.X0.C vs g (hN.2.move hm0) hr).mono ?_
    rintro e w' ⟨v, r, ob', be', rfl, hb, hh, hm, hv, hk⟩
    exact Qde hN hK l qs' _ _ _ hqs hk (hs.put hd hm0 hfr hb hh hm hv)
   split at hw
   ·rename_i f args hop
    rw [c2] at hw
    rw [hop] at c1
    obtain ⟨c, ho, hcal, rfl⟩ := Qh8 c1
    refine call f _ _ (ZM g hη c.args.toList) ?_ hw
    have : c.args.map a.eval = (c.args.toList.map a.eval).toArray := by apply yN; simp
    simp only [execOp, ho, resolve, hcal, Deferred.ofValue, Act.eval, invoke, Sem.run_bind, Sem.run_pure, Result.andThen_ok, ← this]
    simp
   ·rename_i f args hop
    rw [c2] at hw
    rw [hop] at c1
    obtain ⟨c, ho, hcal, rfl⟩ := Qdv c1
    split at hw
    case h_2 => exact hw.elim
    rename_i fid fs cs hf
    have hr := hfr f
    rw [hf] at hr
    simp only [Rep] at hr
    obtain ⟨va, vb, e1, e2, e3⟩ := hr
    have e4 : a.eval (.tmp f) = .func (.func fid) va.toArray vb.toArray := e1
    refine call fid _ _ ((e2.append (ZM g hη c.args.toList)).append e3) ?_ hw
    have : va.toArray ++ c.args.map a.eval ++ vb.toArray = (va ++ c.args.toList.map a.eval ++ vb).toArray := by apply yN; simp
    simp only [execOp, ho, resolve, hcal, e4, Deferred.ofValue, invoke, Sem.run_bind, Sem.run_pure, Result.andThen_ok, this]
   ·rename_i p hop
    rw [hop] at c1
    split at hw
    case h_2 => exact hw.elim
    rename_i v u hv
    rw [c2] at hw
    obtain ⟨vv, w', be', hr, hb, hh, hm, hrep⟩ := Qgs g hη (.inl rfl) (fun _ => rfl) (o := o) (Qpw c1 (Qe0 hv)) hv
    unfold Oper.wp
    rcases hr with hr | ⟨hr, rfl⟩
    ·rw [hr]
     exact Qde hN hK l qs' _ _ _ hqs hw (hs.put hd hm0 hfr hb hh hm hrep)
    ·rw [hr]
     exact Qde hN hK l qs' _ _ _ hqs hw (hs.put hd hm0 hfr hb hh hm hrep)
end
end Go.Am
/- The abstract machine: what an operation looks at, and what it turns. -/
namespace Go.Am
open Go.RowKit
def Qjw : AV → Option Nat
 | .own o _ | .ownc o _ _ | .view o _ _ _ | .ref o _ _ => some o
 | _ => none
def Qau : AOp → List Operand
 | .mv x => [x]
 | .pick c a b => [c, a, b]
 | .alloc _ _ => []
 | .box _ _ x => [x]
 | .build _ ps => ps.map fun p => p.2.2
 | .bslice _ _ _ _ ps => ps.map fun p => p.2.2
 | .load _ x => [x]
 | .store _ x v => [x, v]
 | .nilck x => [x]
 | .bin _ x y => [x, y]
 | .beq _ x y => [x, y]
 | .nileq _ x => [x]
 | .un _ x => [x]
 | .conv _ x => [x]
 | .mkfn _ fs cs => fs ++ cs
 | .mkslice _ _ _ _ l c => [l, c]
 | .slices x lo hi => x :: (lo.toList ++ hi.toList)
 | .slice _ x lo hi mx => x :: (lo.toList ++ hi.toList ++ mx.toList)
 | .slicea _ _ x lo hi => x :: (lo.toList ++ hi.toList)
 | .faddr _ x => [x]
 | .field _ _ x => [x]
 | .iaddr _ x i => [x, i]
 | .index _ x i => [x, i]
 | .extract x _ => [x]
 | .len _ x => [x]
 | .append _ _ _ _ x y => [x, y]
 | .appendz _ x y => [x, y]
 | .copy _ _ x y => [x, y]
 | .min xs => xs
 | .max xs => xs
 | .aggeq _ _ x y => [x, y]
 | .cap x => [x]
 | .strsh x => [x]
 | .ifeq _ x => [x]
 | .bad => []
def rdA : AOp → Bool
 | .load _ _ | .store _ _ _ | .nilck _ | .nileq _ _ | .conv .toStr _ | .slice .. | .slicea .. | .faddr .. | .iaddr .. | .len .. | .append .. | .appendz .. | .copy .. | .cap .. | .strsh .. => true
 | _ => false
def wrA : AOp → Bool
 | .store .. | .append .. | .appendz .. | .copy .. | .strsh .. => true
 | _ => false
def frA : AOp → Bool
 | .alloc .. | .box .. | .bslice .. | .mkslice .. | .append .. | .appendz .. => true
 | _ => false
def okW : AOp → Bool
 | .mv .. => true
 | .pick .. => true
 | .alloc .. => true
 | .box .. => true
 | .build .. => true
 | .bslice .. => true
 | .load .. => true
 | .store .. => true
 | .nilck .. => true
 | .bin .. => true
 | .beq .. => true
 | .nileq .. => true
 | .un .. => true
 | .conv .. => true
 | .mkfn .. => true
 | .mkslice .. => true
 | .slices .. => true
 | .slicea .. => true
 | .faddr .. => true
 | .field .. => true
 | .iaddr .. => true
 | .index .. => true
 | .extract .. => true
 | .len .. => true
 | .append .. => true
 | .appendz .. => true
 | .copy .. => true
 | .min .. => true
 | .max .. => true
 | .aggeq .. => true
 | .cap .. => true
 | .strsh .. => true
 | .ifeq .. => true
 | .bad => true
 | .slice .. => false
theorem QBx {η η' : Operand → AV} {ob : List Ob} {id : Nat} : ∀ {p : AOp}, (∀ x ∈ Qau p, η x = η' x) → aop η ob id p = aop η' ob id p
 | .mv x, h | .box _ _ x, h | .load _ x, h | .nilck x, h | .nileq _ x, h | .un _ x, h | .conv _ x, h | .faddr _ x, h | .field _ _ x, h | .extract x _, h | .len _ x, h | .cap x, h | .strsh x, h | .ifeq _ x, h => by
  have := h x (by simp [Qau])
  simp only [aop, this]
 | .pick c a b, h => by
  have h1 := h c (by simp [Qau]); have h2 := h a (by simp [Qau]); have h3 := h b (by simp [Qau])
  simp only [aop, h1, h2, h3]
 | .alloc _ _, h => rfl
 | .bad, h => rfl
 | .store _ x y, h | .bin _ x y, h | .beq _ x y, h | .mkslice _ _ _ _ x y, h | .iaddr _ x y, h | .index _ x y, h | .append _ _ _ _ x y, h | .appendz _ x y, h | .copy _ _ x y, h | .aggeq _ _ x y, h => by
  have h1 := h x (by simp [Qau]); have h2 := h y (by simp [Qau])
  simp only [aop, h1, h2]
 | .build z ps, h => by
  have : (ps.map fun p => (p.1, p.2.1, η p.2.2)) = ps.map fun p => (p.1, p.2.1, η' p.2.2) := qU fun p hp => by rw [h p.2.2 (qY.2 ⟨p, hp, rfl⟩)]
  simp only [aop, this]
 | .bslice _ _ _ z ps, h => by
  have : (ps.map fun p => (p.1, p.2.1, η p.2.2)) = ps.map fun p => (p.1, p.2.1, η' p.2.2) := qU fun p hp => by rw [h p.2.2 (qY.2 ⟨p, hp, rfl⟩)]
  simp only [aop, this]
 | .mkfn f fs cs, h => by
  have h1 : fs.map (η) = fs.map (η') := qU fun p hp => h p (by simp [Qau, hp])
  have h2 : cs.map (η) = cs.map (η') := qU fun p hp => h p (by simp [Qau, hp])
  simp only [aop, h1, h2]
 | .slices x lo hi, h => by
  have h1 := h x (by simp [Qau])
  have h2 : lo.map (η) = lo.map (η') := by cases lo with | none => rfl | some y => simp [h y (by simp [Qau])]
  have h3 : hi.map (η) = hi.map (η') := by cases hi with | none => rfl | some y => simp [h y (by simp [Qau])]
  simp only [aop, h1, h2, h3]
 | .slicea _ _ x lo hi, h => by
  have h1 := h x (by simp [Qau])
  have h2 : lo.map (η) = lo.map (η') := by cases lo with | none => rfl | some y => simp [h y (by simp [Qau])]
  have h3 : hi.map (η) = hi.map (η') := by cases hi with | none => rfl | some y => simp [h y (by simp [Qau])]
  simp only [aop, h1, h2, h3]
 | .slice _ x lo hi mx, h => by
  have h1 := h x (by simp [Qau])
  have h2 : lo.map (η) = lo.map (η') := by cases lo with | none => rfl | some y => simp [h y (by simp [Qau])]
  have h3 : hi.map (η) = hi.map (η') := by cases hi with | none => rfl | some y => simp [h y (by simp [Qau])]
  cases mx with
  | none => simp only [aop, h1, h2, h3]
  | some m =>
   have h4 := h m (by simp [Qau])
   simp only [aop, h1, h2, h3, h4]
 | .min xs, h => by
  have h1 : xs.map (η) = xs.map (η') := qU fun p hp => h p (by simp [Qau, hp])
  simp only [aop, h1]
 | .max xs, h => by
  have h1 : xs.map (η) = xs.map (η') := qU fun p hp => h p (by simp [Qau, hp])
  simp only [aop, h1]
section
variable {ob ob' : List Ob}
theorem Qps {v : AV} (h : ∀ o, Qjw v = some o → ob[o]? = ob'[o]?) : ZB ob v = ZB ob' v := by
 cases v <;> simp only [ZB]
 case ref o ver k => rw [h o rfl]
theorem ZH {sz : Nat} {v : AV} (h : ∀ o, Qjw v = some o → ob[o]? = ob'[o]?) : Qj ob sz v = Qj ob' sz v := by
 cases v <;> simp only [Qj]
 case own o n => rw [h o rfl]
 case ownc o n c => rw [h o rfl]
 case view o ver k n => rw [h o rfl]
theorem QwM {v : AV} (h : ∀ o, Qjw v = some o → ob[o]? = ob'[o]?) : Qvd ob v = Qvd ob' v := by
 cases v
 case own o n => simp only [Qvd, h o rfl]
 case ownc o n c => simp only [Qvd, h o rfl]
 case emp z => cases z <;> rfl
 all_goals rfl
theorem Qdo {sz : Nat} {v : AV} {l k : Int} (h : ∀ o, Qjw v = some o → ob[o]? = ob'[o]?) : Qjx ob sz v l k = Qjx ob' sz v l k := by
 cases v
 case own o n => simp only [Qjx, h o rfl]
 case ownc o n c => simp only [Qjx, h o rfl]
 all_goals rfl
theorem QfX {sz : Nat} {st : Bool} {v : AV} (h : ∀ o, Qjw v = some o → ob[o]? = ob'[o]?) : QfY ob sz st v = QfY ob' sz st v := by
 simp only [QfY, ZH h]
theorem Qgt {η : Operand → AV} {id : Nat} {p : AOp} (h : rdA p = true → ∀ x ∈ Qau p, ∀ o, Qjw (η x) = some o → ob[o]? = ob'[o]?) : aop η ob id p = aop η ob' id p := by
 cases p
 case conv k x =>
  cases k
  case toStr => simp only [aop, ZH (h rfl x (by simp [Qau]))]
  all_goals rfl
 case load sz x => simp only [aop, Qps (h rfl x (by simp [Qau]))]
 case cap x =>
  have h1 := h rfl x (by simp [Qau])
  simp only [aop]
  cases hx : η x <;> first | rfl | skip
  case ownc o n c => rw [hx] at h1; simp only [h1 o rfl]
 case strsh x =>
  have h1 := h rfl x (by simp [Qau])
  simp only [aop]
  cases hx : η x <;> first | rfl | skip
  case own o n => rw [hx] at h1; simp only [h1 o rfl]
 case nileq n x => simp only [aop, QwM (h rfl x (by simp [Qau]))]
 case len k x =>
  have h1 := h rfl x (by simp [Qau])
  simp only [aop]
  cases k with
  | some k => cases k <;> rfl
  | none =>
   simp only [ZH h1]
   cases hx : η x <;> first | rfl | skip
   case own o n => rw [hx] at h1; simp only [Qj, h1 o rfl]
   case ownc o n c => rw [hx] at h1; simp only [Qj, h1 o rfl]
   case view o ver k n => rw [hx] at h1; simp only [h1 o rfl]
 case store sz x v =>
  have h1 := h rfl x (by simp [Qau])
  simp only [aop]
  cases hx : η x <;> first | rfl | skip
  case ref o ver k => rw [hx] at h1; simp only [h1 o rfl]
 case nilck x =>
  have h1 := h rfl x (by simp [Qau])
  simp only [aop]
  cases hx : η x <;> first | rfl | skip
  case ref o ver k => rw [hx] at h1; simp only [h1 o rfl]
  case fn f fs cs => cases f <;> rfl
 case faddr f x =>
  have h1 := h rfl x (by simp [Qau])
  simp only [aop]
  cases hx : η x <;> first | rfl | skip
  case ref o ver k => rw [hx] at h1; simp only [h1 o rfl]
 case iaddr k x i =>
  have h1 := h rfl x (by simp [Qau])
  simp only [aop]
  cases η i <;> first | rfl | skip
  cases k <;> cases hx : η x <;> first | rfl | skip
  case slice.own o n => rw [hx] at h1; simp only [h1 o rfl]
  case slice.view o ver k n => rw [hx] at h1; simp only [h1 o rfl]
  case arr.ref o ver k => rw [hx] at h1; simp only [h1 o rfl]
 case slicea len sz x lo hi =>
  have h1 := h rfl x (by simp [Qau])
  simp only [aop]
  cases hx : η x <;> first | rfl | skip
  case ref o ver k =>
   rw [hx] at h1
   cases loA (lo.map (η)) <;> cases hiA len (hi.map (η)) <;> first | rfl | simp only [h1 o rfl]
  case cell cs => cases loA (lo.map (η)) <;> cases hiA len (hi.map (η)) <;> rfl
 case slice sz x lo hi mx =>
  have h1 := h rfl x (by simp [Qau])
  cases mx with
  | none =>
   simp only [aop, ZH h1, Qdo h1]
   cases hx : η x <;> first | rfl | skip
   case ownc o n c =>
    rw [hx] at h1
    simp only [Qwg, h1 o rfl, Qdo h1]
  | some m => simp only [aop, ZH h1, Qdo h1]
 case append ty sz b st x y =>
  have h1 := h rfl x (by simp [Qau])
  have h2 := h rfl y (by simp [Qau])
  simp only [aop, QfX h2]
  cases hx : η x <;> first | rfl | skip
  case own o n => rw [hx] at h1; simp only [h1 o rfl]
 case appendz ty x y =>
  have h1 := h rfl x (by simp [Qau])
  simp only [aop]
  cases hx : η x <;> first | rfl | skip
  case own o n => rw [hx] at h1; simp only [h1 o rfl]
 case copy sz st x y =>
  have h1 := h rfl x (by simp [Qau])
  have h2 := h rfl y (by simp [Qau])
  simp only [aop, QfX h2]
  cases hx : η x <;> first | rfl | skip
  case own o n => rw [hx] at h1; simp only [h1 o rfl]
  case view o ver k n => rw [hx] at h1; simp only [h1 o rfl]
 all_goals rfl
end
def ph2 : Ob := ⟨1, 0, 0, [], 0⟩
theorem QpO {η : Operand → AV} {ob : List Ob} {id : Nat} {p : AOp} {v : AV} {o : Nat} {x' : Ob} (hk : okW p = true) (h : aop η ob id p = some (v, some (o, x'))) :
  (frA p = true ∧ o = id ∧ x'.sz ≠ 0) ∨ (wrA p = true ∧ (∃ y ∈ Qau p, Qjw (η y) = some o) ∧ ∃ b, ob[o]? = some b ∧ x'.sz = b.sz) := by
 cases p
 case alloc => simp only [aop] at h; split at h <;> cases h; rename_i hc; simp only [qo, qr] at hc; exact .inl ⟨rfl, rfl, by simp only [ne_eq]; omega⟩
 case box => simp only [aop] at h; split at h <;> cases h; rename_i hc; simp only [qo, qr] at hc; exact .inl ⟨rfl, rfl, by simp only [ne_eq]; omega⟩
 case bslice => simp only [aop] at h; split at h; rename_i hc; simp only [qo, qr] at hc; split at h <;> cases h; exact .inl ⟨rfl, rfl, by simp only [ne_eq]; omega⟩; cases h
 case mkslice =>
  simp only [aop] at h
  split at h
  case h_2 => cases h
  split at h
  ·rename_i hc; cases h; exact .inl ⟨rfl, rfl, by simp only [ne_eq]; omega⟩
  ·split at h <;> cases h
   rename_i hc
   exact .inl ⟨rfl, rfl, by simp only [ne_eq]; omega⟩
 case store sz x y =>
  simp only [aop] at h
  split at h
  case h_2 => cases h
  rename_i hx
  split at h
  case h_2 => cases h
  rename_i b hb
  split at h <;> cases h
  exact .inr ⟨rfl, ⟨x, by simp [Qau], by rw [hx]; rfl⟩, b, hb, rfl⟩
 case appendz ty x y =>
  simp only [aop] at h
  split at h
  case h_2 => cases h
  split at h
  case isFalse => cases h
  split at h
  ·cases h; exact .inl ⟨rfl, rfl, by simp⟩
  ·rename_i hx
   split at h
   case h_2 => cases h
   rename_i b hb
   split at h <;> cases h
   exact .inr ⟨rfl, ⟨x, by simp [Qau], by rw [hx]; rfl⟩, b, hb, rfl⟩
  ·cases h
 case append ty sz b st x y =>
  simp only [aop] at h
  split at h
  case h_2 => cases h
  split at h
  case isFalse => cases h
  rename_i hc
  split at h
  ·split at h <;> cases h; exact .inl ⟨rfl, rfl, by simp only [ne_eq]; omega⟩
  ·rename_i hx
   split at h
   case h_2 => cases h
   rename_i b hb
   split at h <;> cases h
   exact .inr ⟨rfl, ⟨x, by simp [Qau], by rw [hx]; rfl⟩, b, hb, rfl⟩
  ·cases h
 case copy sz st x y =>
  simp only [aop] at h
  split at h
  case h_2 => cases h
  split at h
  case isFalse => cases h
  split at h
  ·cases h
  ·rename_i hx
   split at h
   case h_2 => cases h
   rename_i b hb
   split at h <;> cases h
   exact .inr ⟨rfl, ⟨x, by simp [Qau], by rw [hx]; rfl⟩, b, hb, rfl⟩
  ·rename_i hx
   split at h
   case h_2 => cases h
   rename_i b hb
   split at h <;> cases h
   exact .inr ⟨rfl, ⟨x, by simp [Qau], by rw [hx]; rfl⟩, b, hb, rfl⟩
  ·cases h
 case slice => cases hk
 case strsh x =>
  simp only [aop] at h
  split at h
  ·rename_i hx
   split at h
   case h_2 => cases h
   rename_i b hb
   split at h <;> cases h
   exact .inr ⟨rfl, ⟨x, by simp [Qau], by rw [hx]; rfl⟩, b, hb, rfl⟩
  ·cases h
 all_goals (exfalso; simp only [aop] at h; repeat' (first | (cases h; done) | (simp only [qb] at h; obtain ⟨_, _, h⟩ := h) | split at h))
theorem QrB {v : AV} {cs : List AV} (h : ZB [] v = some cs) : Qjw v = none := by
 cases v <;> simp [ZB, Qjw] at h ⊢
theorem Jz {sz : Nat} {v : AV} {r : Nat × List AV} (h : Qj [] sz v = some r) : Qjw v = none := by
 cases v <;> simp [Qj, Qjw] at h ⊢
theorem Qsw {sz : Nat} {st : Bool} {v : AV} {r : Nat × List AV} (h : QfY [] sz st v = some r) : Qjw v = none := by
 cases st
 ·exact Jz (sz := sz) h
 ·cases v <;> simp [QfY, Qjw] at h ⊢
theorem QsQ {v : AV} {r : Option Bool} (h : Qvd [] v = some r) : Qjw v = none := by
 cases v <;> simp [Qvd, Qjw] at h ⊢
theorem QxS {η : Operand → AV} {ob : List Ob} {id : Nat} {p : AOp} {r : AV × Option (Nat × Ob)} (h : aop η [] id p = some r) : aop η ob id p = some r := by
 have key : ∀ {x : Operand}, Qjw (η x) = none → ∀ o, Qjw (η x) = some o → ([] : List Ob)[o]? = ob[o]? := fun h o h' => by rw [h] at h'; cases h'
 cases p
 case conv k x =>
  cases k
  case toStr =>
   have h0 := h
   simp only [aop] at h
   split at h
   ·rename_i h1
    rw [← h0]
    exact (Qgt fun _ y hy => by simp only [Qau, yd] at hy; subst hy; exact key (Jz h1)).symm
   ·cases h
  all_goals exact h
 case load sz x =>
  have h0 := h
  simp only [aop] at h
  split at h
  ·rename_i h1
   rw [← h0]
   exact (Qgt fun _ y hy => by simp only [Qau, yd] at hy; subst hy; exact key (QrB h1)).symm
  ·cases h
 case nileq n x =>
  rw [← h]
  refine (Qgt fun _ y hy => ?_).symm
  simp only [Qau, yd] at hy; subst hy
  simp only [aop] at h
  split at h
  ·rename_i h1; exact key (QsQ h1)
  ·rename_i h1; exact key (QsQ h1)
  ·cases h
 case len k x =>
  cases k with
  | some k => cases k <;> exact h
  | none =>
   rw [← h]
   refine (Qgt fun _ y hy => ?_).symm
   simp only [Qau, yd] at hy; subst hy
   simp only [aop] at h
   split at h
   ·simp at h
   ·split at h
    ·rename_i h1; exact key (Jz h1)
    ·cases h
 case store sz x v =>
  simp only [aop] at h
  split at h
  ·simp at h
  ·cases h
 case nilck x =>
  simp only [aop] at h ⊢
  split at h
  ·simp at h
  ·rename_i h1; first | exact h | (rw [h1]; exact h)
  ·rename_i h1; first | exact h | (rw [h1]; exact h)
  ·cases h
 case faddr f x =>
  simp only [aop] at h ⊢
  split at h
  ·simp at h
  ·rename_i h1; first | exact h | (rw [h1]; exact h)
  ·cases h
 case iaddr k x i =>
  simp only [aop] at h ⊢
  cases hi : η i <;> rw [hi] at h <;> simp only at h <;> first | (cases h; done) | skip
  cases k with
  | slice sz =>
   cases hx : η x <;> rw [hx] at h <;> simp at h <;> first | (cases h; done) | skip
   simp [h]
  | arr len sz =>
   cases hx : η x <;> rw [hx] at h <;> simp at h <;> first | (cases h; done) | skip
   simp [h]
 case slicea len sz x lo hi =>
  simp only [aop] at h ⊢
  split at h
  ·simp at h
  ·rename_i h1 h2 h3; first | exact h | (simp only [h1, h2, h3]; exact h)
  ·cases h
 case slice sz x lo hi mx =>
  have h2 : Qjw (η x) = none := by
   cases mx with
   | none =>
    simp only [aop] at h
    split at h
    ·rename_i hx
     split at h
     ·simp [Qwg, Qjx] at h
     ·cases h
    ·split at h
     ·rename_i h1 _; exact Jz h1
     ·cases h
   | some m =>
    simp only [aop] at h
    split at h
    ·rename_i h1 _ _ _; exact Jz h1
    ·cases h
  have h3 := key h2
  cases mx with
  | some m => simp only [aop, ← ZH h3, ← Qdo h3] at h ⊢; exact h
  | none =>
   cases hx : η x <;> (rw [hx] at h2 h3; first | (cases h2; done) | (simp only [aop, hx] at h ⊢; simp only [← ZH h3, ← Qdo h3]; exact h))
 case cap x =>
  simp only [aop] at h ⊢
  cases hx : η x <;> rw [hx] at h <;> simp only at h ⊢ <;> first | exact h | (simp at h; done)
 case strsh x =>
  simp only [aop] at h ⊢
  cases hx : η x <;> rw [hx] at h <;> simp only at h ⊢ <;> first | exact h | (simp at h; done)
 case append ty sz b st x y =>
  simp only [aop] at h
  split at h
  case h_2 => cases h
  rename_i m cs h1
  have h3 := key (Qsw h1)
  simp only [aop, ← QfX h3]
  rw [h1]
  simp only
  split at h
  case isFalse => cases h
  rename_i hl
  rw [qc hl]
  split at h
  ·rename_i hx; first | exact h | (rw [hx]; exact h)
  ·simp at h
  ·cases h
 case appendz ty x y =>
  simp only [aop] at h ⊢
  split at h
  case h_2 => cases h
  rename_i m h1
  split at h
  case isFalse => cases h
  rename_i hl
  split at h
  ·rename_i hx; first | exact h | (simp only [h1, hx, qc hl]; exact h)
  ·simp at h
  ·cases h
 case copy sz st x y =>
  simp only [aop] at h
  split at h
  case h_2 => cases h
  rename_i m cs h1
  have h3 := key (Qsw h1)
  simp only [aop, ← QfX h3]
  rw [h1]
  simp only
  split at h
  case isFalse => cases h
  rename_i hl
  rw [qc hl]
  split at h
  ·rename_i hx; first | exact h | (rw [hx]; exact h)
  ·simp at h
  ·simp at h
  ·cases h
 all_goals exact h
end Go.Am
/- The abstract machine: steps whose order is free. -/
namespace Go.Am
open Go.RowKit
structure It where
 id : Nat
 dat : Bool
 q : AO
def Qlw : Operand → Option Nat
 | .tmp t => some t
 | _ => none
def AO.looks (q : AO) : List Nat :=
 (match q.op with
  | .op p => Qau p
  | .call _ args => args
  | .callv f args => Operand.tmp f :: args).filterMap Qlw ++
 (match q.guard with
  | some (d, _) => [d]
  | none => [])
def AO.rd (q : AO) : Bool := match q.op with | .op p => rdA p | _ => false
def It.rd (x : It) : Bool := x.q.rd && !x.dat
def It.sees (x : It) (ob : List Ob) : List Ob := if x.dat then [] else ob
def It.ef (x : It) : Bool := x.dat && (match x.q.op with | .callv .. => true | .call .. => true | _ => false)
def AO.isC (q : AO) : Bool := match q.op with | .callv .. => true | .call .. => true | _ => false
def It.ro (x : It) : Bool := x.q.isC && !x.dat && x.id == 1
def AO.wr (q : AO) : Bool := match q.op with | .op p => wrA p | _ => false
def AO.fr (q : AO) : Bool := match q.op with | .op p => frA p | _ => false
def QDp (x y : It) : Bool :=
 (match x.q.dst with | some d => !(y.q.looks.contains d) && y.q.dst != some d | none => true) &&
 (match y.q.dst with | some d => !(x.q.looks.contains d) | none => true) &&
 (!x.q.wr || !y.rd && !y.q.wr) && (!y.q.wr || !x.rd && !x.q.wr) && (!x.q.fr || !y.q.fr || x.id != y.id) && !x.ef && !y.ef && (!x.ro || !y.q.wr && !y.q.fr && (!y.q.isC || y.ro)) && (!y.ro || !x.q.wr && !x.q.fr && (!x.q.isC || x.ro))
structure Ind (x y : It) : Prop where
 a : ∀ d, x.q.dst = some d → d ∉ y.q.looks
 b : ∀ d, x.q.dst = some d → y.q.dst ≠ some d
 c : ∀ d, y.q.dst = some d → d ∉ x.q.looks
 d : x.q.wr = true → y.rd = false ∧ y.q.wr = false
 e : y.q.wr = true → x.rd = false ∧ x.q.wr = false
 f : x.q.fr = true → y.q.fr = true → x.id ≠ y.id
 g : x.ef = false
 h : y.ef = false
 i : x.ro = true → y.q.wr = false ∧ y.q.fr = false ∧ (y.q.isC = true → y.ro = true)
 j : y.ro = true → x.q.wr = false ∧ x.q.fr = false ∧ (x.q.isC = true → x.ro = true)
theorem Qo7 {x y : It} (h : QDp x y = true) : Ind x y := by
 simp only [QDp, qo, jW, jY, bne_iff_ne] at h
 obtain ⟨⟨⟨⟨⟨⟨⟨⟨h1, h2⟩, h3⟩, h4⟩, h5⟩, h6⟩, h7⟩, h8⟩, h9⟩ := h
 refine ⟨fun d hd => ?_, fun d hd => ?_, fun d hd => ?_, fun hd => ?_, fun hd => ?_, fun hx hy => ?_, h6, h7, fun hr => ?_, fun hr => ?_⟩
 ·simp [hd] at h1; exact h1.1
 ·simp [hd] at h1; exact h1.2
 ·simp [hd] at h2; exact h2
 ·rcases h3 with h3 | h3; rw [hd] at h3; cases h3; exact h3
 ·rcases h4 with h4 | h4; rw [hd] at h4; cases h4; exact h4
 ·rcases h5 with (h5 | h5) | h5
  ·rw [hx] at h5; cases h5
  ·rw [hy] at h5; cases h5
  ·exact h5
 ·rcases h8 with h8 | ⟨⟨h8, h8'⟩, h8''⟩
  ·rw [hr] at h8; cases h8
  ·exact ⟨h8, h8', fun hc => h8''.resolve_left (by rw [hc]; simp)⟩
 ·rcases h9 with h9 | ⟨⟨h9, h9'⟩, h9''⟩
  ·rw [hr] at h9; cases h9
  ·exact ⟨h9, h9', fun hc => h9''.resolve_left (by rw [hc]; simp)⟩
def QiD : Operand → Operand → Bool
 | .const (.int k n), .const (.int k' m) => decide (k = k') && decide (n = m)
 | _, _ => false
theorem QtU {l c : Operand} (h : QiD l c = true) : l = c := by
 unfold QiD at h
 split at h
 ·simp only [qo, qr] at h
  rw [h.1, h.2]
 ·cases h
def QK : AOp → Bool
 | .bslice .. => true
 | .mv .. => false
 | .pick .. => false
 | .alloc .. => false
 | .box .. => false
 | .build .. => false
 | .load .. => false
 | .store .. => false
 | .nilck .. => false
 | .bin .. => false
 | .beq .. => false
 | .nileq .. => false
 | .un .. => false
 | .conv .. => false
 | .mkfn .. => false
 | .mkslice _ _ _ _ l c => QiD l c
 | .slices .. => false
 | .slice .. => false
 | .slicea .. => false
 | .faddr .. => false
 | .field .. => false
 | .iaddr .. => false
 | .index .. => false
 | .extract .. => false
 | .len .. => false
 | .append .. => false
 | .appendz .. => false
 | .copy .. => false
 | .min .. => false
 | .max .. => false
 | .aggeq .. => false
 | .cap .. => false
 | .strsh .. => false
 | .ifeq .. => false
 | .bad => false
def Qdp : Bool → Option (AV × Option (Nat × Ob)) → Option (AV × Option (Nat × Ob))
 | false, r => r
 | true, some (.own o n, some (i, b)) => if o = i ∧ n = b.n ∧ isDL b.cs = true then some (.list n b.cs, none) else none
 | true, _ => none
theorem QiC {t : Bool} {r : Option (AV × Option (Nat × Ob))} {v : AV} {u : Nat × Ob} (h : Qdp t r = some (v, some u)) : t = false ∧ r = some (v, some u) := by
 unfold Qdp at h
 split at h
 ·exact ⟨rfl, h⟩
 ·split at h <;> cases h
 ·cases h
theorem QtT {r : Option (AV × Option (Nat × Ob))} {v : AV} {u : Option (Nat × Ob)} (h : Qdp true r = some (v, u)) : u = none ∧ ∃ i b, r = some (.own i b.n, some (i, b)) ∧ v = .list b.n b.cs ∧ isDL b.cs = true := by
 unfold Qdp at h
 split at h
 ·contradiction
 ·rename_i i b _
  split at h
  ·rename_i hq
   obtain ⟨rfl, rfl, h3⟩ := hq
   cases h
   exact ⟨rfl, _, b, rfl, rfl, h3⟩
  ·cases h
 ·cases h
def Qdc (P : Prg) (ef : Bool) (k : Nat) (f : FuncId) (avs : List AV) (ob : List Ob) (r : AV) (u : Option (Nat × Ob)) : Prop :=
 if ef then ACall P f avs ob (fun r' ob' => r' = r ∧ ob' = app ob u) ∧ (∀ o x', u = some (o, x') → ∃ x, ob[o]? = some x ∧ x ≠ ph)
 else if k = 1 then ACall P f avs ob (fun r' ob' => r' = r ∧ ob' = ob) ∧ u = none
 else (VC P f avs r ∧ u = none) ∨ ∃ o x, QgA P f ∧ (∀ ob', ob'[o]? = some ph2 → ACall P f avs ob' (fun r' ob'' => r' = r ∧ ob'' = ob'.set o x)) ∧ u = some (o, x) ∧ ob[o]? = some ph2 ∧ x.sz ≠ 0
def Qbt (P : Prg) (x : It) (st st' : St) : Prop :=
 match Zz st.fr x.q.guard with
 | some true =>
  match x.q.op with
  | .op p => ∃ v u, Qdp (x.dat && QK p) (aop (opd P.G st.fr) (x.sees st.ob) x.id p) = some (v, u) ∧ (u = none ∨ okW p = true) ∧ st' = ⟨Xy st.fr x.q.dst v, app st.ob u⟩
  | .call f args => ∃ r u, Qdc P x.dat x.id f (args.map (opd P.G st.fr)) st.ob r u ∧ st' = ⟨Xy st.fr x.q.dst r, app st.ob u⟩
  | .callv f args =>
   match look st.fr f with
   | .fn (.func g) fs cs => ∃ r u, Qdc P x.dat x.id g (fs ++ args.map (opd P.G st.fr) ++ cs) st.ob r u ∧ st' = ⟨Xy st.fr x.q.dst r, app st.ob u⟩
   | _ => False
 | some false => st' = ⟨Xy st.fr x.q.dst (.tup []), st.ob⟩
 | none => False
def Same (s t : St) : Prop := (∀ i, look s.fr i = look t.fr i) ∧ s.ob = t.ob
theorem Same.refl (s : St) : Same s s := ⟨fun _ => rfl, rfl⟩
theorem Same.symm {s t : St} (h : Same s t) : Same t s := ⟨fun i => (h.1 i).symm, h.2.symm⟩
theorem Same.trans {s t u : St} (h : Same s t) (g : Same t u) : Same s u := ⟨fun i => (h.1 i).trans (g.1 i), h.2.trans g.2⟩
theorem QlR {G : List (Nat × List AV)} {fr fr' : List (Nat × AV)} {x : Operand} (h : ∀ t, x = .tmp t → look fr t = look fr' t) : opd G fr x = opd G fr' x := by
 cases x <;> simp only [opd]
 exact h _ rfl
theorem Qnx {fr fr' : List (Nat × AV)} {g : Option (Nat × Bool)} (h : ∀ d b, g = some (d, b) → look fr d = look fr' d) : Zz fr g = Zz fr' g := by
 cases g with
 | none => rfl
 | some p => obtain ⟨d, b⟩ := p; simp only [Zz, h d b rfl]
theorem Qwy {fr fr' : List (Nat × AV)} (h : ∀ i, look fr i = look fr' i) (dst : Option Nat) (v : AV) : ∀ i, look (Xy fr dst v) i = look (Xy fr' dst v) i := by
 intro i
 cases dst with
 | none => exact h i
 | some d => simp only [Xy, Qf7, h i]
theorem XV {fr : List (Nat × AV)} {dst : Option Nat} {v : AV} {i : Nat} (h : dst ≠ some i) : look (Xy fr dst v) i = look fr i := by
 cases dst with
 | none => rfl
 | some d => simp only [Xy, Qf7]; rw [qa (fun e => h (by rw [e]))]
theorem Qwz {fr : List (Nat × AV)} {x y : Option Nat} {v u : AV} (h : ∀ d, x = some d → y ≠ some d) : ∀ i, look (Xy (Xy fr x v) y u) i = look (Xy (Xy fr y u) x v) i := by
 intro i
 by_cases hx : x = some i
 ·have hy := h i hx
  rw [XV hy]
  subst hx
  simp only [Xy, Qf7, yf]
 ·rw [XV (v := v) (dst := x) (fr := Xy fr y u) hx]
  by_cases hy : y = some i
  ·subst hy; simp only [Xy, Qf7, yf]
  ·rw [XV hy, XV hx, XV hy]
theorem Qf6 {q : AO} {t : Nat} : (match q.op with | .op p => Operand.tmp t ∈ Qau p | .call _ args => .tmp t ∈ args | .callv f args => f = t ∨ .tmp t ∈ args) → t ∈ q.looks := by
 intro h
 unfold AO.looks
 refine qB.2 (.inl ?_)
 rw [List.mem_filterMap]
 refine ⟨.tmp t, ?_, rfl⟩
 cases hq : q.op with
 | op p => rw [hq] at h; exact h
 | call f args => rw [hq] at h; exact h
 | callv f args =>
  rw [hq] at h
  rcases h with h | h
  ·rw [h]; exact List.mem_cons_self
  ·exact jg _ h
theorem QiM {q : AO} {d : Nat} {b : Bool} (h : q.guard = some (d, b)) : d ∈ q.looks := by
 unfold AO.looks
 refine qB.2 (.inr ?_)
 rw [h]; exact List.mem_cons_self
def QlQ (P : Prg) (x : It) (fr : List (Nat × AV)) (ob : List Ob) (v : AV) (u : Option (Nat × Ob)) : Prop :=
 match Zz fr x.q.guard with
 | some true =>
  match x.q.op with
  | .op p => Qdp (x.dat && QK p) (aop (opd P.G fr) (x.sees ob) x.id p) = some (v, u) ∧ (u = none ∨ okW p = true)
  | .call f args => Qdc P x.dat x.id f (args.map (opd P.G fr)) ob v u
  | .callv f args =>
   match look fr f with
   | .fn (.func g) fs cs => Qdc P x.dat x.id g (fs ++ args.map (opd P.G fr) ++ cs) ob v u
   | _ => False
 | some false => v = .tup [] ∧ u = none
 | none => False
theorem QaP {P : Prg} {x : It} {st st' : St} : Qbt P x st st' ↔ ∃ v u, QlQ P x st.fr st.ob v u ∧ st' = ⟨Xy st.fr x.q.dst v, app st.ob u⟩ := by
 unfold Qbt QlQ
 cases Zz st.fr x.q.guard with
 | none => simp
 | some t =>
  cases t with
  | false =>
   constructor
   ·rintro rfl; exact ⟨_, _, ⟨rfl, rfl⟩, rfl⟩
   ·rintro ⟨v, u, ⟨rfl, rfl⟩, rfl⟩; rfl
  | true =>
   cases x.q.op with
   | op p =>
    constructor
    ·rintro ⟨v, u, h1, h2, h3⟩; exact ⟨v, u, ⟨h1, h2⟩, h3⟩
    ·rintro ⟨v, u, ⟨h1, h2⟩, h3⟩; exact ⟨v, u, h1, h2, h3⟩
   | call f args => exact Iff.rfl
   | callv f args =>
    simp only
    split
    ·exact Iff.rfl
    ·simp
theorem QgJ {P : Prg} {x : It} {fr fr' : List (Nat × AV)} {ob : List Ob} {v : AV} {u : Option (Nat × Ob)} (h : ∀ t ∈ x.q.looks, look fr t = look fr' t) (ho : QlQ P x fr ob v u) : QlQ P x fr' ob v u := by
 have hg : Zz fr x.q.guard = Zz fr' x.q.guard := Qnx fun d b e => h d (QiM e)
 unfold QlQ at ho ⊢
 rw [hg] at ho
 split
 ·rename_i hw
  rw [hw] at ho
  simp only at ho
  split
  ·rename_i p hp
   rw [hp] at ho
   simp only at ho
   refine ⟨?_, ho.2⟩
   rw [← ho.1]
   congr 1
   exact (QBx fun y hy => QlR fun t e => h t (Qf6 (by rw [hp]; subst e; exact hy))).symm
  ·rename_i f args hp
   rw [hp] at ho
   simp only at ho
   have : args.map (opd P.G fr) = args.map (opd P.G fr') := qU fun y hy => QlR fun t e => h t (Qf6 (by rw [hp]; subst e; exact hy))
   rw [this] at ho
   exact ho
  ·rename_i f args hp
   rw [hp] at ho
   simp only at ho
   have : args.map (opd P.G fr) = args.map (opd P.G fr') := qU fun y hy => QlR fun t e => h t (Qf6 (by rw [hp]; subst e; exact .inr hy))
   rw [this, h f (Qf6 (by rw [hp]; exact .inl rfl))] at ho
   exact ho
 ·rename_i hw
  rw [hw] at ho
  exact ho
 ·rename_i hw
  rw [hw] at ho
  exact ho
theorem QkD {P : Prg} {x : It} {fr : List (Nat × AV)} {ob ob' : List Ob} {v : AV} {u : Option (Nat × Ob)} (hx : x.ef = false) (hx1 : x.ro = false) (h : x.rd = true → ∀ (y : Operand) (o : Nat), Qjw (opd P.G fr y) = some o → ob[o]? = ob'[o]?)
  (hu : ∀ o x', u = some (o, x') → ob[o]? = some ph2 → ob'[o]? = some ph2) (ho : QlQ P x fr ob v u) : QlQ P x fr ob' v u := by
 have key : ∀ {k : Nat} {f : FuncId} {avs : List AV}, k ≠ 1 → Qdc P false k f avs ob v u → Qdc P false k f avs ob' v u := fun hk h => by
  simp only [Qdc, qS, yl, qa hk] at h ⊢
  rcases h with h | ⟨o, x', h1, h2, h3, h4, h5⟩
  ·exact .inl h
  ·exact .inr ⟨o, x', h1, h2, h3, hu o x' h3 h4, h5⟩
 unfold QlQ at ho ⊢
 split
 ·rename_i hw
  rw [hw] at ho
  simp only at ho
  split
  ·rename_i p hp
   rw [hp] at ho
   simp only at ho
   refine ⟨?_, ho.2⟩
   rw [← ho.1]
   congr 1
   unfold It.sees
   cases hdat : x.dat with
   | true => rfl
   | false => exact (Qgt fun hr y _ o hy => h (by simp only [It.rd, AO.rd, hp, hr, hdat]; rfl) y o hy).symm
  ·rename_i f args hp
   rw [hp] at ho
   have hd : x.dat = false := by simpa [It.ef, hp] using hx
   have hk : x.id ≠ 1 := by simpa [It.ro, AO.isC, hp, hd] using hx1
   simp only [hd] at ho ⊢
   exact key hk ho
  ·rename_i f args hp
   rw [hp] at ho
   have hd : x.dat = false := by simpa [It.ef, hp] using hx
   have hk : x.id ≠ 1 := by simpa [It.ro, AO.isC, hp, hd] using hx1
   simp only [hd] at ho ⊢
   split at ho
   ·exact key hk ho
   ·exact ho.elim
 ·rename_i hw
  rw [hw] at ho
  exact ho
 ·rename_i hw
  rw [hw] at ho
  exact ho
theorem JY {P : Prg} {x : It} {fr : List (Nat × AV)} {ob : List Ob} {v : AV} {o : Nat} {x' : Ob} (hx : x.ef = false) (h : QlQ P x fr ob v (some (o, x'))) :
  (x.q.fr = true ∧ o = x.id ∧ x'.sz ≠ 0) ∨ (x.q.wr = true ∧ (∃ y, Qjw (opd P.G fr y) = some o) ∧ ∃ b, ob[o]? = some b ∧ x'.sz = b.sz) ∨ (ob[o]? = some ph2 ∧ x'.sz ≠ 0) := by
 have key : ∀ {k : Nat} {f : FuncId} {avs : List AV}, Qdc P false k f avs ob v (some (o, x')) → ob[o]? = some ph2 ∧ x'.sz ≠ 0 := fun h => by
  simp only [Qdc, qS, yl] at h
  split at h
  ·cases h.2
  rcases h with ⟨_, h⟩ | ⟨o, x', h1, h2, h3, h4, h5⟩
  ·cases h
  ·cases h3; exact ⟨h4, h5⟩
 unfold QlQ at h
 split at h
 ·split at h
  ·rename_i p hp
   rcases QpO (h.2.resolve_left (by simp)) (QiC h.1).2 with ⟨h1, h2, h3⟩ | ⟨h1, ⟨y, _, h2⟩, b, h3, h4⟩
   ·exact .inl ⟨by simp only [AO.fr, hp, h1], h2, h3⟩
   ·refine .inr (.inl ⟨by simp only [AO.wr, hp, h1], ⟨y, h2⟩, b, ?_, h4⟩)
    unfold It.sees at h3
    split at h3
    ·simp at h3
    ·exact h3
  ·rename_i hp
   have hd : x.dat = false := by simpa [It.ef, hp] using hx
   rw [hd] at h
   exact .inr (.inr (key h))
  ·rename_i hp
   split at h
   ·have hd : x.dat = false := by simpa [It.ef, hp] using hx
    rw [hd] at h
    exact .inr (.inr (key h))
   ·exact h.elim
 ·cases h.2
 ·exact h.elim
theorem QkE {P : Prg} {x : It} {fr : List (Nat × AV)} {ob : List Ob} {v : AV} {u : Option (Nat × Ob)} (hx : x.ef = false) (h1 : x.q.wr = false) (h2 : x.q.fr = false) (h3 : x.q.isC = true → x.ro = true) (h : QlQ P x fr ob v u) : u = none := by
 have hro : ∀ {k : Nat} {f : FuncId} {avs : List AV}, k = 1 → Qdc P false k f avs ob v u → u = none := fun hk h => by
  simp only [Qdc, qS, yl, qc hk] at h
  exact h.2
 cases u with
 | none => rfl
 | some ux =>
  obtain ⟨o, x'⟩ := ux
  have h0 := h
  unfold QlQ at h
  split at h
  ·split at h
   ·rename_i p hp
    rcases JY hx h0 with ⟨a, _⟩ | ⟨a, _⟩ | ⟨a, b⟩
    ·rw [h2] at a; cases a
    ·rw [h1] at a; cases a
    ·rcases QpO (h.2.resolve_left (by simp)) (QiC h.1).2 with ⟨a, _⟩ | ⟨a, _⟩
     ·rw [show x.q.fr = true by simp only [AO.fr, hp, a]] at h2; cases h2
     ·rw [show x.q.wr = true by simp only [AO.wr, hp, a]] at h1; cases h1
   ·rename_i hp
    have hr := h3 (by simp [AO.isC, hp])
    simp only [It.ro, qo, jY, beq_iff_eq] at hr
    rw [hr.1.2] at h
    exact absurd (hro hr.2 h) (by simp)
   ·rename_i hp
    have hr := h3 (by simp [AO.isC, hp])
    simp only [It.ro, qo, jY, beq_iff_eq] at hr
    split at h
    ·rw [hr.1.2] at h
     exact absurd (hro hr.2 h) (by simp)
    ·exact h.elim
  ·cases h.2
  ·exact h.elim
def QzK (G : List (Nat × List AV)) (st : St) : Prop := ∀ (y : Operand) (o : Nat), Qjw (opd G st.fr y) = some o → ∃ b, st.ob[o]? = some b ∧ b.sz ≠ 0
theorem QlU {ob : List Ob} {o : Nat} (h : ∃ b, ob[o]? = some b ∧ b.sz ≠ 0) : ob[o]? ≠ some ph ∧ ob[o]? ≠ some ph2 ∧ o < ob.length := by
 obtain ⟨b, h1, h2⟩ := h
 refine ⟨fun e => ?_, fun e => ?_, (qd.1 h1).1⟩
 ·rw [h1] at e; cases e; exact h2 rfl
 ·rw [h1] at e; cases e; exact h2 rfl
theorem J2 {ob : List Ob} {o o' : Nat} {x' : Ob} (h : o < ob.length) (hne : o' ≠ o) : (app ob (some (o, x')))[o']? = ob[o']? := by
 simp only [app, qc h]
 exact q9 fun e => hne e.symm
theorem Qu8 {ob : List Ob} {o : Nat} {x' : Ob} (h : o < ob.length) : (app ob (some (o, x')))[o]? = some x' := by
 simp only [app, qc h]
 exact List.getElem?_set_self h
theorem QzI {ob : List Ob} {o o' : Nat} {x x' : Ob} (h : o < ob.length) (h' : o' < ob.length) (hne : o ≠ o') : app (app ob (some (o, x))) (some (o', x')) = app (app ob (some (o', x'))) (some (o, x)) := by
 simp only [app, qc h, qc h', y8]
 exact List.set_comm _ _ hne
theorem QDF {P : Prg} {x y : It} {s s1 s2 : St} (hi : Ind x y) (hc : QzK P.G s) (hx : x.q.fr = true → s.ob[x.id]? = some ph) (hy : y.q.fr = true → s.ob[y.id]? = some ph)
  (h1 : Qbt P x s s1) (h2 : Qbt P y s1 s2) : ∃ t1 t2, Qbt P y s t1 ∧ Qbt P x t1 t2 ∧ Same t2 s2 := by
 obtain ⟨v, u, ho, rfl⟩ := QaP.1 h1
 obtain ⟨v', u', ho', rfl⟩ := QaP.1 h2
 simp only at ho'
 have f1 : QlQ P y s.fr (app s.ob u) v' u' := QgJ (fun t ht => by rw [XV]; intro e; exact hi.a t e ht) ho'
 have lt : ∀ {o x'} {z : It} {w : AV}, z.ef = false → QlQ P z s.fr s.ob w (some (o, x')) → (z.q.fr = true → s.ob[z.id]? = some ph) → o < s.ob.length ∧ x'.sz ≠ 0 := fun he ho hz => by
  rcases JY he ho with ⟨h3, rfl, h4⟩ | ⟨_, ⟨z, hz⟩, b, h4, h5⟩ | ⟨h3, h4⟩
  ·exact ⟨(qd.1 (hz h3)).1, h4⟩
  ·obtain ⟨b', h6, h7⟩ := hc z _ hz
   rw [h4] at h6; cases h6
   exact ⟨(qd.1 h4).1, by rw [h5]; exact h7⟩
  ·exact ⟨(qd.1 h3).1, h4⟩
 have hne : ∀ (o : Nat) (x' : Ob) (o' : Nat) (y' : Ob), u = some (o, x') → u' = some (o', y') → o ≠ o' := by
  rintro o x' o' y' rfl rfl e
  subst e
  obtain ⟨l1, l2⟩ := lt hi.g ho hx
  rcases JY hi.h f1 with ⟨h4, e4, _⟩ | ⟨h4, ⟨z', hz'⟩, _⟩ | ⟨h4, _⟩
  ·rcases JY hi.g ho with ⟨h3, e3, _⟩ | ⟨h3, ⟨z, hz⟩, _⟩ | ⟨h3, _⟩
   ·exact hi.f h3 h4 (by rw [← e3, e4])
   ·rw [e4] at hz; exact (QlU (hc z _ hz)).1 (hy h4)
   ·rw [e4, hy h4] at h3; cases h3
  ·rcases JY hi.g ho with ⟨h3, e3, _⟩ | ⟨h3, ⟨z, hz⟩, _⟩ | ⟨h3, _⟩
   ·rw [e3] at hz'; exact (QlU (hc z' _ hz')).1 (hx h3)
   ·have := (hi.d h3).2; rw [h4] at this; cases this
   ·exact (QlU (hc z' _ hz')).2.1 h3
  ·rw [Qu8 l1] at h4
   cases h4
   exact l2 rfl
 have f2 : QlQ P y s.fr s.ob v' u' := by
  cases u with
  | none => exact f1
  | some ux =>
   have hy1 : y.ro = false := by
    cases hq : y.ro with
    | false => rfl
    | true => obtain ⟨a, b, c⟩ := hi.j hq; cases QkE hi.g a b c ho
   obtain ⟨o, x'⟩ := ux
   refine QkD hi.h hy1 (fun hr z o' hz => ?_) (fun o' y' e h => ?_) f1
   ·refine J2 (lt hi.g ho hx).1 fun e => ?_
    subst e
    rcases JY hi.g ho with ⟨h3, rfl, _⟩ | ⟨h3, _⟩ | ⟨h3, _⟩
    ·exact (QlU (hc z _ hz)).1 (hx h3)
    ·have := (hi.d h3).1; rw [this] at hr; cases hr
    ·exact (QlU (hc z _ hz)).2.1 h3
   ·rwa [J2 (lt hi.g ho hx).1 (fun e' => hne _ _ _ _ rfl e e'.symm)] at h
 have g1 : QlQ P x s.fr (app s.ob u') v u := by
  cases u' with
  | none => exact ho
  | some ux =>
   have hx1 : x.ro = false := by
    cases hq : x.ro with
    | false => rfl
    | true => obtain ⟨a, b, c⟩ := hi.i hq; cases QkE hi.h a b c f2
   obtain ⟨o, x'⟩ := ux
   refine QkD hi.g hx1 (fun hr z o' hz => ?_) (fun o' y' e h => ?_) ho
   ·refine (J2 (lt hi.h f2 hy).1 fun e => ?_).symm
    subst e
    rcases JY hi.h f2 with ⟨h3, rfl, _⟩ | ⟨h3, _⟩ | ⟨h3, _⟩
    ·exact (QlU (hc z _ hz)).1 (hy h3)
    ·have := (hi.e h3).1; rw [this] at hr; cases hr
    ·exact (QlU (hc z _ hz)).2.1 h3
   ·rw [J2 (lt hi.h f2 hy).1 (hne _ _ _ _ e rfl)]
    exact h
 have g2 : QlQ P x (Xy s.fr y.q.dst v') (app s.ob u') v u := QgJ (fun t ht => by rw [XV]; intro e; exact hi.c t e ht) g1
 refine ⟨⟨Xy s.fr y.q.dst v', app s.ob u'⟩, ⟨Xy (Xy s.fr y.q.dst v') x.q.dst v, app (app s.ob u') u⟩, QaP.2 ⟨_, _, f2, rfl⟩, QaP.2 ⟨_, _, g2, rfl⟩, fun i => (Qwz hi.b i).symm, ?_⟩
 cases u with
 | none => rfl
 | some ux =>
  cases u' with
  | none => rfl
  | some uy =>
   obtain ⟨o, x'⟩ := ux
   obtain ⟨o', y'⟩ := uy
   exact QzI (lt hi.h f2 hy).1 (lt hi.g ho hx).1 fun e => hne _ _ _ _ rfl rfl e.symm
theorem Qbt.same {P : Prg} {x : It} {s s1 t : St} (h : Qbt P x s s1) (hs : Same s t) : ∃ t1, Qbt P x t t1 ∧ Same s1 t1 := by
 obtain ⟨v, u, ho, rfl⟩ := QaP.1 h
 refine ⟨_, QaP.2 ⟨v, u, ?_, rfl⟩, Qwy hs.1 _ _, by rw [hs.2]⟩
 have := QgJ (fr' := t.fr) (fun i _ => hs.1 i) ho
 rwa [hs.2] at this
def Qhh (P : Prg) : List It → St → St → Prop
 | [], s, t => Same s t
 | x :: l, s, t => ∃ s1, Qbt P x s s1 ∧ Qhh P l s1 t
theorem Qhh.same {P : Prg} : ∀ {l : List It} {s t s' : St}, Qhh P l s t → Same s s' → Qhh P l s' t
 | [], _, _, _, h, hs => hs.symm.trans h
 | _ :: _, _, _, _, ⟨s1, h1, h2⟩, hs => by
  obtain ⟨t1, h3, h4⟩ := h1.same hs
  exact ⟨t1, h3, h2.same h4⟩
def QAm (l : List It) (s : St) : Prop := ∀ x ∈ l, x.q.fr = true → s.ob[x.id]? = some ph
theorem Qbt.pend {P : Prg} {x : It} {l : List It} {s s1 : St} (h : Qbt P x s s1) (hc : QzK P.G s) (hx : x.q.fr = true → s.ob[x.id]? = some ph) (hl : QAm l s) (hd : ∀ y ∈ l, x.q.fr = true → y.q.fr = true → x.id ≠ y.id) : QAm l s1 := by
 obtain ⟨v, u, ho, rfl⟩ := QaP.1 h
 intro y hy hf
 have h0 := hl y hy hf
 cases u with
 | none => exact h0
 | some ux =>
  obtain ⟨o, x'⟩ := ux
  show (app s.ob (some (o, x')))[y.id]? = some ph
  by_cases he : x.ef = true
  ·obtain ⟨z, hz, hzp⟩ : ∃ z, s.ob[o]? = some z ∧ z ≠ ph := by
    unfold QlQ at ho
    split at ho
    ·split at ho
     ·rename_i hp; simp [It.ef, hp] at he
     ·have hd : x.dat = true := by simp only [It.ef, qo] at he; exact he.1
      simp only [Qdc, hd, yf] at ho
      exact ho.2 _ _ rfl
     ·split at ho
      ·have hd : x.dat = true := by simp only [It.ef, qo] at he; exact he.1
       simp only [Qdc, hd, yf] at ho
       exact ho.2 _ _ rfl
      ·exact ho.elim
    ·cases ho.2
    ·exact ho.elim
   rw [J2 (qd.1 hz).1 (fun e => by subst e; rw [hz] at h0; exact hzp (Option.some.inj h0))]
   exact h0
  rcases JY (by simpa using he) ho with ⟨h3, rfl, _⟩ | ⟨_, ⟨z, hz⟩, _⟩ | ⟨h3, _⟩
  ·rw [J2 (qd.1 (hx h3)).1 (fun e => hd y hy h3 hf e.symm)]
   exact h0
  ·rw [J2 (QlU (hc z _ hz)).2.2 (fun e => by subst e; exact (QlU (hc z _ hz)).1 h0)]
   exact h0
  ·rw [J2 (qd.1 h3).1 (fun e => by subst e; rw [h3] at h0; cases h0)]
   exact h0
theorem Qhh.front {P : Prg} (Fine : St → Prop) (hfc : ∀ s, Fine s → QzK P.G s) : ∀ {pre : List It} {x : It} {post : List It} {s t : St}, Fine s → QAm (pre ++ x :: post) s →
  (∀ (y : It) (s s1 : St), y ∈ pre → Fine s → (y.q.fr = true → s.ob[y.id]? = some ph) → Qbt P y s s1 → Fine s1) →
  (∀ y ∈ pre, Ind y x) → (pre ++ x :: post).Pairwise (fun a b => a.q.fr = true → b.q.fr = true → a.id ≠ b.id) →
  Qhh P (pre ++ x :: post) s t → Qhh P (x :: (pre ++ post)) s t
 | [], _, _, _, _, _, _, _, _, _, h => h
 | y :: pre, x, post, s, t, hF, hp, hstep, hi, hd, h => by
  obtain ⟨s1, h1, h2⟩ := h
  have hy : y.q.fr = true → s.ob[y.id]? = some ph := hp y (by simp)
  have hF1 : Fine s1 := hstep y s s1 (by simp) hF hy h1
  rw [yk, jP] at hd
  have hp1 : QAm (pre ++ x :: post) s1 := h1.pend (hfc _ hF) hy (fun z hz => hp z (by simp only [yk, ym]; exact .inr hz)) (fun z hz => hd.1 z hz)
  obtain ⟨s2, h3, h4⟩ := Qhh.front Fine hfc hF1 hp1 (fun z a b hz => hstep z a b (by simp [hz])) (fun z hz => hi z (by simp [hz])) hd.2 h2
  obtain ⟨t1, t2, q1, q2, q3⟩ := QDF (hi y (by simp)) (hfc _ hF) hy (hp x (by simp)) h1 h3
  exact ⟨t1, q1, t2, q2, h4.same q3.symm⟩
end Go.Am
/- The abstract machine: regions whose order Go leaves open. -/
namespace Go.Am
open Go.RowKit
theorem QiT {B : Nat} {X : Cx} (g : Held B X) {e : TypeId} {n : Nat} {cs : List AV} {vs : List Value} (hr : RepL X cs vs) (h1 : ∀ v ∈ vs, v.oneCell' = true) {r : Result Next}
  (hrun : r = .ok (.value (.slice (some ⟨X.w.heap.size, 0, none⟩) n n)) (X.w.alloc (.cells vs.toArray e))) : Eff B X r (.list n cs) X.ob := by
 have hb : Below X.w.heap.size X.w (X.w.alloc (.cells vs.toArray e)) := Qdx _ (qj _) _
 have g' := g.below hb
 refine ⟨_, _, X.be, .inl hrun, hb.mono g.size, g', Moves.below hb, ?_⟩
 simp only [Rep]
 have hh : (X.w.alloc (.cells vs.toArray e)).heap[X.w.heap.size]? = some (.cells vs.toArray e (0, 0)) := by simp only [World.alloc]; exact Array.getElem?_push_size
 refine ⟨_, n, vs, rfl, qj _, .inr ⟨X.w.heap.size, 0, rfl, fun i v hv => ⟨⟨?_, ?_⟩, h1 v (yt hv)⟩⟩, RepL.move (Moves.below hb) _ _ hr⟩
 ·show (X.w.alloc (.cells vs.toArray e)).cell? _ = _
  rw [cell_of_row _ _ _ _ _ _ hh]
  simpa using hv
 ·rintro (h | ⟨o, x, c, q1, q2, _⟩)
  ·have h2 := g.bnd _ _ h
   have h3 := g.size
   exact absurd h2 (by show ¬ X.w.heap.size < B; omega)
  ·have := g.block_lt (X := X) q1 q2
   omega
theorem QiV {B : Nat} {X : Cx} {P : Program} (g : Held B X) {ρ : Operand → Value} {η : Operand → AV} (hρ : ∀ x, Rep X (η x) (ρ x)) {o : Oper} {t e : TypeId} {len s : Nat} {parts : Array (Nat × Operand)} {z : Value} {cs : List AV} (ho : o.op = .buildSlice t len parts) (ht : P.underlying t = some (.slice e)) (hs : szO P e = some s) (hz : Qbv P e = some z)
  (hle : len * s ≤ 16777216) (h1 : (z.cells.toList.map cV1).all AV.one = true) (hzs : (z.cells.toList.map cV1).length = s) (h0 : 0 < s)
  (h : JM (Qs (z.cells.toList.map cV1) len) (parts.toList.map fun p => (p.1 * s, s, η p.2)) = some cs) : Eff B X ((execOp ρ o).run P X.w) (.list len cs) X.ob := by
 have hzs' : z.cells.size = s := by simpa using hzs
 obtain ⟨cv, e1, e2, e3⟩ := Qbn (X := X) (place := fun i => some (i * s, s)) (parts.toList.map fun p => (p.1 * s, s, η p.2)) (parts.toList.map fun p => (p.1, ρ p.2)) _ _ cs (Xi (X := X) (n := len) hzs' h0) (JX h1 len) (by simp)
  (fun i p q hp hq => by
   simp only [qK, qb] at hp hq
   obtain ⟨p', hp, rfl⟩ := hp
   obtain ⟨q', hq, rfl⟩ := hq
   rw [hp] at hq
   cases hq
   exact ⟨rfl, hρ _⟩) h
 have hlen : cs.length = len * s := by
  have : ∀ (ps : List (Nat × Nat × AV)) (z cs : List AV), JM z ps = some cs → cs.length = z.length := by
   intro ps
   induction ps with
   | nil => intro z cs h; simp [JM] at h; rw [h]
   | cons p ps ih =>
    obtain ⟨off, sz, v⟩ := p
    intro z cs h
    simp only [JM] at h
    split at h
    ·rename_i hc
     simp only [qo, beq_iff_eq, qr] at hc
     rw [ih _ _ h]
     simp; omega
    ·cases h
  rw [this _ _ _ h, Zp, hzs]
 have hmul : len ≤ len * s := Nat.le_mul_of_pos_right _ h0
 refine QiT g (e := e) (vs := cv) e2 e3 ?_
 simp only [j5] at e1
 have e4 : (parts.map fun x => (x.1, ρ x.2)).toList = parts.toList.map fun p => (p.1, ρ p.2) := by simp
 have hle' : ¬ (16777216 < len * s) := by omega
 by_cases hl0 : len = 0
 ·subst hl0
  simp at e1
  have r0 : Array.range 0 = #[] := rfl
  simp [r0] at e1
  simp [execOp, ho, Instr.buildSlice, run_underlying ht, Qaz hs, e1, newRow, r0]
 ·have hne : ¬ (len * s = 0) := by
   have : 0 < len * s := Yo (by omega) h0
   omega
  simp [execOp, ho, Instr.buildSlice, run_underlying ht, Qaz hs, QaM hz, hle', hne, e1, newRow]
theorem QhL {B : Nat} {X : Cx} {P : Program} (g : Held B X) {ρ : Operand → Value} {η : Operand → AV} (hρ : ∀ x, Rep X (η x) (ρ x)) {o : Oper} {t e : TypeId} {l c : Operand} {s b : Nat} {z : Value} {k k' : IntKind} {n : Int} (ho : o.op = .makeSlice t l c) (ht : P.underlying t = some (.slice e)) (hs : szO P e = some s) (hb : byO P e = some b) (hz : Qbv P e = some z)
  (hl : η l = .int k n) (hc : η c = .int k' n) (h0 : 0 ≤ n) (hby : n * b ≤ 281474976710656) (hm : n ≤ 9223372036854775807) (h1 : (z.cells.toList.map cV1).all AV.one = true) (hzs : (z.cells.toList.map cV1).length = s) (hs0 : 0 < s) :
  Eff B X ((execOp ρ o).run P X.w) (.list n.toNat (Qs (z.cells.toList.map cV1) n.toNat)) X.ob := by
 have el := Xe g hρ hl
 have ec := Xe g hρ hc
 have hzs' : z.cells.size = s := by simpa using hzs
 have hw : IntKind.i64.wrap n = n := by
  simp [IntKind.wrap, IntKind.bits, IntKind.signed]
  omega
 unfold byO at hb
 obtain ⟨i, hi, rfl⟩ := qb.1 hb
 refine QiT g (e := e) (vs := ((Array.range (n.toNat * s)).map (z.cells[· % z.cells.size]!)).toList) (Xi hzs' hs0) (QeZ (JX h1 _) (Xi (X := X) hzs' hs0)) ?_
 have hby' : ¬ (281474976710656 < (i.bytes : Int) * n) := by rw [Int.mul_comm]; omega
 have hneg : ¬ (n < 0) := by omega
 by_cases hn0 : n.toNat = 0
 ·have : n = 0 := by omega
  subst this
  have r0 : Array.range 0 = #[] := rfl
  simp [execOp, ho, Instr.makeSlice, run_underlying ht, el, ec, asInt, asIntOf, typeInfo, hi, hw, Qaz hs, newRow, r0]
 ·have hne : ¬ (n.toNat * s = 0) := by
   have : 0 < n.toNat * s := Yo (by omega) hs0
   omega
  simp only [execOp, ho, Instr.makeSlice]
  simp [run_underlying ht, el, ec, asInt, asIntOf, typeInfo, hi, hw, Qaz hs, QaM hz, newRow, hby', hneg, hne]
  congr 2
  apply yN
  simp [Array.toList_range]
theorem QCE {P : Program} {op : Op} {p : AOp} (h : cOp P op = some p) (hf : QK p = true) : (∃ t len parts, op = .buildSlice t len parts ∧ QiZ P t len parts = some p) ∨ ∃ t l c, op = .makeSlice t l c ∧ Qd5 P t l c = some p := by
 cases op <;> first | (simp only [cOp] at h; cases h; done) | skip
 case buildSlice t len parts => exact .inl ⟨t, len, parts, rfl, h⟩
 case makeSlice t l c => exact .inr ⟨t, l, c, rfl, h⟩
 all_goals exfalso
 all_goals simp only [cOp] at h
 all_goals try (cases h; cases hf; done)
 all_goals try (obtain ⟨_, _, rfl⟩ := qb.1 h; cases hf; done)
 all_goals try unfold Qtm at h
 all_goals try unfold QC1 at h
 all_goals try unfold QzB at h
 all_goals try unfold Qd5 at h
 all_goals try unfold Qtg at h
 all_goals try unfold Qtl at h
 all_goals try unfold Qtk at h
 all_goals try unfold Qtj at h
 all_goals try unfold Qti at h
 all_goals try (unfold QBm at h; split at h)
 all_goals try unfold QC0 at h
 all_goals try unfold Qml at h
 all_goals try unfold QzA at h
 all_goals try unfold QDs at h
 all_goals try (split at h)
 all_goals try (split at h)
 all_goals try (split at h)
 all_goals try (cases h; done)
 all_goals try (cases h; cases hf; done)
 all_goals try (obtain ⟨_, _, rfl⟩ := qb.1 h; cases hf; done)
 all_goals simp only [qC, qn, yu] at h
 all_goals try (obtain ⟨_, _, h⟩ := h)
 all_goals try (obtain ⟨_, _, h⟩ := h)
 all_goals try (obtain ⟨_, _, h⟩ := h)
 all_goals try (obtain ⟨_, _, h⟩ := h)
 all_goals try (split at h)
 all_goals try (simp only [qn] at h)
 all_goals try (obtain ⟨_, _, h⟩ := h)
 all_goals try (split at h)
 all_goals try (split at h)
 all_goals try (cases h; done)
 all_goals try (cases h; cases hf; done)
 all_goals first | (cases hf; done) | (simp [QK] at hf; done)
theorem QtS {B : Nat} {X : Cx} {P : Program} (g : Held B X) {ρ : Operand → Value} {η : Operand → AV} (hρ : ∀ x, Rep X (η x) (ρ x)) {o : Oper} {p : AOp} (hc : cOp P o.op = some p) (hf : QK p = true) {id i : Nat} {b : Ob} (h : aop η X.ob id p = some (.own i b.n, some (i, b))) :
  Eff B X ((execOp ρ o).run P X.w) (.list b.n b.cs) X.ob := by
 rcases QCE hc hf with ⟨t, len, ps, ho, hc⟩ | ⟨t, l, c, ho, hc⟩
 case inr =>
  unfold Qd5 at hc
  simp only [qC, qn] at hc
  obtain ⟨e, he, s, hs, by_, hb, z, hz, hc⟩ := hc
  cases hc
  have hlc : l = c := QtU hf
  subst hlc
  simp only [aop] at h
  split at h
  case h_2 => cases h
  rename_i k n k' m e1 e2
  have hnm : n = m := by rw [e1] at e2; cases e2; rfl
  subst hnm
  split at h
  case isFalse => rw [qa (by omega)] at h; cases h
  rename_i hh
  obtain ⟨_, q1, q2, q3, q4, q5, q6⟩ := hh
  simp only [qi, Prod.mk.injEq, AV.own.injEq] at h
  obtain ⟨⟨rfl, hn⟩, _, rfl⟩ := h
  exact QhL g hρ ho (XN he) hs hb hz e1 e2 q1 q2 q3 q4 q5 q6
 unfold QiZ at hc
 simp only [qC, qn] at hc
 obtain ⟨e, he, s, hs, z, hz, hc⟩ := hc
 split at hc <;> cases hc
 rename_i hle
 simp only [aop, Yr] at h
 split at h
 case isFalse => cases h
 rename_i h1
 simp only [qo, beq_iff_eq, qr] at h1
 split at h
 case h_2 => cases h
 rename_i cs hcs
 simp only [qi, Prod.mk.injEq, AV.own.injEq] at h
 obtain ⟨⟨rfl, hn⟩, _, rfl⟩ := h
 exact QiV g hρ ho (XN he) hs hz hle h1.1.1 h1.1.2 h1.2 (by simpa [Function.comp_def] using hcs)
theorem QCK {η : Operand → AV} {ob : List Ob} {id id' : Nat} {p : AOp} (h : frA p = false) : aop η ob id p = aop η ob id' p := by
 cases p <;> first | rfl | (cases h; done)
section
variable {P : Prg} {N : Nat} {Γ : Ctx}
theorem Qiz (hN : Fit P N Γ) {ops : Array Oper} {o : Oper} {x : It} (hq : Qby P N ops o = some x.q) {st st1 : St} (hst : Qbt P x st st1) (hsp : x.q.fr = true → QpW st.ob x.id) {a : Act} {w : World} (hs : Sim Γ st a w) :
  (Region.wanted o (yielded ops a.tmps) = false ∧ Sim Γ st1 (a.put o.dst undef) w) ∨
  (Region.wanted o (yielded ops a.tmps) = true ∧ ∃ v w', ((execOp a.eval o).run P w = .ok (.value v) w' ∨ ((execOp a.eval o).run P w = .ok .skip w' ∧ v = undef)) ∧ Sim Γ st1 (a.put o.dst v) w') ∨
  (Region.wanted o (yielded ops a.tmps) = true ∧ ∃ f vs, (execOp a.eval o).run P w = .ok (.enter f vs) w ∧ Calls P f vs w fun e w' => ∃ v, e = .returned v ∧ Sim Γ st1 (a.put o.dst v) w') := by
 have hsp0 := J1 hq
 obtain ⟨c1, c2, c3, _⟩ := hsp0
 obtain ⟨be, g, hm0, hη, hfr⟩ := hs.eta hN.2
 have hd : ∀ d, o.dst = some d → d < Γ.N := fun d e => by rw [hN.1]; exact c3 d e
 obtain ⟨av, u, ho, rfl⟩ := QaP.1 hst
 unfold QlQ at ho
 split at ho
 case h_3 => exact ho.elim
 case h_2 hwant =>
  obtain ⟨rfl, rfl⟩ := ho
  refine .inl ⟨ZV hq hfr hwant, ?_⟩
  rw [c2]
  exact hs.put hd hm0 hfr (Below.refl _ _) g (Moves.refl _) (by simp [Rep, undef, RepL])
 case h_1 hwant =>
  have hwd := ZV hq hfr hwant
  have call : ∀ (f : FuncId) (avs : List AV) (vs : List Value), RepL ⟨w, st.ob, be, Γ.X0.C⟩ avs vs → (execOp a.eval o).run P w = (callFunc f vs.toArray).run P w →
    VC P f avs av → u = none → ∃ f vs, (execOp a.eval o).run P w = .ok (.enter f vs) w ∧ Calls P f vs w fun e w' => ∃ v, e = .returned v ∧ Sim Γ ⟨Xy st.fr x.q.dst av, app st.ob u⟩ (a.put o.dst v) w' := by
   intro f avs vs hr hrun hvc hu
   subst hu
   have hcall := ACall.of_vc hvc (ob := st.ob) (K := fun r ob' => r = av ∧ ob' = st.ob) ⟨rfl, rfl⟩
   obtain ⟨he, hcall⟩ := hcall
   refine ⟨f, vs.toArray, by rw [hrun, JW he], (hcall Γ.B w be Γ.X0.C vs g (hN.2.move hm0) hr).mono ?_⟩
   rintro e w' ⟨v, r, ob', be', rfl, hb, hh, hm, hv, rfl, rfl⟩
   refine ⟨v, rfl, ?_⟩
   rw [c2]
   exact hs.put hd hm0 hfr hb hh hm hv
  have callE : ∀ (f : FuncId) (avs : List AV) (vs : List Value), RepL ⟨w, st.ob, be, Γ.X0.C⟩ avs vs → (execOp a.eval o).run P w = (callFunc f vs.toArray).run P w →
    ACall P f avs st.ob (fun r' ob' => r' = av ∧ ob' = app st.ob u) → ∃ f vs, (execOp a.eval o).run P w = .ok (.enter f vs) w ∧ Calls P f vs w fun e w' => ∃ v, e = .returned v ∧ Sim Γ ⟨Xy st.fr x.q.dst av, app st.ob u⟩ (a.put o.dst v) w' := by
   intro f avs vs hr hrun hcall
   obtain ⟨he, hcall⟩ := hcall
   refine ⟨f, vs.toArray, by rw [hrun, JW he], (hcall Γ.B w be Γ.X0.C vs g (hN.2.move hm0) hr).mono ?_⟩
   rintro e w' ⟨v, r, ob', be', rfl, hb, hh, hm, hv, rfl, rfl⟩
   refine ⟨v, rfl, ?_⟩
   rw [c2]
   exact hs.put hd hm0 hfr hb hh hm hv
  split at ho
  ·rename_i p hop
   refine .inr (.inl ⟨hwd, ?_⟩)
   rw [hop] at c1
   have hsee : ∀ {av : AV} {u : Option (Nat × Ob)}, aop (opd P.G st.fr) (x.sees st.ob) x.id p = some (av, u) → aop (opd P.G st.fr) st.ob x.id p = some (av, u) := fun h => by
    unfold It.sees at h
    split at h
    ·exact QxS h
    ·exact h
   cases hsl : x.dat && QK p with
   | true =>
    rw [hsl] at ho
    obtain ⟨rfl, i, b, h1, rfl, hbd⟩ := QtT ho.1
    have hof : QK p = true := by simp only [qo] at hsl; exact hsl.2
    obtain ⟨vv, w', be', hr, hb, hh, hm, hrep⟩ := QtS (X := ⟨w, st.ob, be, Γ.X0.C⟩) (P := P) g hη (o := o) (Qpw c1 (Qe0 (hsee h1))) hof (hsee h1)
    refine ⟨vv, w', ?_, ?_⟩
    ·rcases hr with hr | ⟨hr, hv⟩
     ·exact .inl hr
     ·exact .inr ⟨hr, hv⟩
    ·rw [c2]
     exact hs.put hd hm0 hfr hb hh hm hrep
   | false =>
   rw [hsl] at ho
   simp only [Qdp] at ho
   have ho' : ∃ id', QpW st.ob id' ∧ aop (opd P.G st.fr) st.ob id' p = some (av, u) := by
    by_cases hf : frA p = true
    ·exact ⟨x.id, hsp (by simp only [AO.fr, hop, hf]), hsee ho.1⟩
    ·exact ⟨st.ob.length, .inl rfl, by rw [← hsee ho.1]; exact QCK (by simpa using hf)⟩
   obtain ⟨id', hid, ho'⟩ := ho'
   obtain ⟨vv, w', be', hr, hb, hh, hm, hrep⟩ := Qgs (X := ⟨w, st.ob, be, Γ.X0.C⟩) g hη hid (fun _ => rfl) (o := o) (Qpw c1 (Qe0 ho')) ho'
   refine ⟨vv, w', ?_, ?_⟩
   ·rcases hr with hr | ⟨hr, hv⟩
    ·exact .inl hr
    ·exact .inr ⟨hr, hv⟩
   ·rw [c2]
    exact hs.put hd hm0 hfr hb hh hm hrep
  ·rename_i f args hop
   rw [hop] at c1
   obtain ⟨c, hoc, hcal, rfl⟩ := Qh8 c1
   have hrun : (execOp a.eval o).run P w = (callFunc f (c.args.toList.map a.eval).toArray).run P w := by
    have : c.args.map a.eval = (c.args.toList.map a.eval).toArray := by apply yN; simp
    simp only [execOp, hoc, resolve, hcal, Deferred.ofValue, Act.eval, invoke, Sem.run_bind, Sem.run_pure, Result.andThen_ok, ← this]
    simp
   unfold Qdc at ho
   split at ho
   ·exact .inr (.inr ⟨hwd, callE f _ _ (ZM g hη c.args.toList) hrun ho.1⟩)
   split at ho
   ·obtain ⟨ho, rfl⟩ := ho
    exact .inr (.inr ⟨hwd, callE f _ _ (ZM g hη c.args.toList) hrun ho⟩)
   ·rcases ho with ho | ⟨o', x', _, h2, h3, h4, _⟩
    ·exact .inr (.inr ⟨hwd, call f _ _ (ZM g hη c.args.toList) hrun ho.1 ho.2⟩)
    ·subst h3
     exact .inr (.inr ⟨hwd, callE f _ _ (ZM g hη c.args.toList) hrun (by simp only [app, qc (qd.1 h4).1]; exact h2 _ h4)⟩)
  ·rename_i f args hop
   rw [hop] at c1
   obtain ⟨c, hoc, hcal, rfl⟩ := Qdv c1
   split at ho
   case h_2 => exact ho.elim
   rename_i fid fs cs hf
   have hr := hfr f
   rw [hf] at hr
   simp only [Rep] at hr
   obtain ⟨va, vb, e1, e2, e3⟩ := hr
   have e4 : a.eval (.tmp f) = .func (.func fid) va.toArray vb.toArray := e1
   have hrun : (execOp a.eval o).run P w = (callFunc fid ((va ++ c.args.toList.map a.eval) ++ vb).toArray).run P w := by
    have : va.toArray ++ c.args.map a.eval ++ vb.toArray = (va ++ c.args.toList.map a.eval ++ vb).toArray := by apply yN; simp
    simp only [execOp, hoc, resolve, hcal, e4, Deferred.ofValue, invoke, Sem.run_bind, Sem.run_pure, Result.andThen_ok, this]
   unfold Qdc at ho
   split at ho
   ·exact .inr (.inr ⟨hwd, callE fid _ _ ((e2.append (ZM g hη c.args.toList)).append e3) hrun ho.1⟩)
   split at ho
   ·obtain ⟨ho, rfl⟩ := ho
    exact .inr (.inr ⟨hwd, callE fid _ _ ((e2.append (ZM g hη c.args.toList)).append e3) hrun ho⟩)
   have hrun2 : (execOp a.eval o).run P w = (callFunc fid ((va ++ c.args.toList.map a.eval) ++ vb).toArray).run P w := hrun
   rcases ho with ho | ⟨o', x', _, h2, h3, h4, _⟩
   case inr =>
    subst h3
    exact .inr (.inr ⟨hwd, callE fid _ _ ((e2.append (ZM g hη c.args.toList)).append e3) hrun (by simp only [app, qc (qd.1 h4).1]; exact h2 _ h4)⟩)
   refine .inr (.inr ⟨hwd, call fid _ _ ((e2.append (ZM g hη c.args.toList)).append e3) ?_ ho.1 ho.2⟩)
   have : va.toArray ++ c.args.map a.eval ++ vb.toArray = (va ++ c.args.toList.map a.eval ++ vb).toArray := by apply yN; simp
   simp only [execOp, hoc, resolve, hcal, e4, Deferred.ofValue, invoke, Sem.run_bind, Sem.run_pure, Result.andThen_ok, this]
theorem QAw (hN : Fit P N Γ) {ops : Array Oper} {i : Nat} {o : Oper} (ho : ops[i]? = some o) {x : It} (hq : Qby P N ops o = some x.q) {st st1 : St} (hst : Qbt P x st st1) (hsp : x.q.fr = true → QpW st.ob x.id) {a : Act} {w : World} (hs : Sim Γ st a w)
  {Q : Exit → Act → World → Prop} {K : Act → World → Prop} (hK : ∀ a' w', Sim Γ st1 a' w' → K a' w') : wpOp P ops Q i K a w := by
 unfold wpOp
 rw [ho]
 simp only
 rcases Qiz hN hq hst hsp hs with ⟨h1, h2⟩ | ⟨h1, v, w', h2, h3⟩ | ⟨h1, f, vs, h2, h3⟩
 ·rw [h1]; exact hK _ _ h2
 ·rw [h1]
  refine .inl ?_
  unfold Oper.wp
  rcases h2 with h2 | ⟨h2, rfl⟩ <;> rw [h2] <;> exact hK _ _ h3
 ·rw [h1]
  refine .inl ?_
  unfold Oper.wp
  rw [h2]
  refine h3.mono ?_
  rintro e w' ⟨v, rfl, h4⟩
  exact hK _ _ h4
def Fine (Γ : Ctx) (st : St) : Prop := ∃ a w, Sim Γ st a w
theorem Qon (hN : Fit P N Γ) {ops : Array Oper} {o : Oper} {x : It} (hq : Qby P N ops o = some x.q) {st st1 : St} (hst : Qbt P x st st1) (hsp : x.q.fr = true → QpW st.ob x.id) (hs : Fine Γ st) : Fine Γ st1 := by
 obtain ⟨a, w, hs⟩ := hs
 rcases Qiz hN hq hst hsp hs with ⟨h1, h2⟩ | ⟨h1, v, w', h2, h3⟩ | ⟨h1, f, vs, h2, h3⟩
 ·exact ⟨_, _, h2⟩
 ·exact ⟨_, _, h3⟩
 ·obtain ⟨e, w', fr, ⟨v, _, h4⟩, _⟩ := h3 []
  exact ⟨_, _, h4⟩
theorem Qd4 (hN : Fit P N Γ) {st : St} (h : Fine Γ st) : QzK P.G st := by
 obtain ⟨a, w, hs⟩ := h
 obtain ⟨be, g, hm0, hη, hfr⟩ := hs.eta hN.2
 intro y o hy
 have hr := hη y
 have key : ∀ (ver : Nat) (p : Option (Option (Nat × Nat)) → Prop), Cur ⟨w, st.ob, be, Γ.X0.C⟩ o ver p → ∃ b, st.ob[o]? = some b ∧ b.sz ≠ 0 := by
  rintro ver p ⟨x, hx, h0, _⟩
  exact ⟨x, hx, h0⟩
 cases hv : opd P.G st.fr y <;> rw [hv] at hy hr <;> simp only [Qjw, qi] at hy <;> first | (cases hy; done) | skip
 all_goals (subst hy; simp only [Rep] at hr; exact key _ _ hr.1)
theorem Sim.same {s t : St} (h : Same s t) {a : Act} {w : World} (hs : Sim Γ s a w) : Sim Γ t a w := by
 obtain ⟨q1, q2, q3, be, g, hm, hfr⟩ := hs
 obtain ⟨h1, h2⟩ := h
 cases s
 cases t
 simp only at h1 h2
 subst h2
 exact ⟨q1, q2, q3, be, g, hm, fun i => by have := hfr i; simp only at this; rw [h1 i] at this; exact this⟩
theorem Sim.places {st : St} {a : Act} {w : World} : ∀ (n : Nat) {ob : List Ob}, Sim Γ ⟨st.fr, ob⟩ a w → Sim Γ ⟨st.fr, ob ++ List.replicate n ph⟩ a w
 | 0, ob, h => by simpa using h
 | n + 1, ob, h => by
  obtain ⟨q1, q2, q3, be, g, hm, hfr⟩ := h
  obtain ⟨g1, m1⟩ := g.empty 0 0
  have h2 : Sim Γ ⟨st.fr, ob ++ [ph]⟩ a w := ⟨q1, q2, q3, _, g1, hm.trans m1, fun i => Rep.move m1 _ _ (hfr i)⟩
  have := Sim.places n h2
  simpa [jl, qy] using this
end
def Quy : List Nat → List (List Nat) → List Nat
 | acc, [] => acc
 | acc, a :: r => Quy (acc ++ [a.foldl (fun m e => m ||| 1 <<< e ||| acc.getD e 0) 0]) r
theorem Qta (acc : List Nat) (k : Nat) : ∀ (a : List Nat) (m : Nat), (a.foldl (fun m e => m ||| 1 <<< e ||| acc.getD e 0) m).testBit k = true → m.testBit k = true ∨ ∃ e ∈ a, k = e ∨ (acc.getD e 0).testBit k = true
 | [], m, h => .inl h
 | e :: a, m, h => by
  rw [Yi] at h
  rcases Qta acc k a _ h with h | ⟨e', he, h⟩
  ·simp only [Nat.testBit_or, jW, Nat.one_shiftLeft, Nat.testBit_two_pow, qr] at h
   rcases h with (h | h) | h
   ·exact .inl h
   ·exact .inr ⟨e, by simp, .inl h.symm⟩
   ·exact .inr ⟨e, by simp, .inr h⟩
  ·exact .inr ⟨e', by simp [he], h⟩
theorem QgL (afs : List (List Nat)) (S : Nat → Prop) (hS : ∀ (j : Nat) (a : List Nat), afs[j]? = some a → S j → ∀ e ∈ a, S e) : ∀ (r : List (List Nat)) (pre : List (List Nat)) (acc : List Nat), afs = pre ++ r → acc.length = pre.length →
  (∀ (j : Nat) (a : List Nat), pre[j]? = some a → (∀ e ∈ a, S e) → ∀ k, (acc.getD j 0).testBit k = true → S k) → ∀ (j : Nat) (a : List Nat), afs[j]? = some a → (∀ e ∈ a, S e) → ∀ k, ((Quy acc r).getD j 0).testBit k = true → S k
 | [], pre, acc, h, hl, hi => by
  simp only [qX] at h
  subst h
  exact hi
 | b :: r, pre, acc, h, hl, hi => by
  refine QgL afs S hS r (pre ++ [b]) _ (by rw [h]; simp) (by simp [hl]) ?_
  intro j a ha hall k hk
  rcases Ye j pre.length with hj | hj
  ·rw [qp hj] at ha
   refine hi j a ha hall k ?_
   rw [qe, qp (by omega), ← qe] at hk
   exact hk
  ·have hj2 : j < (pre ++ [b]).length := (qd.1 ha).1
   have : j = pre.length := by simp at hj2; omega
   subst this
   simp at ha
   subst ha
   rw [qe, ← hl] at hk
   simp at hk
   rcases Qta acc k _ _ hk with h0 | ⟨e, he, h1⟩
   ·simp at h0
   ·rcases h1 with rfl | h1
    ·exact hall k he
    ·by_cases hlt : e < pre.length
     ·have hpe : pre[e]? = some pre[e] := qg hlt
      refine hi e _ hpe (hS e _ ?_ (hall e he)) k h1
      rw [h, qp hlt]; exact hpe
     ·rw [qe, yi (by omega)] at h1
      simp at h1
def Qa3 : It := ⟨0, false, ⟨none, none, .op (.mv (.func 0))⟩⟩
def XO (ops : Array Oper) : List (List Nat) := ops.toList.map fun o => (o.after.toList.filter (Region.binds .any)).map (·.on)
def QcA (ops : Array Oper) (xs : List It) (nf : Nat) : Bool :=
 let afs := XO ops
 let T := Quy [] afs
 (List.range xs.length).all fun j =>
  let x := xs.getD j Qa3
  let m := T.getD j 0
  (afs.getD j []).all (fun e => decide (e < j)) && (!x.q.fr || decide (x.id < nf)) &&
  (List.range j).all fun k =>
   let y := xs.getD k Qa3
   (m.testBit k || QDp y x) && (!y.q.fr || !x.q.fr || y.id != x.id)
def Qd2 : Nat → List AO → List It
 | _, [] => []
 | n, q :: qs => ⟨n, false, q⟩ :: Qd2 (if q.fr then n + 1 else n) qs
def QsF (sl : AO → Bool) (qs : List AO) (q : AO) : Bool :=
 match q.op, q.dst with
 | .op (.bslice _ _ len _ _), some t =>
  decide (0 < len) && (qs.any fun r => match r.op with | .op p => ((Qau p).filterMap Qlw).contains t && QK p && sl r | .call _ args => (args.filterMap Qlw).contains t | .callv _ args => (args.filterMap Qlw).contains t) &&
  !(qs.any fun r => match r.op with | .op p => ((Qau p).filterMap Qlw).contains t && !(QK p && sl r) | _ => false)
 | .op (.mkslice _ _ _ _ (.const (.int _ len)) _), some t =>
  decide (0 < len) && (qs.any fun r => match r.op with | .op p => ((Qau p).filterMap Qlw).contains t && QK p && sl r | .call _ args => (args.filterMap Qlw).contains t | .callv _ args => (args.filterMap Qlw).contains t) &&
  !(qs.any fun r => match r.op with | .op p => ((Qau p).filterMap Qlw).contains t && !(QK p && sl r) | _ => false)
 | _, _ => false
def sealed (qs : List AO) (q : AO) : Bool := QsF (QsF (fun _ => false) qs) qs q
def QCL (T : List Nat) (qs : List AO) (p : It × Nat) : Bool :=
 match p.1.q.op with
 | .callv .. | .call .. => qs.zipIdx.all fun r => r.2 == p.2 || (T.getD p.2 0).testBit r.2 || (T.getD r.2 0).testBit p.2
 | _ => false
def Qz0 (T : List Nat) (qs : List AO) (p : It × Nat) : It :=
 ⟨if p.1.q.isC then (if qs.any (fun q => q.wr || q.fr) then 0 else 1) else p.1.id, (p.1.q.rd && !p.1.q.wr && (qs.zipIdx.any fun r => r.1.wr && !((T.getD p.2 0).testBit r.2) && !((T.getD r.2 0).testBit p.2) && r.2 != p.2)) || sealed qs p.1.q || QCL T qs p, p.1.q⟩
def QkF (ops : Array Oper) (qs : List AO) : List It := (Qd2 0 qs).zipIdx.map (Qz0 (Quy [] (XO ops)) qs)
def QCj (qs : List AO) : Nat := (qs.filter AO.fr).length
theorem Qht : ∀ (qs : List AO) (n : Nat), (Qd2 n qs).map (·.q) = qs
 | [], _ => rfl
 | q :: qs, n => by simp [Qd2, Qht qs]
theorem QsP (ops : Array Oper) (qs : List AO) : (QkF ops qs).map (·.q) = qs := by
 have h : ∀ (f : It × Nat → It) (l : List It), (∀ x, (f x).q = x.1.q) → (l.zipIdx.map f).map (·.q) = l.map (·.q) := fun f l hf => by
  apply jj
  intro i
  simp only [qK, List.getElem?_zipIdx, Option.map_map]
  congr 1
  funext x
  exact hf _
 unfold QkF
 exact (h (Qz0 _ _) _ (fun _ => rfl)).trans (Qht qs 0)
end Go.Am
/- The abstract machine: one walk for every order. -/
namespace Go.Am
open Go.RowKit
def up (M : Nat) (x : It) : It := ⟨if x.q.isC then x.id else M + x.id, x.dat, x.q⟩
def wpD (P : Prg) (M : Nat) : List It → (St → Prop) → St → Prop
 | [], K, st => K st
 | x :: xs, K, st => ∃ s1, Qbt P (up M x) st s1 ∧ wpD P M xs K s1
theorem QBe {q : AO} (h : q.fr = true) : q.isC = false := by
 unfold AO.fr at h
 unfold AO.isC
 split at h
 ·rename_i hp; rw [hp]
 ·cases h
theorem Qog {x : It} (h : x.q.fr = true) (M : Nat) : (up M x).id = M + x.id := by simp only [up, QBe h]; rfl
theorem QBO (x : It) (M : Nat) : (up M x).ro = x.ro := by
 simp only [It.ro, up]
 cases hq : x.q.isC <;> simp
theorem Qif {P : Prg} {M : Nat} {K : St → Prop} : ∀ {xs : List It} {st : St}, wpD P M xs K st → ∃ t, Qhh P (xs.map (up M)) st t ∧ K t
 | [], st, h => ⟨st, Same.refl _, h⟩
 | x :: xs, st, ⟨s1, h1, h2⟩ => by
  obtain ⟨t, h3, h4⟩ := Qif h2
  exact ⟨t, ⟨s1, h1, h3⟩, h4⟩
theorem Ind.up {x y : It} (h : Ind x y) (M : Nat) : Ind (up M x) (up M y) :=
 ⟨h.a, h.b, h.c, h.d, h.e, fun h1 h2 e => h.f h1 h2 (by have a := Qog (x := x) h1 M; have b := Qog (x := y) h2 M; omega), h.g, h.h, fun hr => by rw [QBO] at hr ⊢; exact h.i hr, fun hr => by rw [QBO] at hr ⊢; exact h.j hr⟩
theorem QcB {α β : Type} {f : α → Option β} : ∀ {l : List α} {r : List β}, l.mapM f = some r → r.length = l.length ∧ ∀ (i : Nat) (x : α), l[i]? = some x → ∃ y, r[i]? = some y ∧ f x = some y
 | [], r, h => by simp at h; subst h; simp
 | a :: l, r, h => by
  simp only [yQ, yu, qC, qn, qi] at h
  obtain ⟨y, hy, r', hr, rfl⟩ := h
  obtain ⟨h1, h2⟩ := QcB hr
  refine ⟨by simp [h1], fun i x hx => ?_⟩
  cases i with
  | zero => simp at hx; subst hx; exact ⟨y, by simp, hy⟩
  | succ i => simp at hx; simpa using h2 i x hx
section
variable {P : Prg} {N : Nat} {Γ : Ctx}
def QH (n : Nat) (listed : Array Bool) : List Nat := (List.range n).filter fun i => !listed.getD i true
theorem Qhn {n : Nat} {listed : Array Bool} (hl : listed.size = n) {j : Nat} (hj : j < n) {pre post : List Nat} (h : QH n listed = pre ++ j :: post) : QH n (listed.setIfInBounds j true) = pre ++ post := by
 have hnd : (QH n listed).Nodup := List.nodup_range.filter _
 have h1 : QH n (listed.setIfInBounds j true) = (QH n listed).filter (fun i => i != j) := by
  unfold QH
  rw [List.filter_filter]
  apply List.filter_congr
  intro i hi
  by_cases e : i = j
  ·subst e
   have : i < listed.size := by omega
   simp [this]
  ·simp [e, yZ (fun h => e h.symm)]
 rw [h1, h]
 rw [h] at hnd
 rw [List.nodup_append] at hnd
 obtain ⟨n1, n2, n3⟩ := hnd
 rw [List.nodup_cons] at n2
 rw [List.filter_append, List.filter_cons]
 simp only [bne_self_eq_false, qS, yl]
 rw [j8.2, j8.2]
 ·intro x hx; simp; intro e; subst e; exact n2.1 hx
 ·intro x hx; simp; exact fun e => n3 x hx j (by simp) e
theorem Qtw (hN : Fit P N Γ) {ops : Array Oper} {qs : List AO} {xs : List It} {nf M : Nat} (hqs : ops.toList.mapM (Qby P N ops) = some qs) (hxs : xs.map (·.q) = qs) (hok : QcA ops xs nf = true) {K : Act → World → Prop} {Q : Exit → Act → World → Prop}
  {t : St} (hK : ∀ a w, Sim Γ t a w → Q .normal a w) :
  ∀ (fuel : Nat) (listed : Array Bool) (s : St) (a : Act) (w : World), listed.size = xs.length → fuel = (QH xs.length listed).length →
   (∀ (j : Nat) (af : List Nat), (XO ops)[j]? = some af → listed.getD j false = true → ∀ e ∈ af, listed.getD e false = true) →
   Qhh P ((QH xs.length listed).map fun i => up M (xs.getD i Qa3)) s t → QAm ((QH xs.length listed).map fun i => up M (xs.getD i Qa3)) s → Sim Γ s a w → wpAny P .any ops Q fuel listed a w := by
 obtain ⟨hlen, hget⟩ := QcB hqs
 have hn : ops.size = xs.length := by
  have h1 : qs.length = xs.length := by rw [← hxs]; simp
  rw [← h1, hlen]; simp
 have hcop : ∀ i o, ops[i]? = some o → Qby P N ops o = some (xs.getD i Qa3).q := fun i o ho => by
  obtain ⟨y, hy, hc⟩ := hget i o (by simpa using ho)
  rw [← hxs, qK] at hy
  obtain ⟨x, hx, rfl⟩ := qb.1 hy
  rw [qe, hx]
  exact hc
 simp only [QcA, ya, jL, qo, qr] at hok
 have hdist : ∀ k j, k < j → j < xs.length → (xs.getD k Qa3).q.fr = true → (xs.getD j Qa3).q.fr = true → (xs.getD k Qa3).id ≠ (xs.getD j Qa3).id := fun k j hkj hj h1 h2 => by
  have := ((hok j hj).2 k hkj).2
  rw [h1, h2] at this
  simpa using this
 have hsorted : ∀ listed : Array Bool, (QH xs.length listed).Pairwise (· < ·) := fun listed => (List.pairwise_lt_range).filter _
 have hmem : ∀ (listed : Array Bool) i, i ∈ QH xs.length listed ↔ i < xs.length ∧ listed.getD i true = false := fun listed i => by
  unfold QH
  rw [yX, jL]
  simp
 intro fuel
 induction fuel with
 | zero =>
  intro listed s a w hsz hf hcl hch hp hs
  have hnil : QH xs.length listed = [] := qG hf.symm
  rw [hnil] at hch
  refine ⟨?_, hK a w (Sim.same hch hs)⟩
  refine List.eq_nil_iff_forall_not_mem.2 fun j hj => ?_
  obtain ⟨h0, o, ho, _⟩ := mem_ready.1 hj
  have : j ∈ QH xs.length listed := (hmem _ _).2 ⟨by rw [← hn]; exact (qt.1 ho).1, h0⟩
  rw [hnil] at this
  cases this
 | succ fuel ih =>
  intro listed s a w hsz hf hcl hch hp hs
  have haf : ∀ (j : Nat) (o : Oper), ops[j]? = some o → (XO ops)[j]? = some ((o.after.toList.filter (Region.binds .any)).map (·.on)) := fun j o ho => by
   unfold XO
   rw [qK]
   have : ops.toList[j]? = some o := by simpa using ho
   rw [this]; rfl
  refine ⟨fun hr => ?_, fun j hj => ?_⟩
  · -- the first QH is ready
   exfalso
   cases hu : QH xs.length listed with
   | nil => rw [hu] at hf; cases hf
   | cons i rest =>
    have hi := (hmem listed i).1 (by rw [hu]; simp)
    have hlt : i < ops.size := by rw [hn]; exact hi.1
    have ho : ops[i]? = some ops[i] := qQ hlt
    have hready : i ∈ Region.ready .any ops listed := by
     refine mem_ready.2 ⟨hi.2, ops[i], ho, fun e he hb => ?_⟩
     have h1 := ((hok i hi.1).1.1) e.on (by
      rw [qe, haf i _ ho]
      simp only [yD, qY, yX]
      exact ⟨e, ⟨by simpa using he, hb⟩, rfl⟩)
     cases hle : listed.getD e.on false with
     | true => rfl
     | false =>
      exfalso
      have hlt2 : e.on < listed.size := by rw [hsz]; omega
      have : e.on ∈ QH xs.length listed := (hmem listed e.on).2 ⟨by omega, by
       simp only [qD, qQ hlt2, yD] at hle ⊢
       exact hle⟩
      rw [hu] at this
      have hs := hsorted listed
      rw [hu, jP] at hs
      rcases ym.1 this with h2 | h2
      ·omega
      ·have := hs.1 _ h2; omega
    rw [hr] at hready
    cases hready
  ·obtain ⟨h0, o, ho, hall⟩ := mem_ready.1 hj
   have hjlt : j < xs.length := by rw [← hn]; exact (qt.1 ho).1
   have hjm : j ∈ QH xs.length listed := (hmem _ _).2 ⟨hjlt, h0⟩
   obtain ⟨pre, post, hsplit⟩ := List.append_of_mem hjm
   have hnext := Qhn hsz hjlt hsplit
   have hsrt := hsorted listed
   rw [hsplit] at hsrt
   rw [j4] at hsrt
   obtain ⟨s1, s2, s3⟩ := hsrt
   have haj := haf j o ho
   have hpreds : ∀ k, ((Quy [] (XO ops)).getD j 0).testBit k = true → listed.getD k false = true :=
    QgL (XO ops) (fun k => listed.getD k false = true) hcl (XO ops) [] [] (by simp) rfl (by simp) j _ haj (fun e he => by
     simp only [qY, yX] at he
     obtain ⟨e', ⟨he1, he2⟩, rfl⟩ := he
     exact hall e' (by simpa using he1) he2)
   have hind : ∀ k ∈ pre, Ind (xs.getD k Qa3) (xs.getD j Qa3) := fun k hk => by
    have hkj : k < j := s3 k hk j (by simp)
    have hku : k ∈ QH xs.length listed := by rw [hsplit]; simp [hk]
    have h2 := ((hok j hjlt).2 k hkj).1
    simp only [jW] at h2
    rcases h2 with h2 | h2
    ·exfalso
     have h3 := hpreds k h2
     have h4 := ((hmem _ _).1 hku).2
     have hlt2 : k < listed.size := by rw [hsz]; omega
     simp only [qD, qQ hlt2, yD] at h3 h4
     rw [h3] at h4
     cases h4
    ·exact Qo7 h2
   rw [hsplit, yp, yg] at hch hp
   have hpw : ((pre.map fun i => up M (xs.getD i Qa3)) ++ up M (xs.getD j Qa3) :: (post.map fun i => up M (xs.getD i Qa3))).Pairwise (fun a b => a.q.fr = true → b.q.fr = true → a.id ≠ b.id) := by
    have : ((pre ++ j :: post).map fun i => up M (xs.getD i Qa3)).Pairwise (fun a b => a.q.fr = true → b.q.fr = true → a.id ≠ b.id) := by
     rw [List.pairwise_map]
     have hs := hsorted listed
     rw [hsplit] at hs
     refine hs.imp_of_mem ?_
     intro k i hk hi hlt h1 h2 e
     have hi' : i < xs.length := ((hmem listed i).1 (by rw [hsplit]; exact hi)).1
     refine hdist k i hlt hi' h1 h2 ?_
     have a1 := Qog (x := xs.getD k Qa3) h1 M
     have a2 := Qog (x := xs.getD i Qa3) h2 M
     omega
    simpa [yp, yg] using this
   have hstep : ∀ (y : It) (s s1 : St), y ∈ (pre.map fun i => up M (xs.getD i Qa3)) → Fine Γ s → (y.q.fr = true → s.ob[y.id]? = some ph) → Qbt P y s s1 → Fine Γ s1 := by
    intro y s s1 hy hF hph hst
    obtain ⟨k, hk, rfl⟩ := qY.1 hy
    have hku : k ∈ QH xs.length listed := by rw [hsplit]; simp [hk]
    have hklt : k < ops.size := by rw [hn]; exact ((hmem _ _).1 hku).1
    exact Qon (x := up M (xs.getD k Qa3)) hN (hcop k _ (qQ hklt)) hst (fun h => .inr (hph h)) hF
   obtain ⟨sj, hj1, hj2⟩ := Qhh.front (Fine Γ) (fun s h => Qd4 hN h) ⟨a, w, hs⟩ hp hstep (fun y hy => by
    obtain ⟨k, hk, rfl⟩ := qY.1 hy
    exact (hind k hk).up M) hpw hch
   have hpj : (up M (xs.getD j Qa3)).q.fr = true → s.ob[(up M (xs.getD j Qa3)).id]? = some ph := hp _ (by simp)
   have hpn : QAm ((pre.map fun i => up M (xs.getD i Qa3)) ++ (post.map fun i => up M (xs.getD i Qa3))) sj := by
    refine hj1.pend (Qd4 hN ⟨a, w, hs⟩) hpj (fun y hy => hp y ?_) (fun y hy h1 h2 => ?_)
    ·rcases qB.1 hy with hy | hy
     ·exact qB.2 (.inl hy)
     ·exact qB.2 (.inr (jg _ hy))
    ·rw [j4, jP] at hpw
     rcases qB.1 hy with hy | hy
     ·exact fun e => hpw.2.2 y hy _ (by simp) h2 h1 e.symm
     ·exact hpw.2.1.1 y hy h1 h2
   refine QAw hN ho (x := up M (xs.getD j Qa3)) (hcop j o ho) hj1 (fun h => .inr (hpj h)) hs fun a' w' hs' => ?_
   refine ih (listed.setIfInBounds j true) sj a' w' (by simpa using hsz) ?_ ?_ ?_ ?_ hs'
   ·rw [hnext]
    rw [hsplit] at hf
    simp at hf ⊢
    omega
   ·intro k af hk hkl e he
    by_cases hkj : k = j
    ·subst hkj
     rw [haj] at hk
     cases hk
     simp only [qY, yX] at he
     obtain ⟨e', ⟨he1, he2⟩, rfl⟩ := he
     exact getD_set_true (hall e' (by simpa using he1) he2)
    ·rw [getD_set_ne false (fun h => hkj h.symm)] at hkl
     exact getD_set_true (hcl k af hk hkl e he)
   ·rw [hnext, yp]; exact hj2
   ·rw [hnext, yp]; exact hpn
theorem Qvl (hN : Fit P N Γ) {id : Nat} {ops : Array Oper} {qs : List AO} {xs : List It} {nf : Nat} (hm : P.prog.follows .mixedOrders = true) (hqs : ops.toList.mapM (Qby P N ops) = some qs) (hxs : xs.map (·.q) = qs) (hok : QcA ops xs nf = true)
  {Q : Exit → Act → World → Prop} {K : St → Prop} (hK : ∀ st a w, K st → Sim Γ st a w → Q .normal a w) {st : St} (hw : wpD P st.ob.length xs K ⟨st.fr, st.ob ++ List.replicate nf ph⟩) {a : Act} {w : World} (hs : Sim Γ st a w) :
  (Code.region id ops true).wp P Q a w := by
 refine wp_region_any hm ?_
 obtain ⟨t, hch, hk⟩ := Qif hw
 obtain ⟨hlen, hget⟩ := QcB hqs
 have hn : ops.size = xs.length := by
  have h1 : qs.length = xs.length := by rw [← hxs]; simp
  rw [← h1, hlen]; simp
 have hun : QH xs.length (Array.replicate ops.size false) = List.range xs.length := by
  unfold QH
  refine j8.2 fun i hi => ?_
  have : i < ops.size := by rw [hn]; simpa using hi
  simp [this]
 have hmap : ((List.range xs.length).map fun i => up st.ob.length (xs.getD i Qa3)) = xs.map (up st.ob.length) := by
  apply jj
  intro i
  rw [qK, qK]
  by_cases h : i < xs.length
  ·rw [List.getElem?_range h, qg h]
   simp [qe, qg h]
  ·rw [yi (by simpa using h), yi (by simpa using h)]
   rfl
 have hs0 : Sim Γ st a { w with drawn := w.drawn + 1 } := by
  obtain ⟨q1, q2, q3, be, g, hm0, hfr⟩ := hs
  have hb : Below w.heap.size w { w with drawn := w.drawn + 1 } := (Below.refl _ _).drew
  have mv := Moves.below (X := ⟨w, st.ob, be, Γ.X0.C⟩) hb
  exact ⟨q1, q2, q3.trans (hb.mono g.size), be, g.below (X := ⟨w, st.ob, be, Γ.X0.C⟩) hb, hm0.trans mv, fun i => Rep.move mv _ _ (hfr i)⟩
 refine Qtw hN hqs hxs hok (K := fun _ _ => True) (M := st.ob.length) (t := t) (fun a w h => hK t a w hk h) _ _ _ _ _ (by simp [hn]) (by rw [hun]; simp [hn]) ?_ ?_ ?_ (Sim.places nf hs0)
 ·intro j af _ h
  exfalso
  by_cases hj : j < ops.size <;> simp [hj] at h
 ·rw [hun, hmap]; exact hch
 ·rw [hun, hmap]
  intro x hx hf
  obtain ⟨y, hy, rfl⟩ := qY.1 hx
  obtain ⟨i, hi, e⟩ := j6.1 hy
  simp only [QcA, ya, jL, qo, jW, jY, qr] at hok
  have h1 := (hok i hi).1.2
  have h2 : xs.getD i Qa3 = y := by rw [qe, qg hi]; exact e
  rw [h2] at h1
  rcases h1 with h1 | h1
  ·simp only [up] at hf; rw [h1] at hf; cases hf
  ·show (st.ob ++ List.replicate nf ph)[(up st.ob.length y).id]? = some ph
   rw [Qog (x := y) hf]
   rw [qI (by omega)]
   simp [h1]
end
end Go.Am
/- The abstract machine: code, and its soundness. -/
namespace Go.Am
open Go.RowKit
inductive AC where
 | skip
 | reg (qs : List AO)
 | draw (xs : List It) (ps : List Ob)
 | seq (a b : AC)
 | cond (x : Operand) (a b : AC)
 | block (id : Nat) (c : AC)
 | loop (c : AC)
 | exit (id : Nat)
 | ret
 | bad
def Qx (P : Program) (N : Nat) : Code → Option AC
 | .skip => some .skip
 | .region _ ops d =>
  match ops.toList.mapM (Qby P N ops) with
  | some qs =>
   if d then
    (if P.follows .mixedOrders && QcA ops (QkF ops qs) (QCj qs) then some (.draw (QkF ops qs) (List.replicate (QCj qs) ph)) else some .bad)
   else some (.reg qs)
  | none => some .bad
 | .seq a b =>
  match Qx P N a with
  | some x =>
   match Qx P N b with
   | some y => some (.seq x y)
   | none => none
  | none => none
 | .cond x a b =>
  match Qx P N a with
  | some y =>
   match Qx P N b with
   | some z => some (.cond x y z)
   | none => none
  | none => none
 | .block id c => (Qx P N c).map (.block id)
 | .loop c => (Qx P N c).map .loop
 | .exit id => some (.exit id)
 | .ret => some .ret
 | _ => some .bad
def AWp (P : Prg) (N M : Nat) (c : Code) (Q : Exit → St → Prop) (st : St) : Prop :=
 ∀ (Γ : Ctx) (a : Act) (w : World), Fit P N Γ → Γ.X0.ob.length = M → Sim Γ st a w → c.wp P (fun e a' w' => ∃ st', Q e st' ∧ Sim Γ st' a' w') a w
def Qsp (P : Prg) (N M : Nat) (ac : AC) (Q : Exit → St → Prop) (st : St) : Prop := ∀ c, Qx P N c = some ac → AWp P N M (.loop c) Q st
def QgG (next : St → Prop) (Q : Exit → St → Prop) : Exit → St → Prop
 | .normal, st => next st
 | e, st => Q e st
def Qtn (id : Nat) (Q : Exit → St → Prop) : Exit → St → Prop
 | .exit j, st => if j = id then Q .normal st else Q (.exit j) st
 | e, st => Q e st
def wpC (P : Prg) (N M : Nat) : AC → (Exit → St → Prop) → St → Prop
 | .skip, Q, st => Q .normal st
 | .reg qs, Q, st => wpO P qs (Q .normal) st
 | .draw xs ps, Q, st => wpD P st.ob.length xs (Q .normal) ⟨st.fr, st.ob ++ ps⟩
 | .seq a b, Q, st => wpC P N M a (QgG (wpC P N M b Q) Q) st
 | .cond x a b, Q, st =>
  match opd P.G st.fr x with
  | .bool t => if t = true then wpC P N M a Q st else wpC P N M b Q st
  | .ubool => wpC P N M a Q st ∧ wpC P N M b Q st
  | _ => False
 | .block id c, Q, st => wpC P N M c (Qtn id Q) st
 | .loop c, Q, st => Qsp P N M c Q st
 | .exit id, Q, st => Q (.exit id) st
 | .ret, Q, st => Q .ret st
 | .bad, _, _ => False
theorem ZU {P : Prg} {N M : Nat} : ∀ (c : Code) (ac : AC) (Q : Exit → St → Prop) (st : St), Qx P N c = some ac → wpC P N M ac Q st → AWp P N M c Q st
 | .skip, ac, Q, st, hc, h => by
  simp only [Qx, qi] at hc
  subst hc
  simp only [wpC] at h
  exact fun Γ a w _ _ hs => wp_skip ⟨st, h, hs⟩
 | .region id ops d, ac, Q, st, hc, h => by
  simp only [Qx] at hc
  split at hc
  case h_2 => cases hc; exact h.elim
  rename_i qs hq
  split at hc
  ·rename_i hd
   subst hd
   split at hc
   case isFalse => cases hc; exact h.elim
   cases hc
   rename_i hok
   simp only [qo] at hok
   simp only [wpC] at h
   exact fun Γ a w h1 _ hs => Qvl h1 hok.1 hq (QsP ops qs) hok.2 (fun st a w hk hs => ⟨st, hk, hs⟩) h hs
  ·rename_i hd
   cases hc
   have hd' : d = false := by simpa using hd
   subst hd'
   simp only [wpC] at h
   exact fun Γ a w h1 _ hs => wp_region_list (Qde h1 (fun st a w hk hs => ⟨st, hk, hs⟩) _ qs st a w hq h hs)
 | .seq x y, ac, Q, st, hc, h => by
  simp only [Qx] at hc
  split at hc
  case h_2 => cases hc
  rename_i ax hx
  split at hc <;> cases hc
  rename_i ay hy
  simp only [wpC] at h
  intro Γ a w h1 h2 hs
  refine wp_seq (wp_mono (ZU x ax _ st hx h Γ a w h1 h2 hs) ?_)
  rintro e a' w' ⟨st', hq, hs'⟩
  cases e with
  | normal => exact ZU y ay Q st' hy hq Γ a' w' h1 h2 hs'
  | exit id => exact ⟨st', hq, hs'⟩
  | goto l => exact ⟨st', hq, hs'⟩
  | ret => exact ⟨st', hq, hs'⟩
  | panic ch => exact ⟨st', hq, hs'⟩
  | outgrown => exact ⟨st', hq, hs'⟩
 | .cond x y z, ac, Q, st, hc, h => by
  simp only [Qx] at hc
  split at hc
  case h_2 => cases hc
  rename_i ay hy
  split at hc <;> cases hc
  rename_i az hz
  simp only [wpC] at h
  intro Γ a w h1 h2 hs
  obtain ⟨be, g, hm0, hη, hfr⟩ := hs.eta h1.2
  have hr := hη x
  split at h
  ·rename_i t hx
   rw [hx] at hr
   simp only [Rep] at hr
   refine wp_cond hr ?_
   cases t
   ·exact ZU z az Q st hz h Γ a w h1 h2 hs
   ·exact ZU y ay Q st hy h Γ a w h1 h2 hs
  ·rename_i hx
   rw [hx] at hr
   simp only [Rep] at hr
   obtain ⟨t, hr⟩ := hr
   refine wp_cond hr ?_
   cases t
   ·exact ZU z az Q st hz h.2 Γ a w h1 h2 hs
   ·exact ZU y ay Q st hy h.1 Γ a w h1 h2 hs
  ·exact h.elim
 | .block id c, ac, Q, st, hc, h => by
  simp only [Qx, qb] at hc
  obtain ⟨x, hx, rfl⟩ := hc
  simp only [wpC] at h
  intro Γ a w h1 h2 hs
  refine wp_block (wp_mono (ZU c x _ st hx h Γ a w h1 h2 hs) ?_)
  rintro e a' w' ⟨st', hq, hs'⟩
  cases e with
  | exit j =>
   simp only [Qtn] at hq
   simp only [Exit.inBlock]
   split
   ·rename_i e; rw [qc e] at hq; exact ⟨st', hq, hs'⟩
   ·rename_i e; rw [qa e] at hq; exact ⟨st', hq, hs'⟩
  | normal => exact ⟨st', hq, hs'⟩
  | goto l => exact ⟨st', hq, hs'⟩
  | ret => exact ⟨st', hq, hs'⟩
  | panic ch => exact ⟨st', hq, hs'⟩
  | outgrown => exact ⟨st', hq, hs'⟩
 | .loop c, ac, Q, st, hc, h => by
  simp only [Qx, qb] at hc
  obtain ⟨x, hx, rfl⟩ := hc
  simp only [wpC] at h
  exact h c hx
 | .exit id, ac, Q, st, hc, h => by
  simp only [Qx, qi] at hc
  subst hc
  simp only [wpC] at h
  exact fun Γ a w _ _ hs => wp_exit ⟨st, h, hs⟩
 | .ret, ac, Q, st, hc, h => by
  simp only [Qx, qi] at hc
  subst hc
  simp only [wpC] at h
  exact fun Γ a w _ _ hs => wp_ret ⟨st, h, hs⟩
 | .rangeFunc .., _, _, _, hc, h => by simp only [Qx, qi] at hc; subst hc; exact h.elim
 | .scope _, _, _, _, hc, h => by simp only [Qx, qi] at hc; subst hc; exact h.elim
 | .label _, _, _, _, hc, h => by simp only [Qx, qi] at hc; subst hc; exact h.elim
 | .goto _, _, _, _, hc, h => by simp only [Qx, qi] at hc; subst hc; exact h.elim
 | .refuse _, _, _, _, hc, h => by simp only [Qx, qi] at hc; subst hc; exact h.elim
def Le (M : Nat) (st st' : St) : Prop := ∀ (Γ : Ctx) (a : Act) (w : World), Γ.X0.ob.length = M → Sim Γ st a w → Sim Γ st' a w
theorem Le.trans {M : Nat} {a b c : St} (h : Le M a b) (g : Le M b c) : Le M a c := fun Γ x w hM hs => g Γ x w hM (h Γ x w hM hs)
theorem Qsp.rule {P : Prg} {N M : Nat} {ac : AC} {Q : Exit → St → Prop} {st : St} {ι : Type} (S : ι → St) (ok : ι → Prop) (μ : ι → Nat) (i0 : ι) (h0 : Le M st (S i0)) (hok : ok i0)
  (step : ∀ i, ok i → wpC P N M ac (QgG (fun st' => ∃ j, ok j ∧ μ j < μ i ∧ Le M st' (S j)) Q) (S i)) : Qsp P N M ac Q st := by
 intro c hc Γ a w h1 h2 hs
 have key : ∀ n i a w, μ i < n → ok i → Sim Γ (S i) a w → Code.rounds P c (fun e a' w' => ∃ st', Q e st' ∧ Sim Γ st' a' w') n a w := by
  intro n
  induction n with
  | zero => intro i a w h; omega
  | succ n ih =>
   intro i a w hn hi hsi
   rw [rounds_succ]
   refine wp_mono (ZU c ac _ (S i) hc (step i hi) Γ a w h1 h2 hsi) ?_
   rintro e a' w' ⟨st', hq, hs'⟩
   cases e with
   | normal =>
    obtain ⟨j, hj, hlt, hle⟩ := hq
    exact ih j a' w' (by omega) hj (hle Γ a' w' h2 hs')
   | exit id => exact ⟨st', hq, hs'⟩
   | goto l => exact ⟨st', hq, hs'⟩
   | ret => exact ⟨st', hq, hs'⟩
   | panic ch => exact ⟨st', hq, hs'⟩
   | outgrown => exact ⟨st', hq, hs'⟩
 exact wp_loop_rounds (μ i0 + 1) (key _ i0 a w (by omega) hok (h0 Γ a w h2 hs))
def QL (fr : List (Nat × AV)) (ob : List Ob) (P : Program) : List ResultVar → Option (List AV)
 | [] => some []
 | .tmp t :: r => (QL fr ob P r).map (look fr t :: ·)
 | .cell p t :: r =>
  match ZE P t, ZB ob (look fr p), QL fr ob P r with
  | some none, some (c :: _), some rest => some (c :: rest)
  | some (some n), some cs, some rest => if n ≤ cs.length then some (.agg (cs.take n) :: rest) else none
  | _, _, _ => none
def Qm : List AV → AV
 | [v] => v
 | vs => .tup vs
theorem QdZ {P : Program} {Γ : Ctx} {st : St} {a : Act} {w : World} {be : List (Option (Nat × Nat))} (g : Held Γ.B ⟨w, st.ob, be, Γ.X0.C⟩) (h : ∀ i, Rep ⟨w, st.ob, be, Γ.X0.C⟩ (look st.fr i) (a.tmps.getD i undef)) :
  ∀ (rs : List ResultVar) (avs : List AV), QL st.fr st.ob P rs = some avs → ∃ vs : List Value,
   (rs.mapM fun x => (match x with | .tmp t => pure (a.tmps.getD t undef) | .cell p t => do loadVar t (← asAddr (a.tmps.getD p undef)) : Sem Value)).run P w = .ok vs w ∧ RepL ⟨w, st.ob, be, Γ.X0.C⟩ avs vs
 | [], avs, hr => by
  simp only [QL, qi] at hr
  subst hr
  exact ⟨[], by simp, by simp [RepL]⟩
 | .tmp t :: rs, avs, hr => by
  simp only [QL, qb] at hr
  obtain ⟨rest, hr, rfl⟩ := hr
  obtain ⟨vs, h1, h2⟩ := QdZ g h rs rest hr
  exact ⟨a.tmps.getD t undef :: vs, by simp only [yQ, Sem.run_bind, Sem.run_pure, Result.andThen_ok, h1], by simp only [RepL]; exact ⟨_, _, rfl, h t, h2⟩⟩
 | .cell p t :: rs, avs, hr => by
  simp only [QL] at hr
  have hp := h p
  split at hr
  ·rename_i c cs rest ha hc hrest
   cases hr
   obtain ⟨vs, h1, h2⟩ := QdZ g h rs rest hrest
   obtain ⟨b, k, us, hv, hl, hru⟩ := QcE g hc hp
   obtain ⟨v, h3, h4⟩ := QbV (P := P) ha hl hru (c := c) (.inl ⟨rfl, rfl⟩)
   have ha' : (asAddr (a.tmps.getD p undef)).run P w = .ok ⟨b, k, none⟩ w := by rw [hv]; rfl
   have h3' : (loadVar t ⟨b, k, none⟩).run P w = .ok v w := h3
   exact ⟨v :: vs, by simp only [yQ, Sem.run_bind, Sem.run_pure, Result.andThen_ok, h1, ha', h3'], by simp only [RepL]; exact ⟨_, _, rfl, h4, h2⟩⟩
  ·rename_i n cs rest ha hc hrest
   split at hr <;> cases hr
   rename_i hn
   obtain ⟨vs, h1, h2⟩ := QdZ g h rs rest hrest
   obtain ⟨b, k, us, hv, hl, hru⟩ := QcE g hc hp
   obtain ⟨v, h3, h4⟩ := QbV (P := P) ha hl hru (c := .agg (cs.take n)) (.inr ⟨n, rfl, hn, rfl⟩)
   have ha' : (asAddr (a.tmps.getD p undef)).run P w = .ok ⟨b, k, none⟩ w := by rw [hv]; rfl
   have h3' : (loadVar t ⟨b, k, none⟩).run P w = .ok v w := h3
   exact ⟨v :: vs, by simp only [yQ, Sem.run_bind, Sem.run_pure, Result.andThen_ok, h1, ha', h3'], by simp only [RepL]; exact ⟨_, _, rfl, h4, h2⟩⟩
  ·cases hr
theorem Qcz {P : Program} {Γ : Ctx} {st : St} {a : Act} {w : World} {be : List (Option (Nat × Nat))} (g : Held Γ.B ⟨w, st.ob, be, Γ.X0.C⟩) (h : ∀ i, Rep ⟨w, st.ob, be, Γ.X0.C⟩ (look st.fr i) (a.tmps.getD i undef)) {fn : Func} {avs : List AV} (hr : QL st.fr st.ob P fn.results.toList = some avs) :
  ∃ v, (results fn a.tmps).run P w = .ok v w ∧ Rep ⟨w, st.ob, be, Γ.X0.C⟩ (Qm avs) v := by
 obtain ⟨vs, h1, h2⟩ := QdZ g h fn.results.toList avs hr
 have hl := h2.length
 have hm : (fn.results.mapM fun x => (match x with | .tmp t => pure (a.tmps.getD t undef) | .cell p t => do loadVar t (← asAddr (a.tmps.getD p undef)) : Sem Value)).run P w = .ok vs.toArray w := by
  rw [Array.mapM_eq_mapM_toList]
  simp only [Sem.run_map, h1, Result.andThen_ok]
 refine ⟨if h : vs.toArray.size = 1 then vs.toArray[0] else .tuple vs.toArray, ?_, ?_⟩
 ·unfold results
  simp only [Sem.run_bind]
  erw [hm]
  rfl
 ·match avs, vs, hl, h2 with
  | [], [], _, _ => simp [Qm, Rep, RepL]
  | [c], [v], _, h2 =>
   simp only [RepL] at h2
   obtain ⟨v', rest, e, h3, _⟩ := h2
   cases e
   simpa [Qm] using h3
  | c :: d :: cs, v :: u :: us, _, h2 =>
   simp only [Yp, qV]
   rw [dif_neg (by omega)]
   simp only [Qm, Rep]
   exact ⟨_, rfl, h2⟩
def Xx : Nat → List AV → List (Nat × AV)
 | _, [] => []
 | i, v :: vs => (i, v) :: Xx (i + 1) vs
theorem QcC {X : Cx} : ∀ (avs : List AV) (vs : List Value) (k : Nat), RepL X avs vs → ∀ i, (look (Xx k avs) i = .any) ∨ (k ≤ i ∧ ∃ v, vs[i - k]? = some v ∧ Rep X (look (Xx k avs) i) v)
 | [], _, _, _, i => .inl rfl
 | c :: cs, _, k, h, i => by
  simp only [RepL] at h
  obtain ⟨v, rest, rfl, h1, h2⟩ := h
  simp only [Xx, look]
  split
  ·rename_i e
   subst e
   exact .inr ⟨qj _, v, by simp, h1⟩
  ·rename_i hne
   rcases QcC cs rest (k + 1) h2 i with h3 | ⟨h3, u, h4, h5⟩
   ·exact .inl h3
   ·refine .inr ⟨by omega, u, ?_, h5⟩
    rw [show i - k = (i - (k + 1)) + 1 by omega]
    simpa using h4
def Qf (P : Prg) (f : FuncId) (N : Nat) (rl : List ResultVar) (ac : AC) : Prop :=
 ∃ fn, P.prog.funcs[f]? = some fn ∧ (fn.name == "runtime.NumGoroutine") = false ∧ fn.ntmps = N ∧ fn.results.toList = rl ∧ fn.body.bind (Qx P N) = some ac
def Qmb (P : Prg) (rl : List ResultVar) (K : AV → List Ob → Prop) : Exit → St → Prop
 | .normal, st | .ret, st => match QL st.fr st.ob P rl with | some rs => K (Qm rs) st.ob | none => False
 | _, _ => False
theorem Qb {P : Prg} {f : FuncId} {ac : AC} {N : Nat} {rl : List ResultVar} (hbody : Qf P f N rl ac)
  {avs : List AV} {ob : List Ob} {K : AV → List Ob → Prop} (hlen : avs.length ≤ N)
  (h0 : wpC P N ob.length ac (Qmb P rl K) ⟨Xx 0 avs, ob⟩) : ACall P f avs ob K := by
 obtain ⟨fn, hf, hn, hN, hrl, hc'⟩ := hbody
 subst hN
 subst hrl
 obtain ⟨c, hb, hc⟩ := qn.1 hc'
 refine ⟨⟨fn, hf, hn, by rw [hb]; rfl⟩, fun B w be C vs g hG hr => ?_⟩
 refine calls_of_wp hf hb ?_
 have hvl := hr.length
 let Γ : Ctx := ⟨B, ⟨w, ob, be, C⟩, fn.ntmps, []⟩
 have hs : Sim Γ ⟨Xx 0 avs, ob⟩ { tmps := vs.toArray ++ Array.replicate (fn.ntmps - vs.toArray.size) undef, defers := [] } w := by
  refine ⟨rfl, by simp [Γ]; omega, Below.refl _ _, be, g, Moves.refl _, fun i => ?_⟩
  rcases QcC avs vs 0 hr i with h1 | ⟨_, v, h2, h3⟩
  ·show Rep _ (look (Xx 0 avs) i) _
   rw [h1]; simp only [Rep]
  ·have h4 : (vs.toArray ++ Array.replicate (fn.ntmps - vs.toArray.size) undef).getD i undef = v := by
    simp only [yn] at h2
    have hlt := (qd.1 h2).1
    rw [qD, jo (by simpa using hlt)]
    simp [h2]
   show Rep _ (look (Xx 0 avs) i) ((vs.toArray ++ Array.replicate (fn.ntmps - vs.toArray.size) undef).getD i undef)
   rw [h4]
   exact h3
 refine wp_mono (ZU c ac _ _ hc h0 Γ _ w ⟨rfl, hG⟩ rfl hs) ?_
 rintro e a' w' ⟨st', he, hs'⟩
 obtain ⟨q1, q2, q3, be', g', hm, hfr⟩ := hs'
 have hpost : ∀ rs, QL st'.fr st'.ob P fn.results.toList = some rs → K (Qm rs) st'.ob → a'.defers = [] ∧ ∃ v, (results fn a'.tmps).run P w' = .ok v w' ∧ ∃ v_1 r ob' be', Ending.returned v = .returned v_1 ∧ Below B w w' ∧ Held B ⟨w', ob', be', C⟩ ∧ Moves ⟨w, ob, be, C⟩ ⟨w', ob', be', C⟩ ∧ Rep ⟨w', ob', be', C⟩ r v_1 ∧ K r ob' := fun rs hrs hk => by
  obtain ⟨v, hv1, hv2⟩ := Qcz (P := P) (Γ := Γ) g' hfr hrs
  exact ⟨q1, v, hv1, v, Qm rs, st'.ob, be', rfl, q3, g', hm, hv2, hk⟩
 cases e with
 | normal =>
  simp only [Qmb] at he
  split at he
  ·exact hpost _ (by assumption) he
  ·exact he.elim
 | ret =>
  simp only [Qmb] at he
  split at he
  ·exact hpost _ (by assumption) he
  ·exact he.elim
 | exit id => exact he.elim
 | goto l => exact he.elim
 | panic ch => exact he.elim
 | outgrown => exact he.elim
theorem Qbs {P : Prg} {f : FuncId} {ds : List AV} {r : AV} (h1 : isDL ds = true) (h2 : isD r = true) (h : ACall P f ds [] (fun r' _ => r' = r)) : VC P f ds r := by
 obtain ⟨h0, h⟩ := h
 refine ⟨h0, h1, h2, fun w C vs hbnd hG hr => ?_⟩
 have g : Held w.heap.size ⟨w, [], [], C⟩ := ⟨rfl, by simp, by simp, by simp, hbnd, qj _⟩
 refine (h w.heap.size w [] C vs g hG hr).mono ?_
 rintro e w' ⟨v, r', ob', be', rfl, hb, hh, hm, hv, rfl⟩
 refine ⟨v, rfl, hb, Rep.data (X := ⟨w', ob', be', C⟩) (Y := ⟨w', [], [], C⟩) (fun b k u hc ha => ⟨hc, fun h => ha ?_⟩) _ _ h2 hv⟩
 rcases h with h | ⟨o, x, c, q1, _⟩
 ·exact .inl h
 ·simp at q1
theorem Qn {P : Prg} {f : FuncId} {ds : List AV} {r : AV} {N : Nat} {rl : List ResultVar} {ac : AC} (h1 : isDL ds = true) (h2 : isD r = true) (bd : Qf P f N rl ac) (h : wpC P N 0 ac (Qmb P rl (fun r2 _ => r2 = r)) ⟨Xx 0 ds, []⟩) (hl : ds.length ≤ N := by simp) : VC P f ds r := Qbs h1 h2 (Qb bd hl h)
end Go.Am
/- The abstract machine: how 'simp' walks: equations in applied form QCL, what follows kept behind names. -/
namespace Go.Am
open Go.RowKit
def Qz1 (P : Prg) (N M : Nat) (b : AC) (Q : Exit → St → Prop) : Exit → St → Prop := QgG (wpC P N M b Q) Q
def Qz3 (id : Nat) (Q : Exit → St → Prop) : Exit → St → Prop := Qtn id Q
def QA3 (R : St → Prop) (Q : Exit → St → Prop) : Exit → St → Prop := QgG R Q
section
variable {P : Prg} {N M : Nat} {a b c : AC} {Q : Exit → St → Prop} {st : St} {R : St → Prop}
def wpQ (P : Prg) (qs : List AO) (Q : Exit → St → Prop) (st : St) : Prop := wpO P qs (Q .normal) st
def Qox (dt : Bool) (ob : List Ob) : List Ob := if dt then [] else ob
def QeO (P : Prg) (B : Nat) (xs : List It) (Q : Exit → St → Prop) (st : St) : Prop := wpD P B xs (Q .normal) st
def QlA (P : Prg) (B : Nat) (ok : Bool) (r : Option (AV × Option (Nat × Ob))) (xs : List It) (Q : Exit → St → Prop) (fr : List (Nat × AV)) (ob : List Ob) (dst : Option Nat) : Prop :=
 match r with
 | some (v, none) => QeO P B xs Q ⟨Xy fr dst v, ob⟩
 | some (v, some u) => ok = true ∧ QeO P B xs Q ⟨Xy fr dst v, app ob (some u)⟩
 | none => False
def Qpt (P : Prg) (B : Nat) (dt : Bool) (k : Nat) (f : FuncId) (avs : List AV) (xs : List It) (Q : Exit → St → Prop) (fr : List (Nat × AV)) (ob : List Ob) (dst : Option Nat) : Prop :=
 ∃ r u, Qdc P dt k f avs ob r u ∧ QeO P B xs Q ⟨Xy fr dst r, app ob u⟩
def Qhx (P : Prg) (B : Nat) (t : Option Bool) (r : Nat) (dt : Bool) (o : AO) (xs : List It) (Q : Exit → St → Prop) (fr : List (Nat × AV)) (ob : List Ob) : Prop :=
 match t with
 | some true => QeO P B (⟨r, dt, ⟨o.dst, none, o.op⟩⟩ :: xs) Q ⟨fr, ob⟩
 | some false => QeO P B xs Q ⟨Xy fr o.dst (.tup []), ob⟩
 | none => False
theorem Qc {B : Nat} {dt : Bool} {k : Nat} {f : FuncId} {ds : List AV} {r : AV} (h : VC P f ds r) {xs : List It} {fr : List (Nat × AV)} {ob : List Ob} {dst : Option Nat} (hK : QeO P B xs Q ⟨Xy fr dst r, ob⟩) : Qpt P B dt k f ds xs Q fr ob dst := by
 refine ⟨r, none, ?_, hK⟩
 unfold Qdc
 split
 ·exact ⟨ACall.of_vc h ⟨rfl, rfl⟩, fun _ _ e => by cases e⟩
 split
 ·exact ⟨ACall.of_vc h ⟨rfl, rfl⟩, rfl⟩
 ·exact .inl ⟨h, rfl⟩
theorem Qvm {B r : Nat} {dt : Bool} {dst : Option Nat} {p : AOp} {xs : List It} {fr : List (Nat × AV)} {ob : List Ob} : QeO P B (⟨r, dt, ⟨dst, none, .op p⟩⟩ :: xs) Q ⟨fr, ob⟩ = QlA P B (okW p) (Qdp (dt && QK p) (aop (opd P.G fr) (Qox dt ob) (B + r) p)) xs Q fr ob dst := by
 refine propext ⟨?_, ?_⟩
 ·rintro ⟨s1, ⟨v, u, h1, h0, rfl⟩, h2⟩
  have h1' : Qdp (dt && QK p) (aop (opd P.G fr) (Qox dt ob) (B + r) p) = some (v, u) := h1
  unfold QlA
  rw [h1']
  cases u with
  | none => exact h2
  | some u => exact ⟨h0.resolve_left (by simp), h2⟩
 ·intro h
  unfold QlA at h
  split at h
  ·rename_i v h1
   exact ⟨_, ⟨v, none, h1, .inl rfl, rfl⟩, h⟩
  ·rename_i v u h1
   exact ⟨_, ⟨v, some u, h1, .inr h.1, rfl⟩, h.2⟩
  ·exact h.elim
theorem QDe : (∀ r, Qdp false r = r) ∧ (∀ o n i b, Qdp true (some (.own o n, some (i, b))) = if o = i ∧ n = b.n ∧ isDL b.cs = true then some (.list n b.cs, none) else none) := ⟨fun _ => rfl, fun _ _ _ _ => rfl⟩
theorem Qnw {B r : Nat} {dt : Bool} {dst : Option Nat} {f : FuncId} {args : List Operand} {xs : List It} {fr : List (Nat × AV)} {ob : List Ob} : QeO P B (⟨r, dt, ⟨dst, none, .call f args⟩⟩ :: xs) Q ⟨fr, ob⟩ = Qpt P B dt r f (args.map (opd P.G fr)) xs Q fr ob dst := by
 refine propext ⟨?_, ?_⟩
 ·rintro ⟨s1, ⟨v, u, h1, rfl⟩, h2⟩
  exact ⟨v, u, h1, h2⟩
 ·rintro ⟨v, u, h1, h2⟩
  exact ⟨_, ⟨v, u, h1, rfl⟩, h2⟩
theorem Qkp {B r : Nat} {dt : Bool} {dst : Option Nat} {g : Nat × Bool} {k : AK} {xs : List It} {fr : List (Nat × AV)} {ob : List Ob} : QeO P B (⟨r, dt, ⟨dst, some g, k⟩⟩ :: xs) Q ⟨fr, ob⟩ = Qhx P B (Zz fr (some g)) r dt ⟨dst, some g, k⟩ xs Q fr ob := by
 simp only [QeO, wpD, Qbt, Qhx, up]
 cases Zz fr (some g) with
 | none => simp
 | some t =>
  cases t with
  | true => rfl
  | false => simp
def QcF (P : Prg) (f : FuncId) (avs : List AV) (ob : List Ob) (os : List AO) (Q : Exit → St → Prop) (fr : List (Nat × AV)) (dst : Option Nat) : Prop :=
 ACall P f avs ob fun r ob' => wpQ P os Q ⟨Xy fr dst r, ob'⟩
def Qyy (P : Prg) (r : Option (AV × Option (Nat × Ob))) (os : List AO) (Q : Exit → St → Prop) (fr : List (Nat × AV)) (ob : List Ob) (dst : Option Nat) : Prop :=
 match r with
 | some (v, u) => wpQ P os Q ⟨Xy fr dst v, app ob u⟩
 | none => False
def Qhw (P : Prg) (t : Option Bool) (o : AO) (os : List AO) (Q : Exit → St → Prop) (fr : List (Nat × AV)) (ob : List Ob) : Prop :=
 match t with
 | some true => wpQ P (⟨o.dst, none, o.op⟩ :: os) Q ⟨fr, ob⟩
 | some false => wpQ P os Q ⟨Xy fr o.dst (.tup []), ob⟩
 | none => False
def QiY (P : Prg) (N M : Nat) (v : AV) (a b : AC) (Q : Exit → St → Prop) (st : St) : Prop :=
 match v with
 | .bool t => if t = true then wpC P N M a Q st else wpC P N M b Q st
 | .ubool => wpC P N M a Q st ∧ wpC P N M b Q st
 | _ => False
theorem Qnu {dst : Option Nat} {g : Nat × Bool} {k : AK} {os : List AO} {fr : List (Nat × AV)} {ob : List Ob} : wpQ P (⟨dst, some g, k⟩ :: os) Q ⟨fr, ob⟩ = Qhw P (Zz fr (some g)) ⟨dst, some g, k⟩ os Q fr ob := by
 simp only [wpQ, wpO, Qhw]
 cases Zz fr (some g) with
 | none => rfl
 | some t => cases t <;> rfl
theorem Qa {f : FuncId} {ds : List AV} {r : AV} (h : VC P f ds r) {ob : List Ob} {os : List AO} {fr : List (Nat × AV)} {dst : Option Nat} (hK : wpQ P os Q ⟨Xy fr dst r, ob⟩) : QcF P f ds ob os Q fr dst :=
 ACall.of_vc h hK
end
theorem Qg {P : Prg} {N M : Nat} {ac : AC} {Q : Exit → St → Prop} {st : St} {ι : Type} (S : ι → St) (ok : ι → Prop) (μ : ι → Nat) (i0 : ι) (h0 : Le M st (S i0)) (hok : ok i0)
  (step : ∀ i, ok i → wpC P N M ac (QA3 (fun st' => ∃ j, ok j ∧ μ j < μ i ∧ Le M st' (S j)) Q) (S i)) : Qsp P N M ac Q st :=
 Qsp.rule S ok μ i0 h0 hok step
theorem walk :
  (∀ P N M Q st, wpC P N M .skip Q st = Q .normal st) ∧
  (∀ P N M qs Q st, wpC P N M (.reg qs) Q st = wpQ P qs Q st) ∧
  (∀ P N M xs ps Q st, wpC P N M (.draw xs ps) Q st = QeO P st.ob.length xs Q ⟨st.fr, st.ob ++ ps⟩) ∧
  (∀ P B Q st, QeO P B [] Q st = Q .normal st) ∧
  (∀ P B r dt dst p xs Q fr ob, QeO P B (⟨r, dt, ⟨dst, none, .op p⟩⟩ :: xs) Q ⟨fr, ob⟩ = QlA P B (okW p) (Qdp (dt && QK p) (aop (opd P.G fr) (Qox dt ob) (B + r) p)) xs Q fr ob dst) ∧
  (∀ P B r dt dst f args xs Q fr ob, QeO P B (⟨r, dt, ⟨dst, none, .call f args⟩⟩ :: xs) Q ⟨fr, ob⟩ = Qpt P B dt r f (args.map (opd P.G fr)) xs Q fr ob dst) ∧
  (∀ P B r dt dst g k xs Q fr ob, QeO P B (⟨r, dt, ⟨dst, some g, k⟩⟩ :: xs) Q ⟨fr, ob⟩ = Qhx P B (Zz fr (some g)) r dt ⟨dst, some g, k⟩ xs Q fr ob) ∧
  (∀ P B k v xs Q fr ob dst, QlA P B k (some (v, none)) xs Q fr ob dst = QeO P B xs Q ⟨Xy fr dst v, ob⟩) ∧
  (∀ P B v u xs Q fr ob dst, QlA P B true (some (v, some u)) xs Q fr ob dst = QeO P B xs Q ⟨Xy fr dst v, app ob (some u)⟩) ∧
  (∀ P B r dt o xs Q fr ob, Qhx P B (some true) r dt o xs Q fr ob = QeO P B (⟨r, dt, ⟨o.dst, none, o.op⟩⟩ :: xs) Q ⟨fr, ob⟩) ∧
  (∀ P B r dt o xs Q fr ob, Qhx P B (some false) r dt o xs Q fr ob = QeO P B xs Q ⟨Xy fr o.dst (.tup []), ob⟩) ∧
  (∀ ob, Qox true ob = []) ∧
  (∀ ob, Qox false ob = ob) ∧
  (∀ P N M a b Q st, wpC P N M (.seq a b) Q st = wpC P N M a (Qz1 P N M b Q) st) ∧
  (∀ P N M x a b Q st, wpC P N M (.cond x a b) Q st = QiY P N M (opd P.G st.fr x) a b Q st) ∧
  (∀ P N M id c Q st, wpC P N M (.block id c) Q st = wpC P N M c (Qz3 id Q) st) ∧
  (∀ P N M c Q st, wpC P N M (.loop c) Q st = Qsp P N M c Q st) ∧
  (∀ P N M id Q st, wpC P N M (.exit id) Q st = Q (.exit id) st) ∧
  (∀ P N M Q st, wpC P N M .ret Q st = Q .ret st) ∧
  (∀ P N M b Q st, Qz1 P N M b Q .normal st = wpC P N M b Q st) ∧
  (∀ P N M b Q j st, Qz1 P N M b Q (.exit j) st = Q (.exit j) st) ∧
  (∀ P N M b Q st, Qz1 P N M b Q .ret st = Q .ret st) ∧
  (∀ id Q st, Qz3 id Q .normal st = Q .normal st) ∧
  (∀ id Q j st, Qz3 id Q (.exit j) st = if j = id then Q .normal st else Q (.exit j) st) ∧
  (∀ id Q st, Qz3 id Q .ret st = Q .ret st) ∧
  (∀ R Q st, QA3 R Q .normal st = R st) ∧
  (∀ R Q j st, QA3 R Q (.exit j) st = Q (.exit j) st) ∧
  (∀ R Q st, QA3 R Q .ret st = Q .ret st) ∧
  (∀ P N M t a b Q st, QiY P N M (.bool t) a b Q st = if t = true then wpC P N M a Q st else wpC P N M b Q st) ∧
  (∀ P N M a b Q st, QiY P N M .ubool a b Q st = (wpC P N M a Q st ∧ wpC P N M b Q st)) ∧
  (∀ P Q st, wpQ P [] Q st = Q .normal st) ∧
  (∀ P dst p os Q fr ob, wpQ P (⟨dst, none, .op p⟩ :: os) Q ⟨fr, ob⟩ = Qyy P (aop (opd P.G fr) ob ob.length p) os Q fr ob dst) ∧
  (∀ P dst f args os Q fr ob, wpQ P (⟨dst, none, .call f args⟩ :: os) Q ⟨fr, ob⟩ = QcF P f (args.map (opd P.G fr)) ob os Q fr dst) ∧
  (∀ P dst g k os Q fr ob, wpQ P (⟨dst, some g, k⟩ :: os) Q ⟨fr, ob⟩ = Qhw P (Zz fr (some g)) ⟨dst, some g, k⟩ os Q fr ob) ∧
  (∀ P v u os Q fr ob dst, Qyy P (some (v, u)) os Q fr ob dst = wpQ P os Q ⟨Xy fr dst v, app ob u⟩) ∧
  (∀ P dst g k os Q fr ob, Qhw P (some true) ⟨dst, g, k⟩ os Q fr ob = wpQ P (⟨dst, none, k⟩ :: os) Q ⟨fr, ob⟩) ∧
  (∀ P dst g k os Q fr ob, Qhw P (some false) ⟨dst, g, k⟩ os Q fr ob = wpQ P os Q ⟨Xy fr dst (.tup []), ob⟩) ∧
  (∀ P rl K fr ob, Qmb P rl K .ret ⟨fr, ob⟩ = match QL fr ob P rl with | some rs => K (Qm rs) ob | none => False) ∧
  (∀ P rl K fr ob, Qmb P rl K .normal ⟨fr, ob⟩ = match QL fr ob P rl with | some rs => K (Qm rs) ob | none => False) ∧
  (∀ fr d v, Xy fr (some d) v = (d, v) :: fr) ∧
  (∀ fr v, Xy fr none v = fr) ∧
  (∀ fr d b, Zz fr (some (d, b)) = match look fr d with | .bool t => some (t == b) | .tup [] => some false | _ => none) ∧
  (∀ ob, app ob none = ob) ∧
  (∀ j i v r, look ((j, v) :: r) i = if i = j then v else look r i) ∧
  (∀ i, look [] i = .any) ∧
  (∀ G fr t, opd G fr (.tmp t) = look fr t) ∧
  (∀ G fr v, opd G fr (.const v) = cV v) ∧
  (∀ G fr f, opd G fr (.func f) = .fn (.func f) [] []) ∧
  (∀ P t fr ob r, QL fr ob P (.tmp t :: r) = (QL fr ob P r).map (look fr t :: ·)) ∧
  (∀ P fr ob, QL fr ob P [] = some []) ∧
  (∀ v, Qm [v] = v) ∧
  (∀ v u r, Qm (v :: u :: r) = .tup (v :: u :: r)) ∧
  (∀ k, Xx k [] = []) ∧
  (∀ k v vs, Xx k (v :: vs) = (k, v) :: Xx (k + 1) vs) := by
 refine ⟨?_, ?_, ?_, ?_, ?_, ?_, ?_, ?_, ?_, ?_, ?_, ?_, ?_, ?_, ?_, ?_, ?_, ?_, ?_, ?_, ?_, ?_, ?_, ?_, ?_, ?_, ?_, ?_, ?_, ?_, ?_, ?_, ?_, ?_, ?_, ?_, ?_, ?_, ?_, ?_, ?_, ?_, ?_, ?_, ?_, ?_, ?_, ?_, ?_, ?_, ?_, ?_, ?_, ?_⟩ <;> intros <;> first | rfl | exact Qnu | exact Qvm | exact Qnw | exact Qkp | exact propext ⟨fun h => h.2, fun h => ⟨rfl, h⟩⟩
mutual
def below (m : Nat) : AV → Bool
 | .own o _ | .ownc o _ _ | .view o _ _ _ | .ref o _ _ => decide (o < m)
 | .list _ cs | .cell cs | .agg cs | .tup cs => belowL m cs
 | .fn _ a b => belowL m a && belowL m b
 | _ => true
def belowL (m : Nat) : List AV → Bool
 | [] => true
 | c :: cs => below m c && belowL m cs
end
theorem Qk {M : Nat} {fr fr' : List (Nat × AV)} {ob : List Ob} (h : ∀ p ∈ fr', p.2 = .any ∨ look fr p.1 = p.2) : Le M ⟨fr, ob⟩ ⟨fr', ob⟩ := by
 intro Γ a w hM ⟨q1, q2, q3, be, g, hm, hfr⟩
 refine ⟨q1, q2, q3, be, g, hm, fun i => ?_⟩
 have key : ∀ l : List (Nat × AV), (∀ p ∈ l, p.2 = .any ∨ look fr p.1 = p.2) → look l i = .any ∨ look l i = look fr i := by
  intro l
  induction l with
  | nil => intro _; exact .inl rfl
  | cons p l ih =>
   obtain ⟨j, v⟩ := p
   intro h
   simp only [look]
   split
   ·rename_i e
    subst e
    rcases h (i, v) (by simp) with h1 | h1
    ·exact .inl h1
    ·exact .inr h1.symm
   ·exact ih fun p hp => h p (by simp [hp])
 rcases key fr' h with h1 | h1
 ·show Rep _ (look fr' i) _
  rw [h1]; simp only [Rep]
 ·show Rep _ (look fr' i) _
  rw [h1]; exact hfr i
theorem Qh {M : Nat} {fr fr2 : List (Nat × AV)} {ob : List Ob} (h : ∀ p ∈ fr2, p.2 = .any ∨ look fr p.1 = p.2 := by simp [Am.look]) : Le M ⟨fr, ob⟩ ⟨fr2, ob⟩ := Qk h
end Go.Am
/- The abstract machine: what lies in objects becomes data. -/
namespace Go.Am
open Go.RowKit
mutual
def Qv (f : List AV → Option (List AV)) (kp ok : Nat → Bool) (ob : List Ob) : AV → Option AV
 | .own o n =>
  if kp o = true then some (.own o n) else
  match ob[o]? with
  | some x => if x.n = n ∧ ok o = true then (f x.cs).map (.list n) else none
  | none => none
 | .ownc o n c =>
  if kp o = true then some (.ownc o n c) else
  match ob[o]? with
  | some x => if x.n = n ∧ ok o = true then (f x.cs).map (.list n) else none
  | none => none
 | .view o ver k n =>
  if kp o = true then some (.view o ver k n) else
  match ob[o]? with
  | some x => if x.n = ver ∧ ok o = true ∧ n ≠ 0 then (f ((x.cs.drop k).take (n * (if x.n = 1 ∧ x.cs.length < k + n * x.sz then 1 else x.sz)))).map (.list n) else none
  | none => none
 | .ref o ver k =>
  if kp o = true then some (.ref o ver k) else
  match ob[o]? with
  | some x => if x.n = ver ∧ ok o = true then (f (x.cs.drop k)).map .cell else none
  | none => none
 | .list n cs => (frzL f kp ok ob cs).map (.list n)
 | .cell cs => (frzL f kp ok ob cs).map .cell
 | .agg cs => (frzL f kp ok ob cs).map .agg
 | .tup cs => (frzL f kp ok ob cs).map .tup
 | .fn g a b =>
  match frzL f kp ok ob a, frzL f kp ok ob b with
  | some a, some b => some (.fn g a b)
  | _, _ => none
 | .any => some .any
 | .int k n => some (.int k n)
 | .bool b => some (.bool b)
 | .ubool => some .ubool
 | .str s => some (.str s)
 | .lit v => some (.lit v)
 | .emp _ => some (.list 0 [])
def frzL (f : List AV → Option (List AV)) (kp ok : Nat → Bool) (ob : List Ob) : List AV → Option (List AV)
 | [] => some []
 | c :: cs =>
  match Qv f kp ok ob c, frzL f kp ok ob cs with
  | some c, some cs => some (c :: cs)
  | _, _ => none
end
def Qz (kp ok : Nat → Bool) (ob : List Ob) : Nat → List AV → Option (List AV)
 | 0 => fun cs => if isDL cs then some cs else none
 | k + 1 => frzL (Qz kp ok ob k) kp ok ob
def QI (ok : Nat → Bool) (ob : List Ob) (k : Nat) (l : List AV) : Option (List AV) := Qz (fun _ => false) ok ob k l
section
variable {B : Nat} {X Y : Cx} (g : Held B X) (hw : Y.w = X.w) (hC : ∀ b k, Y.av b k → X.av b k) {kp ok : Nat → Bool}
 (hK : ∀ (o : Nat) (x : Ob), kp o = true → X.ob[o]? = some x → ∃ y, Y.ob[o]? = some y ∧ y.n = x.n ∧ y.sz = x.sz ∧ Y.be[o]? = X.be[o]?)
 (hO : ∀ (o b c : Nat) (x : Ob), ok o = true → X.ob[o]? = some x → X.be[o]? = some (some (b, c)) → ∀ k, k < x.cs.length → ¬ Y.av b k)
include g hw hC hO
theorem QxN {b k : Nat} {vs : List Value} (h : AtC X b k vs) : AtC Y b k vs := fun i v hv =>
 ⟨⟨by rw [hw]; exact (h i v hv).1.1, fun hh => (h i v hv).1.2 (hC _ _ hh)⟩, (h i v hv).2⟩
theorem Qtp {o b c : Nat} {x : Ob} (ho : ok o = true) (hx : X.ob[o]? = some x) (he : X.be[o]? = some (some (b, c))) : ∃ vs, vs.length = x.cs.length ∧ RepL X x.cs vs ∧ AtC Y b 0 vs := by
 obtain ⟨cur, ⟨fr, q1, _⟩, q2, q3, q4, q5, q6, q7⟩ := g.ok o x _ hx he
 have hl := Qd3 (m := x.cs.length) q1 (fun v hv => q7 v (qM hv))
 refine ⟨_, q6.length, q6, fun i v hv => ⟨⟨by rw [hw]; exact (hl i v hv).1, fun hh => ?_⟩, (hl i v hv).2⟩⟩
 have hlt := (qd.1 hv).1
 have h2 := hh
 rw [yj] at h2
 exact hO o b c x ho hx he i (by rw [← q6.length]; exact hlt) h2
theorem AtC.part {Y : Cx} {b : Nat} {vs : List Value} (h : AtC Y b 0 vs) (k m : Nat) : AtC Y b k ((vs.drop k).take m) := fun i v hv => by
 rw [yO] at hv
 split at hv
 ·rw [jt] at hv
  have := h (k + i) v hv
  simpa using this
 ·cases hv
omit hw hC hO in
include hK in
theorem Qh6 {o ver : Nat} {p : Option (Option (Nat × Nat)) → Prop} (hk : kp o = true) (h : Cur X o ver p) : Cur Y o ver p := by
 obtain ⟨x, hx, h0, hn, hp⟩ := h
 obtain ⟨y, hy, e1, e2, e3⟩ := hK o x hk hx
 exact ⟨y, hy, by rw [e2]; exact h0, by rw [e1]; exact hn, fun e => by rw [e3]; exact hp (by omega)⟩
include hK
mutual
theorem QuB {f : List AV → Option (List AV)} (hf : ∀ cs r vs, f cs = some r → RepL X cs vs → RepL Y r vs) : ∀ (c r : AV) (v : Value), Qv f kp ok X.ob c = some r → Rep X c v → Rep Y r v
 | .any, r, v, h, _ => by simp only [Qv, qi] at h; subst h; simp only [Rep]
 | .int _ _, r, v, h, hr => by simp only [Qv, qi] at h; subst h; simpa only [Rep] using hr
 | .bool _, r, v, h, hr => by simp only [Qv, qi] at h; subst h; simpa only [Rep] using hr
 | .ubool, r, v, h, hr => by simp only [Qv, qi] at h; subst h; simpa only [Rep] using hr
 | .str _, r, v, h, hr => by simp only [Qv, qi] at h; subst h; simpa only [Rep] using hr
 | .lit _, r, v, h, hr => by simp only [Qv, qi] at h; subst h; simpa only [Rep] using hr
 | .emp _, r, v, h, hr => by
  simp only [Qv, qi] at h
  subst h
  simp only [Rep] at hr ⊢
  obtain ⟨a, e, _⟩ := hr
  exact ⟨a, 0, [], e, qj _, .inl rfl, by simp [RepL]⟩
 | .list n cs, r, v, h, hr => by
  simp only [Qv, qb] at h
  obtain ⟨cs', h, rfl⟩ := h
  simp only [Rep] at hr ⊢
  obtain ⟨a, cap, vs, e, gc, g1, g2⟩ := hr
  refine ⟨a, cap, vs, e, gc, ?_, frzL_sound hf cs cs' vs h g2⟩
  rcases g1 with g1 | ⟨b, k, e1, g1⟩
  ·exact .inl g1
  ·exact .inr ⟨b, k, e1, QxN g hw hC hO g1⟩
 | .cell cs, r, v, h, hr => by
  simp only [Qv, qb] at h
  obtain ⟨cs', h, rfl⟩ := h
  simp only [Rep] at hr ⊢
  obtain ⟨b, k, vs, e, g1, g2⟩ := hr
  exact ⟨b, k, vs, e, QxN g hw hC hO g1, frzL_sound hf cs cs' vs h g2⟩
 | .agg cs, r, v, h, hr => by
  simp only [Qv, qb] at h
  obtain ⟨cs', h, rfl⟩ := h
  simp only [Rep] at hr ⊢
  obtain ⟨vs, e, g2⟩ := hr
  exact ⟨vs, e, frzL_sound hf cs cs' vs h g2⟩
 | .tup cs, r, v, h, hr => by
  simp only [Qv, qb] at h
  obtain ⟨cs', h, rfl⟩ := h
  simp only [Rep] at hr ⊢
  obtain ⟨vs, e, g2⟩ := hr
  exact ⟨vs, e, frzL_sound hf cs cs' vs h g2⟩
 | .fn q a b, r, v, h, hr => by
  simp only [Qv] at h
  split at h
  ·rename_i a' b' ha hb
   cases h
   simp only [Rep] at hr ⊢
   obtain ⟨va, vb, e, g1, g2⟩ := hr
   exact ⟨va, vb, e, frzL_sound hf a a' va ha g1, frzL_sound hf b b' vb hb g2⟩
  ·cases h
 | .own o n, r, v, h, hr => by
  simp only [Qv] at h
  split at h
  ·rename_i hk
   cases h
   simp only [Rep] at hr ⊢
   exact ⟨Qh6 g hK hk hr.1, hr.2⟩
  split at h
  case h_2 => cases h
  rename_i x hx
  split at h
  case isFalse => cases h
  rename_i hok
  simp only [qb] at h
  obtain ⟨cs', h, rfl⟩ := h
  simp only [Rep] at hr
  obtain ⟨⟨y, hy, _, _, hp⟩, _⟩ := hr
  rw [hx] at hy
  cases hy
  have h2 := hp hok.1
  obtain ⟨e, he, hob⟩ := g.get hx
  cases e with
  | none =>
   simp only [he, OwnV] at h2
   obtain ⟨a, rfl⟩ := h2
   have hn : n = 0 := by rw [← hok.1]; exact hob.1
   subst hn
   have hcs : RepL Y cs' [] := hf _ _ _ h (by rw [hob.2]; simp [RepL])
   simp only [Rep]
   exact ⟨a, 0, [], rfl, qj _, .inl rfl, hcs⟩
  | some p =>
   obtain ⟨b, cap⟩ := p
   simp only [he, OwnV] at h2
   subst h2
   obtain ⟨vs, hl, hrv, hat⟩ := Qtp g hw hC hO hok.2 hx he
   obtain ⟨cur, ⟨fr, q1, _⟩, q2, q3, q4, q5, q6, q7⟩ := hob
   simp only [Rep]
   exact ⟨_, cap, vs, rfl, by omega, .inr ⟨b, 0, rfl, hat⟩, hf _ _ _ h hrv⟩
 | .ownc o n c, r, v, h, hr => by
  simp only [Qv] at h
  split at h
  ·rename_i hk
   cases h
   simp only [Rep] at hr ⊢
   exact ⟨Qh6 g hK hk hr.1, hr.2⟩
  split at h
  case h_2 => cases h
  rename_i x hx
  split at h
  case isFalse => cases h
  rename_i hok
  simp only [qb] at h
  obtain ⟨cs', h, rfl⟩ := h
  simp only [Rep] at hr
  obtain ⟨⟨y, hy, _, _, hp⟩, _⟩ := hr
  rw [hx] at hy
  cases hy
  have h2 := (hp hok.1).1
  obtain ⟨e, he, hob⟩ := g.get hx
  cases e with
  | none =>
   simp only [he, OwnV] at h2
   obtain ⟨a, rfl⟩ := h2
   have hn : n = 0 := by rw [← hok.1]; exact hob.1
   subst hn
   have hcs : RepL Y cs' [] := hf _ _ _ h (by rw [hob.2]; simp [RepL])
   simp only [Rep]
   exact ⟨a, 0, [], rfl, qj _, .inl rfl, hcs⟩
  | some p =>
   obtain ⟨b, cap⟩ := p
   simp only [he, OwnV] at h2
   subst h2
   obtain ⟨vs, hl, hrv, hat⟩ := Qtp g hw hC hO hok.2 hx he
   obtain ⟨cur, ⟨fr, q1, _⟩, q2, q3, q4, q5, q6, q7⟩ := hob
   simp only [Rep]
   exact ⟨_, cap, vs, rfl, by omega, .inr ⟨b, 0, rfl, hat⟩, hf _ _ _ h hrv⟩
 | .view o ver k n, r, v, h, hr => by
  simp only [Qv] at h
  split at h
  ·rename_i hk
   cases h
   simp only [Rep] at hr ⊢
   exact ⟨Qh6 g hK hk hr.1, hr.2⟩
  split at h
  case h_2 => cases h
  rename_i x hx
  split at h
  case isFalse => cases h
  rename_i hok
  simp only [qb] at h
  obtain ⟨cs', h, rfl⟩ := h
  simp only [Rep] at hr
  obtain ⟨⟨y, hy, _, _, hp⟩, _⟩ := hr
  rw [hx] at hy
  cases hy
  obtain ⟨a, cap, rfl, hc, h2⟩ := hp hok.1
  rcases h2 with h2 | ⟨b, c, he, rfl⟩
  ·exact absurd h2 hok.2.2
  ·obtain ⟨vs, hl, hrv, hat⟩ := Qtp g hw hC hO hok.2.1 hx he
   simp only [Rep]
   exact ⟨_, cap, _, rfl, hc, .inr ⟨b, k, rfl, AtC.part g hw hC hO hat k _⟩, hf _ _ _ h ((hrv.drop k).take _)⟩
 | .ref o ver k, r, v, h, hr => by
  simp only [Qv] at h
  split at h
  ·rename_i hk
   cases h
   simp only [Rep] at hr ⊢
   exact ⟨Qh6 g hK hk hr.1, hr.2⟩
  split at h
  case h_2 => cases h
  rename_i x hx
  split at h
  case isFalse => cases h
  rename_i hok
  simp only [qb] at h
  obtain ⟨cs', h, rfl⟩ := h
  simp only [Rep] at hr
  obtain ⟨⟨y, hy, _, _, hp⟩, _⟩ := hr
  rw [hx] at hy
  cases hy
  obtain ⟨b, c, he, rfl⟩ := hp hok.1
  obtain ⟨vs, hl, hrv, hat⟩ := Qtp g hw hC hO hok.2 hx he
  simp only [Rep]
  refine ⟨b, k, vs.drop k, rfl, ?_, hf _ _ _ h (hrv.drop k)⟩
  have := AtC.part g hw hC hO hat k (vs.drop k).length
  rwa [qW] at this
theorem frzL_sound {f : List AV → Option (List AV)} (hf : ∀ cs r vs, f cs = some r → RepL X cs vs → RepL Y r vs) : ∀ (cs r : List AV) (vs : List Value), frzL f kp ok X.ob cs = some r → RepL X cs vs → RepL Y r vs
 | [], r, vs, h, hr => by simp only [frzL, qi] at h; subst h; simpa only [RepL] using hr
 | c :: cs, r, vs, h, hr => by
  simp only [frzL] at h
  split at h
  ·rename_i c' cs' h1 h2
   cases h
   simp only [RepL] at hr ⊢
   obtain ⟨v, rest, e, g1, g2⟩ := hr
   exact ⟨v, rest, e, QuB hf c c' v h1 g1, frzL_sound hf cs cs' rest h2 g2⟩
  ·cases h
end
theorem QgR : ∀ (k : Nat) (cs r : List AV) (vs : List Value), Qz kp ok X.ob k cs = some r → RepL X cs vs → RepL Y r vs
 | 0, cs, r, vs, h, hr => by
  simp only [Qz] at h
  split at h <;> cases h
  rename_i hd
  exact RepL.data (X := X) (Y := Y) (fun b k v hc ha => ⟨by rw [hw]; exact hc, fun hh => ha (hC _ _ hh)⟩) _ _ hd hr
 | k + 1, cs, r, vs, h, hr => frzL_sound g hw hC hK hO (QgR k) cs r vs h hr
end
theorem QlV {w : World} {C' : Nat → Nat → Prop} {b k : Nat} : (Cx.mk w [] [] C').av b k ↔ C' b k := by
 constructor
 ·rintro (h | ⟨o, x, c, h, _⟩)
  ·exact h
  ·simp at h
 ·exact fun h => .inl h
theorem Qcj {B : Nat} {X : Cx} (g : Held B X) {C' : Nat → Nat → Prop} (hC : ∀ b k, C' b k → X.av b k) {ok : Nat → Bool}
  (hO : ∀ (o b c : Nat) (x : Ob), ok o = true → X.ob[o]? = some x → X.be[o]? = some (some (b, c)) → ∀ k, k < x.cs.length → ¬ C' b k) (k : Nat) (cs r : List AV) (vs : List Value) (h : QI ok X.ob k cs = some r) (hr : RepL X cs vs) : RepL ⟨X.w, [], [], C'⟩ r vs :=
 QgR (X := X) (Y := ⟨X.w, [], [], C'⟩) g rfl (fun b k h => hC b k (QlV.1 h)) (fun o x h _ => by cases h) (fun o b c x h1 h2 h3 k hk hh => hO o b c x h1 h2 h3 k hk (QlV.1 hh)) k cs r vs h hr
theorem Qi {P : Prg} {f : FuncId} {ds : List AV} {r : AV} (k : Nat) (h1 : isDL ds = true) (h2 : isD r = true) (h : ACall P f ds [] (fun r' ob' => QI (fun _ => true) ob' (k + 1) [r'] = some [r])) : VC P f ds r := by
 obtain ⟨h0, h⟩ := h
 refine ⟨h0, h1, h2, fun w C vs hbnd hG hr => ?_⟩
 have g : Held w.heap.size ⟨w, [], [], C⟩ := ⟨rfl, by simp, by simp, by simp, hbnd, qj _⟩
 refine (h w.heap.size w [] C vs g hG hr).mono ?_
 rintro e w' ⟨v, r', ob', be', rfl, hb, hh, hm, hv, hf⟩
 refine ⟨v, rfl, hb, ?_⟩
 have := Qcj (X := ⟨w', ob', be', C⟩) hh (C' := C) (fun b k h => .inl h) (ok := fun _ => true) (fun o b c x _ _ he k _ hc => by
  have h1 := hh.base o b c he
  have h2 := hh.bnd b k hc
  omega) (k + 1) [r'] [r] [v] hf (by simp only [RepL]; exact ⟨v, [], rfl, hv, rfl⟩)
 simp only [RepL] at this
 obtain ⟨v', rest, e, h3, _⟩ := this
 cases e
 exact h3
def flat : AV → Bool
 | .int _ _ | .bool _ | .ubool | .str _ => true
 | _ => false
def flatR : AV → Bool
 | .tup cs => cs.all flat
 | v => flat v
theorem Rep.flat {X Y : Cx} {c : AV} {v : Value} (h : flat c = true) (hr : Rep X c v) : Rep Y c v := by
 cases c <;> first | (cases h; done) | (simp only [Rep] at hr ⊢; exact hr)
theorem RepL.flat {X Y : Cx} : ∀ {cs : List AV} {vs : List Value}, cs.all Go.Am.flat = true → RepL X cs vs → RepL Y cs vs
 | [], _, _, hr => by simp only [RepL] at hr ⊢; exact hr
 | c :: cs, _, h, hr => by
  simp only [List.all_cons, qo] at h
  simp only [RepL] at hr ⊢
  obtain ⟨v, rest, e, h1, h2⟩ := hr
  exact ⟨v, rest, e, Rep.flat h.1 h1, RepL.flat h.2 h2⟩
theorem Rep.flatR {X Y : Cx} {c : AV} {v : Value} (h : flatR c = true) (hr : Rep X c v) : Rep Y c v := by
 cases c
 case tup cs =>
  simp only [Rep] at hr ⊢
  obtain ⟨vs, e, h2⟩ := hr
  exact ⟨vs, e, RepL.flat h h2⟩
 all_goals exact Rep.flat h hr
theorem ACall.of_vc_flat {P : Prg} {f : FuncId} {avs ds : List AV} {r : AV} (k : Nat) {ob : List Ob} (hf : QI (fun _ => true) ob (k + 1) avs = some ds) (h : VC P f ds r) (hr : flatR r = true) {K : AV → List Ob → Prop} (hK : K r ob) : ACall P f avs ob K := by
 obtain ⟨h0, h1, h2, h3⟩ := h
 refine ⟨h0, fun B w be C vs g hG hrep => ?_⟩
 have hd := Qcj (X := ⟨w, ob, be, C⟩) g (C' := fun _ _ => False) (fun _ _ h => h.elim) (ok := fun _ => true) (fun _ _ _ _ _ _ _ _ _ h => h) (k + 1) avs ds vs hf hrep
 refine (h3 w (fun _ _ => False) vs (fun _ _ h => h.elim) (hG.data fun b k v hc _ => ⟨hc, fun h => (QlV.1 h)⟩) hd).mono ?_
 rintro e w' ⟨v, rfl, hb, hv⟩
 exact ⟨v, r, ob, be, rfl, hb.mono g.size, g.below hb, Moves.below (X := ⟨w, ob, be, C⟩) hb, Rep.flatR hr hv, hK⟩
def QG : List Nat → List Ob → List Ob
 | [], ob => ob
 | i :: is, ob => QG is (match ob[i]? with | some x => ob.set i { x with fz := x.fz + x.cs.length } | none => ob)
theorem QaA : ∀ (is : List Nat) (ob : List Ob) (o : Nat) (x : Ob), ob[o]? = some x → ∃ m, (QG is ob)[o]? = some { x with fz := m } ∧ x.fz ≤ m ∧ (o ∈ is → x.cs.length ≤ m)
 | [], ob, o, x, h => ⟨x.fz, h, qj _, fun h => by cases h⟩
 | i :: is, ob, o, x, h => by
  by_cases e : i = o
  ·subst e
   have hl := (qd.1 h).1
   obtain ⟨m, h1, h2, h3⟩ := QaA is (ob.set i { x with fz := x.fz + x.cs.length }) i { x with fz := x.fz + x.cs.length } (by simp [hl])
   simp only [QG, h]
   exact ⟨m, h1, by simp only at h2; omega, fun _ => by simp only at h2; omega⟩
  ·have h0 : (match ob[i]? with | some x => ob.set i { x with fz := x.fz + x.cs.length } | none => ob)[o]? = some x := by
    split
    ·rw [q9 e]; exact h
    ·exact h
   obtain ⟨m, h1, h2, h3⟩ := QaA is _ o x h0
   simp only [QG]
   exact ⟨m, h1, h2, fun hm => h3 (by rcases ym.1 hm with h | h; exact absurd h.symm e; exact h)⟩
theorem Held.still {B : Nat} {w : World} {be : List (Option (Nat × Nat))} {C : Nat → Nat → Prop} : ∀ (is : List Nat) {ob : List Ob}, Held B ⟨w, ob, be, C⟩ → Held B ⟨w, QG is ob, be, C⟩ ∧ Moves ⟨w, ob, be, C⟩ ⟨w, QG is ob, be, C⟩
 | [], ob, g => ⟨g, Moves.refl _⟩
 | i :: is, ob, g => by
  simp only [QG]
  split
  ·rename_i x hx
   obtain ⟨g1, m1⟩ := g.sealed hx (x.fz + x.cs.length) (Nat.le_add_right _ _)
   obtain ⟨g2, m2⟩ := Held.still is g1
   exact ⟨g2, m1.trans m2⟩
  ·exact Held.still is g
theorem ACall.of_vc_still {P : Prg} {f : FuncId} {avs ds : List AV} {r : AV} (k : Nat) (is : List Nat) {ob : List Ob} (hf : QI (fun o => is.contains o) ob (k + 1) avs = some ds) (h : VC P f ds r) {K : AV → List Ob → Prop} (hK : K r (QG is ob)) : ACall P f avs ob K := by
 have hd := h.2.1
 have hE := h.1
 obtain ⟨_, hcall⟩ := ACall.of_vc h (ob := QG is ob) (K := fun r' ob' => r' = r ∧ ob' = QG is ob) ⟨rfl, rfl⟩
 refine ⟨hE, fun B w be C vs g hG hrep => ?_⟩
 obtain ⟨g1, m1⟩ := Held.still is g
 let X : Cx := ⟨w, ob, be, C⟩
 let Y : Cx := ⟨w, QG is ob, be, C⟩
 have hsub : ∀ b k, Y.av b k → X.av b k := by
  rintro b k (h | ⟨o, x, c, h1, h2, h3⟩)
  ·exact .inl h
  ·have hlt : o < ob.length := by
    have hA : o < be.length := (qd.1 h2).1
    have hB : be.length = ob.length := g.len
    omega
   obtain ⟨m, h4, h5, _⟩ := QaA is ob o ob[o] (qg hlt)
   have h1' : (QG is ob)[o]? = some x := h1
   rw [h4] at h1'
   cases h1'
   exact .inr ⟨o, ob[o], c, qg hlt, h2, by simp only at h3; omega⟩
 have hds := Qcj (X := X) g (C' := Y.av) hsub (ok := fun o => is.contains o) (fun o b c x hok hx he k hk hav => by
  have hmem : o ∈ is := by simpa using hok
  rcases hav with h | ⟨o', x', c', h1, h2, h3⟩
  ·have h4 := g.base o b c he
   have h5 := g.bnd b k h
   omega
  ·have := g.inj o o' b c c' he h2
   subst this
   obtain ⟨m, h4, _, h6⟩ := QaA is ob o x hx
   have h1' : (QG is ob)[o]? = some x' := h1
   rw [h4] at h1'
   cases h1'
   have := h6 hmem
   simp only at h3
   omega) (k + 1) avs ds vs hf hrep
 have hds' : RepL ⟨w, QG is ob, be, C⟩ ds vs := RepL.data (X := ⟨w, [], [], Y.av⟩) (Y := Y) (fun b k v hc ha => ⟨hc, fun h => ha (.inl h)⟩) _ _ hd hds
 refine (hcall B w be C vs g1 (hG.move m1) hds').mono ?_
 rintro e w' ⟨v, r', ob', be', rfl, hb, hh, hm, hv, rfl, rfl⟩
 exact ⟨v, r', QG is ob, be', rfl, hb, hh, m1.trans hm, hv, hK⟩
theorem QkS {P : Prg} {Q : Exit → St → Prop} {f : FuncId} {avs ds : List AV} {r : AV} (k : Nat) (h : VC P f ds r) (hr : flatR r = true) {ob : List Ob} (hf : QI (fun _ => true) ob (k + 1) avs = some ds) {os : List AO} {fr : List (Nat × AV)} {dst : Option Nat} (hK : wpQ P os Q ⟨Xy fr dst r, ob⟩) : QcF P f avs ob os Q fr dst :=
 ACall.of_vc_flat k hf h hr hK
theorem QO {P : Prg} {Q : Exit → St → Prop} {f : FuncId} {avs ds : List AV} {r : AV} (k : Nat) (is : List Nat) (h : VC P f ds r) {ob : List Ob} (hf : QI (fun o => is.contains o) ob (k + 1) avs = some ds) {os : List AO} {fr : List (Nat × AV)} {dst : Option Nat} (hK : wpQ P os Q ⟨Xy fr dst r, QG is ob⟩) : QcF P f avs ob os Q fr dst :=
 ACall.of_vc_still k is hf h hK
end Go.Am
/- The abstract machine: objects forgotten; a nil slice as an object. -/
namespace Go.Am
open Go.RowKit
theorem ZR {α : Type} {l : List α} {m i : Nat} {x : α} (h : (l.take m)[i]? = some x) : i < m ∧ l[i]? = some x := by
 rw [yO] at h
 split at h
 ·exact ⟨by assumption, h⟩
 ·cases h
theorem Le.drop {M : Nat} (m k : Nat) {fr fr' : List (Nat × AV)} {ob ob' : List Ob} (hM : M ≤ m) (hlen : ob'.length = m)
  (hfr : ∀ p ∈ fr', p.2 = .any ∨ Qz (fun o => decide (o < m)) (fun o => decide (m ≤ o)) ob k [look fr p.1] = some [p.2])
  (hob : ∀ (i : Nat) (y : Ob), ob'[i]? = some y → ∃ cs, ob[i]? = some { y with cs := cs } ∧ Qz (fun o => decide (o < m)) (fun o => decide (m ≤ o)) ob k cs = some y.cs) : Le M ⟨fr, ob⟩ ⟨fr', ob'⟩ := by
 intro Γ a w hX ⟨q1, q2, q3, be, g, hm, hfr0⟩
 let X : Cx := ⟨w, ob, be, Γ.X0.C⟩
 let Y : Cx := ⟨w, ob', be.take m, Γ.X0.C⟩
 have hsub : ∀ b k, Y.av b k → X.av b k := by
  rintro b k (h | ⟨o, y, c, h1, h2, h3⟩)
  ·exact .inl h
  ·obtain ⟨hlt, h2'⟩ := ZR h2
   obtain ⟨cs, h4, _⟩ := hob o y h1
   exact .inr ⟨o, _, c, h4, h2', h3⟩
 have hK : ∀ (o : Nat) (x : Ob), decide (o < m) = true → X.ob[o]? = some x → ∃ y, Y.ob[o]? = some y ∧ y.n = x.n ∧ y.sz = x.sz ∧ Y.be[o]? = X.be[o]? := by
  intro o x ho hx
  have hlt : o < m := by simpa using ho
  have hy : ob'[o]? = some ob'[o] := qg (by omega)
  obtain ⟨cs, h4, _⟩ := hob o _ hy
  have hx' : ob[o]? = some x := hx
  rw [hx'] at h4
  cases h4
  exact ⟨_, hy, rfl, rfl, by simp only [Y, X]; rw [jc hlt]⟩
 have hO : ∀ (o b c : Nat) (x : Ob), decide (m ≤ o) = true → X.ob[o]? = some x → X.be[o]? = some (some (b, c)) → ∀ k, k < x.cs.length → ¬ Y.av b k := by
  rintro o b c x ho hx he k _ (h | ⟨o', y, c', h1, h2, h3⟩)
  ·have h4 := g.base o b c he
   have h5 := g.bnd b k h
   omega
  ·obtain ⟨hlt, h2'⟩ := ZR h2
   have := g.inj o o' b c c' he h2'
   have : m ≤ o := by simpa using ho
   omega
 have hrep : ∀ (cs r : List AV) (vs : List Value), Qz (fun o => decide (o < m)) (fun o => decide (m ≤ o)) ob k cs = some r → RepL X cs vs → RepL Y r vs := fun cs r vs h hr =>
  QgR (X := X) (Y := Y) g rfl hsub hK hO k cs r vs h hr
 have hlb : be.length = ob.length := g.len
 have hmo : m ≤ ob.length := by
  rcases Yn m with h | h
  ·omega
  ·obtain ⟨cs, h4, _⟩ := hob (m - 1) ob'[m - 1] (qg (by omega))
   have := (qd.1 h4).1
   omega
 have gY : Held Γ.B Y := by
  refine ⟨by simp only [Y, qh]; omega, fun o y e hy he => ?_, fun o o' b c c' h1 h2 => g.inj o o' b c c' (ZR h1).2 (ZR h2).2, fun o b c h1 => g.base o b c (ZR h1).2, g.bnd, g.size⟩
  obtain ⟨cs, h4, h5⟩ := hob o y hy
  have := g.ok o _ e h4 (ZR he).2
  cases e with
  | none =>
   obtain ⟨h6, h7⟩ := this
   have h7' : cs = [] := h7
   subst h7'
   have h8 := hrep _ _ [] h5 (by simp [RepL])
   exact ⟨h6, qG (h8.length).symm⟩
  | some p =>
   obtain ⟨b, cap⟩ := p
   obtain ⟨cur, r1, r2, r3, r4, r5, r6, r7⟩ := this
   have h8 := hrep _ _ _ h5 r6
   have h9 : y.cs.length = cs.length := by rw [← h8.length]; exact r6.length
   exact ⟨cur, by obtain ⟨fr, e, h⟩ := r1; exact ⟨fr, e, h⟩, r2, r3, r4, by rw [h9]; exact r5, by rw [h9]; exact h8, r7⟩
 refine ⟨q1, q2, q3, be.take m, gY, ⟨fun b k v hc ha => ?_, fun o x hx => ?_, fun b hb hf => ?_⟩, fun i => ?_⟩
 rotate_left 2
 ·obtain ⟨h1, h2⟩ := hm.blk b hb hf
  exact ⟨h1, fun o c h => h2 o c (ZR h).2⟩
 rotate_left 1
 ·obtain ⟨h1, h2⟩ := hm.cell b k v hc ha
  exact ⟨h1, fun h => h2 (hsub b k h)⟩
 ·obtain ⟨y, hy, h1, h2⟩ := hm.ob o x hx
  have hlt : o < m := by have := (qd.1 hx).1; omega
  obtain ⟨z, hz, e1, e2, e3⟩ := hK o y (by simpa using hlt) hy
  have e3' : (be.take m)[o]? = be[o]? := e3
  refine ⟨z, hz, by omega, fun h0 => ⟨by rw [e2]; exact (h2 h0).1, fun e => ?_⟩⟩
  show (be.take m)[o]? = _
  rw [e3']
  exact (h2 h0).2 (by omega)
 ·have key : ∀ l : List (Nat × AV), (∀ p ∈ l, p.2 = .any ∨ Qz (fun o => decide (o < m)) (fun o => decide (m ≤ o)) ob k [look fr p.1] = some [p.2]) → look l i = .any ∨ Qz (fun o => decide (o < m)) (fun o => decide (m ≤ o)) ob k [look fr i] = some [look l i] := by
   intro l
   induction l with
   | nil => intro _; exact .inl rfl
   | cons p l ih =>
    obtain ⟨j, v⟩ := p
    intro h
    simp only [look]
    split
    ·rename_i e
     subst e
     exact h (i, v) (by simp)
    ·exact ih fun p hp => h p (by simp [hp])
  show Rep Y (look fr' i) _
  rcases key fr' hfr with h1 | h1
  ·rw [h1]; simp only [Rep]
  ·have := hrep _ _ [a.tmps.getD i undef] h1 (by simp only [RepL]; exact ⟨_, [], rfl, hfr0 i, rfl⟩)
   simp only [RepL] at this
   obtain ⟨v', rest, e, h3, _⟩ := this
   cases e
   exact h3
theorem Qa2 {M : Nat} {fr : List (Nat × AV)} {ob : List Ob} (s ty sz : Nat) {z : Bool} (h0 : sz ≠ 0) (hs : look fr s = .emp z) : Le M ⟨fr, ob⟩ ⟨(s, .own ob.length 0) :: fr, ob ++ [⟨ty, sz, 0, [], 0⟩]⟩ := by
 intro Γ a w hX ⟨q1, q2, q3, be, g, hm, hfr0⟩
 obtain ⟨g1, m1⟩ := g.empty ty sz
 refine ⟨q1, q2, q3, _, g1, hm.trans m1, fun i => ?_⟩
 simp only [look]
 split
 ·rename_i e
  subst e
  have := hfr0 i
  rw [hs] at this
  simp only [Rep] at this ⊢
  obtain ⟨a', e, _⟩ := this
  have hl : be.length = ob.length := g.len
  refine ⟨⟨⟨ty, sz, 0, [], 0⟩, by simp, h0, qj _, fun _ => ?_⟩, by rw [e]; rfl⟩
  simp only [OwnV]
  rw [show ob.length = be.length from hl.symm]
  simp [e]
 ·exact Rep.move m1 _ _ (hfr0 i)
mutual
def isT : AV → Bool
 | .own _ _ | .ownc _ _ _ | .view _ _ _ _ | .ref _ _ _ | .emp _ => false
 | .list _ cs | .cell cs | .agg cs | .tup cs => isTL cs
 | .fn _ a b => isTL a && isTL b
 | _ => true
def isTL : List AV → Bool
 | [] => true
 | c :: cs => isT c && isTL cs
end
mutual
theorem QCy {f : List AV → Option (List AV)} {kp ok : Nat → Bool} {ob : List Ob} : ∀ (c : AV), isT c = true → Qv f kp ok ob c = some c
 | .any, _ | .int _ _, _ | .bool _, _ | .ubool, _ | .str _, _ | .lit _, _ => by simp only [Qv]
 | .emp _, h => by simp [isT] at h
 | .own _ _, h => by simp [isT] at h
 | .ownc _ _ _, h => by simp [isT] at h
 | .view _ _ _ _, h => by simp [isT] at h
 | .ref _ _ _, h => by simp [isT] at h
 | .list n cs, h => by simp only [isT] at h; simp only [Qv, frzL_T cs h, yo]
 | .cell cs, h => by simp only [isT] at h; simp only [Qv, frzL_T cs h, yo]
 | .agg cs, h => by simp only [isT] at h; simp only [Qv, frzL_T cs h, yo]
 | .tup cs, h => by simp only [isT] at h; simp only [Qv, frzL_T cs h, yo]
 | .fn g a b, h => by simp only [isT, qo] at h; simp only [Qv, frzL_T a h.1, frzL_T b h.2]
theorem frzL_T {f : List AV → Option (List AV)} {kp ok : Nat → Bool} {ob : List Ob} : ∀ (cs : List AV), isTL cs = true → frzL f kp ok ob cs = some cs
 | [], _ => by simp only [frzL]
 | c :: cs, h => by simp only [isTL, qo] at h; simp only [frzL, QCy c h.1, frzL_T cs h.2]
end
theorem Xm (a b : List AV) : isTL (a ++ b) = (isTL a && isTL b) := by
 induction a with
 | nil => rfl
 | cons c cs ih => simp only [yk, isTL, ih, Bool.and_assoc]
theorem Qz4 : ∀ {a : List AV}, isTL a = true → isDL a = true := by
 have key : (∀ c : AV, isT c = true → isD c = true) := fun c => by
  exact AV.rec (motive_1 := fun c => isT c = true → isD c = true) (motive_2 := fun l => isTL l = true → isDL l = true)
   (fun _ => rfl) (fun _ _ _ => rfl) (fun _ _ => rfl) (fun _ => rfl) (fun _ _ => rfl) (fun _ _ => rfl) (fun _ _ => rfl) (fun _ _ ih h => by simp only [isT] at h; simp only [isD]; exact ih h) (fun _ ih h => by simp only [isT] at h; simp only [isD]; exact ih h)
   (fun _ _ h => by simp [isT] at h) (fun _ _ _ h => by simp [isT] at h) (fun _ _ _ _ h => by simp [isT] at h) (fun _ _ _ h => by simp [isT] at h) (fun _ ih h => by simp only [isT] at h; simp only [isD]; exact ih h) (fun _ ih h => by simp only [isT] at h; simp only [isD]; exact ih h)
   (fun _ _ _ ih1 ih2 h => by simp only [isT, qo] at h; simp only [isD, ih1 h.1, ih2 h.2, Yy]) (fun _ => rfl) (fun _ _ ih1 ih2 h => by simp only [isTL, qo] at h; simp only [isDL, ih1 h.1, ih2 h.2, Yy]) c
 intro a
 induction a with
 | nil => intro _; rfl
 | cons c cs ih => intro h; simp only [isTL, qo] at h; simp only [isDL, key c h.1, ih h.2, Yy]
end Go.Am
/- The abstract machine: bytes; steps whose outcome isn't known. -/
namespace Go.Am
open Go.RowKit
def bs (l : List UInt8) : AV := .list l.length (u8 l)
theorem Qxi {l : List UInt8} {k : Nat} (h : k < l.length) : (u8 l).drop k = .int .u8 l[k].toNat :: u8 (l.drop (k + 1)) := by
 simp only [u8, ← ji]
 rw [qF h]
 rfl
theorem Qe (l : List UInt8) : (u8 l).length = l.length := by simp [u8]
theorem QE (l : List UInt8) (k : Nat) : (u8 l).drop k = u8 (l.drop k) := by simp [u8, ji]
theorem QJ (l : List UInt8) (k : Nat) : (u8 l).take k = u8 (l.take k) := by simp [u8, yW]
theorem Qcd (a b : List UInt8) : u8 a ++ u8 b = u8 (a ++ b) := by simp [u8]
theorem Qoh : u8 [] = [] := rfl
theorem QgF (x : UInt8) (l : List UInt8) : u8 (x :: l) = .int .u8 x.toNat :: u8 l := rfl
theorem QiQ (l : List UInt8) : isDL (u8 l) = true := by
 induction l with
 | nil => rfl
 | cons x l ih => simp [QgF, isDL, isD, ih]
theorem Qr (l : List UInt8) : isD (bs l) = true := by simp [bs, isD, QiQ]
theorem QBZ {ob : List Ob} {l : List UInt8} {a b : Int} {i j : Nat} (ha : a = i) (hb : b = j) (h1 : i ≤ j) (h2 : j ≤ l.length) : Qjx ob 1 (.list l.length (u8 l)) a b = some (.list (j - i) (u8 ((l.drop i).take (j - i)))) := by
 subst ha hb
 have h3 : (0 : Int) ≤ i ∧ (i : Int) ≤ j := by omega
 have h4 : (j : Int) ≤ l.length ∧ l.length = (u8 l).length := by rw [Qe]; omega
 have h5 : ((j : Int) - i).toNat = j - i := by omega
 simp only [Qjx, qc h3, h5, qu, jz, QE, QJ]
 rw [qc h4]
section
variable {P : Prg} {N M : Nat} {Q : Exit → St → Prop}
end
theorem ev :
  (∀ ob sz n cs, Qj ob sz (.list n cs) = some (n, cs)) ∧
  (∀ ob sz z, Qj ob sz (.emp z) = some (0, [])) ∧
  (∀ ob cs, ZB ob (.cell cs) = some cs) ∧
  (∀ op a b, Qkb op (.str a) (.str b) = Qbh op a b) ∧
  (∀ k a b, Qkb .add (.int k a) (.int k b) = some (.int k (k.wrap (a + b)))) ∧
  (∀ k a b, Qkb .sub (.int k a) (.int k b) = some (.int k (k.wrap (a - b)))) ∧
  (∀ k a b, Qkb .mul (.int k a) (.int k b) = some (.int k (k.wrap (a * b)))) ∧
  (∀ k a b, Qkb .eql (.int k a) (.int k b) = some (.bool (a == b))) ∧
  (∀ k a b, Qkb .neq (.int k a) (.int k b) = some (.bool (a != b))) ∧
  (∀ k a b, Qkb .lss (.int k a) (.int k b) = some (.bool (decide (a < b)))) ∧
  (∀ k a b, Qkb .leq (.int k a) (.int k b) = some (.bool (decide (a ≤ b)))) ∧
  (∀ k a b, Qkb .gtr (.int k a) (.int k b) = some (.bool (decide (b < a)))) ∧
  (∀ k a b, Qkb .geq (.int k a) (.int k b) = some (.bool (decide (b ≤ a)))) ∧
  (∀ k a k' b, Qkb .shl (.int k a) (.int k' b) = Qu true k a b) ∧
  (∀ k a k' b, Qkb .shr (.int k a) (.int k' b) = Qu false k a b) ∧
  (∀ k a b, Qkb .quo (.int k a) (.int k b) = if b = 0 then none else some (.int k (k.wrap (a.tdiv b)))) ∧
  (∀ k a b, Qkb .rem (.int k a) (.int k b) = if b = 0 then none else some (.int k (a.tmod b))) ∧
  (∀ k a b, Qkb .and (.int k a) (.int k b) = some (.int k (k.wrap (BitVec.ofInt k.bits a &&& BitVec.ofInt k.bits b).toNat))) ∧
  (∀ k a b, Qkb .or (.int k a) (.int k b) = some (.int k (k.wrap (BitVec.ofInt k.bits a ||| BitVec.ofInt k.bits b).toNat))) ∧
  (∀ k a b, Qkb .xor (.int k a) (.int k b) = some (.int k (k.wrap (BitVec.ofInt k.bits a ^^^ BitVec.ofInt k.bits b).toNat))) ∧
  (∀ a, unA .not (.bool a) = some (.bool !a)) ∧
  ((true == true) = true) ∧ ((false == false) = true) ∧ ((true == false) = false) ∧ ((false == true) = false) ∧ (∀ x : Bool, (x == true) = x) ∧ (∀ x : Bool, (x == false) = !x) ∧ (∀ x : Bool, (false != x) = x) ∧ (∀ x : Bool, (true != x) = !x) ∧
  (loA none = some 0) ∧ (∀ k n, loA (some (.int k n)) = some n) ∧ (∀ len, hiA len none = some (len : Int)) ∧ (∀ len k n, hiA len (some (.int k n)) = some n) := by
 refine ⟨?_, ?_, ?_, ?_, ?_, ?_, ?_, ?_, ?_, ?_, ?_, ?_, ?_, ?_, ?_, ?_, ?_, ?_, ?_, ?_, ?_, ?_, ?_, ?_, ?_, ?_, ?_, ?_, ?_, ?_, ?_, ?_, ?_⟩ <;> intros <;> first | rfl | simp [Qkb, QCZ]
def zs (d : Nat) (p : AOp) : AO := ⟨some d, none, .op p⟩
def zu (p : AOp) : AO := ⟨none, none, .op p⟩
def zm (d a : Nat) : AO := ⟨some d, none, .op (.mv (.tmp a))⟩
def zc (d : Nat) (n : Int) : AO := ⟨some d, none, .op (.mv (.const (.int .i64 n)))⟩
def zb (o : BinOp) (d a b : Nat) : AO := ⟨some d, none, .op (.bin o (.tmp a) (.tmp b))⟩
def zn (o : BinOp) (d a : Nat) (n : Int) : AO := ⟨some d, none, .op (.bin o (.tmp a) (.const (.int .i64 n)))⟩
def zx (d a i : Nat) : AO := ⟨some d, none, .op (.extract (.tmp a) i)⟩
def zl (d a : Nat) : AO := ⟨some d, none, .op (.load none (.tmp a))⟩
def zL (d n a : Nat) : AO := ⟨some d, none, .op (.load (some n) (.tmp a))⟩
def zf (d o a : Nat) : AO := ⟨some d, none, .op (.faddr o (.tmp a))⟩
def zw (n a b : Nat) : AO := ⟨none, none, .op (.store n (.tmp a) (.tmp b))⟩
def zk (d a : Nat) : AO := ⟨some d, none, .op (.len none (.tmp a))⟩
def zi (d n a b : Nat) : AO := ⟨some d, none, .op (.iaddr (.slice n) (.tmp a) (.tmp b))⟩
def zq (d f : Nat) (l : List Operand) : AO := ⟨some d, none, .call f l⟩
def zg (d g : Nat) (b : Bool) (k : AK) : AO := ⟨some d, some (g, b), k⟩
def zK (n : Int) : Operand := .const (.int .i64 n)
def zN : Operand := .const (.slice none 0 0)
def zd (n : Nat) (q : AO) : It := ⟨n, false, q⟩
def ze (n : Nat) (q : AO) : It := ⟨n, true, q⟩
def zG (d g a : Nat) : AO := ⟨some d, some (g, false), .op (.mv (.tmp a))⟩
def zH (d g a : Nat) : AO := ⟨some d, some (g, true), .op (.mv (.tmp a))⟩
def zA (d f a : Nat) : AO := ⟨some d, none, .call f [.tmp a]⟩
def zB (d f a b : Nat) : AO := ⟨some d, none, .call f [.tmp a, .tmp b]⟩
def zP (d a b : Nat) : AO := ⟨some d, none, .op (.pick (.tmp a) (.const (.bool true)) (.tmp b))⟩
def zJ (d a b : Nat) : AO := ⟨some d, none, .op (.pick (.tmp a) (.tmp b) (.const (.bool false)))⟩
def zV (d : Nat) (b : Bool) : AO := ⟨some d, none, .op (.mv (.const (.bool b)))⟩
def zU (d a : Nat) : AO := ⟨some d, none, .op (.un .not (.tmp a))⟩
def zC (d a : Nat) : AO := ⟨some d, none, .op (.nilck (.tmp a))⟩
def zr (l : List AO) (a : AC) : AC := .seq (.reg l) a
def zT (l : List AO) : AC := .seq (.reg l) .ret
def zI (n : Nat) (a : AC) : AC := .cond (.tmp n) a .skip
def zE (n k : Nat) : AC := .cond (.tmp n) .skip (.exit k)
def z1L : List AV := [.int .i64 0, .int .i32 0, .int .i32 0, .int .i32 0, .int .i32 0, .int .i32 0, .int .i32 0, .int .i32 0, .int .i32 0, .int .i32 0, .int .i32 0, .int .i32 0, .int .i32 0, .int .i32 0, .int .i32 0, .int .i32 0, .int .i32 0, .int .i32 0, .int .i32 0, .int .i32 0, .int .i32 0, .int .i32 0, .int .i32 0, .int .i32 0, .int .i32 0, .int .i32 0, .int .i32 0, .int .i32 0, .int .i32 0, .int .i32 0, .int .i32 0, .int .i32 0, .int .i32 0]
def z2L : List AV := [.int .i64 0, .int .i32 0, .int .i64 0, .int .i32 0, .int .i32 0, .int .i32 0, .int .i32 0, .int .i32 0, .int .i32 0, .int .i32 0, .int .i32 0, .int .i32 0, .int .i32 0, .int .i32 0, .int .i32 0, .int .i32 0, .int .i32 0, .int .i32 0, .int .i32 0, .int .i32 0, .int .i32 0, .int .i32 0, .int .i32 0, .int .i32 0, .int .i32 0, .int .i32 0, .int .i32 0, .int .i32 0, .int .i32 0, .int .i32 0, .int .i32 0, .int .i32 0, .int .i32 0, .int .i32 0, .int .i32 0]
def z3L : List AV := [.int .i32 0, .int .i32 0, .int .i32 0, .int .i32 0, .int .i32 0, .int .i32 0, .int .i32 0, .int .i32 0, .int .i32 0, .int .i32 0, .int .i32 0, .int .i32 0, .int .i32 0, .int .i32 0, .int .i32 0, .int .i32 0]
def z4L : List AV := [.int .u64 0, .int .u64 0, .int .u64 0, .int .u64 0, .int .u64 0, .int .u64 0, .int .u64 0, .int .u64 0, .int .u64 0]
def z5L : List AV := [.int .i64 0, .int .i64 0, .int .u64 0, .int .u64 0, .int .i64 0, .int .i64 0, .int .u64 0, .int .u64 0, .int .i64 0, .int .i64 0, .int .u64 0, .int .u64 0, .int .i64 0, .int .i64 0, .int .u64 0, .int .u64 0, .int .i64 0, .int .i64 0, .int .u64 0, .int .u64 0, .int .i64 0, .int .i64 0, .int .u64 0, .int .u64 0]
def z6L : List AV := (z2L ++ (z2L ++ (z2L ++ (z2L ++ (z2L ++ z2L)))))
theorem abv :
  (∀ (d : Nat) (p : AOp), zs d p = (⟨some d, none, .op p⟩ : AO)) ∧ (∀ (p : AOp), zu p = (⟨none, none, .op p⟩ : AO)) ∧ (∀ (d a : Nat), zm d a = (⟨some d, none, .op (.mv (.tmp a))⟩ : AO)) ∧ (∀ (d : Nat) (n : Int), zc d n = (⟨some d, none, .op (.mv (.const (.int .i64 n)))⟩ : AO)) ∧ (∀ (o : BinOp) (d a b : Nat), zb o d a b = (⟨some d, none, .op (.bin o (.tmp a) (.tmp b))⟩ : AO)) ∧ (∀ (o : BinOp) (d a : Nat) (n : Int), zn o d a n = (⟨some d, none, .op (.bin o (.tmp a) (.const (.int .i64 n)))⟩ : AO)) ∧ (∀ (d a i : Nat), zx d a i = (⟨some d, none, .op (.extract (.tmp a) i)⟩ : AO)) ∧ (∀ (d a : Nat), zl d a = (⟨some d, none, .op (.load none (.tmp a))⟩ : AO)) ∧ (∀ (d n a : Nat), zL d n a = (⟨some d, none, .op (.load (some n) (.tmp a))⟩ : AO)) ∧ (∀ (d o a : Nat), zf d o a = (⟨some d, none, .op (.faddr o (.tmp a))⟩ : AO)) ∧ (∀ (n a b : Nat), zw n a b = (⟨none, none, .op (.store n (.tmp a) (.tmp b))⟩ : AO)) ∧ (∀ (d a : Nat), zk d a = (⟨some d, none, .op (.len none (.tmp a))⟩ : AO)) ∧ (∀ (d n a b : Nat), zi d n a b = (⟨some d, none, .op (.iaddr (.slice n) (.tmp a) (.tmp b))⟩ : AO)) ∧ (∀ (d f : Nat) (l : List Operand), zq d f l = (⟨some d, none, .call f l⟩ : AO)) ∧ (∀ (d g : Nat) (b : Bool) (k : AK), zg d g b k = (⟨some d, some (g, b), k⟩ : AO)) ∧ (∀ (n : Int), zK n = .const (.int .i64 n)) ∧ (zN = .const (.slice none 0 0)) ∧ (∀ (n : Nat) (q : AO), zd n q = (⟨n, false, q⟩ : It)) ∧ (∀ (n : Nat) (q : AO), ze n q = (⟨n, true, q⟩ : It)) ∧ (∀ (d g a : Nat), zG d g a = (⟨some d, some (g, false), .op (.mv (.tmp a))⟩ : AO)) ∧ (∀ (d g a : Nat), zH d g a = (⟨some d, some (g, true), .op (.mv (.tmp a))⟩ : AO)) ∧ (∀ (d f a : Nat), zA d f a = (⟨some d, none, .call f [.tmp a]⟩ : AO)) ∧ (∀ (d f a b : Nat), zB d f a b = (⟨some d, none, .call f [.tmp a, .tmp b]⟩ : AO)) ∧ (∀ (d a b : Nat), zP d a b = (⟨some d, none, .op (.pick (.tmp a) (.const (.bool true)) (.tmp b))⟩ : AO)) ∧ (∀ (d a b : Nat), zJ d a b = (⟨some d, none, .op (.pick (.tmp a) (.tmp b) (.const (.bool false)))⟩ : AO)) ∧ (∀ (d : Nat) (b : Bool), zV d b = (⟨some d, none, .op (.mv (.const (.bool b)))⟩ : AO)) ∧ (∀ (d a : Nat), zU d a = (⟨some d, none, .op (.un .not (.tmp a))⟩ : AO)) ∧ (∀ (d a : Nat), zC d a = (⟨some d, none, .op (.nilck (.tmp a))⟩ : AO)) ∧ (∀ (l : List AO) (a : AC), zr l a = .seq (.reg l) a) ∧ (∀ (l : List AO), zT l = .seq (.reg l) .ret) ∧ (∀ (n : Nat) (a : AC), zI n a = .cond (.tmp n) a .skip) ∧ (∀ (n k : Nat), zE n k = .cond (.tmp n) .skip (.exit k)) :=
 ⟨fun _ _ => rfl, fun _ => rfl, fun _ _ => rfl, fun _ _ => rfl, fun _ _ _ _ => rfl, fun _ _ _ _ => rfl, fun _ _ _ => rfl, fun _ _ => rfl, fun _ _ _ => rfl, fun _ _ _ => rfl, fun _ _ _ => rfl, fun _ _ => rfl, fun _ _ _ _ => rfl, fun _ _ _ => rfl, fun _ _ _ _ => rfl, fun _ => rfl, rfl, fun _ _ => rfl, fun _ _ => rfl, fun _ _ _ => rfl, fun _ _ _ => rfl, fun _ _ _ => rfl, fun _ _ _ _ => rfl, fun _ _ _ => rfl, fun _ _ _ => rfl, fun _ _ => rfl, fun _ _ => rfl, fun _ _ => rfl, fun _ _ => rfl, fun _ => rfl, fun _ _ => rfl, fun _ _ => rfl⟩
end Go.Am

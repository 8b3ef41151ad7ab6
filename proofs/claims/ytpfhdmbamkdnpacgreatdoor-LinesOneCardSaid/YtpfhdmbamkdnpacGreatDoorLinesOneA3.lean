/- An abstract machine for pure Go code, part 3: sound for the given semantics; no conditions. -/
import Derived.Test.YtpfhdmbamkdnpacGreatDoorLinesOneA2
set_option linter.unusedSectionVars false
set_option linter.unusedSimpArgs false
set_option linter.unusedVariables false
/- The abstract machine: arguments of any plain type. -/
namespace Go.Am
open Go.RowKit Go.ChangeShapes Go.WideShapes Go.Deep
inductive Sh where
 | bool
 | int (k : IntKind)
 | str
 | slice (e : Sh)
 | tuple (fs : List Sh)
mutual
def QcZ : Sh → List AV → Prop
 | .bool, cs => ∃ b, cs = [.bool b]
 | .int k, cs => ∃ n, cs = [.int k n] ∧ k.min ≤ n ∧ n ≤ k.max
 | .str, cs => ∃ s, cs = [.str s] ∧ s.length ≤ maxLen
 | .slice e, cs => ∃ L : List (List AV), cs = [.list L.length L.flatten] ∧ L.length ≤ maxLen ∧ ∀ c ∈ L, QcZ e c
 | .tuple fs, cs => FitsL fs cs
def FitsL : List Sh → List AV → Prop
 | [], cs => cs = []
 | f :: fs, cs => ∃ a b, cs = a ++ b ∧ QcZ f a ∧ FitsL fs b
end
def QoQ (P : Program) : Nat → List Field → Option Nat
 | o, [] => some o
 | o, f :: r => if f.offset = o then QoQ P (o + P.cellsOf f.type) r else none
def Qmk (P : Program) : Nat → TypeId → Option Sh
 | 0, _ => none
 | k + 1, t =>
  match P.underlying t with
  | some .bool => some .bool
  | some (.int K) => some (.int K)
  | some .string => some .str
  | some (.slice e) => (Qmk P k e).map .slice
  | some (.struct fs) => if QoQ P 0 fs.toList = some (P.cellsOf t) then (fs.toList.mapM fun f => Qmk P k f.type).map .tuple else none
  | some (.array n e) => if P.cellsOf t = n * P.cellsOf e then (Qmk P k e).map fun s => .tuple (List.replicate n s) else none
  | _ => none
section
variable {H : Type} {enc : TypeId × Value → H} {P : Program} {W : World}
def AtA (W : World) (a : Addr) (vs : List Value) : Prop := ∀ i v, vs[i]? = some v → W.cell? (a.add i) = some v ∧ v.oneCell' = true
theorem Qom (a : Addr) (i j : Nat) : (a.add i).add j = a.add (i + j) := by
 obtain ⟨b, o, s⟩ := a
 unfold Addr.add
 by_cases hi : i = 0
 ·subst hi; simp
 ·by_cases hj : j = 0
  ·subst hj; simp [hi]
  ·simp [hi, hj, Nat.add_assoc]
theorem AtA.append {a : Addr} {us vs : List Value} (h : AtA W a us) (g : AtA W (a.add us.length) vs) : AtA W a (us ++ vs) := by
 intro i v hv
 by_cases hi : i < us.length
 ·rw [qj hi] at hv
  exact h i v hv
 ·rw [qI (by omega)] at hv
  have := g _ v hv
  rw [Qom, show us.length + (i - us.length) = i by omega] at this
  exact this
theorem AtA.atC {a : Addr} {vs : List Value} (h : AtA W a vs) (h0 : vs ≠ []) : ∃ b k, a = ⟨b, k, none⟩ ∧ AtC (X0 W) b k vs := by
 match vs, h0 with
 | v :: r, _ =>
  have h1 := (h 0 v rfl).1
  have h2 : a.add 0 = a := by simp [Addr.add]
  rw [h2] at h1
  have h3 := QkL h1
  refine ⟨a.block, a.off, h3, fun i u hu => ?_⟩
  have h4 := h i u hu
  rw [Qpl a i (by rw [h3])] at h4
  exact ⟨⟨h4.1, Qon⟩, h4.2⟩
theorem QgE {k : Nat} (ih : ∀ (t : TypeId) (s : Sh), Qmk P k t = some s → ∀ (fuel : Nat) (cs : List Value) (x : DataW H × List MemPlace), DataW.trod enc P W 0 (fun _ => true) true fuel t cs = some x →
   ∃ as, RepL (X0 W) as cs ∧ QcZ s as ∧ ∀ v ∈ cs, v.oneCell' = true) (n : Nat) (cs : List Value) : ∀ (fs : List Field) (ss : List Sh) (o : Nat), QoQ P o fs = some cs.length → fs.mapM (fun f => Qmk P k f.type) = some ss →
  (∀ f ∈ fs, ∃ x, DataW.trod enc P W 0 (fun _ => true) true n f.type ((cs.drop f.offset).take (P.cellsOf f.type)) = some x) → ∃ as, RepL (X0 W) as (cs.drop o) ∧ FitsL ss as ∧ ∀ v ∈ cs.drop o, v.oneCell' = true
 | [], ss, o, hl, hs, _ => by
  simp at hs
  subst hs
  simp only [QoQ, qc] at hl
  subst hl
  exact ⟨[], by simp [RepL], by simp [FitsL], by simp⟩
 | f :: fs, ss, o, hl, hs, hx => by
  simp only [QoQ] at hl
  split at hl
  case isFalse => cases hl
  rename_i ho
  subst ho
  rw [qP] at hs
  simp only [qk, qe, qx, qc] at hs
  obtain ⟨s, h1, ss', h2, rfl⟩ := hs
  obtain ⟨x, h3⟩ := hx f (by simp)
  obtain ⟨as, h4, h5, h6⟩ := ih _ _ h1 _ _ _ h3
  obtain ⟨bs, h7, h8, h9⟩ := QgE ih n cs fs ss' _ hl h2 fun g hg => hx g (by simp [hg])
  have e : cs.drop f.offset = (cs.drop f.offset).take (P.cellsOf f.type) ++ cs.drop (f.offset + P.cellsOf f.type) := by
   rw [← List.drop_drop]; exact (yr _ _).symm
  refine ⟨as ++ bs, by rw [e]; exact h4.append h7, by simp only [FitsL]; exact ⟨as, bs, rfl, h5, h8⟩, fun v hv => ?_⟩
  rw [e, qp] at hv
  exact hv.elim (h6 v) (h9 v)
theorem QkW {k : Nat} {e : TypeId} {s : Sh} (ih : ∀ (fuel : Nat) (cs : List Value) (x : DataW H × List MemPlace), DataW.trod enc P W 0 (fun _ => true) true fuel e cs = some x →
   ∃ as, RepL (X0 W) as cs ∧ QcZ s as ∧ ∀ v ∈ cs, v.oneCell' = true) (n sz : Nat) : ∀ (m : Nat) (cs : List Value), cs.length = m * sz →
  (∀ i, i < m → ∃ x, DataW.trod enc P W 0 (fun _ => true) true n e ((cs.drop (i * sz)).take sz) = some x) → ∃ as, RepL (X0 W) as cs ∧ FitsL (List.replicate m s) as ∧ ∀ v ∈ cs, v.oneCell' = true
 | 0, cs, hl, _ => by
  obtain rfl : cs = [] := qw (by omega)
  exact ⟨[], by simp [RepL], by simp [FitsL], by simp⟩
 | m + 1, cs, hl, hx => by
  obtain ⟨x, h3⟩ := hx 0 (by omega)
  rw [Nat.zero_mul, List.drop_zero] at h3
  obtain ⟨as, h4, h5, h6⟩ := ih _ _ _ h3
  obtain ⟨bs, h7, h8, h9⟩ := QkW (k := k) ih n sz m (cs.drop sz) (by simp [hl, yb]) fun i hi => by
   obtain ⟨y, hy⟩ := hx (i + 1) (by omega)
   rw [yb, yQ, Nat.add_comm, ← List.drop_drop] at hy
   exact ⟨y, hy⟩
  have e := yr sz cs
  refine ⟨as ++ bs, by rw [← e]; exact h4.append h7, by rw [List.replicate_succ]; simp only [FitsL]; exact ⟨as, bs, rfl, h5, h8⟩, fun v hv => ?_⟩
  rw [← e, qp] at hv
  exact hv.elim (h6 v) (h9 v)
theorem QkX {s : Sh} {a : Addr} {sz : Nat} {C : Nat → List Value} (hl : ∀ i, (C i).length = sz ∨ True) : ∀ (m : Nat),
  (∀ i, i < m → (C i).length = sz ∧ AtA W (a.add (i * sz)) (C i) ∧ ∃ as, RepL (X0 W) as (C i) ∧ QcZ s as) →
  ∃ (vs : List Value) (L : List (List AV)), vs.length = m * sz ∧ AtA W a vs ∧ RepL (X0 W) L.flatten vs ∧ L.length = m ∧ ∀ c ∈ L, QcZ s c
 | 0, _ => ⟨[], [], by simp, fun i v h => by simp at h, by simp [RepL], rfl, by simp⟩
 | m + 1, h => by
  obtain ⟨vs, L, h1, h2, h3, h4, h5⟩ := QkX hl m fun i hi => h i (by omega)
  obtain ⟨g1, g2, as, g3, g4⟩ := h m (by omega)
  refine ⟨vs ++ C m, L ++ [as], by simp [h1, g1, yb], h2.append (by rw [h1]; exact g2), by simpa using h3.append g3, by simp [h4], fun c hc => ?_⟩
  simp only [qp, qZ] at hc
  exact hc.elim (h5 c) fun e => e ▸ g4
theorem Qfd : ∀ (k : Nat) (t : TypeId) (s : Sh), Qmk P k t = some s → ∀ (fuel : Nat) (cs : List Value) (x : DataW H × List MemPlace), DataW.trod enc P W 0 (fun _ => true) true fuel t cs = some x →
  ∃ as, RepL (X0 W) as cs ∧ QcZ s as ∧ ∀ v ∈ cs, v.oneCell' = true
 | 0, _, _, h => by simp [Qmk] at h
 | k + 1, t, s, h => by
  intro fuel cs x hx
  simp only [Qmk] at h
  split at h
  ·rename_i hu
   cases h
   obtain ⟨b, rfl, _⟩ := DataW.trod_bool hu hx
   exact ⟨[.bool b], by simp only [RepL, Rep]; exact ⟨_, _, rfl, rfl, rfl⟩, by simp only [QcZ]; exact ⟨b, rfl⟩, by simp [Value.oneCell']⟩
  ·rename_i K hu
   cases h
   obtain ⟨n, rfl, _, hw⟩ := DataW.trod_int hu hx
   simp only [Lit.wf, qf, ql] at hw
   exact ⟨[.int K n], by simp only [RepL, Rep]; exact ⟨_, _, rfl, rfl, rfl⟩, by simp only [QcZ]; exact ⟨n, rfl, hw⟩, by simp [Value.oneCell']⟩
  ·rename_i hu
   cases h
   obtain ⟨s, rfl, _, hw⟩ := DataW.trod_string hu hx
   exact ⟨[.str s.data.toList], by simp only [RepL, Rep]; exact ⟨_, _, rfl, rfl, rfl⟩, by simp only [QcZ]; exact ⟨_, rfl, by simpa using hw⟩, by simp [Value.oneCell']⟩
  ·rename_i e hu
   rw [qa] at h
   obtain ⟨se, he, rfl⟩ := h
   rcases DataW.trod_slice hu hx with ⟨rfl, _⟩ | ⟨a, len, cap, elems, rest, n, _, rfl, _, _, hl, hm, hlen, hel, _, _⟩
   ·refine ⟨[.list 0 []], ?_, ?_, by simp [Value.oneCell']⟩
    ·simp only [RepL, Rep]; exact ⟨_, _, rfl, ⟨none, 0, [], rfl, qg _, .inl rfl, rfl⟩, rfl⟩
    ·simp only [QcZ]; exact ⟨[], rfl, by simp, by simp⟩
   ·have key : ∀ i, i < len → ∃ c, c.length = P.cellsOf e ∧ AtA W (a.add (i * P.cellsOf e)) c ∧ ∃ as, RepL (X0 W) as c ∧ QcZ se as := fun i hi => by
     have h1 := hel i hi
     rw [qd (by omega), qe] at h1
     obtain ⟨c, h2, h3⟩ := h1
     obtain ⟨as, h4, h5, h6⟩ := Qfd k e se he _ _ _ h3
     obtain ⟨_, h7, h8⟩ := World.cells?_some h2
     refine ⟨c, h7, fun j v hv => ⟨?_, h6 v (qK hv)⟩, as, h4, h5⟩
     rw [h8 j (by rw [← h7]; exact (qb.1 hv).1)]
     exact hv
    obtain ⟨C, hC⟩ := choose_lt (α := List Value) (p := fun i c => c.length = P.cellsOf e ∧ AtA W (a.add (i * P.cellsOf e)) c ∧ ∃ as, RepL (X0 W) as c ∧ QcZ se as) key
    obtain ⟨vs, L, g1, g2, g3, g4, g5⟩ := QkX (s := se) (a := a) (sz := P.cellsOf e) (C := C) (fun _ => .inr trivial) len hC
    refine ⟨[.list L.length L.flatten], ?_, ?_, by simp [Value.oneCell']⟩
    ·simp only [RepL, Rep]
     refine ⟨_, _, rfl, ⟨some a, cap, vs, by rw [g4], by omega, ?_, g3⟩, rfl⟩
     by_cases h0 : vs = []
     ·exact .inl h0
     ·obtain ⟨b, o, rfl, h1⟩ := g2.atC h0
      exact .inr ⟨b, o, rfl, h1⟩
    ·simp only [QcZ]; exact ⟨L, rfl, by omega, g5⟩
  ·rename_i fs hu
   split at h
   case isFalse => cases h
   rename_i hlay
   rw [qa] at h
   obtain ⟨ss, hs, rfl⟩ := h
   obtain ⟨xs, n, _, _, hl, hlen, hf⟩ := DataW.trod_struct hu hx
   have := QgE (Qfd k) n cs fs.toList ss 0 (by rw [hl]; exact hlay) hs fun f hf' => by
    obtain ⟨i, hi⟩ := List.getElem?_of_mem hf'
    have hi' : fs[i]? = some f := by simpa using hi
    have := hf i f hi'
    have hlt : i < xs.length := by rw [hlen]; exact (qi.1 hi').1
    rw [qd hlt] at this
    exact ⟨_, this⟩
   simpa [QcZ] using this
  ·rename_i n e hu
   split at h
   case isFalse => cases h
   rename_i hsz
   rw [qa] at h
   obtain ⟨se, he, rfl⟩ := h
   obtain ⟨xs, m, _, _, hl, hlen, hf⟩ := DataW.trod_array hu hx
   have := QkW (k := k) (Qfd k e se he) m (P.cellsOf e) n cs (by rw [hl, hsz]) fun i hi => by
    have := hf i hi
    rw [qd (by omega)] at this
    exact ⟨_, this⟩
   simpa [QcZ] using this
  ·cases h
theorem Qpi {k : Nat} {t : TypeId} {s : Sh} (h : Qmk P k t = some s) {v : Value} {d : DataW H} {ps : List MemPlace} (hd : DataW.Trod enc P W 0 (fun _ => true) true t v d ps) : ∃ as, RepL (X0 W) as v.cells.toList ∧ QcZ s as := by
 obtain ⟨fuel, hf⟩ := hd
 obtain ⟨as, h1, h2, _⟩ := Qfd k t s h _ _ _ hf
 exact ⟨as, h1, h2⟩
theorem Ql7 {k : Nat} {t : TypeId} {s : Sh} (h : Qmk P k t = some s) (ht : ∃ fs, P.underlying t = some (.struct fs)) {r : Reach} {base : Nat} {v : Value} {d : DataW H} {ps : List MemPlace} (hval : Value.okWide P W r base t v)
  (hd : DataW.Trod enc P W 0 (fun _ => true) true t v d ps) : ∃ as, Rep (X0 W) (.agg as) v ∧ QcZ s as := by
 obtain ⟨as, h1, h2⟩ := Qpi h hd
 obtain ⟨fs, hf⟩ := ht
 obtain ⟨cs, rfl, _⟩ := okWide_struct hf hval
 exact ⟨as, by simp only [Rep]; exact ⟨cs.toList, by simp, h1⟩, h2⟩
end
theorem Qca {α β : Type} {p : α → Prop} {f : β → α} {q : β → Prop} : ∀ {L : List α}, (∀ c ∈ L, p c) → (∀ c, p c → ∃ x, c = f x ∧ q x) → ∃ xs : List β, L = xs.map f ∧ ∀ x ∈ xs, q x
 | [], _, _ => ⟨[], rfl, by simp⟩
 | c :: L, h, g => by
  obtain ⟨xs, rfl, h2⟩ := Qca (L := L) (fun c hc => h c (by simp [hc])) g
  obtain ⟨x, rfl, hx⟩ := g c (h c (by simp))
  exact ⟨x :: xs, rfl, fun y hy => by rcases qo.1 hy with rfl | hy; exact hx; exact h2 y hy⟩
end Go.Am
/- The abstract machine: a walk that stands still once, between two statements, to tell its state anew. -/
namespace Go.Am
open Go.RowKit
def wpL (P : Prg) (N M : Nat) : Nat → AC → (Exit → St → Prop) → St → Prop
 | 0, ac, Q, st => ∃ st', Le M st st' ∧ wpC P N M ac Q st'
 | n + 1, .seq a b, Q, st => wpC P N M a (XY (wpL P N M n b Q) Q) st
 | _ + 1, _, _, _ => False
def Qpw (P : Prg) (N M n : Nat) (b : AC) (Q : Exit → St → Prop) : Exit → St → Prop := XY (wpL P N M n b Q) Q
theorem Qgi {P : Prg} {N M : Nat} : ∀ (n : Nat) (c : Code) (ac : AC) (Q : Exit → St → Prop) (st : St), Qb P N c = some ac → wpL P N M n ac Q st → AWp P N M c Q st
 | 0, c, ac, Q, st, hc, h => by
  obtain ⟨st', hl, h⟩ := h
  exact fun Γ a w h1 h2 hs => Qn c ac Q st' hc h Γ a w h1 h2 (hl Γ a w h2 hs)
 | n + 1, c, ac, Q, st, hc, h => by
  match ac, h with
  | .seq ax ay, h =>
   obtain ⟨x, y, rfl, hx, hy⟩ : ∃ x y, c = .seq x y ∧ Qb P N x = some ax ∧ Qb P N y = some ay := by
    cases c with
    | seq x y =>
     simp only [Qb] at hc
     split at hc
     case h_2 => cases hc
     rename_i hx
     split at hc <;> cases hc
     rename_i hy
     exact ⟨x, y, rfl, hx, hy⟩
    | region id ops d =>
     simp only [Qb] at hc
     split at hc
     case h_2 => cases hc
     split at hc
     ·split at hc <;> cases hc
     ·cases hc
    | cond x a b => simp only [Qb] at hc; split at hc <;> (try split at hc) <;> cases hc
    | block id c => simp only [Qb, qa] at hc; obtain ⟨_, _, h⟩ := hc; cases h
    | loop c => simp only [Qb, qa] at hc; obtain ⟨_, _, h⟩ := hc; cases h
    | _ => simp only [Qb] at hc; cases hc
   simp only [wpL] at h
   intro Γ a w h1 h2 hs
   refine wp_seq (wp_mono (Qn x ax _ st hx h Γ a w h1 h2 hs) ?_)
   rintro e a' w' ⟨st', hq, hs'⟩
   cases e with
   | normal => exact Qgi n y ay Q st' hy hq Γ a' w' h1 h2 hs'
   | exit id => exact ⟨st', hq, hs'⟩
   | goto l => exact ⟨st', hq, hs'⟩
   | ret => exact ⟨st', hq, hs'⟩
   | panic ch => exact ⟨st', hq, hs'⟩
   | outgrown => exact ⟨st', hq, hs'⟩
theorem ACall.of_awp {P : Prg} {f : FuncId} {ac : AC} {N : Nat} {rl : List ResultVar} (hbody : Body P f N rl ac)
  {avs : List AV} {ob : List Ob} {K : AV → List Ob → Prop} (hlen : avs.length ≤ N)
  (h0 : ∀ c, Qb P N c = some ac → AWp P N ob.length c (QaZ P rl K) ⟨Qz 0 avs, ob⟩) : ACall P f avs ob K := by
 obtain ⟨fn, hf, hn, hN, hrl, hc'⟩ := hbody
 subst hN
 subst hrl
 obtain ⟨c, hb, hc⟩ := qe.1 hc'
 refine ⟨⟨fn, hf, hn, by rw [hb]; rfl⟩, fun B w be C vs g hG hr => ?_⟩
 refine calls_of_wp hf hb ?_
 have hvl := hr.length
 let Γ : Ctx := ⟨B, ⟨w, ob, be, C⟩, fn.ntmps, []⟩
 have hs : Sim Γ ⟨Qz 0 avs, ob⟩ { tmps := vs.toArray ++ Array.replicate (fn.ntmps - vs.toArray.size) undef, defers := [] } w := by
  refine ⟨rfl, by simp [Γ]; omega, Below.refl _ _, be, g, Moves.refl _, fun i => ?_⟩
  rcases ZV avs vs 0 hr i with h1 | ⟨_, v, h2, h3⟩
  ·show Rep _ (look (Qz 0 avs) i) _
   rw [h1]; simp only [Rep]
  ·have h4 : (vs.toArray ++ Array.replicate (fn.ntmps - vs.toArray.size) undef).getD i undef = v := by
    simp only [yJ] at h2
    have hlt := (qb.1 h2).1
    rw [qr, yg (by simpa using hlt)]
    simp [h2]
   show Rep _ (look (Qz 0 avs) i) ((vs.toArray ++ Array.replicate (fn.ntmps - vs.toArray.size) undef).getD i undef)
   rw [h4]
   exact h3
 refine wp_mono (h0 c hc Γ _ w ⟨rfl, hG⟩ rfl hs) ?_
 rintro e a' w' ⟨st', he, hs'⟩
 obtain ⟨q1, q2, q3, be', g', hm, hfr⟩ := hs'
 have hpost : ∀ rs, Z8 st'.fr st'.ob P fn.results.toList = some rs → K (QM rs) st'.ob → a'.defers = [] ∧ ∃ v, (results fn a'.tmps).run P w' = .ok v w' ∧ ∃ v_1 r ob' be', Ending.returned v = .returned v_1 ∧ Below B w w' ∧ Held B ⟨w', ob', be', C⟩ ∧ Moves ⟨w, ob, be, C⟩ ⟨w', ob', be', C⟩ ∧ Rep ⟨w', ob', be', C⟩ r v_1 ∧ K r ob' := fun rs hrs hk => by
  obtain ⟨v, hv1, hv2⟩ := ZI (P := P) (Γ := Γ) g' hfr hrs
  exact ⟨q1, v, hv1, v, QM rs, st'.ob, be', rfl, q3, g', hm, hv2, hk⟩
 cases e with
 | normal =>
  simp only [QaZ] at he
  split at he
  ·exact hpost _ (by assumption) he
  ·exact he.elim
 | ret =>
  simp only [QaZ] at he
  split at he
  ·exact hpost _ (by assumption) he
  ·exact he.elim
 | exit id => exact he.elim
 | goto l => exact he.elim
 | panic ch => exact he.elim
 | outgrown => exact he.elim
theorem ACall.of_cut (n : Nat) {P : Prg} {f : FuncId} {ac : AC} {N : Nat} {rl : List ResultVar} (hbody : Body P f N rl ac)
  {avs : List AV} {ob : List Ob} {K : AV → List Ob → Prop} (hlen : avs.length ≤ N)
  (h0 : wpL P N ob.length n ac (QaZ P rl K) ⟨Qz 0 avs, ob⟩) : ACall P f avs ob K :=
 ACall.of_awp hbody hlen fun c hc => Qgi n c ac _ _ hc h0
theorem Qof :
  (∀ P N M n a b Q st, wpL P N M (n + 1) (.seq a b) Q st = wpC P N M a (Qpw P N M n b Q) st) ∧
  (∀ P N M n b Q st, Qpw P N M n b Q .normal st = wpL P N M n b Q st) ∧
  (∀ P N M n b Q st j, Qpw P N M n b Q (.exit j) st = Q (.exit j) st) ∧
  (∀ P N M n b Q st, Qpw P N M n b Q .ret st = Q .ret st) :=
 ⟨fun _ _ _ _ _ _ _ _ => rfl, fun _ _ _ _ _ _ _ => rfl, fun _ _ _ _ _ _ _ _ => rfl, fun _ _ _ _ _ _ _ => rfl⟩
end Go.Am
/- The abstract machine: what an object holds, told anew; a known capacity; a block taken over. -/
namespace Go.Am
open Go.RowKit
theorem Held.retell {B : Nat} {X : Cx} (g : Held B X) {p : Nat} {x : Ob} (hx : X.ob[p]? = some x) (cs' : List AV) (hl : cs'.length = x.cs.length) (hr : ∀ vs, RepL X x.cs vs → RepL X cs' vs) :
  let Y : Cx := ⟨X.w, X.ob.set p { x with cs := cs' }, X.be, X.C⟩
  Held B Y ∧ Moves X Y ∧ Moves Y X := by
 intro Y
 have hol : p < X.ob.length := (qb.1 hx).1
 have hob : ∀ (o2 : Nat) (x2 : Ob), Y.ob[o2]? = some x2 → (o2 = p ∧ x2 = { x with cs := cs' }) ∨ (o2 ≠ p ∧ X.ob[o2]? = some x2) := by
  intro o2 x2 h2
  simp only [Y, qq] at h2
  by_cases e : p = o2
  ·subst e; simp [hol] at h2; exact .inl ⟨rfl, h2.symm⟩
  ·simp [e] at h2; exact .inr ⟨fun h => e h.symm, h2⟩
 have hav : ∀ b' k, Y.av b' k ↔ X.av b' k := by
  intro b' k
  constructor
  ·rintro (h | ⟨o2, x2, c2, h1, h2, h3⟩)
   ·exact .inl h
   ·rcases hob o2 x2 h1 with ⟨rfl, rfl⟩ | ⟨_, h4⟩
    ·exact .inr ⟨o2, x, c2, hx, h2, h3⟩
    ·exact .inr ⟨o2, x2, c2, h4, h2, h3⟩
  ·rintro (h | ⟨o2, x2, c2, h1, h2, h3⟩)
   ·exact .inl h
   ·by_cases e : o2 = p
    ·subst e
     rw [hx] at h1; cases h1
     exact .inr ⟨o2, { x with cs := cs' }, c2, by simp [Y, hol], h2, h3⟩
    ·exact .inr ⟨o2, x2, c2, by simp only [Y]; rw [qA (fun h => e h.symm)]; exact h1, h2, h3⟩
 have hmv : Moves X Y := by
  refine ⟨fun b' k v hc ha => ⟨hc, fun h => ha ((hav b' k).1 h)⟩, fun o2 x2 h2 => ?_, fun b' _ hf => ⟨rfl, hf⟩⟩
  by_cases e : o2 = p
  ·subst e
   rw [hx] at h2; cases h2
   exact ⟨{ x with cs := cs' }, by simp [Y, hol], qg _, fun h => ⟨h, fun _ => rfl⟩⟩
  ·exact ⟨x2, by simp only [Y]; rw [qA (fun h => e h.symm)]; exact h2, qg _, fun h => ⟨h, fun _ => rfl⟩⟩
 have hmv' : Moves Y X := by
  refine ⟨fun b' k v hc ha => ⟨hc, fun h => ha ((hav b' k).2 h)⟩, fun o2 x2 h2 => ?_, fun b' _ hf => ⟨rfl, hf⟩⟩
  rcases hob o2 x2 h2 with ⟨rfl, rfl⟩ | ⟨_, h4⟩
  ·exact ⟨x, hx, qg _, fun h => ⟨h, fun _ => rfl⟩⟩
  ·exact ⟨x2, h4, qg _, fun h => ⟨h, fun _ => rfl⟩⟩
 refine ⟨⟨by simp [Y, g.len], fun o2 x2 e2 h2 h3 => ?_, g.inj, g.base, g.bnd, g.size⟩, hmv, hmv'⟩
 rcases hob o2 x2 h2 with ⟨rfl, rfl⟩ | ⟨hne, h4⟩
 ·have h5 := g.ok o2 x e2 hx h3
  cases e2 with
  | none =>
   obtain ⟨h6, h7⟩ := h5
   exact ⟨h6, by rw [h7] at hl; exact qw hl⟩
  | some q =>
   obtain ⟨b, c⟩ := q
   obtain ⟨cur, q1, q2, q3, q4, q5, q6, q7⟩ := h5
   exact ⟨cur, by obtain ⟨fr, e, h⟩ := q1; exact ⟨fr, e, h⟩, q2, q3, q4, by show cs'.length = _; rw [hl]; exact q5, by show RepL Y cs' (cur.toList.take cs'.length); rw [hl]; exact RepL.move hmv _ _ (hr _ q6), q7⟩
 ·exact (g.ok o2 x2 e2 h4 h3).move hmv fun _ _ _ => rfl
theorem ACall.cap {P : Prg} {f : FuncId} {avs : List AV} {ob : List Ob} {K : AV → List Ob → Prop} {p o n : Nat} {x y : Ob} {rest : List AV} (hp : ob[p]? = some x) (hx : x.cs = .own o n :: rest) (ho : ob[o]? = some y) (hn : y.n = n)
  (hE : Enters P f) (h : ∀ c, n ≤ c → c ≤ maxLen → ACall P f avs (ob.set p { x with cs := .ownc o n c :: rest }) K) : ACall P f avs ob K := by
 refine ⟨hE, fun B w be C vs g hG hr => ?_⟩
 have hcur : ∀ vs, RepL ⟨w, ob, be, C⟩ x.cs vs → ∃ v, Rep ⟨w, ob, be, C⟩ (.own o n) v := fun vs hv => by
  rw [hx] at hv
  simp only [RepL] at hv
  obtain ⟨v, r, rfl, hv, _⟩ := hv
  exact ⟨v, hv⟩
 obtain ⟨e, he, hok⟩ := g.get ho
 have hle : n ≤ QiC be[o]? ∧ QiC be[o]? ≤ maxLen := by
  have he' : be[o]? = some e := he
  rw [he']
  cases e with
  | none =>
   have := hok.1
   exact ⟨by simp only [QiC]; omega, by simp [QiC, maxLen]⟩
  | some q =>
   obtain ⟨b, c⟩ := q
   obtain ⟨cur, _, _, q3, q4, _⟩ := hok
   exact ⟨by simp only [QiC]; omega, q4⟩
 obtain ⟨g', m1, m2⟩ := g.retell hp (.ownc o n (QiC be[o]?) :: rest) (by rw [hx]; rfl) (fun vs hv => by
  rw [hx] at hv
  simp only [RepL] at hv ⊢
  obtain ⟨v, r, rfl, hv, h2⟩ := hv
  refine ⟨v, r, rfl, ?_, h2⟩
  simp only [Rep] at hv ⊢
  obtain ⟨⟨z, hz, hz0, hzn, hzp⟩, h1⟩ := hv
  exact ⟨⟨z, hz, hz0, hzn, fun e => ⟨hzp e, rfl⟩⟩, h1⟩)
 have := (h (QiC be[o]?) hle.1 hle.2).2 B w be C vs g' (hG.move m1) (RepL.move m1 _ _ hr)
 refine this.mono ?_
 rintro e w' ⟨v, r, ob', be', rfl, hb, hh, hm, hv, hk⟩
 exact ⟨v, r, ob', be', rfl, hb, hh, m1.trans hm, hv, hk⟩
theorem ACall.mono {P : Prg} {f : FuncId} {avs : List AV} {ob : List Ob} {K K' : AV → List Ob → Prop} (h : ACall P f avs ob K) (hk : ∀ r ob', K r ob' → K' r ob') : ACall P f avs ob K' := by
 refine ⟨h.1, fun B w be C vs g hG hr => (h.2 B w be C vs g hG hr).mono ?_⟩
 rintro e w' ⟨v, r, ob', be', rfl, hb, hh, hm, hv, hkk⟩
 exact ⟨v, r, ob', be', rfl, hb, hh, hm, hv, hk _ _ hkk⟩
def Qny (ob : List Ob) (o p : Nat) (x y : Ob) : List Ob := (ob.set o x).set p y
section
variable {ob : List Ob} {o p : Nat} {x y x' y' : Ob}
theorem Qms : (Qny ob o p x y).length = ob.length := by simp [Qny]
end
end Go.Am
/- The abstract machine: a function that returns a slice of its caller's own. -/
namespace Go.Am
open Go.RowKit
def shr (m : Nat) : AV → AV
 | .own _ n => .own m n
 | .tup (.own _ n :: cs) => .tup (.own m n :: cs)
 | v => v
def okr (n : Nat) : AV → Bool
 | .own _ k => k == n
 | .tup (.own _ k :: cs) => k == n && cs.all flat
 | _ => false
theorem Qk4 {X Y : Cx} {i j n : Nat} {x : Ob} {v : Value} (hx : X.ob[i]? = some x) (hy : Y.ob[j]? = some x) (he : Y.be[j]? = X.be[i]?) (h : Rep X (.own i n) v) : Rep Y (.own j n) v := by
 simp only [Rep] at h ⊢
 obtain ⟨⟨z, hz, h1, h2, h3⟩, h4⟩ := h
 rw [hx] at hz; cases hz
 exact ⟨⟨x, hy, h1, h2, fun e => by rw [he]; exact h3 e⟩, h4⟩
theorem Qia {X Y : Cx} {i j : Nat} {x : Ob} {r : AV} {v : Value} (hx : X.ob[i]? = some x) (hy : Y.ob[j]? = some x) (he : Y.be[j]? = X.be[i]?) (hok : okr x.n r = true) (h : Rep X (shr i r) v) : Rep Y (shr j r) v := by
 unfold okr at hok
 split at hok
 ·exact Qk4 hx hy he h
 ·simp only [shr] at h ⊢
  simp only [qf] at hok
  simp only [Rep, RepL] at h ⊢
  obtain ⟨vs, e, v1, rest, rfl, h1, h2⟩ := h
  exact ⟨_, e, v1, rest, rfl, Qk4 hx hy he (by simp only [Rep]; exact h1), RepL.flat hok.2 h2⟩
 ·cases hok
def VO (P : Prg) (f : FuncId) (ds : List AV) (r : AV) (x : Ob) : Prop :=
 Enters P f ∧ isDL ds = true ∧ isDL x.cs = true ∧ okr x.n r = true ∧ ∀ (w : World) (C : Nat → Nat → Prop) (vs : List Value), (∀ b k, C b k → b < w.heap.size) → GOk P.G ⟨w, [], [], C⟩ → RepL ⟨w, [], [], C⟩ ds vs →
  Calls P f vs.toArray w fun e w' => ∃ v be, e = .returned v ∧ Below w.heap.size w w' ∧ Held w.heap.size ⟨w', [x], [be], C⟩ ∧ Rep ⟨w', [x], [be], C⟩ (shr 0 r) v
theorem VO.of_walk {P : Prg} {f : FuncId} {ds : List AV} {r : AV} {x : Ob} (h1 : isDL ds = true) (h2 : isDL x.cs = true) (h3 : okr x.n r = true)
  (h : ACall P f ds [] (fun r' ob' => ∃ i, ob'[i]? = some x ∧ r' = shr i r)) : VO P f ds r x := by
 obtain ⟨h0, h⟩ := h
 refine ⟨h0, h1, h2, h3, fun w C vs hbnd hG hr => ?_⟩
 have g : Held w.heap.size ⟨w, [], [], C⟩ := ⟨rfl, by simp, by simp, by simp, hbnd, qg _⟩
 refine (h w.heap.size w [] C vs g hG hr).mono ?_
 rintro e w' ⟨v, r', ob', be', rfl, hb, hh, hm, hv, i, hi, rfl⟩
 obtain ⟨e, he, hok⟩ := hh.get hi
 have he' : be'[i]? = some e := he
 refine ⟨v, e, rfl, hb, ⟨rfl, fun o y e' hy he2 => ?_, fun o o' b c c' q1 q2 => ?_, fun o b c q => ?_, hbnd, hh.size⟩, Qia (X := ⟨w', ob', be', C⟩) (i := i) hi rfl (by simp [he']) h3 hv⟩
 ·obtain rfl : o = 0 := by
   rcases o with _ | o
   ·rfl
   ·simp at hy
  simp at hy he2
  subst hy; subst he2
  cases e with
  | none => exact hok
  | some q =>
   obtain ⟨b, cap⟩ := q
   obtain ⟨cur, q1, q2, q3, q4, q5, q6, q7⟩ := hok
   have hd : ∀ (b' k' : Nat) (v' : Value), (Cx.mk w' ob' be' C).w.cell? ⟨b', k', none⟩ = some v' → ¬ (Cx.mk w' ob' be' C).av b' k' → (Cx.mk w' [x] [some (b, cap)] C).w.cell? ⟨b', k', none⟩ = some v' ∧ ¬ (Cx.mk w' [x] [some (b, cap)] C).av b' k' := fun b' k' v' hc ha => ⟨hc, fun h => ha ?_⟩
   ·exact ⟨cur, q1, q2, q3, q4, q5, RepL.data hd _ _ h2 q6, q7⟩
   rcases h with h | ⟨o, y, c, a1, a2, a3⟩
   ·exact .inl h
   ·rcases o with _ | o
    ·simp at a1 a2
     subst a1
     obtain ⟨rfl, rfl⟩ := a2
     exact .inr ⟨i, x, _, hi, he', a3⟩
    ·simp at a1
 ·rcases o with _ | o
  ·rcases o' with _ | o'
   ·rfl
   ·simp at q2
  ·simp at q1
 ·rcases o with _ | o
  ·simp at q
   subst q
   exact hh.base i b c he'
  ·simp at q
theorem ACall.of_vo {P : Prg} {f : FuncId} {ds : List AV} {r : AV} {x : Ob} (h : VO P f ds r x) {ob : List Ob} {K : AV → List Ob → Prop} (hK : K (shr ob.length r) (ob ++ [x])) : ACall P f ds ob K := by
 obtain ⟨h0, h1, h2, h3, h⟩ := h
 refine ⟨h0, fun B w be C vs g hG hr => ?_⟩
 let X : Cx := ⟨w, ob, be, C⟩
 have hav : ∀ w' b k, (Cx.mk w' [] [] X.av).av b k ↔ X.av b k := fun w' b k => by
  constructor
  ·rintro (h | ⟨o, x, c, h, _⟩)
   ·exact h
   ·simp at h
  ·exact fun h => .inl h
 have hbnd : ∀ b k, X.av b k → b < w.heap.size := by
  rintro b k (h | ⟨o, x, c, q1, q2, _⟩)
  ·exact yB (g.bnd b k h) g.size
  ·exact g.block_lt q1 q2
 have hG' : GOk P.G ⟨w, [], [], X.av⟩ := fun q cs hq => Rep.data (X := X) (Y := ⟨w, [], [], X.av⟩) (fun b k v hc ha => ⟨hc, fun h => ha ((hav w b k).1 h)⟩) _ _ (by simp only [isD]; exact P.gd q cs hq) (hG q cs hq)
 refine (h w X.av vs hbnd hG' (RepL.data (X := X) (Y := ⟨w, [], [], X.av⟩) (fun b k v hc ha => ⟨hc, fun h => ha ((hav w b k).1 h)⟩) _ _ h1 hr)).mono ?_
 rintro e w' ⟨v, e, rfl, hb, hh, hv⟩
 have g' : Held B ⟨w', ob, be, C⟩ := g.below hb
 have hlen : be.length = ob.length := g.len
 let Z : Cx := ⟨w', [x], [e], X.av⟩
 let Y : Cx := ⟨w', ob ++ [x], be ++ [e], C⟩
 have hob : ∀ (o : Nat) (y : Ob), Y.ob[o]? = some y → (o = ob.length ∧ y = x) ∨ (o < ob.length ∧ ob[o]? = some y) := by
  intro o y hy
  simp only [Y] at hy
  rcases yP o ob.length with hl | hl
  ·rw [qj hl] at hy; exact .inr ⟨hl, hy⟩
  ·rw [qI hl] at hy
   have : o - ob.length = 0 := by
    rcases y8 (o - ob.length) with h | h
    ·exact h
    ·rw [qO (by simp; omega)] at hy; cases hy
   rw [this] at hy
   exact .inl ⟨by omega, by simpa using hy.symm⟩
 have hbe : ∀ (o : Nat) (y : Option (Nat × Nat)), Y.be[o]? = some y → (o = ob.length ∧ y = e) ∨ (o < ob.length ∧ be[o]? = some y) := by
  intro o y hy
  simp only [Y] at hy
  rcases yP o ob.length with hl | hl
  ·rw [qj (by omega)] at hy; exact .inr ⟨hl, hy⟩
  ·rw [qI (by omega)] at hy
   have : o - be.length = 0 := by
    rcases y8 (o - be.length) with h | h
    ·exact h
    ·rw [qO (by simp; omega)] at hy; cases hy
   rw [this] at hy
   exact .inl ⟨by omega, by simpa using hy.symm⟩
 have hx : Y.ob[ob.length]? = some x := by simp [Y]
 have hxe : Y.be[ob.length]? = some e := by simp [Y, ← hlen]
 have hnew : ∀ b c, e = some (b, c) → w.heap.size ≤ b := fun b c he => hh.base 0 b c (by rw [he]; rfl)
 have hYZ : ∀ b k, Y.av b k → Z.av b k := by
  rintro b k (h | ⟨o, y, c, a1, a2, a3⟩)
  ·exact .inl (.inl h)
  ·rcases hob o y a1 with ⟨rfl, rfl⟩ | ⟨hl, b1⟩
   ·rw [hxe] at a2
    cases a2
    exact .inr ⟨0, y, c, rfl, rfl, a3⟩
   ·rcases hbe o _ a2 with ⟨rfl, _⟩ | ⟨_, b2⟩
    ·omega
    ·exact .inl (.inr ⟨o, y, c, b1, b2, a3⟩)
 have hYX : ∀ b k, b < w.heap.size → Y.av b k → X.av b k := by
  rintro b k hlt (h | ⟨o, y, c, a1, a2, a3⟩)
  ·exact .inl h
  ·rcases hob o y a1 with ⟨rfl, rfl⟩ | ⟨hl, b1⟩
   ·rw [hxe] at a2
    cases a2
    have := hnew b c rfl
    omega
   ·rcases hbe o _ a2 with ⟨rfl, _⟩ | ⟨_, b2⟩
    ·omega
    ·exact .inr ⟨o, y, c, b1, b2, a3⟩
 have blk : ∀ (o b c : Nat), be[o]? = some (some (b, c)) → b < w.heap.size := fun o b c h => by
  have hlt : o < ob.length := by rw [← hlen]; exact (qb.1 h).1
  exact g.block_lt (X := X) (qd hlt) h
 have mXY : Moves X Y := by
  refine ⟨fun b k v hc ha => ?_, fun o y hy => ?_, fun b hb' hf => ⟨hb.block b hb', fun o3 c3 h3 => ?_⟩⟩
  rotate_left 2
  ·rcases hbe o3 _ h3 with ⟨_, q⟩ | ⟨_, q⟩
   ·have := hnew b c3 q.symm; have hb2 : b < w.heap.size := hb'; omega
   ·exact hf o3 c3 q
  ·have hlt := World.block_lt_of_cell? w _ hc
   exact ⟨by show w'.cell? _ = _; rw [hb.cell (p := ⟨b, k, none⟩) hlt]; exact hc, fun h => ha (hYX b k hlt h)⟩
  ·have hl : o < ob.length := (qb.1 hy).1
   exact ⟨y, by simp only [Y]; rw [qj hl]; exact hy, qg _, fun h => ⟨h, fun _ => by simp only [Y]; rw [qj (by omega)]⟩⟩
 refine ⟨v, shr ob.length r, ob ++ [x], be ++ [e], rfl, hb.mono g.size, ⟨by simp [hlen], fun o y e' hy he => ?_, ?_, ?_, g.bnd, qH g.size hb.size⟩, mXY, ?_, hK⟩
 ·rcases hob o y hy with ⟨rfl, rfl⟩ | ⟨hl, b1⟩
  ·rw [hxe] at he
   cases he
   obtain hok := hh.ok 0 y e rfl rfl
   cases e with
   | none => exact hok
   | some q =>
    obtain ⟨b, cap⟩ := q
    obtain ⟨cur, q1, q2, q3, q4, q5, q6, q7⟩ := hok
    have hd : ∀ (b' k' : Nat) (v' : Value), Z.w.cell? ⟨b', k', none⟩ = some v' → ¬ Z.av b' k' → Y.w.cell? ⟨b', k', none⟩ = some v' ∧ ¬ Y.av b' k' := fun b' k' v' hc ha => ⟨hc, fun h => ha (hYZ _ _ h)⟩
    exact ⟨cur, q1, q2, q3, q4, q5, RepL.data hd _ _ h2 q6, q7⟩
  ·rcases hbe o e' he with ⟨rfl, _⟩ | ⟨_, b2⟩
   ·omega
   ·refine (g.ok o y e' b1 b2).move mXY fun b c hbc => ?_
    subst hbc
    exact hb.block b (blk o b c b2)
 ·intro o o' b c c' q1 q2
  rcases hbe o _ q1 with ⟨rfl, a1⟩ | ⟨l1, a1⟩ <;> rcases hbe o' _ q2 with ⟨rfl, a2⟩ | ⟨l2, a2⟩
  ·rfl
  ·have := hnew b c a1.symm; have := blk _ _ _ a2; omega
  ·have := hnew b c' a2.symm; have := blk _ _ _ a1; omega
  ·exact g.inj o o' b c c' a1 a2
 ·intro o b c q
  rcases hbe o _ q with ⟨rfl, a1⟩ | ⟨l1, a1⟩
  ·have h1 := hnew b c a1.symm; have h2 : B ≤ w.heap.size := g.size; omega
  ·exact g.base o b c a1
 ·exact Qia (X := Z) (i := 0) rfl hx (by rw [hxe]; rfl) h3 hv
theorem Qa0.vo {P : Prg} {Q : Exit → St → Prop} {f : FuncId} {ds : List AV} {r : AV} {x : Ob} (h : VO P f ds r x) {ob : List Ob} {os : List AO} {fr : List (Nat × AV)} {dst : Option Nat} (hK : wpQ P os Q ⟨QQ fr dst (shr ob.length r), ob ++ [x]⟩) : Qa0 P f ds ob os Q fr dst :=
 ACall.of_vo h hK
end Go.Am
/- The abstract machine: package variables that lie as a table of numbers. -/
namespace Go.Am
open Go.RowKit
theorem Qip {H : Type} {enc : TypeId × Value → H} {P : Program} {w : World} {base : Nat} {sp : Nat → Bool} {held : Bool} {fuel : Nat} {e : TypeId} {k : IntKind} {cs : List Value} {m : Int} {k' : IntKind} {p : List MemPlace}
  (he : P.underlying e = some (.int k)) (h : DataW.trod enc P w base sp held fuel e cs = some (.lit (.int k' m), p)) : cs = [.int k' m] := by
 cases fuel with
 | zero => simp [DataW.trod] at h
 | succ fuel =>
  match cs with
  | [] => simp [DataW.trod, he] at h
  | _ :: _ :: _ => simp [DataW.trod, he] at h
  | [c] =>
   cases c <;> simp [DataW.trod, he] at h
   obtain ⟨⟨rfl, _⟩, ⟨rfl, rfl⟩, _⟩ := h
   rfl
theorem QiS {H : Type} {enc : TypeId × Value → H} {P : Program} {w : World} {base : Nat} {sp : Nat → Bool} {held : Bool} {fuel n : Nat} {t e : TypeId} {k : IntKind} {cs : List Value} {p : List MemPlace} {ns : List Int}
  (ht : P.underlying t = some (.array n e)) (he : P.underlying e = some (.int k)) (h1 : P.cellsOf e = 1) (h2 : P.cellsOf t = n)
  (h : DataW.trod enc P w base sp held fuel t cs = some (.agg (ns.map fun x => .lit (.int k x)), p)) : cs = ns.map (.int k) := by
 cases fuel with
 | zero => simp [DataW.trod] at h
 | succ fuel =>
  simp only [DataW.trod, ht, h1, h2, Nat.mul_one] at h
  split at h
  case isFalse => cases h
  rename_i hl
  simp only [qa, yc, DataW.agg.injEq] at h
  obtain ⟨xs, hx, e1, _⟩ := h
  obtain ⟨hlen, hget⟩ := XF hx
  have hxl : xs.length = ns.length := by
   have := congrArg List.length e1
   simpa using this
  have hln : ns.length = n := by rw [← hxl, hlen]; simp
  apply List.ext_getElem
  ·simp [hl, hln]
  ·intro i hi hi2
   obtain ⟨y, hy1, hy2⟩ := hget i i (yZ (by omega))
   have hy : xs[i]? = some y := hy1
   have hin : i < ns.length := by omega
   have e2 : (xs.map (·.1))[i]? = (ns.map fun x => DataW.lit (Lit.int k x))[i]? := by rw [e1]
   rw [qv, qv, hy, qd hin] at e2
   simp only [qS, qc] at e2
   have hd : (cs.drop i).take 1 = [cs[i]] := by rw [yp hi]; rfl
   rw [hd] at hy2
   obtain ⟨y1, y2⟩ := y
   simp only at e2
   subst e2
   have := Qip he hy2
   simp only [List.cons.injEq, and_true] at this
   rw [this]
   simp
theorem Qbi {P : Program} {w : World} {name : String} {ns : List Int} {k : IntKind} {g n : Nat} {t e : TypeId} (hg : P.globalNamed name = some g) (hty : (P.globals[g]?).map (·.type) = some t)
  (ht : P.underlying t = some (.array n e)) (he : P.underlying e = some (.int k)) (h1 : P.cellsOf e = 1) (h2 : P.cellsOf t = n) :
  ∀ {laid : List (String × DataW Unit)} {ps : List MemPlace}, DataW.LaidVars P w laid ps → (name, DataW.agg (ns.map fun x => .lit (.int k x))) ∈ laid → ∀ i v, (ns.map (Value.int k))[i]? = some v → w.cell? ⟨g, i, none⟩ = some v
 | [], _, _, hm => by cases hm
 | (m, d) :: r, ps, h, hm => by
  obtain ⟨g', t', cs, fuel, p, q, q1, q2, q3, q4, q5, _⟩ := h
  rcases qo.1 hm with hm | hm
  ·cases hm
   rw [hg] at q1
   cases q1
   rw [hty] at q2
   cases q2
   have hcs := QiS ht he h1 h2 q4
   intro i v hv
   rw [← hcs] at hv
   simp only [World.var?, hg, yW] at q3
   split at q3
   ·rename_i c ty fr hh
    cases q3
    rw [cell_of_row _ _ _ _ _ _ hh]
    simpa using hv
   ·cases q3
  ·exact Qbi hg hty ht he h1 h2 q5 hm
theorem Qi7 {X : Cx} {k : IntKind} : ∀ ns : List Int, RepL X (ns.map (AV.int k)) (ns.map (Value.int k))
 | [] => by simp [RepL]
 | n :: ns => by simp only [qC, RepL]; exact ⟨_, _, rfl, rfl, Qi7 ns⟩
theorem Qk3 {P : Program} {w : World} {laid : List (String × DataW Unit)} (hl : laidMet P laid w) {name : String} (ns : List Int) {k : IntKind} {g n : Nat} {t e : TypeId} (hg : P.globalNamed name = some g) (hty : (P.globals[g]?).map (·.type) = some t)
  (ht : P.underlying t = some (.array n e)) (he : P.underlying e = some (.int k)) (h1 : P.cellsOf e = 1) (h2 : P.cellsOf t = n) (hm : (name, DataW.agg (ns.map fun x => .lit (.int k x))) ∈ laid) :
  Rep (X0 w) (.cell (ns.map (AV.int k))) (.pointer (some ⟨g, 0, none⟩)) := by
 obtain ⟨ps, hv, _, _⟩ := hl
 have hc := Qbi hg hty ht he h1 h2 hv hm
 simp only [Rep]
 refine ⟨g, 0, ns.map (Value.int k), rfl, fun i v hv => ⟨⟨by rw [qY]; exact hc i v hv, Qon⟩, ?_⟩, Qi7 ns⟩
 obtain ⟨n, _, rfl⟩ := qV.1 (qK hv)
 rfl
def Qp7 (P : Program) (name : String) (g : Nat) (k : IntKind) : Bool :=
 decide (P.globalNamed name = some g) &&
 match (P.globals[g]?).map (·.type) with
 | some t =>
  match P.underlying t with
  | some (.array n e) => (match P.underlying e with | some (.int k') => decide (k' = k) | _ => false) && decide (P.cellsOf e = 1) && decide (P.cellsOf t = n)
  | _ => false
 | none => false
theorem Qex {P : Program} {w : World} {laid : List (String × DataW Unit)} (hl : laidMet P laid w) {name : String} (ns : List Int) {k : IntKind} {g : Nat} (hb : Qp7 P name g k = true) (hm : (name, DataW.agg (ns.map fun x => .lit (.int k x))) ∈ laid) :
  Rep (X0 w) (.cell (ns.map (AV.int k))) (.pointer (some ⟨g, 0, none⟩)) := by
 simp only [Qp7, qf, ql] at hb
 obtain ⟨hg, hb⟩ := hb
 split at hb
 ·rename_i t hty
  split at hb
  ·rename_i n e ht
   simp only [qf, ql] at hb
   obtain ⟨⟨hb, h1⟩, h2⟩ := hb
   split at hb
   ·rename_i k' he
    simp only [ql] at hb
    subst hb
    exact Qk3 hl ns hg hty ht he h1 h2 hm
   ·cases hb
  ·cases hb
 ·cases hb
end Go.Am
/- The abstract machine: calls with objects that nobody writes any more, told anew; a result whose room is known. -/
namespace Go.Am
open Go.RowKit
theorem Qdf : ∀ (is : List Nat) (ob : List Ob), (Qe is ob).length = ob.length
 | [], _ => rfl
 | i :: is, ob => by
  simp only [Qe]
  rw [Qdf is]
  split <;> simp
theorem ACall.of_still {P : Prg} {f : FuncId} {avs ds : List AV} (k : Nat) (is : List Nat) {ob : List Ob} (hf : Z6 (fun o => is.contains o) ob (k + 1) avs = some ds) (hd : isDL ds = true) {K : AV → List Ob → Prop} (h : ACall P f ds (Qe is ob) K) : ACall P f avs ob K := by
 obtain ⟨hE, hcall⟩ := h
 refine ⟨hE, fun B w be C vs g hG hrep => ?_⟩
 obtain ⟨g1, m1⟩ := Held.still is g
 let X : Cx := ⟨w, ob, be, C⟩
 let Y : Cx := ⟨w, Qe is ob, be, C⟩
 have hsub : ∀ b k, Y.av b k → X.av b k := by
  rintro b k (h | ⟨o, x, c, h1, h2, h3⟩)
  ·exact .inl h
  ·have hlt : o < ob.length := by
    have hA : o < be.length := (qb.1 h2).1
    have hB : be.length = ob.length := g.len
    omega
   obtain ⟨m, h4, h5, _⟩ := QN is ob o ob[o] (qd hlt)
   have h1' : (Qe is ob)[o]? = some x := h1
   rw [h4] at h1'
   cases h1'
   exact .inr ⟨o, ob[o], c, qd hlt, h2, by simp only at h3; omega⟩
 have hds := X2 (X := X) g (C' := Y.av) hsub (ok := fun o => is.contains o) (fun o b c x hok hx he k hk hav => by
  have hmem : o ∈ is := by simpa using hok
  rcases hav with h | ⟨o', x', c', h1, h2, h3⟩
  ·have h4 := g.base o b c he
   have h5 := g.bnd b k h
   omega
  ·have := g.inj o o' b c c' he h2
   subst this
   obtain ⟨m, h4, _, h6⟩ := QN is ob o x hx
   have h1' : (Qe is ob)[o]? = some x' := h1
   rw [h4] at h1'
   cases h1'
   have := h6 hmem
   simp only at h3
   omega) (k + 1) avs ds vs hf hrep
 have hds' : RepL ⟨w, Qe is ob, be, C⟩ ds vs := RepL.data (X := ⟨w, [], [], Y.av⟩) (Y := Y) (fun b k v hc ha => ⟨hc, fun h => ha (.inl h)⟩) _ _ hd hds
 refine (hcall B w be C vs g1 (hG.move m1) hds').mono ?_
 rintro e w' ⟨v, r', ob', be', rfl, hb, hh, hm, hv, hk⟩
 exact ⟨v, r', ob', be', rfl, hb, hh, m1.trans hm, hv, hk⟩
theorem ACall.of_vo_still {P : Prg} {f : FuncId} {avs ds : List AV} {r : AV} {x : Ob} (k : Nat) (is : List Nat) {ob : List Ob} (h : VO P f ds r x) (hf : Z6 (fun o => is.contains o) ob (k + 1) avs = some ds) {K : AV → List Ob → Prop} (hK : K (shr ob.length r) (Qe is ob ++ [x])) : ACall P f avs ob K :=
 ACall.of_still k is hf h.2.1 (ACall.of_vo h (by rw [Qdf]; exact hK))
theorem Qa0.vo_still {P : Prg} {Q : Exit → St → Prop} {f : FuncId} {avs ds : List AV} {r : AV} {x : Ob} (k : Nat) (is : List Nat) (h : VO P f ds r x) {ob : List Ob} (hf : Z6 (fun o => is.contains o) ob (k + 1) avs = some ds) {os : List AO} {fr : List (Nat × AV)} {dst : Option Nat} (hK : wpQ P os Q ⟨QQ fr dst (shr ob.length r), Qe is ob ++ [x]⟩) : Qa0 P f avs ob os Q fr dst :=
 ACall.of_vo_still k is h hf hK
end Go.Am
/- The abstract machine: a call's own objects forgotten at its end; a nil slice in an object. -/
namespace Go.Am
open Go.RowKit
theorem Le.virtF {M : Nat} {fr : List (Nat × AV)} {ob : List Ob} (p ty sz : Nat) {x : Ob} {z : Bool} {rest : List AV} (h0 : sz ≠ 0) (hp : ob[p]? = some x) (hx : x.cs = .emp z :: rest) :
  Le M ⟨fr, ob⟩ ⟨fr, ob.set p { x with cs := .own ob.length 0 :: rest } ++ [⟨ty, sz, 0, [], 0⟩]⟩ := by
 intro Γ a w hX ⟨q1, q2, q3, be, g, hm, hfr0⟩
 obtain ⟨g1, m1⟩ := g.empty ty sz
 have hpl : p < ob.length := (qb.1 hp).1
 have hp1 : (ob ++ [(⟨ty, sz, 0, [], 0⟩ : Ob)])[p]? = some x := by rw [qj hpl]; exact hp
 have hl : be.length = ob.length := g.len
 obtain ⟨g2, m2, _⟩ := g1.retell hp1 (.own ob.length 0 :: rest) (by rw [hx]; rfl) (fun vs hv => by
  rw [hx] at hv
  simp only [RepL] at hv ⊢
  obtain ⟨v, r, rfl, hv, h2⟩ := hv
  refine ⟨v, r, rfl, ?_, h2⟩
  simp only [Rep] at hv ⊢
  obtain ⟨a', e, _⟩ := hv
  refine ⟨⟨⟨ty, sz, 0, [], 0⟩, by simp, h0, qg _, fun _ => ?_⟩, by rw [e]; rfl⟩
  simp only [OwnV]
  rw [show ob.length = be.length from hl.symm]
  simp [e])
 have e1 : (ob ++ [(⟨ty, sz, 0, [], 0⟩ : Ob)]).set p { x with cs := .own ob.length 0 :: rest } = ob.set p { x with cs := .own ob.length 0 :: rest } ++ [⟨ty, sz, 0, [], 0⟩] := List.set_append_left _ _ hpl
 rw [← e1]
 exact ⟨q1, q2, q3, _, g2, hm.trans (m1.trans m2), fun i => Rep.move m2 _ _ (Rep.move m1 _ _ (hfr0 i))⟩
end Go.Am
/- The abstract machine: a walk that stands still within a loop's body, to tell its state anew. -/
namespace Go.Am
open Go.RowKit
end Go.Am
/- The abstract machine: a place kept for what a call makes; a call over a row that nobody writes any more. -/
namespace Go.Am
open Go.RowKit
theorem ACall.of_vo_at {P : Prg} {f : FuncId} {ds : List AV} {r : AV} {x : Ob} (h : VO P f ds r x) {ob : List Ob} {o : Nat} (hp : ob[o]? = some ph2) {K : AV → List Ob → Prop} (hK : K (shr o r) (ob.set o x)) : ACall P f ds ob K := by
 obtain ⟨h0, h1, h2, h3, h⟩ := h
 refine ⟨h0, fun B w be C vs g hG hr => ?_⟩
 let X : Cx := ⟨w, ob, be, C⟩
 have hav : ∀ w' b k, (Cx.mk w' [] [] X.av).av b k ↔ X.av b k := fun w' b k => by
  constructor
  ·rintro (h | ⟨o, x, c, h, _⟩)
   ·exact h
   ·simp at h
  ·exact fun h => .inl h
 have hbnd : ∀ b k, X.av b k → b < w.heap.size := by
  rintro b k (h | ⟨o, x, c, q1, q2, _⟩)
  ·exact yB (g.bnd b k h) g.size
  ·exact g.block_lt q1 q2
 have hG' : GOk P.G ⟨w, [], [], X.av⟩ := fun q cs hq => Rep.data (X := X) (Y := ⟨w, [], [], X.av⟩) (fun b k v hc ha => ⟨hc, fun h => ha ((hav w b k).1 h)⟩) _ _ (by simp only [isD]; exact P.gd q cs hq) (hG q cs hq)
 refine (h w X.av vs hbnd hG' (RepL.data (X := X) (Y := ⟨w, [], [], X.av⟩) (fun b k v hc ha => ⟨hc, fun h => ha ((hav w b k).1 h)⟩) _ _ h1 hr)).mono ?_
 rintro e w' ⟨v, e, rfl, hb, hh, hv⟩
 have g' : Held B ⟨w', ob, be, C⟩ := g.below hb
 have hlen : be.length = ob.length := g.len
 have hol : o < ob.length := (qb.1 hp).1
 let Z : Cx := ⟨w', [x], [e], X.av⟩
 let Y : Cx := ⟨w', ob.set o x, be.set o e, C⟩
 have hob : ∀ (o2 : Nat) (y : Ob), Y.ob[o2]? = some y → (o2 = o ∧ y = x) ∨ (o2 ≠ o ∧ ob[o2]? = some y) := by
  intro o2 y hy
  simp only [Y, qq] at hy
  by_cases e : o = o2
  ·subst e; simp [hol] at hy; exact .inl ⟨rfl, hy.symm⟩
  ·simp [e] at hy; exact .inr ⟨fun h => e h.symm, hy⟩
 have hbe : ∀ (o2 : Nat) (y : Option (Nat × Nat)), Y.be[o2]? = some y → (o2 = o ∧ y = e) ∨ (o2 ≠ o ∧ be[o2]? = some y) := by
  intro o2 y hy
  simp only [Y, qq] at hy
  by_cases e : o = o2
  ·subst e; simp [hlen, hol] at hy; exact .inl ⟨rfl, hy.symm⟩
  ·simp [e] at hy; exact .inr ⟨fun h => e h.symm, hy⟩
 have hx : Y.ob[o]? = some x := by simp [Y, hol]
 have hxe : Y.be[o]? = some e := by simp [Y, hlen, hol]
 have hnew : ∀ b c, e = some (b, c) → w.heap.size ≤ b := fun b c he => hh.base 0 b c (by rw [he]; rfl)
 have hYZ : ∀ b k, Y.av b k → Z.av b k := by
  rintro b k (h | ⟨o2, y, c, a1, a2, a3⟩)
  ·exact .inl (.inl h)
  ·rcases hob o2 y a1 with ⟨rfl, rfl⟩ | ⟨hl, b1⟩
   ·rw [hxe] at a2
    cases a2
    exact .inr ⟨0, y, c, rfl, rfl, a3⟩
   ·rcases hbe o2 _ a2 with ⟨rfl, _⟩ | ⟨_, b2⟩
    ·exact absurd rfl hl
    ·exact .inl (.inr ⟨o2, y, c, b1, b2, a3⟩)
 have hYX : ∀ b k, b < w.heap.size → Y.av b k → X.av b k := by
  rintro b k hlt (h | ⟨o2, y, c, a1, a2, a3⟩)
  ·exact .inl h
  ·rcases hob o2 y a1 with ⟨rfl, rfl⟩ | ⟨hl, b1⟩
   ·rw [hxe] at a2
    cases a2
    have := hnew b c rfl
    omega
   ·rcases hbe o2 _ a2 with ⟨rfl, _⟩ | ⟨_, b2⟩
    ·exact absurd rfl hl
    ·exact .inr ⟨o2, y, c, b1, b2, a3⟩
 have blk : ∀ (o b c : Nat), be[o]? = some (some (b, c)) → b < w.heap.size := fun o b c h => by
  have hlt : o < ob.length := by rw [← hlen]; exact (qb.1 h).1
  exact g.block_lt (X := X) (qd hlt) h
 have mXY : Moves X Y := by
  refine ⟨fun b k v hc ha => ?_, fun o2 y hy => ?_, fun b hb' hf => ⟨hb.block b hb', fun o3 c3 h3 => ?_⟩⟩
  rotate_left 2
  ·rcases hbe o3 _ h3 with ⟨_, q⟩ | ⟨_, q⟩
   ·have := hnew b c3 q.symm; have hb2 : b < w.heap.size := hb'; omega
   ·exact hf o3 c3 q
  ·have hlt := World.block_lt_of_cell? w _ hc
   exact ⟨by show w'.cell? _ = _; rw [hb.cell (p := ⟨b, k, none⟩) hlt]; exact hc, fun h => ha (hYX b k hlt h)⟩
  ·by_cases e2 : o2 = o
   ·subst e2
    have hy' : ob[o2]? = some y := hy
    rw [hp] at hy'; cases hy'
    exact ⟨x, hx, yd _, fun h => absurd rfl h⟩
   ·exact ⟨y, by simp only [Y]; rw [qA (fun h => e2 h.symm)]; exact hy, qg _, fun h => ⟨h, fun _ => by simp only [Y]; rw [qA (fun h => e2 h.symm)]⟩⟩
 refine ⟨v, shr o r, ob.set o x, be.set o e, rfl, hb.mono g.size, ⟨by simp [hlen], fun o2 y e' hy he => ?_, ?_, ?_, g.bnd, qH g.size hb.size⟩, mXY, ?_, hK⟩
 ·rcases hob o2 y hy with ⟨rfl, rfl⟩ | ⟨hl, b1⟩
  ·rw [hxe] at he
   cases he
   obtain hok := hh.ok 0 y e rfl rfl
   cases e with
   | none => exact hok
   | some q =>
    obtain ⟨b, cap⟩ := q
    obtain ⟨cur, q1, q2, q3, q4, q5, q6, q7⟩ := hok
    have hd : ∀ (b' k' : Nat) (v' : Value), Z.w.cell? ⟨b', k', none⟩ = some v' → ¬ Z.av b' k' → Y.w.cell? ⟨b', k', none⟩ = some v' ∧ ¬ Y.av b' k' := fun b' k' v' hc ha => ⟨hc, fun h => ha (hYZ _ _ h)⟩
    exact ⟨cur, q1, q2, q3, q4, q5, RepL.data hd _ _ h2 q6, q7⟩
  ·rcases hbe o2 e' he with ⟨rfl, _⟩ | ⟨_, b2⟩
   ·exact absurd rfl hl
   ·refine (g.ok o2 y e' b1 b2).move mXY fun b c hbc => ?_
    subst hbc
    exact hb.block b (blk o2 b c b2)
 ·intro o1 o2 b c c' q1 q2
  rcases hbe o1 _ q1 with ⟨rfl, a1⟩ | ⟨l1, a1⟩ <;> rcases hbe o2 _ q2 with ⟨rfl, a2⟩ | ⟨l2, a2⟩
  ·rfl
  ·have := hnew b c a1.symm; have := blk _ _ _ a2; omega
  ·have := hnew b c' a2.symm; have := blk _ _ _ a1; omega
  ·exact g.inj o1 o2 b c c' a1 a2
 ·intro o1 b c q
  rcases hbe o1 _ q with ⟨rfl, a1⟩ | ⟨l1, a1⟩
  ·have h1 := hnew b c a1.symm; have h2 : B ≤ w.heap.size := g.size; omega
  ·exact g.base o1 b c a1
 ·exact Qia (X := Z) (i := 0) rfl hx (by rw [hxe]; rfl) h3 hv
theorem XN.vo {P : Prg} {B : Nat} {Q : Exit → St → Prop} {f : FuncId} {ds : List AV} {r : AV} {x : Ob} (h : VO P f ds r x) {ob : List Ob} (o : Nat) (ho : ob[o]? = some ph2) (hx : x.sz ≠ 0)
  {xs : List It} {fr : List (Nat × AV)} {dst : Option Nat} (hK : XU P B xs Q ⟨QQ fr dst (shr o r), ob.set o x⟩) : XN P B false 0 f ds xs Q fr ob dst := by
 refine XN.at (r := shr o r) o x h.1 (fun ob' h' => ACall.of_vo_at h h' ⟨rfl, rfl⟩) ho hx ?_
 simp only [app, qE (qb.1 ho).1]
 exact hK
theorem Qh2 {i : Nat} {ob : List Ob} {x : Ob} (hx : ob[i]? = some x) : Qe [i] ob = ob.set i { x with fz := x.fz + x.cs.length } := by
 simp only [Qe, hx]
theorem Qoh {P : Prg} {B q : Nat} {Q : Exit → St → Prop} {f : FuncId} {avs ds : List AV} {r : AV} {ob : List Ob} (k i : Nat) {x : Ob} (hx : ob[i]? = some x) (hp : x ≠ ph) (h : VC P f ds r) (hf : Z6 (fun o => [i].contains o) ob (k + 1) avs = some ds)
  {xs : List It} {fr : List (Nat × AV)} {dst : Option Nat} (hK : XU P B xs Q ⟨QQ fr dst r, ob.set i { x with fz := x.fz + x.cs.length }⟩) : XN P B true q f avs xs Q fr ob dst := by
 have hl := (qb.1 hx).1
 have ha : app ob (some (i, { x with fz := x.fz + x.cs.length })) = ob.set i { x with fz := x.fz + x.cs.length } := by simp only [app, qE hl]
 refine ⟨r, some (i, { x with fz := x.fz + x.cs.length }), ?_, by rw [ha]; exact hK⟩
 unfold Zx
 rw [qE rfl]
 refine ⟨ACall.of_vc_still k [i] hf h ⟨rfl, by rw [ha, Qh2 hx]⟩, fun o' y e => ?_⟩
 cases e
 exact ⟨x, hx, hp⟩
end Go.Am
/- The abstract machine: objects behind a place are forgotten, those ahead of it stay as they are. -/
namespace Go.Am
open Go.RowKit
mutual
def Qad (m : Nat) : AV → Bool
 | .own o _ | .ownc o _ _ | .view o _ _ _ | .ref o _ _ => decide (o < m)
 | .list _ cs | .cell cs | .agg cs | .tup cs => lowL m cs
 | .fn _ a b => lowL m a && lowL m b
 | _ => true
def lowL (m : Nat) : List AV → Bool
 | [] => true
 | c :: cs => Qad m c && lowL m cs
end
mutual
theorem Qlk {m n : Nat} (h : m ≤ n) : ∀ c : AV, Qad m c = true → Qad n c = true
 | .own _ _, g | .ownc _ _ _, g | .view _ _ _ _, g | .ref _ _ _, g => by simp only [Qad, ql] at g ⊢; omega
 | .list _ cs, g | .cell cs, g | .agg cs, g | .tup cs, g => by simp only [Qad] at g ⊢; exact lowL_mono h cs g
 | .fn _ a b, g => by simp only [Qad, qf] at g ⊢; exact ⟨lowL_mono h a g.1, lowL_mono h b g.2⟩
 | .any, _ | .int _ _, _ | .bool _, _ | .ubool, _ | .str _, _ | .lit _, _ | .emp _, _ => by simp only [Qad]
theorem lowL_mono {m n : Nat} (h : m ≤ n) : ∀ cs : List AV, lowL m cs = true → lowL n cs = true
 | [], _ => rfl
 | c :: cs, g => by simp only [lowL, qf] at g ⊢; exact ⟨Qlk h c g.1, lowL_mono h cs g.2⟩
end
mutual
theorem QoN {m : Nat} : ∀ c : AV, isD c = true → Qad m c = true
 | .own _ _, g | .ownc _ _ _, g | .view _ _ _ _, g | .ref _ _ _, g => by simp [isD] at g
 | .list _ cs, g | .cell cs, g | .agg cs, g | .tup cs, g => by simp only [isD] at g; simp only [Qad]; exact lowL_D cs g
 | .fn _ a b, g => by simp only [isD, qf] at g; simp only [Qad, qf]; exact ⟨lowL_D a g.1, lowL_D b g.2⟩
 | .any, _ | .int _ _, _ | .bool _, _ | .ubool, _ | .str _, _ | .lit _, _ | .emp _, _ => by simp only [Qad]
theorem lowL_D {m : Nat} : ∀ cs : List AV, isDL cs = true → lowL m cs = true
 | [], _ => rfl
 | c :: cs, g => by simp only [isDL, qf] at g; simp only [lowL, qf]; exact ⟨QoN c g.1, lowL_D cs g.2⟩
end
section
variable {X Y : Cx} {m : Nat} (hw : Y.w = X.w) (hav : ∀ b k, Y.av b k → X.av b k) (hob : ∀ o, o < m → Y.ob[o]? = X.ob[o]? ∧ Y.be[o]? = X.be[o]?)
include hob in
theorem Cur.low {o ver : Nat} {p : Option (Option (Nat × Nat)) → Prop} (h : o < m) (g : Cur X o ver p) : Cur Y o ver p := by
 obtain ⟨x, h1, h2, h3, h4⟩ := g
 exact ⟨x, by rw [(hob o h).1]; exact h1, h2, h3, fun e => by rw [(hob o h).2]; exact h4 e⟩
include hw hav in
theorem AtC.low {b k : Nat} {vs : List Value} (g : AtC X b k vs) : AtC Y b k vs := fun i v hv =>
 ⟨⟨by rw [hw]; exact (g i v hv).1.1, fun h => (g i v hv).1.2 (hav _ _ h)⟩, (g i v hv).2⟩
include hw hav hob
mutual
theorem Rep.low : ∀ (c : AV) (v : Value), Qad m c = true → Rep X c v → Rep Y c v
 | .any, _, _, _ => by simp only [Rep]
 | .int _ _, _, _, g | .bool _, _, _, g | .ubool, _, _, g | .str _, _, _, g | .lit _, _, _, g | .emp _, _, _, g => by simp only [Rep] at g ⊢; exact g
 | .list _ cs, _, h, g => by
  simp only [Rep] at g ⊢
  simp only [Qad] at h
  obtain ⟨a, cap, vs, e, gc, g1, g2⟩ := g
  refine ⟨a, cap, vs, e, gc, ?_, RepL.low cs vs h g2⟩
  rcases g1 with g1 | ⟨b, k, e1, g1⟩
  ·exact .inl g1
  ·exact .inr ⟨b, k, e1, g1.low hw hav⟩
 | .cell cs, _, h, g => by
  simp only [Rep] at g ⊢
  simp only [Qad] at h
  obtain ⟨b, k, vs, e, g1, g2⟩ := g
  exact ⟨b, k, vs, e, g1.low hw hav, RepL.low cs vs h g2⟩
 | .own _ _, _, h, g => by simp only [Rep] at g ⊢; simp only [Qad, ql] at h; exact ⟨g.1.low hob h, g.2⟩
 | .ownc _ _ _, _, h, g => by simp only [Rep] at g ⊢; simp only [Qad, ql] at h; exact ⟨g.1.low hob h, g.2⟩
 | .view _ _ _ _, _, h, g => by simp only [Rep] at g ⊢; simp only [Qad, ql] at h; exact ⟨g.1.low hob h, g.2⟩
 | .ref _ _ _, _, h, g => by simp only [Rep] at g ⊢; simp only [Qad, ql] at h; exact ⟨g.1.low hob h, g.2⟩
 | .agg cs, _, h, g => by
  simp only [Rep] at g ⊢
  simp only [Qad] at h
  obtain ⟨vs, e, g2⟩ := g
  exact ⟨vs, e, RepL.low cs vs h g2⟩
 | .tup cs, _, h, g => by
  simp only [Rep] at g ⊢
  simp only [Qad] at h
  obtain ⟨vs, e, g2⟩ := g
  exact ⟨vs, e, RepL.low cs vs h g2⟩
 | .fn _ fs cs, _, h, g => by
  simp only [Rep] at g ⊢
  simp only [Qad, qf] at h
  obtain ⟨va, vb, e, g1, g2⟩ := g
  exact ⟨va, vb, e, RepL.low fs va h.1 g1, RepL.low cs vb h.2 g2⟩
theorem RepL.low : ∀ (cs : List AV) (vs : List Value), lowL m cs = true → RepL X cs vs → RepL Y cs vs
 | [], _, _, g => by simp only [RepL] at g ⊢; exact g
 | c :: cs, _, h, g => by
  simp only [RepL] at g ⊢
  simp only [lowL, qf] at h
  obtain ⟨v, rest, e, g1, g2⟩ := g
  exact ⟨v, rest, e, Rep.low c v h.1 g1, RepL.low cs rest h.2 g2⟩
end
end
def Low (m : Nat) (ob : List Ob) : Prop := ∀ x ∈ ob, lowL m x.cs = true
theorem Low.mono {m n : Nat} {ob : List Ob} (h : Low m ob) (hmn : m ≤ n) : Low n ob := fun x hx => lowL_mono hmn _ (h x hx)
theorem Low.set {m o : Nat} {ob : List Ob} {x : Ob} (h : Low m ob) (hx : lowL m x.cs = true) : Low m (ob.set o x) := fun y hy => by
 rcases List.mem_or_eq_of_mem_set hy with h1 | h1
 ·exact h y h1
 ·rw [h1]; exact hx
theorem Low.append {m : Nat} {a b : List Ob} (h : Low m a) (g : Low m b) : Low m (a ++ b) := fun x hx => by
 rcases qp.1 hx with h1 | h1
 ·exact h x h1
 ·exact g x h1
theorem Low.nil {m : Nat} : Low m [] := fun x hx => by simp at hx
theorem Low.cons {m : Nat} {x : Ob} {ob : List Ob} (hx : lowL m x.cs = true) (h : Low m ob) : Low m (x :: ob) := fun y hy => by
 rcases qo.1 hy with h1 | h1
 ·rw [h1]; exact hx
 ·exact h y h1
theorem Held.low {B : Nat} {w : World} {ob J : List Ob} {be : List (Option (Nat × Nat))} {C : Nat → Nat → Prop} (g : Held B ⟨w, ob ++ J, be, C⟩) (hl : Low ob.length ob) :
  Held B ⟨w, ob, be.take ob.length, C⟩ ∧ (∀ (c : AV) (v : Value), Qad ob.length c = true → Rep ⟨w, ob ++ J, be, C⟩ c v → Rep ⟨w, ob, be.take ob.length, C⟩ c v) ∧
   (∀ (X : Cx), X.ob.length ≤ ob.length → Moves X ⟨w, ob ++ J, be, C⟩ → Moves X ⟨w, ob, be.take ob.length, C⟩) := by
 let X : Cx := ⟨w, ob ++ J, be, C⟩
 let Y : Cx := ⟨w, ob, be.take ob.length, C⟩
 have hlb : be.length = (ob ++ J).length := g.len
 have hob : ∀ o, o < ob.length → Y.ob[o]? = X.ob[o]? ∧ Y.be[o]? = X.be[o]? := fun o ho => ⟨by simp only [X, Y]; rw [qj ho], by simp only [X, Y]; rw [yk ho]⟩
 have hav : ∀ b k, Y.av b k → X.av b k := by
  rintro b k (h | ⟨o, y, c, h1, h2, h3⟩)
  ·exact .inl h
  ·have ho : o < ob.length := (qb.1 h1).1
   exact .inr ⟨o, y, c, by rw [← (hob o ho).1]; exact h1, by rw [← (hob o ho).2]; exact h2, h3⟩
 have hrep : ∀ (c : AV) (v : Value), Qad ob.length c = true → Rep X c v → Rep Y c v := fun c v h r => Rep.low (X := X) (Y := Y) rfl hav hob c v h r
 have hrepL : ∀ (c : List AV) (v : List Value), lowL ob.length c = true → RepL X c v → RepL Y c v := fun c v h r => RepL.low (X := X) (Y := Y) rfl hav hob c v h r
 rw [qm] at hlb
 refine ⟨⟨by simp; omega, fun o y e hy he => ?_, fun o o' b c c' h1 h2 => g.inj o o' b c c' (QS h1).2 (QS h2).2, fun o b c h1 => g.base o b c (QS h1).2, g.bnd, g.size⟩, hrep, fun Z hZ hm => ⟨fun b k v hc ha => ?_, fun o x hx => ?_, fun b hb hf => ⟨(hm.blk b hb hf).1, fun o c h => (hm.blk b hb hf).2 o c (QS h).2⟩⟩⟩
 ·have hy' : ob[o]? = some y := hy
  have ho : o < ob.length := (qb.1 hy').1
  have := g.ok o y e (by show (ob ++ J)[o]? = _; rw [qj ho]; exact hy') (QS he).2
  cases e with
  | none => exact this
  | some p =>
   obtain ⟨b, cap⟩ := p
   obtain ⟨cur, r1, r2, r3, r4, r5, r6, r7⟩ := this
   exact ⟨cur, r1, r2, r3, r4, r5, hrepL _ _ (hl y (qK hy')) r6, r7⟩
 ·obtain ⟨h1, h2⟩ := hm.cell b k v hc ha
  exact ⟨h1, fun h => h2 (hav b k h)⟩
 ·obtain ⟨y, hy, h1, h2⟩ := hm.ob o x hx
  have ho : o < ob.length := by have := (qb.1 hx).1; omega
  obtain ⟨e1, e2⟩ := hob o ho
  exact ⟨y, by rw [e1]; exact hy, h1, fun h0 => ⟨(h2 h0).1, fun e => by rw [e2]; exact (h2 h0).2 e⟩⟩
theorem Le.low {M : Nat} {fr fr' : List (Nat × AV)} {ob J : List Ob} (hM : M ≤ ob.length) (hl : Low ob.length ob) (hfr : ∀ p ∈ fr', p.2 = .any ∨ (p.2 = Am.look fr p.1 ∧ Qad ob.length p.2 = true)) : Le M ⟨fr, ob ++ J⟩ ⟨fr', ob⟩ := by
 intro Γ a w hX ⟨q1, q2, q3, be, g, hm, hfr0⟩
 obtain ⟨g1, g2, g3⟩ := g.low hl
 refine ⟨q1, q2, q3, _, g1, g3 _ (by omega) hm, fun i => ?_⟩
 have key : ∀ l : List (Nat × AV), (∀ p ∈ l, p.2 = .any ∨ (p.2 = Am.look fr p.1 ∧ Qad ob.length p.2 = true)) → Am.look l i = .any ∨ (Am.look l i = Am.look fr i ∧ Qad ob.length (Am.look l i) = true) := by
  intro l
  induction l with
  | nil => intro _; exact .inl rfl
  | cons p l ih =>
   obtain ⟨j, v⟩ := p
   intro h
   simp only [Am.look]
   split
   ·rename_i e
    subst e
    exact h (i, v) (by simp)
   ·exact ih fun p hp => h p (by simp [hp])
 show Rep _ (Am.look fr' i) _
 rcases key fr' hfr with h1 | ⟨h1, h2⟩
 ·rw [h1]; simp only [Rep]
 ·rw [h1] at h2 ⊢
  exact g2 _ _ h2 (hfr0 i)
theorem ACall.low {P : Prg} {f : FuncId} {avs : List AV} {ob0 : List Ob} {K : AV → List Ob → Prop}
  (h : ACall P f avs ob0 (fun r ob' => ∃ ob J, ob' = ob ++ J ∧ ob0.length ≤ ob.length ∧ Low ob.length ob ∧ Qad ob.length r = true ∧ K r ob)) : ACall P f avs ob0 K := by
 obtain ⟨hE, h⟩ := h
 refine ⟨hE, fun B w0 be0 C vs g0 hG hr => (h B w0 be0 C vs g0 hG hr).mono ?_⟩
 rintro e w ⟨v, r, ob', be, rfl, hb, g, hm, hv, ob, J, rfl, hlen, hl, hr, hk⟩
 obtain ⟨g1, g2, g3⟩ := g.low hl
 exact ⟨v, r, ob, _, rfl, hb, g1, g3 _ hlen hm, g2 _ _ hr hv, hk⟩
theorem Le.still {M : Nat} (is : List Nat) (k : Nat) {fr fr' : List (Nat × AV)} {ob : List Ob} (hfr : ∀ p ∈ fr', p.2 = .any ∨ Zf (fun o => !is.contains o) (fun o => is.contains o) ob k [Am.look fr p.1] = some [p.2]) : Le M ⟨fr, ob⟩ ⟨fr', Qe is ob⟩ := by
 intro Γ a w hX ⟨q1, q2, q3, be, g, hm, hfr0⟩
 obtain ⟨g1, m1⟩ := Held.still is g
 let X : Cx := ⟨w, ob, be, Γ.X0.C⟩
 let Y : Cx := ⟨w, Qe is ob, be, Γ.X0.C⟩
 have hsub : ∀ b k, Y.av b k → X.av b k := by
  rintro b k (h | ⟨o, x, c, h1, h2, h3⟩)
  ·exact .inl h
  ·have hlt : o < ob.length := by
    have hA : o < be.length := (qb.1 h2).1
    have hB : be.length = ob.length := g.len
    omega
   obtain ⟨m, h4, h5, _⟩ := QN is ob o ob[o] (qd hlt)
   have h1' : (Qe is ob)[o]? = some x := h1
   rw [h4] at h1'
   cases h1'
   exact .inr ⟨o, ob[o], c, qd hlt, h2, by simp only at h3; omega⟩
 have hK : ∀ (o : Nat) (x : Ob), (fun o => !is.contains o) o = true → X.ob[o]? = some x → ∃ y, Y.ob[o]? = some y ∧ y.n = x.n ∧ y.sz = x.sz ∧ Y.be[o]? = X.be[o]? := by
  intro o x _ hx
  obtain ⟨m, h4, _⟩ := QN is ob o x hx
  exact ⟨_, h4, rfl, rfl, rfl⟩
 have hO : ∀ (o b c : Nat) (x : Ob), (fun o => is.contains o) o = true → X.ob[o]? = some x → X.be[o]? = some (some (b, c)) → ∀ k, k < x.cs.length → ¬ Y.av b k := by
  intro o b c x hok hx he k hk hav
  have hmem : o ∈ is := by simpa using hok
  rcases hav with h | ⟨o', x', c', h1, h2, h3⟩
  ·have h4 := g.base o b c he
   have h5 := g.bnd b k h
   omega
  ·have := g.inj o o' b c c' he h2
   subst this
   obtain ⟨m, h4, _, h6⟩ := QN is ob o x hx
   have h1' : (Qe is ob)[o]? = some x' := h1
   rw [h4] at h1'
   cases h1'
   have := h6 hmem
   simp only at h3
   omega
 have hrep : ∀ (cs r : List AV) (vs : List Value), Zf (fun o => !is.contains o) (fun o => is.contains o) ob k cs = some r → RepL X cs vs → RepL Y r vs := fun cs r vs h hr =>
  J6 (X := X) (Y := Y) g rfl hsub hK hO k cs r vs h hr
 refine ⟨q1, q2, q3, be, g1, hm.trans m1, fun i => ?_⟩
 have key : ∀ l : List (Nat × AV), (∀ p ∈ l, p.2 = .any ∨ Zf (fun o => !is.contains o) (fun o => is.contains o) ob k [Am.look fr p.1] = some [p.2]) → Am.look l i = .any ∨ Zf (fun o => !is.contains o) (fun o => is.contains o) ob k [Am.look fr i] = some [Am.look l i] := by
  intro l
  induction l with
  | nil => intro _; exact .inl rfl
  | cons p l ih =>
   obtain ⟨j, v⟩ := p
   intro h
   simp only [Am.look]
   split
   ·rename_i e
    subst e
    exact h (i, v) (by simp)
   ·exact ih fun p hp => h p (by simp [hp])
 show Rep Y (Am.look fr' i) _
 rcases key fr' hfr with h1 | h1
 ·rw [h1]; simp only [Rep]
 ·have := hrep _ _ [a.tmps.getD i undef] h1 (by simp only [RepL]; exact ⟨_, [], rfl, hfr0 i, rfl⟩)
  simp only [RepL] at this
  obtain ⟨v', rest, e, h3, _⟩ := this
  cases e
  exact h3
end Go.Am
/- The abstract machine: what speaks of objects speaks of such that are there; an empty slice in a place that was kept. -/
namespace Go.Am
open Go.RowKit
theorem Body.ent {P : Prg} {f N : Nat} {rl : List ResultVar} {ac : AC} (b : Body P f N rl ac) : Enters P f := by
 obtain ⟨fn, hf, hn, _, _, hc⟩ := b
 refine ⟨fn, hf, hn, ?_⟩
 cases hb : fn.body with
 | none => rw [hb] at hc; cases hc
 | some c => rfl
end Go.Am
/- The abstract machine: a round of a range over a function. -/
namespace Go.Am
open Go.RowKit
def RF (l : Nat) : Fence := Fence.wide.inRound l
theorem QlW {P : Program} {c : Call} : cOp P (.defer c) = none := rfl
theorem Qa1 {P : Program} {N : Nat} {ops : Array Oper} {o : Oper} {q : AO} (h : Xj P N ops o = some q) (hq : q.op ≠ .op .bad) : ∀ c, o.op ≠ .defer c := by
 intro c hc
 obtain ⟨c1, _, _, _⟩ := Q3 h
 rw [hc] at c1
 exact hq (by simpa [cAK, cFn, QlW] using c1.symm)
theorem Qot {lp : Nat} {o : Oper} (h : ∀ c, o.op ≠ .defer c) (ρ : Operand → Value) : o.semAt (RF lp).round ρ = execOp ρ o := Oper.semAt_some lp ρ o h
theorem Qns {lp n : Nat} {P : Program} {f : FuncId} {args : Array Value} {w : World} {R : Ending → World → Prop} (h : Calls P f args w R) : CallsIn (RF lp) n P f args w R := CallsIn.inRound lp (callsIn_wide.2 h)
section
variable {P : Prg} {N : Nat} {Γ : Ctx} {lp n : Nat}
theorem XT (hN : Fit P N Γ) {ops : Array Oper} {Q : Exit → Act → World → Prop} {K : St → Prop} (hK : ∀ st a w, K st → Sim Γ st a w → Q .normal a w) : ∀ (l : List Oper) (qs : List AO) (st : St) (a : Act) (w : World),
  l.mapM (Xj P N ops) = some qs → wpO P qs K st → Sim Γ st a w → wpListIn (RF lp) n P ops Q l a w
 | [], qs, st, a, w, hl, hw, hs => by
  simp at hl
  subst hl
  simp only [wpO] at hw
  exact hK st a w hw hs
 | o :: l, qs, st, a, w, hl, hw, hs => by
  simp only [qP, qx, qk, qe, qc] at hl
  obtain ⟨q, hq, qs', hqs, rfl⟩ := hl
  have hsp := Q3 hq
  obtain ⟨c1, c2, c3, _⟩ := hsp
  obtain ⟨be, g, hm0, hη, hfr⟩ := hs.eta hN.2
  have hd : ∀ d, o.dst = some d → d < Γ.N := fun d e => by rw [hN.1]; exact c3 d e
  simp only [wpO] at hw
  unfold wpListIn
  split at hw
  case h_3 => exact hw.elim
  case h_2 hwant =>
   have hwd := QU hq hfr hwant
   rw [hwd]
   simp only [ya, yS]
   rw [c2] at hw
   exact ⟨fun _ _ => trivial, XT hN hK l qs' _ _ _ hqs hw (hs.put hd hm0 hfr (Below.refl _ _) g (Moves.refl _) (by simp [Rep, undef, RepL]))⟩
  case h_1 hwant =>
   have hwd := QU hq hfr hwant
   rw [hwd]
   simp only [yI]
   have call : ∀ (f : FuncId) (avs : List AV) (vs : List Value), RepL ⟨w, st.ob, be, Γ.X0.C⟩ avs vs → (∀ c, o.op ≠ .defer c) → (execOp a.eval o).run P w = (callFunc f vs.toArray).run P w →
     ACall P f avs st.ob (fun r ob' => wpO P qs' K ⟨QQ st.fr o.dst r, ob'⟩) → o.wpIn (RF lp) n P a w (wpListIn (RF lp) n P ops Q l) Q := by
    intro f avs vs hr hnd hrun hcall
    obtain ⟨he, hcall⟩ := hcall
    unfold Oper.wpIn
    refine ⟨fun _ _ => trivial, ?_⟩
    rw [Qot hnd, hrun, Q7 he]
    refine ⟨(fun h => by cases h), (Qns (hcall Γ.B w be Γ.X0.C vs g (hN.2.move hm0) hr)).mono ?_⟩
    rintro e w' ⟨v, r, ob', be', rfl, hb, hh, hm, hv, hk⟩
    exact XT hN hK l qs' _ _ _ hqs hk (hs.put hd hm0 hfr hb hh hm hv)
   split at hw
   ·rename_i f args hop
    rw [c2] at hw
    rw [hop] at c1
    obtain ⟨c, ho, hcal, rfl⟩ := Qc6 c1
    refine call f _ _ (QP g hη c.args.toList) (fun c e => by rw [ho] at e; cases e) ?_ hw
    have : c.args.map a.eval = (c.args.toList.map a.eval).toArray := by apply q9; simp
    simp only [execOp, ho, resolve, hcal, Deferred.ofValue, Act.eval, invoke, Sem.run_bind, Sem.run_pure, Result.andThen_ok, ← this]
    simp
   ·rename_i f args hop
    rw [c2] at hw
    rw [hop] at c1
    obtain ⟨c, ho, hcal, rfl⟩ := Xw c1
    split at hw
    case h_2 => exact hw.elim
    rename_i fid fs cs hf
    have hr := hfr f
    rw [hf] at hr
    simp only [Rep] at hr
    obtain ⟨va, vb, e1, e2, e3⟩ := hr
    have e4 : a.eval (.tmp f) = .func (.func fid) va.toArray vb.toArray := e1
    refine call fid _ _ ((e2.append (QP g hη c.args.toList)).append e3) (fun c e => by rw [ho] at e; cases e) ?_ hw
    have : va.toArray ++ c.args.map a.eval ++ vb.toArray = (va ++ c.args.toList.map a.eval ++ vb).toArray := by apply q9; simp
    simp only [execOp, ho, resolve, hcal, e4, Deferred.ofValue, invoke, Sem.run_bind, Sem.run_pure, Result.andThen_ok, this]
   ·rename_i p hop
    rw [hop] at c1
    split at hw
    case h_2 => exact hw.elim
    rename_i v u hv
    rw [c2] at hw
    obtain ⟨vv, w', be', hr, hb, hh, hm, hrep⟩ := QbE g hη (.inl rfl) (fun _ => rfl) (o := o) (QeN c1 (QaW hv)) hv
    have hnd := Qa1 hq (by rw [hop]; intro e; cases e; exact QaW hv rfl)
    unfold Oper.wpIn
    refine ⟨fun _ _ => trivial, ?_⟩
    rw [Qot hnd]
    rcases hr with hr | ⟨hr, rfl⟩
    ·rw [hr]
     exact XT hN hK l qs' _ _ _ hqs hw (hs.put hd hm0 hfr hb hh hm hrep)
    ·rw [hr]
     exact XT hN hK l qs' _ _ _ hqs hw (hs.put hd hm0 hfr hb hh hm hrep)
theorem Qmu (hN : Fit P N Γ) {ops : Array Oper} {i : Nat} {o : Oper} (ho : ops[i]? = some o) {x : It} (hq : Xj P N ops o = some x.q) {st st1 : St} (hst : Xm P x st st1) (hsp : x.q.fr = true → QhS st.ob x.id) {a : Act} {w : World} (hs : Sim Γ st a w)
  {Q : Exit → Act → World → Prop} {K : Act → World → Prop} (hK : ∀ a' w', Sim Γ st1 a' w' → K a' w') : wpOpIn (RF lp) n P ops Q i K a w := by
 unfold wpOpIn
 rw [ho]
 simp only
 have hnb : Region.wanted o (yielded ops a.tmps) = true → ∀ c, o.op ≠ .defer c := by
  intro hw
  refine Qa1 hq fun hb => ?_
  obtain ⟨be, g, hm0, hη, hfr⟩ := hs.eta hN.2
  have hst' := hst
  unfold Xm at hst'
  split at hst'
  ·rw [hb] at hst'
   obtain ⟨v, u, h, _⟩ := hst'
   have h' : Qaa (x.dat && Qq AOp.bad) none = some (v, u) := h
   cases hb2 : (x.dat && Qq AOp.bad) <;> rw [hb2] at h' <;> simp [Qaa] at h'
  ·rename_i hwant
   have := QU hq hfr hwant
   rw [this] at hw
   cases hw
  ·exact hst'
 rcases Qdg hN hq hst hsp hs with ⟨h1, h2⟩ | ⟨h1, v, w', h2, h3⟩ | ⟨h1, f, vs, h2, h3⟩
 ·rw [h1]; exact ⟨fun _ _ => trivial, hK _ _ h2⟩
 ·have hnd := hnb h1
  rw [h1]
  unfold Oper.wpIn
  refine ⟨fun _ _ => trivial, ?_⟩
  rw [Qot hnd]
  rcases h2 with h2 | ⟨h2, rfl⟩ <;> rw [h2] <;> exact hK _ _ h3
 ·have hnd := hnb h1
  rw [h1]
  unfold Oper.wpIn
  refine ⟨fun _ _ => trivial, ?_⟩
  rw [Qot hnd, h2]
  refine ⟨(fun h => by cases h), (Qns h3).mono ?_⟩
  rintro e w' ⟨v, rfl, h4⟩
  exact hK _ _ h4
theorem QhU (hN : Fit P N Γ) {ops : Array Oper} {qs : List AO} {xs : List It} {nf M : Nat} (hqs : ops.toList.mapM (Xj P N ops) = some qs) (hxs : xs.map (·.q) = qs) (hok : Xa ops xs nf = true) {K : Act → World → Prop} {Q : Exit → Act → World → Prop}
  {t : St} (hK : ∀ a w, Sim Γ t a w → Q .normal a w) :
  ∀ (fuel : Nat) (listed : Array Bool) (s : St) (a : Act) (w : World), listed.size = xs.length → fuel = (Qg xs.length listed).length →
   (∀ (j : Nat) (af : List Nat), (Zg ops)[j]? = some af → listed.getD j false = true → ∀ e ∈ af, listed.getD e false = true) →
   Qcl P ((Qg xs.length listed).map fun i => up M (xs.getD i Z9)) s t → Qnu ((Qg xs.length listed).map fun i => up M (xs.getD i Z9)) s → Sim Γ s a w → wpAnyIn (RF lp) n P .any ops Q fuel listed a w := by
 obtain ⟨hlen, hget⟩ := XF hqs
 have hn : ops.size = xs.length := by
  have h1 : qs.length = xs.length := by rw [← hxs]; simp
  rw [← h1, hlen]; simp
 have hcop : ∀ i o, ops[i]? = some o → Xj P N ops o = some (xs.getD i Z9).q := fun i o ho => by
  obtain ⟨y, hy, hc⟩ := hget i o (by simpa using ho)
  rw [← hxs, qv] at hy
  obtain ⟨x, hx, rfl⟩ := qa.1 hy
  rw [qh, hx]
  exact hc
 simp only [Xa, qR, yC, qf, ql] at hok
 have hdist : ∀ k j, k < j → j < xs.length → (xs.getD k Z9).q.fr = true → (xs.getD j Z9).q.fr = true → (xs.getD k Z9).id ≠ (xs.getD j Z9).id := fun k j hkj hj h1 h2 => by
  have := ((hok j hj).2 k hkj).2
  rw [h1, h2] at this
  simpa using this
 have hsorted : ∀ listed : Array Bool, (Qg xs.length listed).Pairwise (· < ·) := fun listed => (List.pairwise_lt_range).filter _
 have hmem : ∀ (listed : Array Bool) i, i ∈ Qg xs.length listed ↔ i < xs.length ∧ listed.getD i true = false := fun listed i => by
  unfold Qg
  rw [yw, yC]
  simp
 intro fuel
 induction fuel with
 | zero =>
  intro listed s a w hsz hf hcl hch hp hs
  have hnil : Qg xs.length listed = [] := qw hf.symm
  rw [hnil] at hch
  refine ⟨?_, hK a w (Sim.same hch hs)⟩
  refine List.eq_nil_iff_forall_not_mem.2 fun j hj => ?_
  obtain ⟨h0, o, ho, _⟩ := mem_ready.1 hj
  have : j ∈ Qg xs.length listed := (hmem _ _).2 ⟨by rw [← hn]; exact (qi.1 ho).1, h0⟩
  rw [hnil] at this
  cases this
 | succ fuel ih =>
  intro listed s a w hsz hf hcl hch hp hs
  have haf : ∀ (j : Nat) (o : Oper), ops[j]? = some o → (Zg ops)[j]? = some ((o.after.toList.filter (Region.binds .any)).map (·.on)) := fun j o ho => by
   unfold Zg
   rw [qv]
   have : ops.toList[j]? = some o := by simpa using ho
   rw [this]; rfl
  refine ⟨fun hr => ?_, fun j hj => ?_⟩
  · -- the first Qg is ready
   exfalso
   cases hu : Qg xs.length listed with
   | nil => rw [hu] at hf; cases hf
   | cons i rest =>
    have hi := (hmem listed i).1 (by rw [hu]; simp)
    have hlt : i < ops.size := by rw [hn]; exact hi.1
    have ho : ops[i]? = some ops[i] := qF hlt
    have hready : i ∈ Region.ready .any ops listed := by
     refine mem_ready.2 ⟨hi.2, ops[i], ho, fun e he hb => ?_⟩
     have h1 := ((hok i hi.1).1.1) e.on (by
      rw [qh, haf i _ ho]
      simp only [yy, qV, yw]
      exact ⟨e, ⟨by simpa using he, hb⟩, rfl⟩)
     cases hle : listed.getD e.on false with
     | true => rfl
     | false =>
      exfalso
      have hlt2 : e.on < listed.size := by rw [hsz]; omega
      have : e.on ∈ Qg xs.length listed := (hmem listed e.on).2 ⟨by omega, by
       simp only [qr, qF hlt2, yy] at hle ⊢
       exact hle⟩
      rw [hu] at this
      have hs := hsorted listed
      rw [hu, yL] at hs
      rcases qo.1 this with h2 | h2
      ·omega
      ·have := hs.1 _ h2; omega
    rw [hr] at hready
    cases hready
  ·obtain ⟨h0, o, ho, hall⟩ := mem_ready.1 hj
   have hjlt : j < xs.length := by rw [← hn]; exact (qi.1 ho).1
   have hjm : j ∈ Qg xs.length listed := (hmem _ _).2 ⟨hjlt, h0⟩
   obtain ⟨pre, post, hsplit⟩ := List.append_of_mem hjm
   have hnext := Qco hsz hjlt hsplit
   have hsrt := hsorted listed
   rw [hsplit] at hsrt
   rw [yT] at hsrt
   obtain ⟨s1, s2, s3⟩ := hsrt
   have haj := haf j o ho
   have hpreds : ∀ k, ((QjW [] (Zg ops)).getD j 0).testBit k = true → listed.getD k false = true :=
    Qb9 (Zg ops) (fun k => listed.getD k false = true) hcl (Zg ops) [] [] (by simp) rfl (by simp) j _ haj (fun e he => by
     simp only [qV, yw] at he
     obtain ⟨e', ⟨he1, he2⟩, rfl⟩ := he
     exact hall e' (by simpa using he1) he2)
   have hind : ∀ k ∈ pre, Ind (xs.getD k Z9) (xs.getD j Z9) := fun k hk => by
    have hkj : k < j := s3 k hk j (by simp)
    have hku : k ∈ Qg xs.length listed := by rw [hsplit]; simp [hk]
    have h2 := ((hok j hjlt).2 k hkj).1
    simp only [yF] at h2
    rcases h2 with h2 | h2
    ·exfalso
     have h3 := hpreds k h2
     have h4 := ((hmem _ _).1 hku).2
     have hlt2 : k < listed.size := by rw [hsz]; omega
     simp only [qr, qF hlt2, yy] at h3 h4
     rw [h3] at h4
     cases h4
    ·exact QgY h2
   rw [hsplit, yt, qC] at hch hp
   have hpw : ((pre.map fun i => up M (xs.getD i Z9)) ++ up M (xs.getD j Z9) :: (post.map fun i => up M (xs.getD i Z9))).Pairwise (fun a b => a.q.fr = true → b.q.fr = true → a.id ≠ b.id) := by
    have : ((pre ++ j :: post).map fun i => up M (xs.getD i Z9)).Pairwise (fun a b => a.q.fr = true → b.q.fr = true → a.id ≠ b.id) := by
     rw [List.pairwise_map]
     have hs := hsorted listed
     rw [hsplit] at hs
     refine hs.imp_of_mem ?_
     intro k i hk hi hlt h1 h2 e
     have hi' : i < xs.length := ((hmem listed i).1 (by rw [hsplit]; exact hi)).1
     refine hdist k i hlt hi' h1 h2 ?_
     have a1 := Qe8 (x := xs.getD k Z9) h1 M
     have a2 := Qe8 (x := xs.getD i Z9) h2 M
     omega
    simpa [yt, qC] using this
   have hstep : ∀ (y : It) (s s1 : St), y ∈ (pre.map fun i => up M (xs.getD i Z9)) → Fine Γ s → (y.q.fr = true → s.ob[y.id]? = some ph) → Xm P y s s1 → Fine Γ s1 := by
    intro y s s1 hy hF hph hst
    obtain ⟨k, hk, rfl⟩ := qV.1 hy
    have hku : k ∈ Qg xs.length listed := by rw [hsplit]; simp [hk]
    have hklt : k < ops.size := by rw [hn]; exact ((hmem _ _).1 hku).1
    exact Qgz (x := up M (xs.getD k Z9)) hN (hcop k _ (qF hklt)) hst (fun h => .inr (hph h)) hF
   obtain ⟨sj, hj1, hj2⟩ := Qcl.front (Fine Γ) (fun s h => J7 hN h) ⟨a, w, hs⟩ hp hstep (fun y hy => by
    obtain ⟨k, hk, rfl⟩ := qV.1 hy
    exact (hind k hk).up M) hpw hch
   have hpj : (up M (xs.getD j Z9)).q.fr = true → s.ob[(up M (xs.getD j Z9)).id]? = some ph := hp _ (by simp)
   have hpn : Qnu ((pre.map fun i => up M (xs.getD i Z9)) ++ (post.map fun i => up M (xs.getD i Z9))) sj := by
    refine hj1.pend (J7 hN ⟨a, w, hs⟩) hpj (fun y hy => hp y ?_) (fun y hy h1 h2 => ?_)
    ·rcases qp.1 hy with hy | hy
     ·exact qp.2 (.inl hy)
     ·exact qp.2 (.inr (qN _ hy))
    ·rw [yT, yL] at hpw
     rcases qp.1 hy with hy | hy
     ·exact fun e => hpw.2.2 y hy _ (by simp) h2 h1 e.symm
     ·exact hpw.2.1.1 y hy h1 h2
   refine Qmu hN ho (x := up M (xs.getD j Z9)) (hcop j o ho) hj1 (fun h => .inr (hpj h)) hs fun a' w' hs' => ?_
   refine ih (listed.setIfInBounds j true) sj a' w' (by simpa using hsz) ?_ ?_ ?_ ?_ hs'
   ·rw [hnext]
    rw [hsplit] at hf
    simp at hf ⊢
    omega
   ·intro k af hk hkl e he
    by_cases hkj : k = j
    ·subst hkj
     rw [haj] at hk
     cases hk
     simp only [qV, yw] at he
     obtain ⟨e', ⟨he1, he2⟩, rfl⟩ := he
     exact getD_set_true (hall e' (by simpa using he1) he2)
    ·rw [getD_set_ne false (fun h => hkj h.symm)] at hkl
     exact getD_set_true (hcl k af hk hkl e he)
   ·rw [hnext, yt]; exact hj2
   ·rw [hnext, yt]; exact hpn
theorem QjD (hN : Fit P N Γ) {id : Nat} {ops : Array Oper} {qs : List AO} {xs : List It} {nf : Nat} (hm : P.prog.follows .mixedOrders = true) (hqs : ops.toList.mapM (Xj P N ops) = some qs) (hxs : xs.map (·.q) = qs) (hok : Xa ops xs nf = true)
  {Q : Exit → Act → World → Prop} {K : St → Prop} (hK : ∀ st a w, K st → Sim Γ st a w → Q .normal a w) {st : St} (hw : wpD P st.ob.length xs K ⟨st.fr, st.ob ++ List.replicate nf ph⟩) {a : Act} {w : World} (hs : Sim Γ st a w) :
  (Code.region id ops true).wpIn (RF lp) n P Q a w := by
 refine wpIn_region_any hm ?_
 obtain ⟨t, hch, hk⟩ := Qbb hw
 obtain ⟨hlen, hget⟩ := XF hqs
 have hn : ops.size = xs.length := by
  have h1 : qs.length = xs.length := by rw [← hxs]; simp
  rw [← h1, hlen]; simp
 have hun : Qg xs.length (Array.replicate ops.size false) = List.range xs.length := by
  unfold Qg
  refine yK.2 fun i hi => ?_
  have : i < ops.size := by rw [hn]; simpa using hi
  simp [this]
 have hmap : ((List.range xs.length).map fun i => up st.ob.length (xs.getD i Z9)) = xs.map (up st.ob.length) := by
  apply yl
  intro i
  rw [qv, qv]
  by_cases h : i < xs.length
  ·rw [yZ h, qd h]
   simp [qh, qd h]
  ·rw [qO (by simpa using h), qO (by simpa using h)]
   rfl
 have hs0 : Sim Γ st a { w with drawn := w.drawn + 1 } := by
  obtain ⟨q1, q2, q3, be, g, hm0, hfr⟩ := hs
  have hb : Below w.heap.size w { w with drawn := w.drawn + 1 } := (Below.refl _ _).drew
  have mv := Moves.below (X := ⟨w, st.ob, be, Γ.X0.C⟩) hb
  exact ⟨q1, q2, q3.trans (hb.mono g.size), be, g.below (X := ⟨w, st.ob, be, Γ.X0.C⟩) hb, hm0.trans mv, fun i => Rep.move mv _ _ (hfr i)⟩
 refine QhU hN hqs hxs hok (K := fun _ _ => True) (M := st.ob.length) (t := t) (fun a w h => hK t a w hk h) _ _ _ _ _ (by simp [hn]) (by rw [hun]; simp [hn]) ?_ ?_ ?_ (Sim.places nf hs0)
 ·intro j af _ h
  exfalso
  by_cases hj : j < ops.size <;> simp [hj] at h
 ·rw [hun, hmap]; exact hch
 ·rw [hun, hmap]
  intro x hx hf
  obtain ⟨y, hy, rfl⟩ := qV.1 hx
  obtain ⟨i, hi, e⟩ := yD.1 hy
  simp only [Xa, qR, yC, qf, yF, yG, ql] at hok
  have h1 := (hok i hi).1.2
  have h2 : xs.getD i Z9 = y := by rw [qh, qd hi]; exact e
  rw [h2] at h1
  rcases h1 with h1 | h1
  ·simp only [up] at hf; rw [h1] at hf; cases hf
  ·show (st.ob ++ List.replicate nf ph)[(up st.ob.length y).id]? = some ph
   rw [Qe8 (x := y) hf]
   rw [qI (by omega)]
   simp [h1]
end
def QqD (lp n : Nat) (P : Prg) (N M : Nat) (c : Code) (Q : Exit → St → Prop) (st : St) : Prop :=
 ∀ (Γ : Ctx) (a : Act) (w : World), Fit P N Γ → Γ.X0.ob.length = M → Sim Γ st a w → c.wpIn (RF lp) n P (fun e a' w' => ∃ st', Q e st' ∧ Sim Γ st' a' w') a w
def Zr : AC → Bool
 | .seq a b => Zr a && Zr b
 | .cond _ a b => Zr a && Zr b
 | .block _ c => Zr c
 | .loop _ => false
 | _ => true
theorem Zn {lp n : Nat} {P : Prg} {N M : Nat} : ∀ (c : Code) (ac : AC) (Q : Exit → St → Prop) (st : St), Zr ac = true → Qb P N c = some ac → wpC P N M ac Q st → QqD lp n P N M c Q st
 | .skip, ac, Q, st, hl, hc, h => by
  simp only [Qb, qc] at hc
  subst hc
  simp only [wpC] at h
  exact fun Γ a w _ _ hs => wpIn_skip ⟨st, h, hs⟩
 | .region id ops d, ac, Q, st, hl, hc, h => by
  simp only [Qb] at hc
  split at hc
  case h_2 => cases hc; exact h.elim
  rename_i qs hq
  split at hc
  ·rename_i hd
   subst hd
   split at hc
   case isFalse => cases hc; exact h.elim
   cases hc
   rename_i hok
   simp only [qf] at hok
   simp only [wpC] at h
   exact fun Γ a w h1 _ hs => QjD h1 hok.1 hq (Qc1 ops qs) hok.2 (fun st a w hk hs => ⟨st, hk, hs⟩) h hs
  ·rename_i hd
   cases hc
   have hd' : d = false := by simpa using hd
   subst hd'
   simp only [wpC] at h
   exact fun Γ a w h1 _ hs => wpIn_region_list (XT h1 (fun st a w hk hs => ⟨st, hk, hs⟩) _ qs st a w hq h hs)
 | .seq x y, ac, Q, st, hl, hc, h => by
  simp only [Qb] at hc
  split at hc
  case h_2 => cases hc
  rename_i ax hx
  split at hc <;> cases hc
  rename_i ay hy
  simp only [wpC] at h
  intro Γ a w h1 h2 hs
  refine wpIn_seq (wpIn_mono (Zn x ax _ st (by simp [Zr] at hl; exact hl.1) hx h Γ a w h1 h2 hs) ?_)
  rintro e a' w' ⟨st', hq, hs'⟩
  cases e with
  | normal => exact Zn y ay Q st' (by simp [Zr] at hl; exact hl.2) hy hq Γ a' w' h1 h2 hs'
  | exit id => exact ⟨st', hq, hs'⟩
  | goto l => exact ⟨st', hq, hs'⟩
  | ret => exact ⟨st', hq, hs'⟩
  | panic ch => exact ⟨st', hq, hs'⟩
  | outgrown => exact ⟨st', hq, hs'⟩
 | .cond x y z, ac, Q, st, hl, hc, h => by
  simp only [Qb] at hc
  split at hc
  case h_2 => cases hc
  rename_i ay hy
  split at hc <;> cases hc
  rename_i az hz
  simp only [wpC] at h
  intro Γ a w h1 h2 hs
  obtain ⟨be, g, hm0, hη, hfr⟩ := hs.eta h1.2
  have hr := hη x
  split at h
  ·rename_i t hx
   rw [hx] at hr
   simp only [Rep] at hr
   refine wpIn_cond hr ?_
   cases t
   ·exact Zn z az Q st (by simp [Zr] at hl; exact hl.2) hz h Γ a w h1 h2 hs
   ·exact Zn y ay Q st (by simp [Zr] at hl; exact hl.1) hy h Γ a w h1 h2 hs
  ·rename_i hx
   rw [hx] at hr
   simp only [Rep] at hr
   obtain ⟨t, hr⟩ := hr
   refine wpIn_cond hr ?_
   cases t
   ·exact Zn z az Q st (by simp [Zr] at hl; exact hl.2) hz h.2 Γ a w h1 h2 hs
   ·exact Zn y ay Q st (by simp [Zr] at hl; exact hl.1) hy h.1 Γ a w h1 h2 hs
  ·exact h.elim
 | .block id c, ac, Q, st, hl, hc, h => by
  simp only [Qb, qa] at hc
  obtain ⟨x, hx, rfl⟩ := hc
  simp only [wpC] at h
  intro Γ a w h1 h2 hs
  refine wpIn_block (wpIn_mono (Zn c x _ st (by simpa [Zr] using hl) hx h Γ a w h1 h2 hs) ?_)
  rintro e a' w' ⟨st', hq, hs'⟩
  cases e with
  | exit j =>
   simp only [Qjw] at hq
   simp only [Exit.inBlock]
   split
   ·rename_i e; rw [qE e] at hq; exact ⟨st', hq, hs'⟩
   ·rename_i e; rw [qz e] at hq; exact ⟨st', hq, hs'⟩
  | normal => exact ⟨st', hq, hs'⟩
  | goto l => exact ⟨st', hq, hs'⟩
  | ret => exact ⟨st', hq, hs'⟩
  | panic ch => exact ⟨st', hq, hs'⟩
  | outgrown => exact ⟨st', hq, hs'⟩
 | .loop c, ac, Q, st, hl, hc, h => by
  simp only [Qb, qa] at hc
  obtain ⟨x, hx, rfl⟩ := hc
  simp [Zr] at hl
 | .exit id, ac, Q, st, hl, hc, h => by
  simp only [Qb, qc] at hc
  subst hc
  simp only [wpC] at h
  exact fun Γ a w _ _ hs => wpIn_exit ⟨st, h, hs⟩
 | .ret, ac, Q, st, hl, hc, h => by
  simp only [Qb, qc] at hc
  subst hc
  simp only [wpC] at h
  exact fun Γ a w _ _ hs => wpIn_ret ⟨st, h, hs⟩
 | .rangeFunc .., _, _, _, _, hc, h => by simp only [Qb, qc] at hc; subst hc; exact h.elim
 | .scope _, _, _, _, _, hc, h => by simp only [Qb, qc] at hc; subst hc; exact h.elim
 | .label _, _, _, _, _, hc, h => by simp only [Qb, qc] at hc; subst hc; exact h.elim
 | .goto _, _, _, _, _, hc, h => by simp only [Qb, qc] at hc; subst hc; exact h.elim
 | .refuse _, _, _, _, _, hc, h => by simp only [Qb, qc] at hc; subst hc; exact h.elim
end Go.Am
/- The abstract machine: a range over a function, the caller's side. -/
namespace Go.Am
open Go.RowKit
structure QX (X Y : Cx) : Prop where
 cell : ∀ (b k : Nat) (v : Value), X.w.cell? ⟨b, k, none⟩ = some v → ¬ X.av b k → Y.w.cell? ⟨b, k, none⟩ = some v ∧ ¬ Y.av b k
 ob : ∀ (o : Nat) (x : Ob), X.ob[o]? = some x → ∃ y : Ob, Y.ob[o]? = some y ∧ x.n ≤ y.n ∧ (x.sz ≠ 0 → y.sz ≠ 0 ∧ (y.n = x.n → Y.be[o]? = X.be[o]?))
theorem Moves.toC {X Y : Cx} (h : Moves X Y) : QX X Y := ⟨h.cell, h.ob⟩
theorem QX.refl (X : Cx) : QX X X := (Moves.refl X).toC
theorem QX.trans {X Y Z : Cx} (h : QX X Y) (g : QX Y Z) : QX X Z := by
 refine ⟨fun b k v hc ha => ?_, fun o x hx => ?_⟩
 ·obtain ⟨h1, h2⟩ := h.cell b k v hc ha
  exact g.cell b k v h1 h2
 ·obtain ⟨y, hy, hn, he⟩ := h.ob o x hx
  obtain ⟨z, hz, hm, hf⟩ := g.ob o y hy
  exact ⟨z, hz, qH hn hm, fun h0 => ⟨(hf (he h0).1).1, fun e => by rw [(hf (he h0).1).2 (by omega), (he h0).2 (by omega)]⟩⟩
theorem AtC.moveC {X Y : Cx} (h : QX X Y) {b k : Nat} {vs : List Value} (g : AtC X b k vs) : AtC Y b k vs :=
 fun i v hv => ⟨h.cell _ _ _ (g i v hv).1.1 (g i v hv).1.2, (g i v hv).2⟩
theorem Cur.moveC {X Y : Cx} (h : QX X Y) {o ver : Nat} {p : Option (Option (Nat × Nat)) → Prop} (g : Cur X o ver p) : Cur Y o ver p := by
 obtain ⟨x, hx, h0, hn, hp⟩ := g
 obtain ⟨y, hy, hm, he⟩ := h.ob o x hx
 exact ⟨y, hy, (he h0).1, qH hn hm, fun e => by rw [(he h0).2 (by omega)]; exact hp (by omega)⟩
mutual
theorem Rep.moveC {X Y : Cx} (h : QX X Y) : ∀ (c : AV) (v : Value), Rep X c v → Rep Y c v
 | .any, _, g => g
 | .int _ _, _, g => g
 | .bool _, _, g => g
 | .ubool, _, g => g
 | .str _, _, g => g
 | .lit _, _, g => g
 | .emp _, _, g => g
 | .list _ cs, _, g => by
  simp only [Rep] at g ⊢
  obtain ⟨a, cap, vs, e, gc, g1, g2⟩ := g
  refine ⟨a, cap, vs, e, gc, ?_, RepL.moveC h cs vs g2⟩
  rcases g1 with g1 | ⟨b, k, e1, g1⟩
  ·exact .inl g1
  ·exact .inr ⟨b, k, e1, g1.moveC h⟩
 | .cell cs, _, g => by
  simp only [Rep] at g ⊢
  obtain ⟨b, k, vs, e, g1, g2⟩ := g
  exact ⟨b, k, vs, e, g1.moveC h, RepL.moveC h cs vs g2⟩
 | .own _ _, _, g => by simp only [Rep] at g ⊢; exact ⟨g.1.moveC h, g.2⟩
 | .ownc _ _ _, _, g => by simp only [Rep] at g ⊢; exact ⟨g.1.moveC h, g.2⟩
 | .view _ _ _ _, _, g => by simp only [Rep] at g ⊢; exact ⟨g.1.moveC h, g.2⟩
 | .ref _ _ _, _, g => by simp only [Rep] at g ⊢; exact ⟨g.1.moveC h, g.2⟩
 | .agg cs, _, g => by
  simp only [Rep] at g ⊢
  obtain ⟨vs, e, g2⟩ := g
  exact ⟨vs, e, RepL.moveC h cs vs g2⟩
 | .tup cs, _, g => by
  simp only [Rep] at g ⊢
  obtain ⟨vs, e, g2⟩ := g
  exact ⟨vs, e, RepL.moveC h cs vs g2⟩
 | .fn _ fs cs, _, g => by
  simp only [Rep] at g ⊢
  obtain ⟨va, vb, e, g1, g2⟩ := g
  exact ⟨va, vb, e, RepL.moveC h fs va g1, RepL.moveC h cs vb g2⟩
theorem RepL.moveC {X Y : Cx} (h : QX X Y) : ∀ (cs : List AV) (vs : List Value), RepL X cs vs → RepL Y cs vs
 | [], _, g => by simp only [RepL] at g ⊢; exact g
 | c :: cs, _, g => by
  simp only [RepL] at g ⊢
  obtain ⟨v, rest, e, g1, g2⟩ := g
  exact ⟨v, rest, e, Rep.moveC h c v g1, RepL.moveC h cs rest g2⟩
end
def KpB (Ts : List Nat) (C : Nat → Nat → Prop) (W W' : World) : Prop :=
 (∀ (b : Nat) (cur : Array Value) (ty : Nat) (fr : Nat × Nat), W.heap[b]? = some (Obj.cells cur ty fr) → ty ∈ Ts → W'.heap[b]? = W.heap[b]?) ∧ (∀ (b k : Nat) (v : Value), ¬ C b k → W.cell? ⟨b, k, none⟩ = some v → W'.cell? ⟨b, k, none⟩ = some v)
theorem KpB.trans {Ts : List Nat} {D : Nat → Nat → Prop} {A B C : World} (h : KpB Ts D A B) (g : KpB Ts D B C) : KpB Ts D A C :=
 ⟨fun b cur ty fr hb ht => (g.1 b cur ty fr ((h.1 b cur ty fr hb ht).trans hb) ht).trans (h.1 b cur ty fr hb ht), fun b k v hv hc => g.2 b k v hv (h.2 b k v hv hc)⟩
theorem Xi {W : World} {a : Addr} {v : Value} (h : W.cell? a = some v) : ∃ o : Obj, W.heap[a.block]? = some o ∧ o.isCells = true := by
 unfold World.cell? at h
 cases ho : W.heap[a.block]? with
 | none => simp [ho] at h
 | some o => exact ⟨o, rfl, by cases o <;> simp_all [Obj.isCells]⟩
theorem KpB.grown {Ts : List Nat} {D : Nat → Nat → Prop} {W W' : World} {row : Option Nat} (hg : W.grownBy W' row) (hr : ∀ r, row = some r → ∃ o : Obj, W.heap[r]? = some o ∧ o.isCells = false) : KpB Ts D W W' := by
 have hne : ∀ (b : Nat) (o : Obj), W.heap[b]? = some o → o.isCells = true → W'.heap[b]? = W.heap[b]? := fun b o hb ho =>
  hg.block b (qi.1 hb).1 fun e => by
   obtain ⟨o', h1, h2⟩ := hr b e.symm
   rw [hb] at h1; cases h1; rw [ho] at h2; cases h2
 refine ⟨fun b cur ty fr hb _ => hne b _ hb rfl, fun b k v _ hc => ?_⟩
 obtain ⟨o, h1, h2⟩ := Xi hc
 rw [World.cell?_of_block (w := W) (hne _ o h1 h2)]
 exact hc
theorem QX.grown {W W' : World} {ob : List Ob} {be : List (Option (Nat × Nat))} {C : Nat → Nat → Prop} {row : Option Nat} (hg : W.grownBy W' row) (hr : ∀ r, row = some r → ∃ o : Obj, W.heap[r]? = some o ∧ o.isCells = false) : QX ⟨W, ob, be, C⟩ ⟨W', ob, be, C⟩ := by
 refine ⟨fun b k v hc ha => ⟨?_, ha⟩, fun o x hx => ⟨x, hx, qg _, fun h => ⟨h, fun _ => rfl⟩⟩⟩
 obtain ⟨o, h1, h2⟩ := Xi hc
 refine (World.cell?_of_block (w := W) (hg.block b (qi.1 h1).1 fun e => ?_)).trans hc
 obtain ⟨o', h3, h4⟩ := hr b e.symm
 have h1' : W.heap[b]? = some o := h1
 rw [h1'] at h3; cases h3; rw [h2] at h4; cases h4
theorem Held.grown {B : Nat} {W W' : World} {ob : List Ob} {be : List (Option (Nat × Nat))} {C : Nat → Nat → Prop} {row : Option Nat} (g : Held B ⟨W, ob, be, C⟩) (hg : W.grownBy W' row) (hr : ∀ r, row = some r → ∃ o : Obj, W.heap[r]? = some o ∧ o.isCells = false) : Held B ⟨W', ob, be, C⟩ := by
 refine ⟨g.len, fun o x e hx he => ?_, g.inj, g.base, g.bnd, qH g.size hg.size⟩
 have hok := g.ok o x e hx he
 cases e with
 | none => exact hok
 | some p =>
  obtain ⟨b, cap⟩ := p
  obtain ⟨cur, ⟨fr, h1, h1'⟩, h2, h3, h4, h5, h6, h7⟩ := hok
  refine ⟨cur, ⟨fr, ?_, h1'⟩, h2, h3, h4, h5, RepL.moveC (QX.grown hg hr) _ _ h6, h7⟩
  refine (hg.block b (qi.1 h1).1 fun e => ?_).trans h1
  obtain ⟨o', h8, h9⟩ := hr b e.symm
  have h1'' : W.heap[b]? = some (.cells cur x.ty fr) := h1
  rw [h1''] at h8; cases h8; cases h9
theorem Moves.grown {X : Cx} {W W' : World} {ob : List Ob} {be : List (Option (Nat × Nat))} {C : Nat → Nat → Prop} {row : Option Nat} (h : Moves X ⟨W, ob, be, C⟩) (hg : W.grownBy W' row) (hr : ∀ r, row = some r → X.w.heap.size ≤ r ∧ ∃ o : Obj, W.heap[r]? = some o ∧ o.isCells = false) : Moves X ⟨W', ob, be, C⟩ := by
 have hc := h.toC.trans (QX.grown hg fun r e => (hr r e).2)
 refine ⟨hc.cell, hc.ob, fun b hb hf => ?_⟩
 obtain ⟨h1, h2⟩ := h.blk b hb hf
 refine ⟨(hg.block b ?_ fun e => ?_).trans h1, h2⟩
 ·have := qF hb
  rw [← h1] at this
  exact (qi.1 this).1
 ·have := (hr b e.symm).1
  omega
theorem Moves.keeps {B : Nat} {X Y : Cx} (h : Moves X Y) (g : Held B X) (hs : X.w.heap.size ≤ Y.w.heap.size) (D : Nat) : KeepsFrom D X.w Y.w := by
 refine ⟨hs, fun k o _ hk ho => ?_⟩
 refine (h.blk k (qi.1 hk).1 fun o' c he => ?_).1.trans hk
 have hlt : o' < X.ob.length := by rw [← g.len]; exact (qb.1 he).1
 obtain ⟨cur, ⟨fr, h1, _⟩, _⟩ := g.ok o' _ _ (qd hlt) he
 rw [hk] at h1
 cases h1
 cases ho
theorem Moves.kp {B : Nat} {X Y : Cx} (h : Moves X Y) (g : Held B X) {Ts : List Nat} (hT : ∀ x ∈ X.ob, x.ty ∉ Ts) {D : Nat → Nat → Prop} (hat : ∀ b k, ¬ D b k → ¬ X.av b k) : KpB Ts D X.w Y.w := by
 refine ⟨fun b cur ty fr hb ht => ?_, fun b k v hv hc => (h.cell _ _ _ hc (hat b k hv)).1⟩
 refine (h.blk b (qi.1 hb).1 fun o' c he => ?_).1
 have hlt : o' < X.ob.length := by rw [← g.len]; exact (qb.1 he).1
 obtain ⟨cur', ⟨fr', h1, _⟩, _⟩ := g.ok o' _ _ (qd hlt) he
 rw [hb] at h1
 cases h1
 exact hT _ (yf hlt) ht
end Go.Am
/- The abstract machine: a range over a function, the caller's rule. -/
namespace Go.Am
open Go.RowKit
def QeW (P : Prg) (gf : Nat) (cs : List AV) (Ts : List Nat) {cnt : Nat} (xs : Fin cnt → AV) : Prop :=
 (∀ j, isD (xs j) = true) ∧ ∀ (w : World) (C : Nat → Nat → Prop) (v1 : Value), Rep ⟨w, [], [], C⟩ (.cell cs) v1 → (∀ b k, ¬ C b k → ∃ v, w.cell? ⟨b, k, none⟩ = some v) → GOk P.G ⟨w, [], [], C⟩ →
  ∃ vals : Fin cnt → Value, (∀ j, Rep ⟨w, [], [], C⟩ (xs j) (vals j)) ∧
   SeqStopsK Fence.wide 4 P gf #[v1] (fun j => #[vals j]) (KpB Ts C) (fun l => l = List.finRange cnt) (fun _ => True) cnt w
def Asn (asn : Code) (d p : Nat) : Prop := ∀ (lp n : Nat) (P : Program) (Q : Exit → Act → World → Prop) (a : Act) (w : World), Q .normal (a.put (some d) (a.tmps.getD p undef)) w → asn.wpIn (RF lp) n P Q a w
def Qmh (Γ : Ctx) (Q : Exit → St → Prop) (D0 : Nat) (e : Exit) (a : Act) (w : World) : Prop :=
 ∃ (D : Nat) (st : St), D0 ≤ D ∧ w.heap[D]? = some (.deferred (some [])) ∧ Q e st ∧ Sim { Γ with ds := [{ target := .collected D, args := #[] }] } st a w
theorem QmG {P : Prg} {N : Nat} {t d p : Nat} {asn body : Code} {ab : AC} {cnt : Nat} {fr : List (Nat × AV)} {gf : Nat} {cs : List AV} {Ts : List Nat} {xs : Fin cnt → AV}
  (hfn : look fr t = .fn (.func gf) [] [.cell cs]) (hE : Enters P gf) (hcs : isDL cs = true) (hI : QeW P gf cs Ts xs) (hasn : Asn asn d p) (hd : d < N) (hp : p < N) (hcb : Qb P N body = some ab) (hnl : Zr ab = true)
  {S : List (Fin cnt) → List Ob} (hS : ∀ pre, ∀ x ∈ S pre, x.ty ∉ Ts) {Q : Exit → St → Prop}
  (hround : ∀ (pre : List (Fin cnt)) (x : Fin cnt), pre.length < cnt → wpC P N (S pre).length ab (fun e st => match e with
   | .normal => Le (S pre).length st ⟨[], S (pre ++ [x])⟩
   | .ret => ∃ ob', Le (S pre).length st ⟨[], ob'⟩ ∧ Q .ret ⟨fr, ob'⟩
   | _ => False) ⟨QQ (QQ fr (some p) (xs x)) (some d) (xs x), S pre⟩)
  (hdone : Q .normal ⟨fr, S (List.finRange cnt)⟩) {Γ : Ctx} {a : Act} {w : World} (hN : Fit P N Γ) (hds : Γ.ds = []) (hs : Sim Γ ⟨fr, S []⟩ a w) :
  (Code.rangeFunc (.tmp t) #[p] asn body).wp P (Qmh Γ Q w.heap.size) a w := by
 obtain ⟨q1, q2, q3, be0, g0, m0, hfr⟩ := hs
 let X1 : Cx := ⟨w, S [], be0, Γ.X0.C⟩
 have hg := hfr t
 simp only at hg
 rw [hfn] at hg
 rw [show Rep X1 (.fn (.func gf) [] [.cell cs]) (a.tmps.getD t undef) = ∃ va vb, a.tmps.getD t undef = .func (.func gf) va.toArray vb.toArray ∧ RepL X1 [] va ∧ RepL X1 [.cell cs] vb by simp only [Rep]] at hg
 obtain ⟨va, vb, hev, hva, hvb⟩ := hg
 have hva' : va = [] := by simpa only [RepL] using hva
 subst hva'
 obtain ⟨v1, rest, hvb1, hv1, hrest⟩ : ∃ v1 rest, vb = v1 :: rest ∧ Rep X1 (.cell cs) v1 ∧ RepL X1 [] rest := by simpa only [RepL] using hvb
 have hrest' : rest = [] := by simpa only [RepL] using hrest
 subst hrest' hvb1
 have hev' : a.eval (.tmp t) = .func (.func gf) #[] #[v1] := hev
 let D : Nat → Nat → Prop := fun b k => ¬ ((∃ v, w.cell? ⟨b, k, none⟩ = some v) ∧ ¬ X1.av b k)
 have hD1 : ∀ b k, ¬ D b k → (∃ v, w.cell? ⟨b, k, none⟩ = some v) ∧ ¬ X1.av b k := fun b k h => Classical.not_not.1 h
 have hvD : Rep ⟨w, [], [], D⟩ (.cell cs) v1 := Rep.data (X := X1) (Y := ⟨w, [], [], D⟩) (fun b k v hc ha => ⟨hc, fun h => by
  rcases h with h | ⟨o, x, c, h1, _⟩
  ·exact h ⟨⟨v, hc⟩, ha⟩
  ·simp at h1⟩) _ _ (by simp only [isD]; exact hcs) hv1
 have hGD : GOk P.G ⟨w, [], [], D⟩ := fun g gcs hl => Rep.data (X := X1) (Y := ⟨w, [], [], D⟩) (fun b k v hc ha => ⟨hc, fun h => by
  rcases h with h | ⟨o, x, c, h1, _⟩
  ·exact h ⟨⟨v, hc⟩, ha⟩
  ·simp at h1⟩) _ _ (by simp only [isD]; exact P.gd g gcs hl) (hN.2.move m0 g gcs hl)
 obtain ⟨hxd, hI⟩ := hI
 obtain ⟨vals, hvals, hseq⟩ := hI w D v1 hvD (fun b k h => (hD1 b k h).1) hGD
 have hvX : ∀ j, Rep X1 (xs j) (vals j) := fun j => Rep.data (X := ⟨w, [], [], D⟩) (Y := X1) (fun b k v hc ha => ⟨hc, (hD1 b k fun h => ha (.inl h)).2⟩) _ _ (hxd j) (hvals j)
 let SimO : List Ob → World → Prop := fun ob W => Below Γ.B Γ.X0.w W ∧ ∃ be, Held Γ.B ⟨W, ob, be, Γ.X0.C⟩ ∧ QX X1 ⟨W, ob, be, Γ.X0.C⟩ ∧ Moves Γ.X0 ⟨W, ob, be, Γ.X0.C⟩
 have hX0 : Γ.X0.w.heap.size ≤ w.heap.size := q3.size
 have hBw : Γ.B ≤ w.heap.size := g0.size
 have hown : ∀ ob W W' row, SimO ob W → W.grownBy W' row → (∀ r, row = some r → w.heap.size ≤ r ∧ ∃ o : Obj, W.heap[r]? = some o ∧ o.isCells = false) → SimO ob W' := by
  rintro ob W W' row ⟨h1, be, h2, h3, h4⟩ hgr hr
  exact ⟨h1.grown hgr (by have := h2.size; exact this) (fun k e => by have := (hr k e).1; omega), be, h2.grown hgr (fun r e => (hr r e).2), h3.trans (QX.grown hgr fun r e => (hr r e).2),
   h4.grown hgr (fun r e => ⟨by have := (hr r e).1; omega, (hr r e).2⟩)⟩
 rw [hds] at q1
 have hclose : ∀ (D : Nat) (ob : List Ob) (W : World), SimO ob W → Sim { Γ with ds := [{ target := .collected D, args := #[] }] } ⟨fr, ob⟩ { a with defers := { target := .collected D, args := #[] } :: a.defers } W := by
  rintro D ob W ⟨h1, be, h2, h3, h4⟩
  exact ⟨by simp only [q1], q2, h1, be, h2, h4, fun i => Rep.moveC h3 _ _ (hfr i)⟩
 rw [← wpIn_wide (n := 5)]
 refine wpIn_rangeFunc_ownG (F := Fence.wide) (n := 5) (α := Fin cnt) rfl (by decide) (gf := gf) (lb := #[v1]) hev' trivial (fun args w => Q7 hE args w) hseq
  (fun h1 h2 => h1.trans h2) (fun W l o o' _ hl ho _ => KpB.grown (grownBy_putObj' W l o') (fun r e => by cases e; exact ⟨o, hl, ho⟩)) (Below.refl _ _) (fun _ => rfl)
  (fun pre W => SimO (S pre) W) (fun c pre W => c = .ret ∧ ∃ ob', Q .ret ⟨fr, ob'⟩ ∧ SimO ob' W)
  (fun pre W W' row hs hgr hr => hown _ W W' row hs hgr hr) (fun c pre W W' row hs hgr hr => ⟨hs.1, hs.2.imp fun ob' h => ⟨h.1, hown _ W W' row h.2 hgr hr⟩⟩)
  ⟨q3, be0, g0, QX.refl _, m0⟩
  (fun x => { tmps := ((#[p].zip #[vals x]).foldl (fun t (p, v) => t.setIfInBounds p v) a.tmps).setIfInBounds d (((#[p].zip #[vals x]).foldl (fun t (p, v) => t.setIfInBounds p v) a.tmps).getD p undef), defers := [] }) ?assign ?body ?done ?stop
 case assign =>
  intro l x W K hK
  exact hasn l _ _ _ _ _ hK
 case body =>
  rintro l pre x W ⟨h1, be, h2, h3, h4⟩ hlen
  let XW : Cx := ⟨W, S pre, be, Γ.X0.C⟩
  let Γr : Ctx := ⟨Γ.B, XW, N, []⟩
  have e1 : ((#[p].zip #[vals x]).foldl (fun t (p, v) => t.setIfInBounds p v) a.tmps) = a.tmps.setIfInBounds p (vals x) := by simp
  have hpN : p < a.tmps.size := by rw [q2, hN.1]; exact hp
  have e2 : (a.tmps.setIfInBounds p (vals x)).getD p undef = vals x := by simp [hpN]
  rw [e1, e2]
  have hfrW : ∀ i, Rep XW (look fr i) (({ tmps := a.tmps, defers := [] } : Act).tmps.getD i undef) := fun i => Rep.moveC h3 _ _ (hfr i)
  have hvW : Rep XW (xs x) (vals x) := Rep.moveC h3 _ _ (hvX x)
  have hN' : Γ.N = N := hN.1
  have r1 := Qdo (X := XW) (fr := fr) (a := { tmps := a.tmps, defers := [] }) (N := N) (by rw [← hN']; exact q2) hfrW (dst := some p) (fun _ e => by cases e; exact hp) hvW
  have r2 := Qdo (X := XW) (a := ({ tmps := a.tmps, defers := [] } : Act).put (some p) (vals x)) (N := N) (by rw [J1, ← hN']; exact q2) r1 (dst := some d) (fun _ e => by cases e; exact hd) hvW
  have hsr : Sim Γr ⟨QQ (QQ fr (some p) (xs x)) (some d) (xs x), S pre⟩ { tmps := (a.tmps.setIfInBounds p (vals x)).setIfInBounds d (vals x), defers := [] } W :=
   ⟨rfl, by simp [Γr]; rw [q2]; exact hN', Below.refl _ _, be, h2, Moves.refl _, r2⟩
  have hatW : ∀ b k, ¬ D b k → ¬ XW.av b k := fun b k h => by
   obtain ⟨⟨v, hv⟩, ha⟩ := hD1 b k h
   exact (h3.cell b k v hv ha).2
  refine wpIn_mono (Zn body ab _ _ hnl hcb (hround pre x hlen) Γr _ W ⟨rfl, hN.2.move h4⟩ rfl hsr) ?_
  rintro e a' W' ⟨st', hq, hs'⟩
  cases e with
  | normal =>
   obtain ⟨_, _, b1, be', c2, c4, _⟩ := hq Γr a' W' rfl hs'
   exact ⟨c4.keeps h2 b1.size _, c4.kp h2 (hS pre) hatW, h1.trans b1, be', c2, h3.trans c4.toC, h4.trans c4⟩
  | ret =>
   obtain ⟨ob', hle, hq'⟩ := hq
   obtain ⟨_, _, b1, be', c2, c4, _⟩ := hle Γr a' W' rfl hs'
   exact ⟨c4.keeps h2 b1.size _, rfl, ob', hq', h1.trans b1, be', c2, h3.trans c4.toC, h4.trans c4⟩
  | exit id => exact hq.elim
  | goto l => exact hq.elim
  | panic ch => exact hq.elim
  | outgrown => exact hq.elim
 case done =>
  rintro D ys W hD rfl h hdD
  exact ⟨D, _, hD, hdD, hdone, hclose D _ _ h⟩
 case stop =>
  rintro D c pre W hD _ ⟨rfl, ob', hq, h⟩ hdD
  exact wpIn_ret ⟨D, _, hD, hdD, hq, hclose D _ _ h⟩
end Go.Am
/- The abstract machine: a body with a range over a function. -/
namespace Go.Am
open Go.RowKit
def QeV (P : Program) (N t p d : Nat) (aR ab aT : AC) : List AC → Code → Prop
 | [], c => ∃ (cR asn body cT : Code) (id : Nat), c = .seq (.seq cR (.block id (.rangeFunc (.tmp t) #[p] asn body))) cT ∧ Qb P N cR = some aR ∧ Asn asn d p ∧ Qb P N body = some ab ∧ Qb P N cT = some aT
 | a :: as, c => ∃ x y, c = .seq x y ∧ Qb P N x = some a ∧ QeV P N t p d aR ab aT as y
def Qpo (P : Prg) (f : FuncId) (N : Nat) (rl : List ResultVar) (pres : List AC) (t p d : Nat) (aR ab aT : AC) : Prop :=
 ∃ fn c, P.prog.funcs[f]? = some fn ∧ (fn.name == "runtime.NumGoroutine") = false ∧ fn.ntmps = N ∧ fn.results.toList = rl ∧ fn.body = some c ∧ QeV P.prog N t p d aR ab aT pres c
def QiX (P : Prg) (N M t p d : Nat) (ab aT : AC) (Q : Exit → St → Prop) (st : St) : Prop :=
 ∃ (cnt gf : Nat) (cs : List AV) (Ts : List Nat) (xs : Fin cnt → AV) (fr : List (Nat × AV)) (S : List (Fin cnt) → List Ob),
  Le M st ⟨fr, S []⟩ ∧ look fr t = .fn (.func gf) [] [.cell cs] ∧ Enters P gf ∧ isDL cs = true ∧ QeW P gf cs Ts xs ∧ d < N ∧ p < N ∧ Zr ab = true ∧ (∀ pre, ∀ x ∈ S pre, x.ty ∉ Ts) ∧
  (∀ (pre : List (Fin cnt)) (x : Fin cnt), pre.length < cnt → wpC P N (S pre).length ab (fun e st => match e with
   | .normal => Le (S pre).length st ⟨[], S (pre ++ [x])⟩
   | .ret => ∃ ob', Le (S pre).length st ⟨[], ob'⟩ ∧ Q .ret ⟨fr, ob'⟩
   | _ => False) ⟨QQ (QQ fr (some p) (xs x)) (some d) (xs x), S pre⟩) ∧
  wpC P N (S (List.finRange cnt)).length aT Q ⟨fr, S (List.finRange cnt)⟩
def wpS (P : Prg) (N M t p d : Nat) (aR ab aT : AC) (Q : Exit → St → Prop) : List AC → St → Prop
 | [], st => wpC P N M aR (XY (QiX P N M t p d ab aT Q) Q) st
 | a :: as, st => wpC P N M a (XY (wpS P N M t p d aR ab aT Q as) Q) st
def Qng (Γ : Ctx) (Q : Exit → St → Prop) (e : Exit) (a : Act) (w : World) : Prop :=
 (∃ st, Q e st ∧ Sim Γ st a w) ∨ ∃ (D : Nat) (st : St), Γ.B ≤ D ∧ Γ.X0.w.heap.size ≤ D ∧ w.heap[D]? = some (.deferred (some [])) ∧ Q e st ∧ Sim { Γ with ds := [{ target := .collected D, args := #[] }] } st a w
theorem Qi3 {P : Prg} {N M t p d : Nat} {aR ab aT : AC} {Q : Exit → St → Prop} (hQ : ∀ e st, Q e st → e = .normal ∨ e = .ret) : ∀ (pres : List AC) (c : Code) (st : St), QeV P.prog N t p d aR ab aT pres c → wpS P N M t p d aR ab aT Q pres st →
  ∀ (Γ : Ctx) (a : Act) (w : World), Fit P N Γ → Γ.X0.ob.length = M → Γ.ds = [] → Sim Γ st a w → c.wp P (Qng Γ Q) a w
 | a0 :: as, c, st, hc, h, Γ, a, w, hN, hM, hds, hs => by
  obtain ⟨x, y, e, hx, hy⟩ := hc
  subst e
  refine wp_seq (wp_mono (Qn x a0 _ st hx h Γ a w hN hM hs) ?_)
  rintro e a' w' ⟨st', hq, hs'⟩
  cases e with
  | normal => exact Qi3 hQ as y st' hy hq Γ a' w' hN hM hds hs'
  | exit id => exact .inl ⟨st', hq, hs'⟩
  | goto l => exact .inl ⟨st', hq, hs'⟩
  | ret => exact .inl ⟨st', hq, hs'⟩
  | panic ch => exact .inl ⟨st', hq, hs'⟩
  | outgrown => exact .inl ⟨st', hq, hs'⟩
 | [], c, st, hc, h, Γ, a, w, hN, hM, hds, hs => by
  obtain ⟨cR, asn, body, cT, id, e, hR, hA, hB, hT⟩ := hc
  subst e
  refine wp_seq (wp_seq (wp_mono (Qn cR aR _ st hR h Γ a w hN hM hs) ?_))
  rintro e a1 w1 ⟨st1, hq, hs1⟩
  cases e with
  | exit id => exact .inl ⟨st1, hq, hs1⟩
  | goto l => exact .inl ⟨st1, hq, hs1⟩
  | ret => exact .inl ⟨st1, hq, hs1⟩
  | panic ch => exact .inl ⟨st1, hq, hs1⟩
  | outgrown => exact .inl ⟨st1, hq, hs1⟩
  | normal =>
   obtain ⟨cnt, gf, cs, Ts, xs, fr, S, hle, hfn, hE, hcs, hI, hd, hp, hnl, hS, hround, hdone⟩ := hq
   have hs2 := hle Γ a1 w1 hM hs1
   have hsz : Γ.X0.w.heap.size ≤ w1.heap.size := hs2.2.2.1.size
   have hBz : Γ.B ≤ w1.heap.size := by obtain ⟨_, _, _, _, g, _⟩ := hs2; exact g.size
   let Q' : Exit → St → Prop := fun e st => match e with
    | .normal => st = ⟨fr, S (List.finRange cnt)⟩
    | .ret => Q .ret st
    | _ => False
   have hw := QmG (Q := Q') hfn hE hcs hI hA hd hp hB hnl hS (fun pre x hl => hround pre x hl) rfl hN hds hs2
   refine wp_block (wp_mono hw ?_)
   rintro e a2 w2 ⟨D, st2, hD, hm, hq2, hs3⟩
   cases e with
   | exit id => exact hq2.elim
   | goto l => exact hq2.elim
   | panic ch => exact hq2.elim
   | outgrown => exact hq2.elim
   | ret => exact .inr ⟨D, st2, by omega, by omega, hm, hq2, hs3⟩
   | normal =>
    have e2 : st2 = ⟨fr, S (List.finRange cnt)⟩ := hq2
    subst e2
    obtain ⟨q1, q2, q3, be, g, m, hfr⟩ := hs3
    let Γ2 : Ctx := ⟨Γ.B, ⟨w2, S (List.finRange cnt), be, Γ.X0.C⟩, N, [{ target := .collected D, args := #[] }]⟩
    have hs4 : Sim Γ2 ⟨fr, S (List.finRange cnt)⟩ a2 w2 := ⟨q1, by rw [q2]; exact hN.1, Below.refl _ _, be, g, Moves.refl _, hfr⟩
    refine wp_mono (Qn cT aT Q _ hT hdone Γ2 a2 w2 ⟨rfl, hN.2.move m⟩ rfl hs4) ?_
    rintro e a3 w3 ⟨st3, hq3, ⟨p1, p2, p3, be3, g3, m3, hfr3⟩⟩
    have hk := (m3.keeps g p3.size 0).same D _ (yd _) hm rfl
    exact .inr ⟨D, st3, by omega, by omega, hk, hq3, ⟨p1, by rw [p2]; exact hN.1.symm, q3.trans p3, be3, g3, m.trans m3, hfr3⟩⟩
theorem ACall.of_range {P : Prg} {f : FuncId} {N : Nat} {rl : List ResultVar} {pres : List AC} {t p d : Nat} {aR ab aT : AC} (hbody : Qpo P f N rl pres t p d aR ab aT)
  {avs : List AV} {ob : List Ob} {K : AV → List Ob → Prop} (hlen : avs.length ≤ N)
  (h0 : wpS P N ob.length t p d aR ab aT (QaZ P rl K) pres ⟨Qz 0 avs, ob⟩) : ACall P f avs ob K := by
 obtain ⟨fn, c, hf, hn, hN, hrl, hb, hsp⟩ := hbody
 subst hN
 subst hrl
 refine ⟨⟨fn, hf, hn, by rw [hb]; rfl⟩, fun B w be C vs g hG hr => ?_⟩
 refine (callsIn_wide (n := 5)).1 (callsIn_of_wp_marks hf hb trivial ?_)
 rw [wpIn_wide]
 have hvl := hr.length
 let Γ : Ctx := ⟨B, ⟨w, ob, be, C⟩, fn.ntmps, []⟩
 have hs : Sim Γ ⟨Qz 0 avs, ob⟩ { tmps := vs.toArray ++ Array.replicate (fn.ntmps - vs.toArray.size) undef, defers := [] } w := by
  refine ⟨rfl, by simp [Γ]; omega, Below.refl _ _, be, g, Moves.refl _, fun i => ?_⟩
  rcases ZV avs vs 0 hr i with h1 | ⟨_, v, h2, h3⟩
  ·show Rep _ (look (Qz 0 avs) i) _
   rw [h1]; simp only [Rep]
  ·have h4 : (vs.toArray ++ Array.replicate (fn.ntmps - vs.toArray.size) undef).getD i undef = v := by
    simp only [yJ] at h2
    have hlt := (qb.1 h2).1
    rw [qr, yg (by simpa using hlt)]
    simp [h2]
   show Rep _ (look (Qz 0 avs) i) ((vs.toArray ++ Array.replicate (fn.ntmps - vs.toArray.size) undef).getD i undef)
   rw [h4]
   exact h3
 have hQ : ∀ e st, QaZ P fn.results.toList K e st → e = .normal ∨ e = .ret := by
  intro e st h
  cases e <;> first | exact .inl rfl | exact .inr rfl | exact h.elim
 refine wp_mono (Qi3 hQ pres c _ hsp h0 Γ _ w ⟨rfl, hG⟩ rfl rfl hs) ?_
 have fin : ∀ (st : St) (a' : Act) (w' : World) (be' : List (Option (Nat × Nat))), Below B w w' → Held B ⟨w', st.ob, be', C⟩ → Moves ⟨w, ob, be, C⟩ ⟨w', st.ob, be', C⟩ → (∀ i, Rep ⟨w', st.ob, be', C⟩ (look st.fr i) (a'.tmps.getD i undef)) →
   ∀ rs, Z8 st.fr st.ob P fn.results.toList = some rs → K (QM rs) st.ob → ∃ v, (results fn a'.tmps).run P w' = .ok v w' ∧ ∃ v_1 r ob' be', Ending.returned v = .returned v_1 ∧ Below B w w' ∧ Held B ⟨w', ob', be', C⟩ ∧ Moves ⟨w, ob, be, C⟩ ⟨w', ob', be', C⟩ ∧ Rep ⟨w', ob', be', C⟩ r v_1 ∧ K r ob' := by
  intro st a' w' be' hb' g' hm hfr rs hrs hk
  obtain ⟨v, hv1, hv2⟩ := ZI (P := P) (Γ := Γ) g' hfr hrs
  exact ⟨v, hv1, v, QM rs, st.ob, be', rfl, hb', g', hm, hv2, hk⟩
 have plain : ∀ (e : Exit) (st : St) (a' : Act) (w' : World), (e = .normal ∨ e = .ret) → QaZ P fn.results.toList K e st → ∃ rs, Z8 st.fr st.ob P fn.results.toList = some rs ∧ K (QM rs) st.ob := by
  intro e st a' w' he h
  rcases he with rfl | rfl <;> (simp only [QaZ] at h; split at h; exact ⟨_, by assumption, h⟩; exact h.elim)
 rintro e a' w' (⟨st, he, ⟨q1, q2, q3, be', g', hm, hfr⟩⟩ | ⟨D, st, hD1, hD2, hDw, he, ⟨q1, q2, q3, be', g', hm, hfr⟩⟩)
 ·obtain ⟨rs, hrs, hk⟩ := plain e st a' w' (hQ e st he) he
  have h1 := fin st a' w' be' q3 g' hm hfr rs hrs hk
  have q1' : a'.defers = [] := q1
  rcases hQ e st he with rfl | rfl <;> (simp only [bodyPostM]; rw [q1']; exact h1)
 ·obtain ⟨rs, hrs, hk⟩ := plain e st a' w' (hQ e st he) he
  have hgr := grownBy_putObj' w' D (.deferred none)
  have hrow : ∀ r, some D = some r → w.heap.size ≤ r ∧ ∃ o : Obj, w'.heap[r]? = some o ∧ o.isCells = false := fun r e => by cases e; exact ⟨hD2, _, hDw, rfl⟩
  have h1 := fin st a' (w'.putObj D (.deferred none)) be' (q3.grown hgr g'.size (fun k e => by cases e; exact hD1)) (g'.grown hgr fun r e => (hrow r e).2) (hm.grown hgr hrow)
   (fun i => Rep.moveC (QX.grown hgr fun r e => (hrow r e).2) _ _ (hfr i)) rs hrs hk
  have q1' : a'.defers = [{ target := .collected D, args := #[] }] := q1
  rcases hQ e st he with rfl | rfl <;> (simp only [bodyPostM]; rw [q1']; exact ⟨by simp, .inl ⟨D, _, rfl, run_takeDeferred hDw, h1⟩⟩)
end Go.Am
/- The abstract machine: an iterator's side. -/
namespace Go.Am
open Go.RowKit
theorem Qpr {o : Oper} (ρ : Operand → Value) : o.semAt Fence.wide.round ρ = execOp ρ o := Oper.semAt_none ρ o
section
variable {P : Prg} {N : Nat} {Γ : Ctx} {n : Nat}
theorem XS (hN : Fit P N Γ) {ops : Array Oper} {Q : Exit → Act → World → Prop} {K : St → Prop} (hK : ∀ st a w, K st → Sim Γ st a w → Q .normal a w) : ∀ (l : List Oper) (qs : List AO) (st : St) (a : Act) (w : World),
  l.mapM (Xj P N ops) = some qs → wpO P qs K st → Sim Γ st a w → wpListIn (Fence.wide) n P ops Q l a w
 | [], qs, st, a, w, hl, hw, hs => by
  simp at hl
  subst hl
  simp only [wpO] at hw
  exact hK st a w hw hs
 | o :: l, qs, st, a, w, hl, hw, hs => by
  simp only [qP, qx, qk, qe, qc] at hl
  obtain ⟨q, hq, qs', hqs, rfl⟩ := hl
  have hsp := Q3 hq
  obtain ⟨c1, c2, c3, _⟩ := hsp
  obtain ⟨be, g, hm0, hη, hfr⟩ := hs.eta hN.2
  have hd : ∀ d, o.dst = some d → d < Γ.N := fun d e => by rw [hN.1]; exact c3 d e
  simp only [wpO] at hw
  unfold wpListIn
  split at hw
  case h_3 => exact hw.elim
  case h_2 hwant =>
   have hwd := QU hq hfr hwant
   rw [hwd]
   simp only [ya, yS]
   rw [c2] at hw
   exact ⟨fun _ _ => trivial, XS hN hK l qs' _ _ _ hqs hw (hs.put hd hm0 hfr (Below.refl _ _) g (Moves.refl _) (by simp [Rep, undef, RepL]))⟩
  case h_1 hwant =>
   have hwd := QU hq hfr hwant
   rw [hwd]
   simp only [yI]
   have call : ∀ (f : FuncId) (avs : List AV) (vs : List Value), RepL ⟨w, st.ob, be, Γ.X0.C⟩ avs vs → (∀ c, o.op ≠ .defer c) → (execOp a.eval o).run P w = (callFunc f vs.toArray).run P w →
     ACall P f avs st.ob (fun r ob' => wpO P qs' K ⟨QQ st.fr o.dst r, ob'⟩) → o.wpIn (Fence.wide) n P a w (wpListIn (Fence.wide) n P ops Q l) Q := by
    intro f avs vs hr hnd hrun hcall
    obtain ⟨he, hcall⟩ := hcall
    unfold Oper.wpIn
    refine ⟨fun _ _ => trivial, ?_⟩
    rw [Qpr, hrun, Q7 he]
    refine ⟨(fun h => by cases h), (callsIn_wide.2 (hcall Γ.B w be Γ.X0.C vs g (hN.2.move hm0) hr)).mono ?_⟩
    rintro e w' ⟨v, r, ob', be', rfl, hb, hh, hm, hv, hk⟩
    exact XS hN hK l qs' _ _ _ hqs hk (hs.put hd hm0 hfr hb hh hm hv)
   split at hw
   ·rename_i f args hop
    rw [c2] at hw
    rw [hop] at c1
    obtain ⟨c, ho, hcal, rfl⟩ := Qc6 c1
    refine call f _ _ (QP g hη c.args.toList) (fun c e => by rw [ho] at e; cases e) ?_ hw
    have : c.args.map a.eval = (c.args.toList.map a.eval).toArray := by apply q9; simp
    simp only [execOp, ho, resolve, hcal, Deferred.ofValue, Act.eval, invoke, Sem.run_bind, Sem.run_pure, Result.andThen_ok, ← this]
    simp
   ·rename_i f args hop
    rw [c2] at hw
    rw [hop] at c1
    obtain ⟨c, ho, hcal, rfl⟩ := Xw c1
    split at hw
    case h_2 => exact hw.elim
    rename_i fid fs cs hf
    have hr := hfr f
    rw [hf] at hr
    simp only [Rep] at hr
    obtain ⟨va, vb, e1, e2, e3⟩ := hr
    have e4 : a.eval (.tmp f) = .func (.func fid) va.toArray vb.toArray := e1
    refine call fid _ _ ((e2.append (QP g hη c.args.toList)).append e3) (fun c e => by rw [ho] at e; cases e) ?_ hw
    have : va.toArray ++ c.args.map a.eval ++ vb.toArray = (va ++ c.args.toList.map a.eval ++ vb).toArray := by apply q9; simp
    simp only [execOp, ho, resolve, hcal, e4, Deferred.ofValue, invoke, Sem.run_bind, Sem.run_pure, Result.andThen_ok, this]
   ·rename_i p hop
    rw [hop] at c1
    split at hw
    case h_2 => exact hw.elim
    rename_i v u hv
    rw [c2] at hw
    obtain ⟨vv, w', be', hr, hb, hh, hm, hrep⟩ := QbE g hη (.inl rfl) (fun _ => rfl) (o := o) (QeN c1 (QaW hv)) hv
    have hnd := Qa1 hq (by rw [hop]; intro e; cases e; exact QaW hv rfl)
    unfold Oper.wpIn
    refine ⟨fun _ _ => trivial, ?_⟩
    rw [Qpr]
    rcases hr with hr | ⟨hr, rfl⟩
    ·rw [hr]
     exact XS hN hK l qs' _ _ _ hqs hw (hs.put hd hm0 hfr hb hh hm hrep)
    ·rw [hr]
     exact XS hN hK l qs' _ _ _ hqs hw (hs.put hd hm0 hfr hb hh hm hrep)
end
def Qqd (Q : Exit → Act → World → Prop) (K : Act → World → Prop) : Exit → Act → World → Prop
 | .normal, a, w => K a w
 | e, a, w => Q e a w
theorem QkC {F : Fence} {n : Nat} {P : Program} {o : Oper} {Q : Exit → Act → World → Prop} {K : Act → World → Prop} {next : Act → World → Prop} {a : Act} {w : World} (h : o.wpIn F n P a w next (Qqd Q K)) : o.wpIn F n P a w next Q := by
 unfold Oper.wpIn at h ⊢
 refine ⟨h.1, ?_⟩
 have h2 := h.2
 cases hr : (o.semAt F.round a.eval).run P w with
 | ok x w' =>
  rw [hr] at h2
  cases x <;> exact h2
 | halt x w' =>
  rw [hr] at h2
  cases x <;> exact h2
theorem Z2 {F : Fence} {n : Nat} {P : Program} {ops : Array Oper} {Q : Exit → Act → World → Prop} : ∀ (l1 l2 : List Oper) (a : Act) (w : World), wpListIn F n P ops (Qqd Q (wpListIn F n P ops Q l2)) l1 a w → wpListIn F n P ops Q (l1 ++ l2) a w
 | [], l2, a, w, h => h
 | o :: l1, l2, a, w, h => by
  rw [qW]
  unfold wpListIn at h ⊢
  split
  ·rename_i hw
   rw [qE hw] at h
   exact Oper.wpIn_mono (fun a w h => Z2 l1 l2 a w h) (QkC h)
  ·rename_i hw
   rw [qz hw] at h
   exact ⟨h.1, Z2 l1 l2 _ _ h.2⟩
end Go.Am
/- The abstract machine: a call of yield. -/
namespace Go.Am
open Go.RowKit
theorem Qb3 {P : Program} {o : Oper} {c : Call} {t s l : Nat} {a : Act} {w : World} {v : Value} {R : Ending → World → Prop} {next : Act → World → Prop} {Q : Exit → Act → World → Prop}
  (ho : o.op = .call c) (hcal : c.callee = .value (.tmp t)) (hargs : c.args = #[.tmp s]) (ht : a.tmps.getD t undef = .func (.yield l) #[] #[]) (hs : a.tmps.getD s undef = v)
  (hY : YieldAt Fence.wide 3 P l #[v] w R) (hR : ∀ e w', R e w' → ∃ b, e = .returned (.bool b) ∧ next (a.put o.dst (.bool b)) w') : o.wpIn Fence.wide 4 P a w next Q := by
 obtain ⟨fn, tmps, assign, body, hy, hr⟩ := hY
 unfold Oper.wpIn
 refine ⟨fun _ _ => trivial, ?_⟩
 rw [Qpr]
 have he : (execOp a.eval o).run P w = .ok (.round l fn tmps assign body) w := by
  have e1 : a.eval (.tmp t) = .func (.yield l) #[] #[] := ht
  have e2 : a.eval (.tmp s) = v := hs
  simp only [execOp, ho, resolve, hcal, hargs, e1, Deferred.ofValue, invoke, Sem.run_bind, Sem.run_pure, Result.andThen_ok]
  simpa [e2] using hy
 rw [he]
 refine ⟨(fun h => by cases h), RoundIn.mono hr fun e w' h => ?_⟩
 obtain ⟨b, rfl, h2⟩ := hR e w' h
 exact h2
end Go.Am
/- The abstract machine: the assignment to a loop's variable, checked. -/
namespace Go.Am
open Go.RowKit
def Qp5 (d p : Nat) : Code → Bool
 | .region _ ops false => match ops.toList with
  | [o] => (match o.op with | .move (.tmp q) | .assign (.tmp q) => q == p | _ => false) && o.dst == some d && o.guard == none
  | _ => false
 | _ => false
theorem Qph {d p : Nat} : ∀ {asn : Code}, Qp5 d p asn = true → Asn asn d p := by
 intro asn h lp n P Q a w hQ
 unfold Qp5 at h
 split at h
 case h_2 => cases h
 rename_i id ops
 split at h
 case h_2 => cases h
 rename_i o ho
 simp only [qf, beq_iff_eq] at h
 obtain ⟨⟨h1, h2⟩, h3⟩ := h
 refine wpIn_region_list ?_
 rw [ho]
 unfold wpListIn
 rw [show Region.wanted o (yielded ops a.tmps) = true by simp [Region.wanted, h3]]
 simp only [yI]
 unfold Oper.wpIn
 refine ⟨fun _ _ => trivial, ?_⟩
 split at h1
 ·rename_i q hq
  simp only [beq_iff_eq] at h1
  subst h1
  rw [Qot (fun c e => by rw [hq] at e; cases e)]
  rw [← h2] at hQ
  simp only [execOp, hq, Sem.run_pure]
  exact hQ
 ·rename_i q hq
  simp only [beq_iff_eq] at h1
  subst h1
  rw [Qot (fun c e => by rw [hq] at e; cases e)]
  rw [← h2] at hQ
  simp only [execOp, hq, Sem.run_pure]
  exact hQ
 ·cases h1
end Go.Am
/- The abstract machine: code that is told by its abstract form, taken apart; slots that stay; bodies with a range over a function, checked. -/
namespace Go.Am
open Go.RowKit
theorem Qu {P : Program} {N : Nat} {c : Code} {a b : AC} (h : Qb P N c = some (.seq a b)) : ∃ x y, c = .seq x y ∧ Qb P N x = some a ∧ Qb P N y = some b := by
 cases c with
 | seq x y =>
  simp only [Qb] at h
  split at h
  case h_2 => cases h
  rename_i hx
  split at h <;> cases h
  rename_i hy
  exact ⟨x, y, rfl, hx, hy⟩
 | region id ops d =>
  simp only [Qb] at h
  split at h
  case h_2 => cases h
  split at h
  ·split at h <;> cases h
  ·cases h
 | cond x a b => simp only [Qb] at h; split at h <;> (try split at h) <;> cases h
 | block id c => simp only [Qb, qa] at h; obtain ⟨_, _, h⟩ := h; cases h
 | loop c => simp only [Qb, qa] at h; obtain ⟨_, _, h⟩ := h; cases h
 | _ => simp only [Qb] at h; cases h
theorem Xo {P : Program} {N : Nat} {c : Code} {x : Operand} {a b : AC} (h : Qb P N c = some (.cond x a b)) : ∃ y z, c = .cond x y z ∧ Qb P N y = some a ∧ Qb P N z = some b := by
 cases c with
 | cond x y z =>
  simp only [Qb] at h
  split at h
  case h_2 => cases h
  rename_i hx
  split at h <;> cases h
  rename_i hy
  exact ⟨y, z, rfl, hx, hy⟩
 | region id ops d =>
  simp only [Qb] at h
  split at h
  case h_2 => cases h
  split at h
  ·split at h <;> cases h
  ·cases h
 | seq a b => simp only [Qb] at h; split at h <;> (try split at h) <;> cases h
 | block id c => simp only [Qb, qa] at h; obtain ⟨_, _, h⟩ := h; cases h
 | loop c => simp only [Qb, qa] at h; obtain ⟨_, _, h⟩ := h; cases h
 | _ => simp only [Qb] at h; cases h
theorem Xv {P : Program} {N : Nat} {c : Code} {id : Nat} {a : AC} (h : Qb P N c = some (.block id a)) : ∃ x, c = .block id x ∧ Qb P N x = some a := by
 cases c with
 | block id x => simp only [Qb, qa] at h; obtain ⟨_, h1, h⟩ := h; cases h; exact ⟨x, rfl, h1⟩
 | region id ops d =>
  simp only [Qb] at h
  split at h
  case h_2 => cases h
  split at h
  ·split at h <;> cases h
  ·cases h
 | seq a b => simp only [Qb] at h; split at h <;> (try split at h) <;> cases h
 | cond x a b => simp only [Qb] at h; split at h <;> (try split at h) <;> cases h
 | loop c => simp only [Qb, qa] at h; obtain ⟨_, _, h⟩ := h; cases h
 | _ => simp only [Qb] at h; cases h
theorem Qce {P : Program} {N : Nat} {c : Code} {a : AC} (h : Qb P N c = some (.loop a)) : ∃ x, c = .loop x ∧ Qb P N x = some a := by
 cases c with
 | loop x => simp only [Qb, qa] at h; obtain ⟨_, h1, h⟩ := h; cases h; exact ⟨x, rfl, h1⟩
 | region id ops d =>
  simp only [Qb] at h
  split at h
  case h_2 => cases h
  split at h
  ·split at h <;> cases h
  ·cases h
 | seq a b => simp only [Qb] at h; split at h <;> (try split at h) <;> cases h
 | cond x a b => simp only [Qb] at h; split at h <;> (try split at h) <;> cases h
 | block id c => simp only [Qb, qa] at h; obtain ⟨_, _, h⟩ := h; cases h
 | _ => simp only [Qb] at h; cases h
theorem Qbx {P : Program} {N : Nat} {c : Code} {qs : List AO} (h : Qb P N c = some (.reg qs)) : ∃ id ops, c = .region id ops false ∧ ops.toList.mapM (Xj P N ops) = some qs := by
 cases c with
 | region id ops d =>
  simp only [Qb] at h
  split at h
  case h_2 => cases h
  split at h
  ·split at h <;> cases h
  ·rename_i hd
   have hd' : d = false := by simpa using hd
   subst hd'
   cases h
   exact ⟨id, ops, rfl, by assumption⟩
 | seq a b => simp only [Qb] at h; split at h <;> (try split at h) <;> cases h
 | cond x a b => simp only [Qb] at h; split at h <;> (try split at h) <;> cases h
 | block id c => simp only [Qb, qa] at h; obtain ⟨_, _, h⟩ := h; cases h
 | loop c => simp only [Qb, qa] at h; obtain ⟨_, _, h⟩ := h; cases h
 | _ => simp only [Qb] at h; cases h
theorem Qkj {P : Program} {N : Nat} {c : Code} {xs : List It} {ps : List Ob} (h : Qb P N c = some (.draw xs ps)) : ∃ id ops qs, c = .region id ops true ∧ ops.toList.mapM (Xj P N ops) = some qs ∧ P.follows .mixedOrders = true ∧ Xa ops (number ops qs) (QmM qs) = true ∧ xs = number ops qs ∧ ps = List.replicate (QmM qs) ph := by
 cases c with
 | region id ops d =>
  simp only [Qb] at h
  split at h
  case h_2 => cases h
  split at h
  ·rename_i hd
   subst hd
   split at h <;> cases h
   rename_i hok
   simp only [qf] at hok
   exact ⟨id, ops, _, rfl, by assumption, hok.1, hok.2, rfl, rfl⟩
  ·cases h
 | seq a b => simp only [Qb] at h; split at h <;> (try split at h) <;> cases h
 | cond x a b => simp only [Qb] at h; split at h <;> (try split at h) <;> cases h
 | block id c => simp only [Qb, qa] at h; obtain ⟨_, _, h⟩ := h; cases h
 | loop c => simp only [Qb, qa] at h; obtain ⟨_, _, h⟩ := h; cases h
 | _ => simp only [Qb] at h; cases h
theorem X6 {P : Program} {N : Nat} {c : Code} (h : Qb P N c = some .skip) : c = .skip := by
 cases c with
 | skip => rfl
 | region id ops d =>
  simp only [Qb] at h
  split at h
  case h_2 => cases h
  split at h
  ·split at h <;> cases h
  ·cases h
 | seq a b => simp only [Qb] at h; split at h <;> (try split at h) <;> cases h
 | cond x a b => simp only [Qb] at h; split at h <;> (try split at h) <;> cases h
 | block id c => simp only [Qb, qa] at h; obtain ⟨_, _, h⟩ := h; cases h
 | loop c => simp only [Qb, qa] at h; obtain ⟨_, _, h⟩ := h; cases h
 | _ => simp only [Qb] at h; cases h
theorem Qhn {P : Program} {N : Nat} {c : Code} (h : Qb P N c = some .ret) : c = .ret := by
 cases c with
 | ret => rfl
 | region id ops d =>
  simp only [Qb] at h
  split at h
  case h_2 => cases h
  split at h
  ·split at h <;> cases h
  ·cases h
 | seq a b => simp only [Qb] at h; split at h <;> (try split at h) <;> cases h
 | cond x a b => simp only [Qb] at h; split at h <;> (try split at h) <;> cases h
 | block id c => simp only [Qb, qa] at h; obtain ⟨_, _, h⟩ := h; cases h
 | loop c => simp only [Qb, qa] at h; obtain ⟨_, _, h⟩ := h; cases h
 | _ => simp only [Qb] at h; cases h
theorem QeM {P : Program} {N id : Nat} {c : Code} (h : Qb P N c = some (.exit id)) : c = .exit id := by
 cases c with
 | exit j => simp only [Qb, qc] at h; cases h; rfl
 | region id ops d =>
  simp only [Qb] at h
  split at h
  case h_2 => cases h
  split at h
  ·split at h <;> cases h
  ·cases h
 | seq a b => simp only [Qb] at h; split at h <;> (try split at h) <;> cases h
 | cond x a b => simp only [Qb] at h; split at h <;> (try split at h) <;> cases h
 | block id c => simp only [Qb, qa] at h; obtain ⟨_, _, h⟩ := h; cases h
 | loop c => simp only [Qb, qa] at h; obtain ⟨_, _, h⟩ := h; cases h
 | _ => simp only [Qb] at h; cases h
theorem Qc3 {α β : Type} {f : α → Option β} : ∀ {l : List α} {q1 q2 : List β}, l.mapM f = some (q1 ++ q2) → ∃ l1 l2, l = l1 ++ l2 ∧ l1.mapM f = some q1 ∧ l2.mapM f = some q2
 | l, [], q2, h => ⟨[], l, rfl, by simp, h⟩
 | [], q :: q1, q2, h => by simp at h
 | x :: l, q :: q1, q2, h => by
  simp only [qP, qx, qk, qe, qc] at h
  obtain ⟨y, hy, ys, hys, e⟩ := h
  cases e
  obtain ⟨l1, l2, rfl, h1, h2⟩ := Qc3 hys
  exact ⟨x :: l1, l2, rfl, by simp [hy, h1], h2⟩
theorem Qc2 {α β : Type} {f : α → Option β} {l : List α} {q : β} {qs : List β} (h : l.mapM f = some (q :: qs)) : ∃ x l', l = x :: l' ∧ f x = some q ∧ l'.mapM f = some qs := by
 cases l with
 | nil => simp at h
 | cons x l =>
  simp only [qP, qx, qk, qe, qc] at h
  obtain ⟨y, hy, ys, hys, e⟩ := h
  cases e
  exact ⟨x, l, rfl, hy, hys⟩
structure RC where
 pres : List AC
 t : Nat
 p : Nat
 d : Nat
 aR : AC
 ab : AC
 aT : AC
def QqB : Code → Option (Nat × Nat)
 | .region _ ops false => match ops.toList with
  | [o] => match o.op, o.dst with
   | .move (.tmp q), some d | .assign (.tmp q), some d => some (d, q)
   | _, _ => none
  | _ => none
 | _ => none
def Qk9 (P : Program) (N : Nat) (c : Code) : Option RC :=
 match c with
 | .seq (.seq cR (.block _ (.rangeFunc (.tmp t) ps asn body))) cT =>
  match ps.toList, QqB asn, Qb P N cR, Qb P N body, Qb P N cT with
  | [p], some (d, q), some aR, some ab, some aT => if Qp5 d p asn && p == q && p < N && d < N && Zr ab then some ⟨[], t, p, d, aR, ab, aT⟩ else none
  | _, _, _, _, _ => none
 | _ => none
def Qla (P : Program) (N : Nat) : Code → Option RC
 | .seq x y =>
  match Qk9 P N (.seq x y) with
  | some r => some r
  | none =>
   match Qb P N x, Qla P N y with
   | some a, some r => some { r with pres := a :: r.pres }
   | _, _ => none
 | _ => none
theorem Qk8 {P : Program} {N : Nat} {c : Code} {r : RC} (h : Qk9 P N c = some r) : r.pres = [] ∧ QeV P N r.t r.p r.d r.aR r.ab r.aT [] c ∧ r.p < N ∧ r.d < N ∧ Zr r.ab = true := by
 unfold Qk9 at h
 split at h
 case h_2 => cases h
 split at h
 case h_2 => cases h
 rename_i hps _ hR hB hT
 split at h <;> cases h
 rename_i hok
 simp only [qf, ql] at hok
 obtain ⟨⟨⟨⟨h1, _⟩, h3⟩, h4⟩, h5⟩ := hok
 have hps' := q9 (ys := #[_]) hps
 subst hps'
 exact ⟨rfl, ⟨_, _, _, _, _, rfl, hR, Qph h1, hB, hT⟩, h3, h4, h5⟩
theorem Qi9 {P : Program} {N : Nat} : ∀ {c : Code} {r : RC}, Qla P N c = some r → QeV P N r.t r.p r.d r.aR r.ab r.aT r.pres c ∧ r.p < N ∧ r.d < N ∧ Zr r.ab = true
 | .seq x y, r, h => by
  unfold Qla at h
  split at h
  ·rename_i h1
   cases h
   obtain ⟨e, h2, h3⟩ := Qk8 h1
   rw [e]
   exact ⟨h2, h3⟩
  ·split at h
   ·rename_i h2 h3
    cases h
    obtain ⟨h4, h5⟩ := Qi9 h3
    exact ⟨⟨x, y, rfl, h2, h4⟩, h5⟩
   ·cases h
def Qer (P : Prg) (f : FuncId) (N : Nat) (rl : List ResultVar) (rc : RC) : Prop :=
 ∃ fn, P.prog.funcs[f]? = some fn ∧ (fn.name == "runtime.NumGoroutine") = false ∧ fn.ntmps = N ∧ fn.results.toList = rl ∧ fn.body.bind (Qla P N) = some rc
theorem Qer.ok {P : Prg} {f : FuncId} {N : Nat} {rl : List ResultVar} {rc : RC} (h : Qer P f N rl rc) : Qpo P f N rl rc.pres rc.t rc.p rc.d rc.aR rc.ab rc.aT ∧ rc.p < N ∧ rc.d < N ∧ Zr rc.ab = true := by
 obtain ⟨fn, h1, h2, h3, h4, h5⟩ := h
 obtain ⟨c, hb, hc⟩ := qe.1 h5
 obtain ⟨h6, h7⟩ := Qi9 hc
 exact ⟨⟨fn, c, h1, h2, h3, h4, hb, h6⟩, h7⟩
def kS (P : Prg) (N M : Nat) (rc : RC) (as : List AC) (Q : Exit → St → Prop) : Exit → St → Prop := XY (wpS P N M rc.t rc.p rc.d rc.aR rc.ab rc.aT Q as) Q
def wpR (P : Prg) (N M : Nat) (rc : RC) (Q : Exit → St → Prop) (as : List AC) (st : St) : Prop := wpS P N M rc.t rc.p rc.d rc.aR rc.ab rc.aT Q as st
def kR (P : Prg) (N M : Nat) (rc : RC) (Q : Exit → St → Prop) : Exit → St → Prop := XY (QiX P N M rc.t rc.p rc.d rc.ab rc.aT Q) Q
section
variable {P : Prg} {N M : Nat} {rc : RC} {Q : Exit → St → Prop} {st : St} {a : AC} {as : List AC}
theorem QeX : wpR P N M rc Q (a :: as) st = wpC P N M a (kS P N M rc as Q) st := rfl
theorem QhT : wpR P N M rc Q [] st = wpC P N M rc.aR (kR P N M rc Q) st := rfl
theorem Qdw : kS P N M rc as Q .normal st = wpR P N M rc Q as st := rfl
theorem Qlq : kS P N M rc as Q .ret st = Q .ret st := rfl
theorem QoT : kR P N M rc Q .ret st = Q .ret st := rfl
theorem QgU : kR P N M rc Q .normal st = QiX P N M rc.t rc.p rc.d rc.ab rc.aT Q st := rfl
end
theorem ACall.of_rangeC {P : Prg} {f : FuncId} {N : Nat} {rl : List ResultVar} {rc : RC} (hbody : Qer P f N rl rc) {avs : List AV} {ob : List Ob} {K : AV → List Ob → Prop} (hlen : avs.length ≤ N)
  (h0 : wpR P N ob.length rc (QaZ P rl K) rc.pres ⟨Qz 0 avs, ob⟩) : ACall P f avs ob K :=
 ACall.of_range hbody.ok.1 hlen h0
def QjJ (i : Nat) (v : Value) (Q : Exit → Act → World → Prop) : Exit → Act → World → Prop := fun e a w => Q e a w ∧ (e = .normal → a.tmps.getD i undef = v)
theorem Zu {a : Act} {d : Option Nat} {x : Value} {i : Nat} (h : d ≠ some i) : (a.put d x).tmps.getD i undef = a.tmps.getD i undef := by
 cases d with
 | none => rfl
 | some d =>
  simp only [Act.put, qr]
  rw [yH (fun e => h (by rw [e]))]
theorem QjG {P : Program} {o : Oper} {a : Act} {next next' : Act → World → Prop} {Q : Exit → Act → World → Prop} {i : Nat} {v : Value} (hd : o.dst ≠ some i) (ha : a.tmps.getD i undef = v)
  (hn : ∀ a' w', a'.tmps.getD i undef = v → next a' w' → next' a' w') {r : Result Next} (h : o.upon P a next Q r) : o.upon P a next' (QjJ i v Q) r := by
 have hp : ∀ x : Value, (a.put o.dst x).tmps.getD i undef = v := fun x => (Zu hd).trans ha
 have hl : LetsOut Q → LetsOut (QjJ i v Q) := fun ⟨b, w, h⟩ => ⟨b, w, h, fun e => by cases e⟩
 match r, h with
 | .ok (.value x) w', h => exact hn _ _ (hp x) h
 | .ok .skip w', h => exact hn _ _ (hp _) h
 | .ok (.defer d) w', h => exact hn _ _ (Zu (a := { a with defers := d :: a.defers }) hd |>.trans ha) h
 | .ok (.enter f args) w', h =>
  refine Calls.mono h ?_
  intro e w2 h2
  cases e with
  | returned x => exact hn _ _ (hp x) h2
  | panicked ch => exact ⟨h2, fun e => by cases e⟩
  | outgrown => exact hl h2
 | .ok (.row row args) w', h => exact Rows.mono h fun x w2 h2 => hn _ _ (hp x) h2
 | .halt (.panic x) w', h => exact ⟨h, fun e => by cases e⟩
theorem Jh {P : Program} {md : Region.Mode} {ops : Array Oper} {Q : Exit → Act → World → Prop} {i : Nat} {v : Value} (hd : ∀ (j : Nat) (o : Oper), ops[j]? = some o → o.dst ≠ some i) :
  ∀ (fuel : Nat) (listed : Array Bool) (a : Act) (w : World), a.tmps.getD i undef = v → wpAny P md ops Q fuel listed a w → wpAny P md ops (QjJ i v Q) fuel listed a w
 | 0, listed, a, w, ha, h => ⟨h.1, h.2, fun _ => ha⟩
 | fuel + 1, listed, a, w, ha, h => by
  refine ⟨fun e => ⟨h.1 e, fun _ => ha⟩, fun j hj => ?_⟩
  have h2 := h.2 j hj
  unfold wpOp at h2 ⊢
  cases ho : ops[j]? with
  | none => rw [ho] at h2; exact Jh hd fuel _ a w ha h2
  | some o =>
   rw [ho] at h2
   simp only at h2 ⊢
   split
   ·rename_i hw
    rw [qE hw] at h2
    rcases h2 with h2 | ⟨h2, b, w2, h3⟩
    ·exact .inl (QjG (hd j o ho) ha (fun a' w' e h => Jh hd fuel _ a' w' e h) h2)
    ·exact .inr ⟨h2, b, w2, h3, fun e => by cases e⟩
   ·rename_i hw
    rw [qz hw] at h2
    exact Jh hd fuel _ _ w ((Zu (hd j o ho)).trans ha) h2
theorem Qgv {F : Fence} {n : Nat} {P : Program} {o : Oper} {a : Act} {next next' : Act → World → Prop} {Q : Exit → Act → World → Prop} {i : Nat} {v : Value} (hd : o.dst ≠ some i) (ha : a.tmps.getD i undef = v)
  (hn : ∀ a' w', a'.tmps.getD i undef = v → next a' w' → next' a' w') {r : Result Next} (h : o.uponIn F n P a next Q r) : o.uponIn F n P a next' (QjJ i v Q) r := by
 have hp : ∀ x : Value, (a.put o.dst x).tmps.getD i undef = v := fun x => (Zu hd).trans ha
 have hl : LetsOut Q → LetsOut (QjJ i v Q) := fun ⟨b, w, h⟩ => ⟨b, w, h, fun e => by cases e⟩
 match r, h with
 | .ok (.value x) w', h => exact hn _ _ (hp x) h
 | .ok .skip w', h => exact hn _ _ (hp _) h
 | .ok (.defer d) w', h => exact hn _ _ (Zu (a := { a with defers := d :: a.defers }) hd |>.trans ha) h
 | .ok (.enter f args) w', h =>
  refine ⟨h.1, CallsIn.mono h.2 ?_⟩
  intro e w2 h2
  cases e with
  | returned x => exact hn _ _ (hp x) h2
  | panicked ch => exact ⟨h2, fun e => by cases e⟩
  | outgrown => exact hl h2
 | .ok (.row row args) w', h => exact ⟨h.1, RowsIn.mono h.2 fun x w2 h2 => hn _ _ (hp x) h2⟩
 | .ok (.round l f tmps assign body) w', h =>
  refine ⟨h.1, RoundIn.mono h.2 ?_⟩
  intro e w2 h2
  cases e with
  | returned x => exact hn _ _ (hp x) h2
  | panicked ch => exact ⟨h2, fun e => by cases e⟩
  | outgrown => exact hl h2
 | .halt (.panic x) w', h => exact ⟨h, fun e => by cases e⟩
theorem XI {F : Fence} {n : Nat} {P : Program} {ops : Array Oper} {Q : Exit → Act → World → Prop} {i : Nat} {v : Value} : ∀ (l : List Oper) (a : Act) (w : World), (∀ o ∈ l, o.dst ≠ some i) → a.tmps.getD i undef = v → wpListIn F n P ops Q l a w → wpListIn F n P ops (QjJ i v Q) l a w
 | [], a, w, _, ha, h => ⟨h, fun _ => ha⟩
 | o :: l, a, w, hd, ha, h => by
  unfold wpListIn at h ⊢
  have hdo := hd o (by simp)
  have hdl : ∀ o' ∈ l, o'.dst ≠ some i := fun o' ho => hd o' (by simp [ho])
  split
  ·rename_i hw
   rw [qE hw] at h
   exact ⟨h.1, Qgv hdo ha (fun a' w' e h => XI l a' w' hdl e h) h.2⟩
  ·rename_i hw
   rw [qz hw] at h
   exact ⟨h.1, XI l _ w hdl ((Zu hdo).trans ha) h.2⟩
def QoC (I : List (Nat × Value)) (Q : Exit → Act → World → Prop) : Exit → Act → World → Prop := fun e a w => Q e a w ∧ (e = .normal → ∀ p ∈ I, a.tmps.getD p.1 undef = p.2)
theorem Qi {F : Fence} {n : Nat} {P : Program} {ops : Array Oper} {Q Q' : Exit → Act → World → Prop} (hq : ∀ e a w, Q e a w → Q' e a w) : ∀ (l : List Oper) (a : Act) (w : World), wpListIn F n P ops Q l a w → wpListIn F n P ops Q' l a w
 | [], a, w, h => hq _ _ _ h
 | o :: l, a, w, h => by
  unfold wpListIn at h ⊢
  split
  ·rename_i hw
   rw [qE hw] at h
   refine ⟨h.1, ?_⟩
   have h2 := h.2
   have hl : LetsOut Q → LetsOut Q' := fun ⟨b, w, h⟩ => ⟨b, w, hq _ _ _ h⟩
   generalize (o.semAt F.round a.eval).run P w = r at h2 ⊢
   match r, h2 with
   | .ok (.value x) w', h => exact Qi hq l _ _ h
   | .ok .skip w', h => exact Qi hq l _ _ h
   | .ok (.defer d) w', h => exact Qi hq l _ _ h
   | .ok (.enter f args) w', h =>
    refine ⟨h.1, CallsIn.mono h.2 ?_⟩
    intro e w2 h2
    cases e with
    | returned x => exact Qi hq l _ _ h2
    | panicked ch => exact hq _ _ _ h2
    | outgrown => exact hl h2
   | .ok (.row row args) w', h => exact ⟨h.1, RowsIn.mono h.2 fun x w2 h2 => Qi hq l _ _ h2⟩
   | .ok (.round l' f tmps assign body) w', h =>
    refine ⟨h.1, RoundIn.mono h.2 ?_⟩
    intro e w2 h2
    cases e with
    | returned x => exact Qi hq l _ _ h2
    | panicked ch => exact hq _ _ _ h2
    | outgrown => exact hl h2
   | .halt (.panic x) w', h => exact hq _ _ _ h
  ·rename_i hw
   rw [qz hw] at h
   exact ⟨h.1, Qi hq l _ w h.2⟩
theorem JG {F : Fence} {n : Nat} {P : Program} {ops : Array Oper} {Q : Exit → Act → World → Prop} {l : List Oper} {a : Act} {w : World} : ∀ (I : List (Nat × Value)), (∀ p ∈ I, (∀ o ∈ l, o.dst ≠ some p.1) ∧ a.tmps.getD p.1 undef = p.2) → wpListIn F n P ops Q l a w → wpListIn F n P ops (QoC I Q) l a w
 | [], _, h => Qi (fun e a w h => ⟨h, fun _ p hp => by cases hp⟩) _ _ _ h
 | p :: I, hI, h => by
  have h1 := JG I (fun q hq => hI q (by simp [hq])) h
  have h2 := XI l a w (hI p (by simp)).1 (hI p (by simp)).2 h1
  refine Qi (fun e a w h => ⟨h.1.1, fun e' q hq => ?_⟩) _ _ _ h2
  rcases qo.1 hq with rfl | hq
  ·exact h.2 e'
  ·exact h.1.2 e' q hq
end Go.Am
/- The abstract machine: statements of an iterator, one at a time, with slots that stay. -/
namespace Go.Am
open Go.RowKit
def Qab (i : Nat) (qs : List AO) : Bool := qs.all fun q => match q.dst with | some d => d != i | none => true
theorem QgP {P : Program} {N i : Nat} {ops : Array Oper} {l : List Oper} {qs : List AO} (h : l.mapM (Xj P N ops) = some qs) (hn : Qab i qs = true) : ∀ o ∈ l, o.dst ≠ some i := by
 intro o ho e
 obtain ⟨hlen, hget⟩ := XF h
 obtain ⟨k, hk, rfl⟩ := yD.1 ho
 obtain ⟨q, hq⟩ : ∃ q, Xj P N ops l[k] = some q := by
  obtain ⟨q, h1, h2⟩ := hget k _ (qd hk)
  first
   | exact ⟨q, h1⟩
   | exact ⟨q, h2⟩
 have hq' : q ∈ qs := by
  obtain ⟨q', h1, h2⟩ := hget k _ (qd hk)
  first
   | (rw [hq] at h1; cases h1; exact qK h2)
   | (rw [hq] at h2; cases h2; exact qK h1)
 have h3 := qR.1 hn q hq'
 rw [(Q3 hq).2.1, e] at h3
 simp at h3
section
variable {P : Prg} {N : Nat} {Γ : Ctx}
theorem Z4 (hN : Fit P N Γ) {ops : Array Oper} {l : List Oper} {qs : List AO} {n : Nat} (hc : l.mapM (Xj P N ops) = some qs) (I : List (Nat × Value)) {a : Act} {W : World} (hI : ∀ p ∈ I, Qab p.1 qs = true ∧ a.tmps.getD p.1 undef = p.2)
  {Q : Exit → St → Prop} {st : St} (hw : wpQ P qs Q st) (hs : Sim Γ st a W) : wpListIn Fence.wide n P ops (fun e a' w' => e = .normal ∧ ∃ st', Q .normal st' ∧ Sim Γ st' a' w' ∧ ∀ p ∈ I, a'.tmps.getD p.1 undef = p.2) l a W := by
 have h1 := XS (n := n) hN (ops := ops) (K := Q .normal) (Q := fun e a w => e = .normal ∧ ∃ st', Q .normal st' ∧ Sim Γ st' a w) (fun st a w hk hs => ⟨rfl, st, hk, hs⟩) l qs st a W hc hw hs
 refine Qi ?_ _ _ _ (JG I (fun p hp => ⟨QgP hc (hI p hp).1, (hI p hp).2⟩) h1)
 rintro e a' w' ⟨⟨rfl, st', h2, h3⟩, h4⟩
 exact ⟨rfl, st', h2, h3, h4 rfl⟩
theorem Zz (hN : Fit P N Γ) {c : Code} {qs : List AO} {n : Nat} (hc : Qb P N c = some (.reg qs)) (I : List (Nat × Value)) {a : Act} {W : World} (hI : ∀ p ∈ I, Qab p.1 qs = true ∧ a.tmps.getD p.1 undef = p.2)
  {Q : Exit → St → Prop} {st : St} (hw : wpQ P qs Q st) (hs : Sim Γ st a W) {R : Exit → Act → World → Prop} (hR : ∀ st' a' w', Q .normal st' → Sim Γ st' a' w' → (∀ p ∈ I, a'.tmps.getD p.1 undef = p.2) → R .normal a' w') : c.wpIn Fence.wide n P R a W := by
 obtain ⟨id, ops, rfl, hm⟩ := Qbx hc
 refine wpIn_region_list (Qi ?_ _ _ _ (Z4 hN hm I hI hw hs))
 rintro e a' w' ⟨rfl, st', h2, h3, h4⟩
 exact hR st' a' w' h2 h3 h4
theorem Qnx (hN : Fit P N Γ) {ops : Array Oper} {qs : List AO} {xs : List It} {nf : Nat} (hqs : ops.toList.mapM (Xj P N ops) = some qs) (hxs : xs.map (·.q) = qs) (hok : Xa ops xs nf = true)
  {Q : Exit → Act → World → Prop} {K : St → Prop} (hK : ∀ st a w, K st → Sim Γ st a w → Q .normal a w) {st : St} (hw : wpD P st.ob.length xs K ⟨st.fr, st.ob ++ List.replicate nf ph⟩) {a : Act} {w : World} (hs : Sim Γ st a w) :
  wpAny P .any ops Q ops.size (Array.replicate ops.size false) a { w with drawn := w.drawn + 1 } := by
 obtain ⟨t, hch, hk⟩ := Qbb hw
 obtain ⟨hlen, hget⟩ := XF hqs
 have hn : ops.size = xs.length := by
  have h1 : qs.length = xs.length := by rw [← hxs]; simp
  rw [← h1, hlen]; simp
 have hun : Qg xs.length (Array.replicate ops.size false) = List.range xs.length := by
  unfold Qg
  refine yK.2 fun i hi => ?_
  have : i < ops.size := by rw [hn]; simpa using hi
  simp [this]
 have hmap : ((List.range xs.length).map fun i => up st.ob.length (xs.getD i Z9)) = xs.map (up st.ob.length) := by
  apply yl
  intro i
  rw [qv, qv]
  by_cases h : i < xs.length
  ·rw [yZ h, qd h]
   simp [qh, qd h]
  ·rw [qO (by simpa using h), qO (by simpa using h)]
   rfl
 have hs0 : Sim Γ st a { w with drawn := w.drawn + 1 } := by
  obtain ⟨q1, q2, q3, be, g, hm0, hfr⟩ := hs
  have hb : Below w.heap.size w { w with drawn := w.drawn + 1 } := (Below.refl _ _).drew
  have mv := Moves.below (X := ⟨w, st.ob, be, Γ.X0.C⟩) hb
  exact ⟨q1, q2, q3.trans (hb.mono g.size), be, g.below (X := ⟨w, st.ob, be, Γ.X0.C⟩) hb, hm0.trans mv, fun i => Rep.move mv _ _ (hfr i)⟩
 refine Qet hN hqs hxs hok (K := fun _ _ => True) (M := st.ob.length) (t := t) (fun a w h => hK t a w hk h) _ _ _ _ _ (by simp [hn]) (by rw [hun]; simp [hn]) ?_ ?_ ?_ (Sim.places nf hs0)
 ·intro j af _ h
  exfalso
  by_cases hj : j < ops.size <;> simp [hj] at h
 ·rw [hun, hmap]; exact hch
 ·rw [hun, hmap]
  intro x hx hf
  obtain ⟨y, hy, rfl⟩ := qV.1 hx
  obtain ⟨i, hi, e⟩ := yD.1 hy
  simp only [Xa, qR, yC, qf, yF, yG, ql] at hok
  have h1 := (hok i hi).1.2
  have h2 : xs.getD i Z9 = y := by rw [qh, qd hi]; exact e
  rw [h2] at h1
  rcases h1 with h1 | h1
  ·simp only [up] at hf; rw [h1] at hf; cases hf
  ·show (st.ob ++ List.replicate nf ph)[(up st.ob.length y).id]? = some ph
   rw [Qe8 (x := y) hf]
   rw [qI (by omega)]
   simp [h1]
theorem QlO (hN : Fit P N Γ) {c : Code} {xs : List It} {ps : List Ob} {n : Nat} (hc : Qb P N c = some (.draw xs ps)) (i : Nat) {v : Value} (hI : Qab i (xs.map (·.q)) = true) {a : Act} {W : World} (ha : a.tmps.getD i undef = v)
  {Q : Exit → St → Prop} {st : St} (hw : XU P st.ob.length xs Q ⟨st.fr, st.ob ++ ps⟩) (hs : Sim Γ st a W) {R : Exit → Act → World → Prop} (hR : ∀ st' a' w', Q .normal st' → Sim Γ st' a' w' → a'.tmps.getD i undef = v → R .normal a' w') : c.wpIn Fence.wide n P R a W := by
 obtain ⟨id, ops, qs, rfl, hm, hf, hok, rfl, rfl⟩ := Qkj hc
 rw [Qc1] at hI
 rw [wpIn_wide]
 have hd := QgP hm hI
 have h1 := Qnx (Q := fun e a w => e = .normal ∧ ∃ st', Q .normal st' ∧ Sim Γ st' a w) hN hm (Qc1 ops qs) hok (fun st a w hk hs => ⟨rfl, st, hk, hs⟩) hw hs
 have h2 := Jh (i := i) (v := v) (fun j o ho => hd o (by simpa using Array.mem_of_getElem? ho)) _ _ _ _ ha h1
 refine wp_mono (wp_region_any hf h2) ?_
 rintro e a' w' ⟨⟨rfl, st', h3, h4⟩, h5⟩
 exact hR st' a' w' h3 h4 (h5 rfl)
end
theorem QlV {P : Program} {op : Op} {s : Nat} {x : Operand} {lo hi mx : Option Operand} (h : cOp P op = some (.slice s x lo hi mx)) : ∃ t e, op = .slice t x lo hi mx ∧ P.underlying t = some (.slice e) ∧ szO P e = some s := by
 cases op with
 | slice t y l h' m =>
  simp only [cOp, Qhi] at h
  split at h
  ·split at h <;> cases h
  ·rename_i e ht
   obtain ⟨s', hs, e2⟩ := qa.1 h
   cases e2
   exact ⟨t, e, rfl, ht, hs⟩
  ·split at h
   ·cases h
   ·obtain ⟨_, _, e2⟩ := qa.1 h
    cases e2
  ·cases h
 | build t ps =>
  simp only [cOp, Qho] at h
  split at h
  ·simp only [qk, qe] at h
   obtain ⟨_, _, h⟩ := h
   split at h
   ·simp only [qx, qe, qc] at h
    obtain ⟨_, _, h⟩ := h
    cases h
   ·cases h
  ·simp only [qk, qx, qe, qc] at h
   obtain ⟨_, _, _, _, h⟩ := h
   cases h
  ·cases h
 | buildSlice t len ps =>
  simp only [cOp, Qcf, qk, qe] at h
  obtain ⟨_, _, _, _, _, _, h⟩ := h
  split at h <;> cases h
 | binOp o t a b _ =>
  simp only [cOp, Qpf] at h
  repeat' (split at h)
  all_goals (first | cases h | (obtain ⟨_, _, e2⟩ := qa.1 h; cases e2))
 | convert a b y =>
  simp only [cOp, QlZ] at h
  repeat' (split at h)
  all_goals cases h
 | makeSlice t l c =>
  simp only [cOp, Jo, qk, qx, qe, qc] at h
  obtain ⟨_, _, _, _, _, _, _, _, h⟩ := h
  cases h
 | fieldAddr t y f =>
  simp only [cOp, Qhm] at h
  split at h
  ·simp only [qk, qe] at h
   obtain ⟨_, _, _, _, h⟩ := h
   split at h <;> cases h
  ·cases h
 | field t y f =>
  simp only [cOp, Qhl] at h
  split at h
  ·simp only [qk, qx, qe, qc] at h
   obtain ⟨_, _, _, _, h⟩ := h
   cases h
  ·cases h
 | indexAddr t y i =>
  simp only [cOp, Qhk] at h
  repeat' (split at h)
  all_goals (first | cases h | (obtain ⟨_, _, e2⟩ := qa.1 h; cases e2))
 | index t y i =>
  simp only [cOp, Qhj] at h
  split at h
  ·cases h
  ·simp only [qk, qx, qe, qc] at h
   obtain ⟨_, _, _, _, h⟩ := h
   cases h
  ·cases h
 | call c =>
  simp only [cOp, Qnb] at h
  split at h
  ·unfold QpA at h; split at h <;> cases h
  ·unfold Qpd at h; split at h <;> cases h
  ·unfold QdE at h
   split at h
   ·simp only [qk, qe] at h
    obtain ⟨_, _, _, _, _, _, _, _, h⟩ := h
    repeat' (split at h)
    all_goals cases h
   ·cases h
  ·unfold QlY at h
   split at h
   ·simp only [qk, qe] at h
    obtain ⟨_, _, _, _, h⟩ := h
    repeat' (split at h)
    all_goals cases h
   ·cases h
  ·cases h
  ·cases h
  ·cases h
 | alloc t => simp only [cOp, qa] at h; obtain ⟨_, _, e2⟩ := h; cases e2
 | box t y => simp only [cOp, qa] at h; obtain ⟨_, _, e2⟩ := h; cases e2
 | load t y => simp only [cOp, qa] at h; obtain ⟨_, _, e2⟩ := h; cases e2
 | store t y z => simp only [cOp, qa] at h; obtain ⟨_, _, e2⟩ := h; cases e2
 | _ => simp only [cOp] at h; cases h
theorem Qh5 {P : Program} {B : Nat} {X : Cx} (g : Held B X) {ρ : Operand → Value} {η : Operand → AV} (hρ : ∀ x, Rep X (η x) (ρ x)) {o : Oper} {x : Operand} {t e : TypeId} {lo hi : Option Operand} {sz n cap : Nat} {a : Option Addr} {l h : Int}
  (ho : o.op = .slice t x lo hi none) (ht : P.underlying t = some (.slice e)) (hz : szO P e = some sz) (ex : ρ x = .slice a n cap) (hl : loA (lo.map (η)) = some l) (hh : hiA n (hi.map (η)) = some h) (h0 : 0 ≤ l) (h1 : l ≤ h) (hc : h ≤ cap) :
  (execOp ρ o).run P X.w = .ok (.value (.slice (if cap = l.toNat then a else a.map (·.add (l.toNat * sz))) (h.toNat - l.toNat) (cap - l.toNat))) X.w := by
 have hb := ZU g hρ (P := P) (w := X.w) true hl hh h0 h1 hc
 unfold szO at hz
 obtain ⟨ii, hii, rfl⟩ := qa.1 hz
 simp [execOp, ho, ex, Instr.sliceAt, Instr.slice, run_underlying ht, hb, sizeOf, typeInfo, hii]
end Go.Am
/- The facts of a walk, in one. -/
namespace Go.Am
open Go.RowKit
theorem Qqm : (∀ (k : IntKind) (n : Int), AV.one (.int k n) = true) ∧ (∀ (b : Bool), AV.one (.bool b) = true) ∧ (AV.one (.ubool) = true) ∧ (∀ (s : List UInt8), AV.one (.str s) = true) ∧ (∀ (n : Nat) (cs : List AV), AV.one (.list n cs) = true) ∧ (∀ (z : Bool), AV.one (.emp z) = true) ∧ (∀ (o n : Nat), AV.one (.own o n) = true) ∧ (∀ (o n c : Nat), AV.one (.ownc o n c) = true) ∧ (∀ (o v k n : Nat), AV.one (.view o v k n) = true) ∧ (∀ (o v k : Nat), AV.one (.ref o v k) = true) ∧ (∀ (cs : List AV), AV.one (.cell cs) = true) ∧ (∀ (f : Fn) (fs cs : List AV), AV.one (.fn f fs cs) = true) := ⟨fun _ _ => rfl, fun _ => rfl, rfl, fun _ => rfl, fun _ _ => rfl, fun _ => rfl, fun _ _ => rfl, fun _ _ _ => rfl, fun _ _ _ _ => rfl, fun _ _ _ => rfl, fun _ => rfl, fun _ _ _ => rfl⟩
theorem Qql : (∀ (k : IntKind) (n : Int), Qh (.int k n) = [.int k n]) ∧ (∀ (b : Bool), Qh (.bool b) = [.bool b]) ∧ (Qh (.ubool) = [.ubool]) ∧ (∀ (s : List UInt8), Qh (.str s) = [.str s]) ∧ (∀ (n : Nat) (cs : List AV), Qh (.list n cs) = [.list n cs]) ∧ (∀ (z : Bool), Qh (.emp z) = [.emp z]) ∧ (∀ (o n : Nat), Qh (.own o n) = [.own o n]) ∧ (∀ (o n c : Nat), Qh (.ownc o n c) = [.ownc o n c]) ∧ (∀ (o v k n : Nat), Qh (.view o v k n) = [.view o v k n]) ∧ (∀ (o v k : Nat), Qh (.ref o v k) = [.ref o v k]) ∧ (∀ (cs : List AV), Qh (.cell cs) = [.cell cs]) ∧ (∀ (f : Fn) (fs cs : List AV), Qh (.fn f fs cs) = [.fn f fs cs]) ∧ (∀ (u : Value), Qh (.lit u) = [.lit u]) := ⟨fun _ _ => rfl, fun _ => rfl, rfl, fun _ => rfl, fun _ _ => rfl, fun _ => rfl, fun _ _ => rfl, fun _ _ _ => rfl, fun _ _ _ _ => rfl, fun _ _ _ => rfl, fun _ => rfl, fun _ _ _ => rfl, fun _ => rfl⟩
theorem cvq : (∀ (k : IntKind) (n : Int), cV (.int k n) = .int k n) ∧ (∀ b : Bool, cV (.bool b) = .bool b) ∧ (∀ s, cV (.string s) = .str s.data.toList) ∧ cV (.slice none 0 0) = .emp true ∧ cV .nilIface = .lit .nilIface ∧ (∀ q, cV (.pointer q) = .lit (.pointer q)) ∧ (∀ ob sz v, QhP ob sz false v = Qc ob sz v) := ⟨fun _ _ => rfl, fun _ => rfl, fun _ => rfl, rfl, rfl, fun _ => rfl, fun _ _ _ => rfl⟩
set_option linter.defProp false in
def rr := And.intro @abv (And.intro @step (And.intro @QpD (And.intro @ev (And.intro @wl (And.intro @wn (And.intro @wp (And.intro @wz (@Int.cast_ofNat_Int))))))))
set_option linter.defProp false in
def rq := And.intro @z1L.eq_1 (And.intro @z2L.eq_1 (And.intro @z3L.eq_1 (And.intro @z4L.eq_1 (And.intro @z5L.eq_1 (And.intro @z6L.eq_1 (And.intro @rr (And.intro @Qqm (And.intro @Qql (And.intro @cvq (And.intro @aop.eq_1 (And.intro @aop.eq_2 (And.intro @aop.eq_3 (And.intro @aop.eq_4 (And.intro @aop.eq_5 (And.intro @aop.eq_6 (And.intro @aop.eq_7 (And.intro @aop.eq_8 (And.intro @aop.eq_9 (And.intro @aop.eq_10 (And.intro @aop.eq_11 (And.intro @aop.eq_12 (And.intro @aop.eq_13 (And.intro @aop.eq_14 (And.intro @aop.eq_15 (And.intro @aop.eq_16 (And.intro @aop.eq_17 (And.intro @aop.eq_18 (And.intro @aop.eq_19 (And.intro @aop.eq_20 (And.intro @aop.eq_21 (And.intro @aop.eq_22 (And.intro @aop.eq_23 (And.intro @aop.eq_24 (And.intro @aop.eq_25 (And.intro @aop.eq_26 (And.intro @aop.eq_27 (And.intro @aop.eq_28 (And.intro @aop.eq_29 (And.intro @aop.eq_30 (And.intro @aop.eq_31 (And.intro @aop.eq_32 (And.intro @aop.eq_33 (And.intro @aop.eq_34 (And.intro @aop.eq_35 (And.intro @aop.eq_36 (And.intro @aop.eq_37 (And.intro @aop.eq_38 (And.intro @aop.eq_39 (And.intro @cV.eq_1 (And.intro @cV1.eq_1 (And.intro @cV1.eq_2 (And.intro @cV1.eq_3 (And.intro @cV1.eq_4 (And.intro @Qh.eq_1 (And.intro @okW.eq_1 (And.intro @okW.eq_2 (And.intro @okW.eq_3 (And.intro @okW.eq_4 (And.intro @okW.eq_5 (And.intro @okW.eq_6 (And.intro @okW.eq_7 (And.intro @okW.eq_8 (And.intro @okW.eq_9 (And.intro @okW.eq_10 (And.intro @okW.eq_11 (And.intro @okW.eq_12 (And.intro @okW.eq_13 (And.intro @okW.eq_14 (And.intro @okW.eq_15 (And.intro @okW.eq_16 (And.intro @okW.eq_17 (And.intro @okW.eq_18 (And.intro @okW.eq_19 (And.intro @okW.eq_20 (And.intro @okW.eq_21 (And.intro @okW.eq_22 (And.intro @okW.eq_23 (And.intro @okW.eq_24 (And.intro @okW.eq_25 (And.intro @okW.eq_26 (And.intro @okW.eq_27 (And.intro @okW.eq_28 (And.intro @okW.eq_29 (And.intro @okW.eq_30 (And.intro @okW.eq_31 (And.intro @okW.eq_32 (And.intro @okW.eq_33 (And.intro @Qq.eq_1 (And.intro @Qq.eq_2 (And.intro @Qq.eq_3 (And.intro @Qq.eq_4 (And.intro @Qq.eq_5 (And.intro @Qq.eq_6 (And.intro @Qq.eq_7 (And.intro @Qq.eq_8 (And.intro @Qq.eq_9 (And.intro @Qq.eq_10 (And.intro @Qq.eq_11 (And.intro @Qq.eq_12 (And.intro @Qq.eq_13 (And.intro @Qq.eq_14 (And.intro @Qq.eq_15 (And.intro @Qq.eq_16 (And.intro @Qq.eq_17 (And.intro @Qq.eq_18 (And.intro @Qq.eq_19 (And.intro @Qq.eq_20 (And.intro @Qq.eq_21 (And.intro @Qq.eq_22 (And.intro @Qq.eq_23 (And.intro @Qq.eq_24 (And.intro @Qq.eq_25 (And.intro @Qq.eq_26 (And.intro @Qq.eq_27 (And.intro @Qq.eq_28 (And.intro @Qq.eq_29 (And.intro @Qq.eq_30 (And.intro @Qq.eq_31 (And.intro @Qq.eq_32 (And.intro @Qq.eq_33 (And.intro @app.eq_1 (And.intro @app.eq_2 (And.intro @Qc.eq_1 (And.intro @Qc.eq_2 (And.intro @Qc.eq_3 (And.intro @Qc.eq_4 (And.intro @Qc.eq_5 (And.intro @ZJ.eq_1 (And.intro @ZJ.eq_2 (And.intro @QhP.eq_1 (And.intro @Qd3.eq_1 (And.intro @Qd3.eq_2 (And.intro @Qd3.eq_3 (And.intro @Qd3.eq_4 (And.intro @Qd3.eq_5 (And.intro @Qnq.eq_1 (And.intro @Qnq.eq_2 (And.intro @AV.one.eq_1 (And.intro @AV.one.eq_2 (And.intro @AV.one.eq_3 (@AV.one.eq_4)))))))))))))))))))))))))))))))))))))))))))))))))))))))))))))))))))))))))))))))))))))))))))))))))))))))))))))))))))))))))))))))))))))))))))))
end Go.Am
/- The abstract machine: a store told anew in another order, parts of it forgotten. -/
namespace Go.Am
open Go.RowKit
mutual
def rnV (t : Nat → Option Nat) : AV → AV
 | .own o n => match t o with | some j => .own j n | none => .any
 | .ownc o n c => match t o with | some j => .ownc j n c | none => .any
 | .view o v k n => match t o with | some j => .view j v k n | none => .any
 | .ref o v k => match t o with | some j => .ref j v k | none => .any
 | .list n cs => .list n (rnL t cs)
 | .cell cs => .cell (rnL t cs)
 | .agg cs => .agg (rnL t cs)
 | .tup cs => .tup (rnL t cs)
 | .fn f a b => .fn f (rnL t a) (rnL t b)
 | v => v
def rnL (t : Nat → Option Nat) : List AV → List AV
 | [] => []
 | c :: cs => rnV t c :: rnL t cs
end
theorem Qb7 (t : Nat → Option Nat) : ∀ cs : List AV, (rnL t cs).length = cs.length
 | [] => rfl
 | c :: cs => by simp [rnL, Qb7 t cs]
mutual
theorem QnN {t : Nat → Option Nat} {m : Nat} (ht : ∀ o, o < m → t o = some o) : ∀ c : AV, Qad m c = true → rnV t c = c
 | .own o _, g | .ownc o _ _, g | .view o _ _ _, g | .ref o _ _, g => by simp only [Qad, ql] at g; simp only [rnV, ht o g]
 | .list _ cs, g | .cell cs, g | .agg cs, g | .tup cs, g => by simp only [Qad] at g; simp only [rnV, rnL_low ht cs g]
 | .fn _ a b, g => by simp only [Qad, qf] at g; simp only [rnV, rnL_low ht a g.1, rnL_low ht b g.2]
 | .any, _ | .int _ _, _ | .bool _, _ | .ubool, _ | .str _, _ | .lit _, _ | .emp _, _ => by simp only [rnV]
theorem rnL_low {t : Nat → Option Nat} {m : Nat} (ht : ∀ o, o < m → t o = some o) : ∀ cs : List AV, lowL m cs = true → rnL t cs = cs
 | [], _ => rfl
 | c :: cs, g => by simp only [lowL, qf] at g; simp only [rnL, QnN ht c g.1, rnL_low ht cs g.2]
end
section
variable {X Y : Cx} {t : Nat → Option Nat} (hw : Y.w = X.w) (hav : ∀ b k, Y.av b k → X.av b k) (hob : ∀ o j x, t o = some j → X.ob[o]? = some x → (∃ y, Y.ob[j]? = some y ∧ y.sz = x.sz ∧ y.n = x.n) ∧ Y.be[j]? = X.be[o]?)
include hob in
theorem Cur.rn {o j ver : Nat} {p : Option (Option (Nat × Nat)) → Prop} (h : t o = some j) (g : Cur X o ver p) : Cur Y j ver p := by
 obtain ⟨x, h1, h2, h3, h4⟩ := g
 obtain ⟨⟨y, q1, q2, q3⟩, q4⟩ := hob o j x h h1
 exact ⟨y, q1, by rw [q2]; exact h2, by rw [q3]; exact h3, fun e => by rw [q4]; exact h4 (by omega)⟩
include hw hav hob
mutual
theorem Rep.rn : ∀ (c : AV) (v : Value), Rep X c v → Rep Y (rnV t c) v
 | .any, _, _ => by simp only [rnV, Rep]
 | .int _ _, _, g | .bool _, _, g | .ubool, _, g | .str _, _, g | .lit _, _, g | .emp _, _, g => by simp only [rnV, Rep] at g ⊢; exact g
 | .list _ cs, _, g => by
  simp only [rnV, Rep] at g ⊢
  obtain ⟨a, cap, vs, e, gc, g1, g2⟩ := g
  refine ⟨a, cap, vs, e, gc, ?_, RepL.rn cs vs g2⟩
  rcases g1 with g1 | ⟨b, k, e1, g1⟩
  ·exact .inl g1
  ·exact .inr ⟨b, k, e1, g1.low hw hav⟩
 | .cell cs, _, g => by
  simp only [rnV, Rep] at g ⊢
  obtain ⟨b, k, vs, e, g1, g2⟩ := g
  exact ⟨b, k, vs, e, g1.low hw hav, RepL.rn cs vs g2⟩
 | .own o n, _, g => by
  simp only [rnV]
  cases h : t o with
  | none => simp only [Rep]
  | some j => simp only [Rep] at g ⊢; exact ⟨g.1.rn hob h, g.2⟩
 | .ownc o n c, _, g => by
  simp only [rnV]
  cases h : t o with
  | none => simp only [Rep]
  | some j => simp only [Rep] at g ⊢; exact ⟨g.1.rn hob h, g.2⟩
 | .view o v k n, _, g => by
  simp only [rnV]
  cases h : t o with
  | none => simp only [Rep]
  | some j => simp only [Rep] at g ⊢; exact ⟨g.1.rn hob h, g.2⟩
 | .ref o v k, _, g => by
  simp only [rnV]
  cases h : t o with
  | none => simp only [Rep]
  | some j => simp only [Rep] at g ⊢; exact ⟨g.1.rn hob h, g.2⟩
 | .agg cs, _, g => by
  simp only [rnV, Rep] at g ⊢
  obtain ⟨vs, e, g2⟩ := g
  exact ⟨vs, e, RepL.rn cs vs g2⟩
 | .tup cs, _, g => by
  simp only [rnV, Rep] at g ⊢
  obtain ⟨vs, e, g2⟩ := g
  exact ⟨vs, e, RepL.rn cs vs g2⟩
 | .fn _ fs cs, _, g => by
  simp only [rnV, Rep] at g ⊢
  obtain ⟨va, vb, e, g1, g2⟩ := g
  exact ⟨va, vb, e, RepL.rn fs va g1, RepL.rn cs vb g2⟩
theorem RepL.rn : ∀ (cs : List AV) (vs : List Value), RepL X cs vs → RepL Y (rnL t cs) vs
 | [], _, g => by simp only [rnL, RepL] at g ⊢; exact g
 | c :: cs, _, g => by
  simp only [rnL, RepL] at g ⊢
  obtain ⟨v, rest, e, g1, g2⟩ := g
  exact ⟨v, rest, e, Rep.rn c v g1, RepL.rn cs rest g2⟩
end
end
def pk (m : Nat) (l : List Nat) (o : Nat) : Option Nat := if o < m then some o else if l.contains (o - m) then some (m + l.idxOf (o - m)) else none
def pkO (m : Nat) (l : List Nat) (J : List Ob) : List Ob := l.map fun i => let x := J.getD i ph; { x with cs := rnL (pk m l) x.cs }
def pkF (m : Nat) (l : List Nat) (fr : List (Nat × AV)) : List (Nat × AV) := fr.map fun p => (p.1, rnV (pk m l) p.2)
theorem Qjg (m : Nat) (l : List Nat) : ∀ (fr : List (Nat × AV)) (i : Nat), look (pkF m l fr) i = rnV (pk m l) (look fr i)
 | [], i => by simp [pkF, look, rnV]
 | (j, v) :: r, i => by
  have := Qjg m l r i
  simp only [pkF, qC, look] at this ⊢
  split
  ·rfl
  ·exact this
theorem Held.pick {B : Nat} {w : World} {ob J : List Ob} {be : List (Option (Nat × Nat))} {C : Nat → Nat → Prop} (l : List Nat) (g : Held B ⟨w, ob ++ J, be, C⟩) (hl : Low ob.length ob) (hn : l.Nodup) (hb : ∀ i ∈ l, i < J.length) :
  ∃ be', Held B ⟨w, ob ++ pkO ob.length l J, be', C⟩ ∧ (∀ (c : AV) (v : Value), Rep ⟨w, ob ++ J, be, C⟩ c v → Rep ⟨w, ob ++ pkO ob.length l J, be', C⟩ (rnV (pk ob.length l) c) v) ∧
   (∀ (X : Cx), X.ob.length ≤ ob.length → Moves X ⟨w, ob ++ J, be, C⟩ → Moves X ⟨w, ob ++ pkO ob.length l J, be', C⟩) := by
 obtain ⟨m, hm0⟩ : ∃ m, m = ob.length := ⟨_, rfl⟩
 let be' := be.take m ++ l.map fun i => be.getD (m + i) none
 let X : Cx := ⟨w, ob ++ J, be, C⟩
 let Y : Cx := ⟨w, ob ++ pkO m l J, be', C⟩
 have hlb : be.length = m + J.length := by have := g.len; simp only [qm] at this; omega
 have htl : (be.take m).length = m := by rw [qX]; omega
 have hlow : ∀ j, j < m → Y.ob[j]? = X.ob[j]? ∧ Y.be[j]? = X.be[j]? := fun j hj => ⟨by simp only [X, Y]; rw [qj (by omega), qj (by omega)], by simp only [X, Y, be']; rw [qj (by omega), yk hj]⟩
 have hhi : ∀ k i, l[k]? = some i → (∃ x, X.ob[m + i]? = some x ∧ Y.ob[m + k]? = some { x with cs := rnL (pk m l) x.cs }) ∧ Y.be[m + k]? = X.be[m + i]? := fun k i hk => by
  have hi := hb i (qK hk)
  refine ⟨⟨J[i], ?_, ?_⟩, ?_⟩
  ·simp only [X]; rw [qI (by omega), hm0, y9, qd hi]
  ·simp only [Y, pkO]; rw [qI (by omega), hm0, y9, qv, hk]
   simp [qd hi]
  ·simp only [X, Y, be']; rw [qI (by omega), htl, y9, qv, hk, qd (show m + i < be.length by omega)]
   simp [qd (show m + i < be.length by omega)]
 have hlk : ∀ j y, Y.ob[j]? = some y → j < m ∨ ∃ k i, j = m + k ∧ l[k]? = some i := fun j y hy => by
  rcases yP j m with h | h
  ·exact .inl h
  ·refine .inr ⟨j - m, ?_⟩
   have hj : j < (ob ++ pkO m l J).length := (qb.1 hy).1
   have : j - m < l.length := by rw [qm, pkO, yO] at hj; omega
   exact ⟨l[j - m], by omega, qd this⟩
 have hlb' : be'.length = m + l.length := by simp only [be', qm, yO, htl]
 have hlkb : ∀ j e, Y.be[j]? = some e → j < m ∨ ∃ k i, j = m + k ∧ l[k]? = some i := fun j e hy => by
  rcases yP j m with h | h
  ·exact .inl h
  ·refine .inr ⟨j - m, ?_⟩
   have hj : j < be'.length := (qb.1 hy).1
   have : j - m < l.length := by omega
   exact ⟨l[j - m], by omega, qd this⟩
 have hfrom : ∀ j e, Y.be[j]? = some e → ∃ o, X.be[o]? = some e ∧ (∀ y, Y.ob[j]? = some y → ∃ x, X.ob[o]? = some x ∧ y.fz = x.fz ∧ y.n = x.n ∧ y.sz = x.sz ∧ y.ty = x.ty ∧ y.cs = rnL (pk m l) x.cs) ∧ (j < m ∧ o = j ∨ ∃ k i, j = m + k ∧ o = m + i ∧ l[k]? = some i) := fun j e hj => by
  rcases hlkb j e hj with h | ⟨k, i, rfl, hk⟩
  ·refine ⟨j, by rw [← (hlow j h).2]; exact hj, fun y hy => ⟨y, by rw [← (hlow j h).1]; exact hy, rfl, rfl, rfl, rfl, ?_⟩, .inl ⟨h, rfl⟩⟩
   have hmem : y ∈ ob := by
    have hy' : (ob ++ pkO m l J)[j]? = some y := hy
    rw [qj (by omega)] at hy'
    exact qK hy'
   rw [rnL_low (m := m) (fun o ho => by simp [pk, ho]) _ (by rw [hm0]; exact hl y hmem)]
  ·obtain ⟨⟨x, hx, hy0⟩, he⟩ := hhi k i hk
   refine ⟨m + i, by rw [← he]; exact hj, fun y hy => ⟨x, hx, ?_⟩, .inr ⟨k, i, rfl, rfl, hk⟩⟩
   rw [hy0] at hy; cases hy
   exact ⟨rfl, rfl, rfl, rfl, rfl⟩
 have hav : ∀ b k, Y.av b k → X.av b k := by
  rintro b k (h | ⟨o, y, c, h1, h2, h3⟩)
  ·exact .inl h
  ·obtain ⟨o', e1, e2, _⟩ := hfrom o _ h2
   obtain ⟨x, hx, hf, _⟩ := e2 y h1
   exact .inr ⟨o', x, c, hx, e1, by omega⟩
 have hob : ∀ o j x, pk m l o = some j → X.ob[o]? = some x → (∃ y, Y.ob[j]? = some y ∧ y.sz = x.sz ∧ y.n = x.n) ∧ Y.be[j]? = X.be[o]? := fun o j x hp hx => by
  unfold pk at hp
  split at hp
  ·rename_i ho
   cases hp
   exact ⟨⟨x, by rw [(hlow o ho).1]; exact hx, rfl, rfl⟩, (hlow o ho).2⟩
  ·rename_i ho
   split at hp
   ·rename_i hc
    cases hp
    have hmem : o - m ∈ l := by simpa using hc
    have hk : l[l.idxOf (o - m)]? = some (o - m) := by
     have h1 := List.idxOf_lt_length_of_mem hmem
     rw [qd h1]
     simp
    obtain ⟨⟨x', hx', hy⟩, he⟩ := hhi _ _ hk
    rw [show m + (o - m) = o by omega] at hx' he
    rw [hx] at hx'; cases hx'
    exact ⟨⟨_, hy, rfl, rfl⟩, he⟩
   ·cases hp
 have hrep : ∀ (c : AV) (v : Value), Rep X c v → Rep Y (rnV (pk m l) c) v := fun c v h => Rep.rn (X := X) (Y := Y) rfl hav hob c v h
 have hrepL : ∀ (c : List AV) (v : List Value), RepL X c v → RepL Y (rnL (pk m l) c) v := fun c v h => RepL.rn (X := X) (Y := Y) rfl hav hob c v h
 have hinj : ∀ j j' o : Nat, (j < m ∧ o = j ∨ ∃ k i, j = m + k ∧ o = m + i ∧ l[k]? = some i) → (j' < m ∧ o = j' ∨ ∃ k i, j' = m + k ∧ o = m + i ∧ l[k]? = some i) → j = j' := by
  rintro j j' o (⟨a1, a2⟩ | ⟨k, i, a1, a2, a3⟩) (⟨b1, b2⟩ | ⟨k', i', b1, b2, b3⟩)
  ·omega
  ·omega
  ·omega
  ·have e : i = i' := by omega
   subst e
   have := (List.getElem?_inj (qb.1 a3).1 hn).1 (a3.trans b3.symm)
   omega
 have hbmem : ∀ o e, Y.be[o]? = some e → ∃ o', X.be[o']? = some e := fun o e h => by
  obtain ⟨o', h1, _⟩ := hfrom o e h
  exact ⟨o', h1⟩
 rw [← hm0]
 refine ⟨be', ⟨?_, fun o y e hy he => ?_, fun o o' b c c' h1 h2 => ?_, fun o b c h1 => ?_, g.bnd, g.size⟩, hrep, fun Z hZ hm => ⟨fun b k v hc ha => ?_, fun o x hx => ?_, fun b hb hf => ⟨(hm.blk b hb hf).1, fun o c h => ?_⟩⟩⟩
 ·show be'.length = (ob ++ pkO m l J).length
  rw [hlb', qm, pkO, yO, ← hm0]
 ·obtain ⟨o', e1, e2, _⟩ := hfrom o e he
  obtain ⟨x, hx, f1, f2, f3, f4, f5⟩ := e2 y hy
  have := g.ok o' x e hx e1
  cases e with
  | none => exact ⟨by rw [f2]; exact this.1, by rw [f5, this.2]; rfl⟩
  | some p =>
   obtain ⟨b, cap⟩ := p
   obtain ⟨cur, ⟨fr, r0, r0'⟩, r2, r3, r4, r5, r6, r7⟩ := this
   refine ⟨cur, ⟨fr, by rw [f4]; exact r0, by rw [f1]; exact r0'⟩, by rw [f3]; exact r2, by rw [f2]; exact r3, r4, by rw [f5, Qb7, f2, f3]; exact r5, ?_, r7⟩
   rw [f5, Qb7]
   exact hrepL _ _ r6
 ·obtain ⟨x1, a1, _, a2⟩ := hfrom o _ h1
  obtain ⟨x2, b1, _, b2⟩ := hfrom o' _ h2
  have e := g.inj x1 x2 b c c' a1 b1
  subst e
  exact hinj o o' x1 a2 b2
 ·obtain ⟨x1, a1⟩ := hbmem o _ h1
  exact g.base x1 b c a1
 ·obtain ⟨h1, h2⟩ := hm.cell b k v hc ha
  exact ⟨h1, fun h => h2 (hav b k h)⟩
 ·obtain ⟨y, hy, h1, h2⟩ := hm.ob o x hx
  have ho : o < m := by have := (qb.1 hx).1; omega
  obtain ⟨e1, e2⟩ := hlow o ho
  exact ⟨y, by rw [e1]; exact hy, h1, fun h0 => ⟨(h2 h0).1, fun e => by rw [e2]; exact (h2 h0).2 e⟩⟩
 ·obtain ⟨o', h1⟩ := hbmem o _ h
  exact (hm.blk b hb hf).2 o' c h1
theorem Le.pick {M : Nat} (l : List Nat) {fr : List (Nat × AV)} {ob J : List Ob} (hM : M ≤ ob.length) (hl : Low ob.length ob) (hn : l.Nodup) (hb : ∀ i ∈ l, i < J.length) : Le M ⟨fr, ob ++ J⟩ ⟨pkF ob.length l fr, ob ++ pkO ob.length l J⟩ := by
 intro Γ a w hX ⟨q1, q2, q3, be, g, hm, hfr0⟩
 obtain ⟨be', g1, g2, g3⟩ := g.pick l hl hn hb
 refine ⟨q1, q2, q3, be', g1, g3 _ (by omega) hm, fun i => ?_⟩
 show Rep _ (look (pkF ob.length l fr) i) _
 rw [Qjg]
 exact g2 _ _ (hfr0 i)
theorem ACall.pick {P : Prg} {f : FuncId} {avs : List AV} {ob0 : List Ob} {K : AV → List Ob → Prop}
  (h : ACall P f avs ob0 (fun r ob' => ∃ (l : List Nat) (ob J : List Ob), ob' = ob ++ J ∧ ob0.length ≤ ob.length ∧ Low ob.length ob ∧ l.Nodup ∧ (∀ i ∈ l, i < J.length) ∧ K (rnV (pk ob.length l) r) (ob ++ pkO ob.length l J))) : ACall P f avs ob0 K := by
 obtain ⟨hE, h⟩ := h
 refine ⟨hE, fun B w0 be0 C vs g0 hG hr => (h B w0 be0 C vs g0 hG hr).mono ?_⟩
 rintro e w ⟨v, r, ob', be, rfl, hb, g, hm, hv, l, ob, J, rfl, hlen, hl, hn, hi, hk⟩
 obtain ⟨be', g1, g2, g3⟩ := g.pick l hl hn hi
 exact ⟨v, _, _, be', rfl, hb, g1, g3 _ hlen hm, g2 _ _ hv, hk⟩
theorem Le.virtC {M : Nat} {fr : List (Nat × AV)} {ob : List Ob} (p i ty sz : Nat) {x : Ob} {z : Bool} (h0 : sz ≠ 0) (hp : ob[p]? = some x) (hx : x.cs[i]? = some (.emp z)) :
  Le M ⟨fr, ob⟩ ⟨fr, ob.set p { x with cs := x.cs.set i (.own ob.length 0) } ++ [⟨ty, sz, 0, [], 0⟩]⟩ := by
 intro Γ a w hX ⟨q1, q2, q3, be, g, hm, hfr0⟩
 obtain ⟨g1, m1⟩ := g.empty ty sz
 have hpl : p < ob.length := (qb.1 hp).1
 have hp1 : (ob ++ [(⟨ty, sz, 0, [], 0⟩ : Ob)])[p]? = some x := by rw [qj hpl]; exact hp
 have hl : be.length = ob.length := g.len
 obtain ⟨g2, m2, _⟩ := g1.retell hp1 (x.cs.set i (.own ob.length 0)) (by simp) (fun vs hv => by
  refine RepL.of_get _ _ (by rw [hv.length]; simp) fun j c v hc hvj => ?_
  by_cases e : i = j
  ·subst e
   have hil : i < x.cs.length := (qb.1 hx).1
   rw [List.getElem?_set_self hil] at hc
   cases hc
   obtain ⟨v', hv', hr⟩ := hv.get i _ hx
   rw [hvj] at hv'; cases hv'
   simp only [Rep] at hr ⊢
   obtain ⟨a', e, _⟩ := hr
   refine ⟨⟨⟨ty, sz, 0, [], 0⟩, by simp, h0, qg _, fun _ => ?_⟩, by rw [e]; rfl⟩
   simp only [OwnV]
   rw [show ob.length = be.length from hl.symm]
   simp [e]
  ·rw [qA e] at hc
   obtain ⟨v', hv', hr⟩ := hv.get j _ hc
   rw [hvj] at hv'; cases hv'
   exact hr)
 have e1 : (ob ++ [(⟨ty, sz, 0, [], 0⟩ : Ob)]).set p { x with cs := x.cs.set i (.own ob.length 0) } = ob.set p { x with cs := x.cs.set i (.own ob.length 0) } ++ [⟨ty, sz, 0, [], 0⟩] := List.set_append_left _ _ hpl
 rw [← e1]
 exact ⟨q1, q2, q3, _, g2, hm.trans (m1.trans m2), fun i => Rep.move m2 _ _ (Rep.move m1 _ _ (hfr0 i))⟩
theorem callE.ro {P : Prg} {B k : Nat} {Q : Exit → St → Prop} {f : FuncId} {avs : List AV} {r : AV} {xs : List It} {fr : List (Nat × AV)} {ob : List Ob} {dst : Option Nat} (h : ∀ K : AV → List Ob → Prop, K r ob → ACall P f avs ob K) (hK : XU P B xs Q ⟨QQ fr dst r, ob⟩) : XN P B true k f avs xs Q fr ob dst := by
 refine ⟨r, none, ?_, hK⟩
 unfold Zx
 rw [qE rfl]
 exact ⟨h _ ⟨rfl, rfl⟩, fun _ _ e => by cases e⟩
mutual
def emV : AV → AV
 | .emp _ => .list 0 []
 | .agg cs => .agg (emA cs)
 | .list n cs => .list n (emA cs)
 | v => v
def emA : List AV → List AV
 | [] => []
 | c :: cs => emV c :: emA cs
end
mutual
theorem Rep.em {X : Cx} : ∀ (c : AV) (v : Value), Rep X c v → Rep X (emV c) v
 | .emp _, _, g => by
  simp only [emV, Rep] at g ⊢
  obtain ⟨a, e, _⟩ := g
  exact ⟨a, 0, [], e, qg _, .inl rfl, by simp [RepL]⟩
 | .agg cs, _, g => by
  simp only [emV, Rep] at g ⊢
  obtain ⟨vs, e, g2⟩ := g
  exact ⟨vs, e, RepL.em cs vs g2⟩
 | .list _ cs, _, g => by
  simp only [emV, Rep] at g ⊢
  obtain ⟨a, cap, vs, e, gc, g1, g2⟩ := g
  exact ⟨a, cap, vs, e, gc, g1, RepL.em cs vs g2⟩
 | .any, _, g | .int _ _, _, g | .bool _, _, g | .ubool, _, g | .str _, _, g | .lit _, _, g | .own _ _, _, g | .ownc _ _ _, _, g | .view _ _ _ _, _, g | .ref _ _ _, _, g | .cell _, _, g | .tup _, _, g | .fn _ _ _, _, g => by simp only [emV]; exact g
theorem RepL.em {X : Cx} : ∀ (cs : List AV) (vs : List Value), RepL X cs vs → RepL X (emA cs) vs
 | [], _, g => by simp only [emA]; exact g
 | c :: cs, _, g => by
  simp only [emA, RepL] at g ⊢
  obtain ⟨v, rest, e, g1, g2⟩ := g
  exact ⟨v, rest, e, Rep.em c v g1, RepL.em cs rest g2⟩
end
theorem VC.em {P : Prg} {f : FuncId} (avs : List AV) {r : AV} (h : VC P f (emA avs) r) (hd : isDL avs = true) : VC P f avs r :=
 ⟨h.1, hd, h.2.2.1, fun w C vs hC hG hr => h.2.2.2 w C vs hC hG (RepL.em _ _ hr)⟩
end Go.Am
/- The abstract machine: a range over a function that hands over nothing. -/
namespace Go.Am
open Go.RowKit
theorem Qhp {W W' : World} (h : Below W.heap.size W W') : W.grownBy W' none := ⟨h.os, h.tape, h.output, h.size, fun k hk _ => h.block k hk⟩
theorem Qlr {P : Prg} {gf : Nat} {cs : List AV} {Ts : List Nat} (hcs : isDL cs = true) (h : ACall P gf [.any, .cell cs] [] (fun _ _ => True)) : QeW P gf cs Ts (cnt := 0) (fun j => j.elim0) := by
 refine ⟨fun j => j.elim0, fun w C v1 hv1 hex hG => ⟨fun j => j.elim0, fun j => j.elim0, ?_⟩⟩
 intro l J Jx W hb hJ _ _ hJ0
 obtain ⟨_, hc⟩ := h
 have hcell : ∀ (b k : Nat) (v : Value), w.cell? ⟨b, k, none⟩ = some v → W.cell? ⟨b, k, none⟩ = some v := fun b k v hv => by
  obtain ⟨o, h1, h2⟩ := Xi hv
  rw [World.cell?_of_block (w := w) (hb.block b (qi.1 h1).1)]
  exact hv
 have hun : ∀ (c : AV) (v : Value), isD c = true → Rep ⟨w, [], [], C⟩ c v → Rep ⟨W, [], [], fun _ _ => False⟩ c v := fun c v hd hr =>
  Rep.data (X := ⟨w, [], [], C⟩) (Y := ⟨W, [], [], fun _ _ => False⟩) (fun b k v hc ha => ⟨hcell b k v hc, fun h => by
   rcases h with h | ⟨o, x, c, h1, _⟩
   ·exact h.elim
   ·simp at h1⟩) c v hd hr
 have g : Held W.heap.size ⟨W, [], [], fun _ _ => False⟩ := ⟨rfl, by simp, by simp, by simp, fun _ _ h => h.elim, qg _⟩
 have hG' : GOk P.G ⟨W, [], [], fun _ _ => False⟩ := fun i gcs hl => hun _ _ (by simp only [isD]; exact P.gd i gcs hl) (hG i gcs hl)
 have hr : RepL ⟨W, [], [], fun _ _ => False⟩ [.any, .cell cs] [.func (.yield l) #[] #[], v1] := by
  simp only [RepL]
  exact ⟨_, _, rfl, by simp only [Rep], _, _, rfl, hun _ _ (by simp only [isD]; exact hcs) hv1, rfl⟩
 refine (callsIn_wide.2 (hc W.heap.size W [] (fun _ _ => False) _ g hG' hr)).mono ?_
 rintro e w' ⟨v, r, ob', be', rfl, hbw, _, _, _, _⟩
 exact ⟨⟨v, rfl⟩, .inl ⟨[], rfl, hJ [] W w' none hJ0 (Qhp hbw) (fun r e => by cases e)⟩⟩
theorem Qk7 {P : Prg} {N : Nat} {t : Nat} {ps : Array Nat} {asn body : Code} {fr : List (Nat × AV)} {gf : Nat} {cs : List AV} {xs : Fin 0 → AV}
  (hfn : look fr t = .fn (.func gf) [] [.cell cs]) (hE : Enters P gf) (hcs : isDL cs = true) (hI : QeW P gf cs [] xs) {ob : List Ob} {Q : Exit → St → Prop}
  (hdone : Q .normal ⟨fr, ob⟩) {Γ : Ctx} {a : Act} {w : World} (hN : Fit P N Γ) (hds : Γ.ds = []) (hs : Sim Γ ⟨fr, ob⟩ a w) :
  (Code.rangeFunc (.tmp t) ps asn body).wp P (Qmh Γ Q w.heap.size) a w := by
 obtain ⟨q1, q2, q3, be0, g0, m0, hfr⟩ := hs
 let X1 : Cx := ⟨w, ob, be0, Γ.X0.C⟩
 have hg := hfr t
 simp only at hg
 rw [hfn] at hg
 rw [show Rep X1 (.fn (.func gf) [] [.cell cs]) (a.tmps.getD t undef) = ∃ va vb, a.tmps.getD t undef = .func (.func gf) va.toArray vb.toArray ∧ RepL X1 [] va ∧ RepL X1 [.cell cs] vb by simp only [Rep]] at hg
 obtain ⟨va, vb, hev, hva, hvb⟩ := hg
 have hva' : va = [] := by simpa only [RepL] using hva
 subst hva'
 obtain ⟨v1, rest, hvb1, hv1, hrest⟩ : ∃ v1 rest, vb = v1 :: rest ∧ Rep X1 (.cell cs) v1 ∧ RepL X1 [] rest := by simpa only [RepL] using hvb
 have hrest' : rest = [] := by simpa only [RepL] using hrest
 subst hrest' hvb1
 have hev' : a.eval (.tmp t) = .func (.func gf) #[] #[v1] := hev
 let D : Nat → Nat → Prop := fun b k => ¬ ((∃ v, w.cell? ⟨b, k, none⟩ = some v) ∧ ¬ X1.av b k)
 have hD1 : ∀ b k, ¬ D b k → (∃ v, w.cell? ⟨b, k, none⟩ = some v) ∧ ¬ X1.av b k := fun b k h => Classical.not_not.1 h
 have hD2 : ∀ (c : AV) (v : Value), isD c = true → Rep X1 c v → Rep ⟨w, [], [], D⟩ c v := fun c v hd hr => Rep.data (X := X1) (Y := ⟨w, [], [], D⟩) (fun b k v hc ha => ⟨hc, fun h => by
  rcases h with h | ⟨o, x, c, h1, _⟩
  ·exact h ⟨⟨v, hc⟩, ha⟩
  ·simp at h1⟩) c v hd hr
 obtain ⟨hxd, hI⟩ := hI
 obtain ⟨vals, hvals, hseq⟩ := hI w D v1 (hD2 _ _ (by simp only [isD]; exact hcs) hv1) (fun b k h => (hD1 b k h).1) (fun g gcs hl => hD2 _ _ (by simp only [isD]; exact P.gd g gcs hl) (hN.2.move m0 g gcs hl))
 let SimO : List Ob → World → Prop := fun ob W => Below Γ.B Γ.X0.w W ∧ ∃ be, Held Γ.B ⟨W, ob, be, Γ.X0.C⟩ ∧ QX X1 ⟨W, ob, be, Γ.X0.C⟩ ∧ Moves Γ.X0 ⟨W, ob, be, Γ.X0.C⟩
 have hX0 : Γ.X0.w.heap.size ≤ w.heap.size := q3.size
 have hBw : Γ.B ≤ w.heap.size := g0.size
 have hown : ∀ ob W W' row, SimO ob W → W.grownBy W' row → (∀ r, row = some r → w.heap.size ≤ r ∧ ∃ o : Obj, W.heap[r]? = some o ∧ o.isCells = false) → SimO ob W' := by
  rintro ob W W' row ⟨h1, be, h2, h3, h4⟩ hgr hr
  exact ⟨h1.grown hgr (by have := h2.size; exact this) (fun k e => by have := (hr k e).1; omega), be, h2.grown hgr (fun r e => (hr r e).2), h3.trans (QX.grown hgr fun r e => (hr r e).2),
   h4.grown hgr (fun r e => ⟨by have := (hr r e).1; omega, (hr r e).2⟩)⟩
 rw [hds] at q1
 rw [← wpIn_wide (n := 5)]
 refine wpIn_rangeFunc_ownG (F := Fence.wide) (n := 5) (α := Fin 0) rfl (by decide) (gf := gf) (lb := #[v1]) hev' trivial (fun args w => Q7 hE args w) hseq
  (fun h1 h2 => h1.trans h2) (fun W l o o' _ hl ho _ => KpB.grown (grownBy_putObj' W l o') (fun r e => by cases e; exact ⟨o, hl, ho⟩)) (Below.refl _ _) (fun x => x.elim0)
  (fun pre W => SimO ob W) (fun c pre W => False)
  (fun pre W W' row hs hgr hr => hown _ W W' row hs hgr hr) (fun c pre W W' row hs hgr hr => hs)
  ⟨q3, be0, g0, QX.refl _, m0⟩
  (fun x => x.elim0) ?assign ?body ?done ?stop
 case assign =>
  intro l x
  exact x.elim0
 case body =>
  intro l pre x
  exact x.elim0
 case done =>
  rintro D ys W hD rfl ⟨h1, be, h2, h3, h4⟩ hdD
  exact ⟨D, _, hD, hdD, hdone, by simp only [q1], q2, h1, be, h2, h4, fun i => Rep.moveC h3 _ _ (hfr i)⟩
 case stop =>
  rintro D c pre W hD _ h hdD
  exact h.elim
structure RC0 where
 pres : List AC
 t : Nat
 aR : AC
 aT : AC
def Qey (P : Program) (N : Nat) : Code → Option RC0
 | .seq (.seq cR (.block id (.rangeFunc (.tmp t) ps asn body))) cT =>
  match Qb P N cR, Qb P N cT with
  | some aR, some aT => some ⟨[], t, aR, aT⟩
  | _, _ => none
 | .seq x y =>
  match Qb P N x, Qey P N y with
  | some a, some r => some { r with pres := a :: r.pres }
  | _, _ => none
 | _ => none
def Qge (P : Prg) (N M t : Nat) (aT : AC) (Q : Exit → St → Prop) (st : St) : Prop :=
 ∃ (gf : Nat) (cs : List AV) (xs : Fin 0 → AV), look st.fr t = .fn (.func gf) [] [.cell cs] ∧ Enters P gf ∧ isDL cs = true ∧ QeW P gf cs [] xs ∧ wpC P N st.ob.length aT Q st
def Qox (P : Prg) (N M t : Nat) (aR aT : AC) (Q : Exit → St → Prop) : List AC → St → Prop
 | [], st => wpC P N M aR (XY (Qge P N M t aT Q) Q) st
 | a :: as, st => wpC P N M a (XY (Qox P N M t aR aT Q as) Q) st
theorem QkM {P : Prg} {N M : Nat} {Q : Exit → St → Prop} (hQ : ∀ e st, Q e st → e = .normal ∨ e = .ret) : ∀ (c : Code) (r : RC0) (st : St), Qey P.prog N c = some r → Qox P N M r.t r.aR r.aT Q r.pres st →
  ∀ (Γ : Ctx) (a : Act) (w : World), Fit P N Γ → Γ.X0.ob.length = M → Γ.ds = [] → Sim Γ st a w → c.wp P (Qng Γ Q) a w := by
 intro c
 induction c with
 | seq x y _ ihy =>
  intro r st hc h Γ a w hN hM hds hs
  unfold Qey at hc
  split at hc
  ·rename_i cR id t ps asn body cT heq
   cases heq
   split at hc
   case h_2 => cases hc
   rename_i aR aT hR hT
   cases hc
   refine wp_seq (wp_seq (wp_mono (Qn cR aR _ st hR h Γ a w hN hM hs) ?_))
   rintro e a1 w1 ⟨st1, hq, hs1⟩
   cases e with
   | exit id => exact .inl ⟨st1, hq, hs1⟩
   | goto l => exact .inl ⟨st1, hq, hs1⟩
   | ret => exact .inl ⟨st1, hq, hs1⟩
   | panic ch => exact .inl ⟨st1, hq, hs1⟩
   | outgrown => exact .inl ⟨st1, hq, hs1⟩
   | normal =>
    obtain ⟨gf, cs, xs, hfn, hE, hcs, hI, hdone⟩ := hq
    obtain ⟨fr, ob⟩ := st1
    have hsz : Γ.X0.w.heap.size ≤ w1.heap.size := hs1.2.2.1.size
    have hBz : Γ.B ≤ w1.heap.size := by obtain ⟨_, _, _, _, g, _⟩ := hs1; exact g.size
    have hw := Qk7 (ps := ps) (asn := asn) (body := body) (Q := fun e st => e = .normal ∧ st = ⟨fr, ob⟩) hfn hE hcs hI ⟨rfl, rfl⟩ hN hds hs1
    refine wp_block (wp_mono hw ?_)
    rintro e a2 w2 ⟨D, st2, hD, hm, ⟨rfl, rfl⟩, hs3⟩
    obtain ⟨q1, q2, q3, be, g, m, hfr⟩ := hs3
    let Γ2 : Ctx := ⟨Γ.B, ⟨w2, ob, be, Γ.X0.C⟩, N, [{ target := .collected D, args := #[] }]⟩
    have hs4 : Sim Γ2 ⟨fr, ob⟩ a2 w2 := ⟨q1, by rw [q2]; exact hN.1, Below.refl _ _, be, g, Moves.refl _, hfr⟩
    refine wp_mono (Qn _ aT Q _ hT hdone Γ2 a2 w2 ⟨rfl, hN.2.move m⟩ rfl hs4) ?_
    rintro e a3 w3 ⟨st3, hq3, ⟨p1, p2, p3, be3, g3, m3, hfr3⟩⟩
    have hk := (m3.keeps g p3.size 0).same D _ (yd _) hm rfl
    exact .inr ⟨D, st3, by omega, by omega, hk, hq3, ⟨p1, by rw [p2]; exact hN.1.symm, q3.trans p3, be3, g3, m.trans m3, hfr3⟩⟩
  ·rename_i heq
   split at hc
   case h_2 => cases hc
   rename_i x' y' _ _ hx hy
   cases heq
   cases hc
   refine wp_seq (wp_mono (Qn x _ _ st hx h Γ a w hN hM hs) ?_)
   rintro e a' w' ⟨st', hq, hs'⟩
   cases e with
   | normal => exact ihy _ st' hy hq Γ a' w' hN hM hds hs'
   | exit id => exact .inl ⟨st', hq, hs'⟩
   | goto l => exact .inl ⟨st', hq, hs'⟩
   | ret => exact .inl ⟨st', hq, hs'⟩
   | panic ch => exact .inl ⟨st', hq, hs'⟩
   | outgrown => exact .inl ⟨st', hq, hs'⟩
  ·rename_i h1 h2
   exact absurd rfl (h2 x y)
 | _ => intro r st hc; simp [Qey] at hc
def Qmj (P : Prg) (f : FuncId) (N : Nat) (rl : List ResultVar) (r : RC0) : Prop :=
 ∃ fn, P.prog.funcs[f]? = some fn ∧ (fn.name == "runtime.NumGoroutine") = false ∧ fn.ntmps = N ∧ fn.results.toList = rl ∧ fn.body.bind (Qey P.prog N) = some r
theorem ACall.of_range0 {P : Prg} {f : FuncId} {N : Nat} {rl : List ResultVar} {r : RC0} (hbody : Qmj P f N rl r)
  {avs : List AV} {ob : List Ob} {K : AV → List Ob → Prop} (hlen : avs.length ≤ N)
  (h0 : Qox P N ob.length r.t r.aR r.aT (QaZ P rl K) r.pres ⟨Qz 0 avs, ob⟩) : ACall P f avs ob K := by
 obtain ⟨fn, hf, hn, hN, hrl, hbc⟩ := hbody
 obtain ⟨c, hb, hsp⟩ := qe.1 hbc
 subst hN
 subst hrl
 refine ⟨⟨fn, hf, hn, by rw [hb]; rfl⟩, fun B w be C vs g hG hr' => ?_⟩
 refine (callsIn_wide (n := 5)).1 (callsIn_of_wp_marks hf hb trivial ?_)
 rw [wpIn_wide]
 have hvl := hr'.length
 let Γ : Ctx := ⟨B, ⟨w, ob, be, C⟩, fn.ntmps, []⟩
 have hs : Sim Γ ⟨Qz 0 avs, ob⟩ { tmps := vs.toArray ++ Array.replicate (fn.ntmps - vs.toArray.size) undef, defers := [] } w := by
  refine ⟨rfl, by simp [Γ]; omega, Below.refl _ _, be, g, Moves.refl _, fun i => ?_⟩
  rcases ZV avs vs 0 hr' i with h1 | ⟨_, v, h2, h3⟩
  ·show Rep _ (look (Qz 0 avs) i) _
   rw [h1]; simp only [Rep]
  ·have h4 : (vs.toArray ++ Array.replicate (fn.ntmps - vs.toArray.size) undef).getD i undef = v := by
    simp only [yJ] at h2
    have hlt := (qb.1 h2).1
    rw [qr, yg (by simpa using hlt)]
    simp [h2]
   show Rep _ (look (Qz 0 avs) i) ((vs.toArray ++ Array.replicate (fn.ntmps - vs.toArray.size) undef).getD i undef)
   rw [h4]
   exact h3
 have hQ : ∀ e st, QaZ P fn.results.toList K e st → e = .normal ∨ e = .ret := by
  intro e st h
  cases e <;> first | exact .inl rfl | exact .inr rfl | exact h.elim
 refine wp_mono (QkM hQ c r _ hsp h0 Γ _ w ⟨rfl, hG⟩ rfl rfl hs) ?_
 have fin : ∀ (st : St) (a' : Act) (w' : World) (be' : List (Option (Nat × Nat))), Below B w w' → Held B ⟨w', st.ob, be', C⟩ → Moves ⟨w, ob, be, C⟩ ⟨w', st.ob, be', C⟩ → (∀ i, Rep ⟨w', st.ob, be', C⟩ (look st.fr i) (a'.tmps.getD i undef)) →
   ∀ rs, Z8 st.fr st.ob P fn.results.toList = some rs → K (QM rs) st.ob → ∃ v, (results fn a'.tmps).run P w' = .ok v w' ∧ ∃ v_1 r ob' be', Ending.returned v = .returned v_1 ∧ Below B w w' ∧ Held B ⟨w', ob', be', C⟩ ∧ Moves ⟨w, ob, be, C⟩ ⟨w', ob', be', C⟩ ∧ Rep ⟨w', ob', be', C⟩ r v_1 ∧ K r ob' := by
  intro st a' w' be' hb' g' hm hfr rs hrs hk
  obtain ⟨v, hv1, hv2⟩ := ZI (P := P) (Γ := Γ) g' hfr hrs
  exact ⟨v, hv1, v, QM rs, st.ob, be', rfl, hb', g', hm, hv2, hk⟩
 have plain : ∀ (e : Exit) (st : St) (a' : Act) (w' : World), (e = .normal ∨ e = .ret) → QaZ P fn.results.toList K e st → ∃ rs, Z8 st.fr st.ob P fn.results.toList = some rs ∧ K (QM rs) st.ob := by
  intro e st a' w' he h
  rcases he with rfl | rfl <;> (simp only [QaZ] at h; split at h; exact ⟨_, by assumption, h⟩; exact h.elim)
 rintro e a' w' (⟨st, he, ⟨q1, q2, q3, be', g', hm, hfr⟩⟩ | ⟨D, st, hD1, hD2, hDw, he, ⟨q1, q2, q3, be', g', hm, hfr⟩⟩)
 ·obtain ⟨rs, hrs, hk⟩ := plain e st a' w' (hQ e st he) he
  have h1 := fin st a' w' be' q3 g' hm hfr rs hrs hk
  have q1' : a'.defers = [] := q1
  rcases hQ e st he with rfl | rfl <;> (simp only [bodyPostM]; rw [q1']; exact h1)
 ·obtain ⟨rs, hrs, hk⟩ := plain e st a' w' (hQ e st he) he
  have hgr := grownBy_putObj' w' D (.deferred none)
  have hrow : ∀ r, some D = some r → w.heap.size ≤ r ∧ ∃ o : Obj, w'.heap[r]? = some o ∧ o.isCells = false := fun r e => by cases e; exact ⟨hD2, _, hDw, rfl⟩
  have h1 := fin st a' (w'.putObj D (.deferred none)) be' (q3.grown hgr g'.size (fun k e => by cases e; exact hD1)) (g'.grown hgr fun r e => (hrow r e).2) (hm.grown hgr hrow)
   (fun i => Rep.moveC (QX.grown hgr fun r e => (hrow r e).2) _ _ (hfr i)) rs hrs hk
  have q1' : a'.defers = [{ target := .collected D, args := #[] }] := q1
  rcases hQ e st he with rfl | rfl <;> (simp only [bodyPostM]; rw [q1']; exact ⟨by simp, .inl ⟨D, _, rfl, run_takeDeferred hDw, h1⟩⟩)
def kS0 (P : Prg) (N M : Nat) (r : RC0) (as : List AC) (Q : Exit → St → Prop) : Exit → St → Prop := XY (Qox P N M r.t r.aR r.aT Q as) Q
def wpN (P : Prg) (N M : Nat) (r : RC0) (Q : Exit → St → Prop) (as : List AC) (st : St) : Prop := Qox P N M r.t r.aR r.aT Q as st
def kN (P : Prg) (N M : Nat) (r : RC0) (Q : Exit → St → Prop) : Exit → St → Prop := XY (Qge P N M r.t r.aT Q) Q
section
variable {P : Prg} {N M : Nat} {r : RC0} {Q : Exit → St → Prop} {st : St} {a : AC} {as : List AC}
theorem Qmr : wpN P N M r Q (a :: as) st = wpC P N M a (kS0 P N M r as Q) st := rfl
theorem Qnw : wpN P N M r Q [] st = wpC P N M r.aR (kN P N M r Q) st := rfl
theorem Qj2 : kS0 P N M r as Q .normal st = wpN P N M r Q as st := rfl
theorem QnY : kS0 P N M r as Q .ret st = Q .ret st := rfl
theorem QoU : kN P N M r Q .ret st = Q .ret st := rfl
theorem QgV : kN P N M r Q .normal st = Qge P N M r.t r.aT Q st := rfl
end
theorem ACall.of_rangeN {P : Prg} {f : FuncId} {N : Nat} {rl : List ResultVar} {r : RC0} (hbody : Qmj P f N rl r) {avs : List AV} {ob : List Ob} {K : AV → List Ob → Prop} (hlen : avs.length ≤ N)
  (h0 : wpN P N ob.length r (QaZ P rl K) r.pres ⟨Qz 0 avs, ob⟩) : ACall P f avs ob K :=
 ACall.of_range0 hbody hlen h0
end Go.Am

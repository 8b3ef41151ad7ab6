/- An abstract machine for pure Go code, part 2: sound for the given semantics; no conditions. -/
import Derived.Test.YtpfhdmbamkdnpacGreatDoorLinesOneA1
set_option linter.unusedSectionVars false
set_option linter.unusedSimpArgs false
set_option linter.unusedVariables false
/- The abstract machine: states, calls, operations in their order. -/
namespace Go.Am
open Go.RowKit
mutual
def isD : AV → Bool
 | .own _ _ | .ownc _ _ _ | .view _ _ _ _ | .ref _ _ _ => false
 | .list _ cs | .cell cs | .agg cs | .tup cs => isDL cs
 | .fn _ a b => isDL a && isDL b
 | _ => true
def isDL : List AV → Bool
 | [] => true
 | c :: cs => isD c && isDL cs
end
mutual
theorem Rep.data {X Y : Cx} (h : ∀ (b k : Nat) (v : Value), X.w.cell? ⟨b, k, none⟩ = some v → ¬ X.av b k → Y.w.cell? ⟨b, k, none⟩ = some v ∧ ¬ Y.av b k) : ∀ (c : AV) (v : Value), isD c = true → Rep X c v → Rep Y c v
 | .any, _, _, g => g
 | .int _ _, _, _, g => g
 | .bool _, _, _, g => g
 | .ubool, _, _, g => g
 | .str _, _, _, g => g
 | .lit _, _, _, g => g
 | .emp _, _, _, g => g
 | .list _ cs, _, hd, g => by
  simp only [Rep] at g ⊢
  simp only [isD] at hd
  obtain ⟨a, cap, vs, e, gc, g1, g2⟩ := g
  refine ⟨a, cap, vs, e, gc, ?_, RepL.data h cs vs hd g2⟩
  rcases g1 with g1 | ⟨b, k, e1, g1⟩
  ·exact .inl g1
  ·exact .inr ⟨b, k, e1, fun i v hv => ⟨h _ _ _ (g1 i v hv).1.1 (g1 i v hv).1.2, (g1 i v hv).2⟩⟩
 | .cell cs, _, hd, g => by
  simp only [Rep] at g ⊢
  simp only [isD] at hd
  obtain ⟨b, k, vs, e, g1, g2⟩ := g
  exact ⟨b, k, vs, e, fun i v hv => ⟨h _ _ _ (g1 i v hv).1.1 (g1 i v hv).1.2, (g1 i v hv).2⟩, RepL.data h cs vs hd g2⟩
 | .own _ _, _, hd, _ => by simp only [isD] at hd; cases hd
 | .ownc _ _ _, _, hd, _ => by simp only [isD] at hd; cases hd
 | .view _ _ _ _, _, hd, _ => by simp only [isD] at hd; cases hd
 | .ref _ _ _, _, hd, _ => by simp only [isD] at hd; cases hd
 | .agg cs, _, hd, g => by
  simp only [Rep] at g ⊢
  simp only [isD] at hd
  obtain ⟨vs, e, g2⟩ := g
  exact ⟨vs, e, RepL.data h cs vs hd g2⟩
 | .tup cs, _, hd, g => by
  simp only [Rep] at g ⊢
  simp only [isD] at hd
  obtain ⟨vs, e, g2⟩ := g
  exact ⟨vs, e, RepL.data h cs vs hd g2⟩
 | .fn _ fs cs, _, hd, g => by
  simp only [Rep] at g ⊢
  simp only [isD, qf] at hd
  obtain ⟨va, vb, e, g1, g2⟩ := g
  exact ⟨va, vb, e, RepL.data h fs va hd.1 g1, RepL.data h cs vb hd.2 g2⟩
theorem RepL.data {X Y : Cx} (h : ∀ (b k : Nat) (v : Value), X.w.cell? ⟨b, k, none⟩ = some v → ¬ X.av b k → Y.w.cell? ⟨b, k, none⟩ = some v ∧ ¬ Y.av b k) : ∀ (cs : List AV) (vs : List Value), isDL cs = true → RepL X cs vs → RepL Y cs vs
 | [], _, _, g => by simp only [RepL] at g ⊢; exact g
 | c :: cs, _, hd, g => by
  simp only [RepL] at g ⊢
  simp only [isDL, qf] at hd
  obtain ⟨v, rest, e, g1, g2⟩ := g
  exact ⟨v, rest, e, Rep.data h c v hd.1 g1, RepL.data h cs rest hd.2 g2⟩
end
structure Prg where
 prog : Program
 G : List (Nat × List AV)
 gd : ∀ (g : Nat) (cs : List AV), G.lookup g = some cs → isDL cs = true
instance : Coe Prg Program := ⟨Prg.prog⟩
theorem GOk.data {P : Prg} {X Y : Cx} (hG : GOk P.G X) (h : ∀ (b k : Nat) (v : Value), X.w.cell? ⟨b, k, none⟩ = some v → ¬ X.av b k → Y.w.cell? ⟨b, k, none⟩ = some v ∧ ¬ Y.av b k) : GOk P.G Y :=
 fun q cs hq => Rep.data h _ _ (by simp only [isD]; exact P.gd q cs hq) (hG q cs hq)
def Enters (P : Program) (f : FuncId) : Prop := ∃ fn, P.funcs[f]? = some fn ∧ (fn.name == "runtime.NumGoroutine") = false ∧ fn.body.isNone = false
def VC (P : Prg) (f : FuncId) (ds : List AV) (r : AV) : Prop :=
 Enters P f ∧ isDL ds = true ∧ isD r = true ∧ ∀ (w : World) (C : Nat → Nat → Prop) (vs : List Value), (∀ b k, C b k → b < w.heap.size) → GOk P.G ⟨w, [], [], C⟩ → RepL ⟨w, [], [], C⟩ ds vs →
  Calls P f vs.toArray w fun e w' => ∃ v, e = .returned v ∧ Below w.heap.size w w' ∧ Rep ⟨w', [], [], C⟩ r v
def ACall (P : Prg) (f : FuncId) (avs : List AV) (ob : List Ob) (K : AV → List Ob → Prop) : Prop :=
 Enters P f ∧ ∀ (B : Nat) (w : World) (be : List (Option (Nat × Nat))) (C : Nat → Nat → Prop) (vs : List Value), Held B ⟨w, ob, be, C⟩ → GOk P.G ⟨w, ob, be, C⟩ → RepL ⟨w, ob, be, C⟩ avs vs →
  Calls P f vs.toArray w fun e w' => ∃ v r ob' be', e = .returned v ∧ Below B w w' ∧ Held B ⟨w', ob', be', C⟩ ∧ Moves ⟨w, ob, be, C⟩ ⟨w', ob', be', C⟩ ∧ Rep ⟨w', ob', be', C⟩ r v ∧ K r ob'
theorem ACall.of_vc {P : Prg} {f : FuncId} {ds : List AV} {r : AV} (h : VC P f ds r) {ob : List Ob} {K : AV → List Ob → Prop} (hK : K r ob) : ACall P f ds ob K := by
 obtain ⟨h0, h1, h2, h3⟩ := h
 refine ⟨h0, fun B w be C vs g hG hr => ?_⟩
 let X : Cx := ⟨w, ob, be, C⟩
 have hav : ∀ w' b k, (Cx.mk w' [] [] X.av).av b k ↔ X.av b k := fun w' b k => by
  constructor
  ·rintro (h | ⟨o, x, c, h, _⟩)
   ·exact h
   ·simp at h
  ·exact fun h => .inl h
 have hbnd : ∀ b k, X.av b k → b < w.heap.size := by
  rintro b k (h | ⟨o, x, c, q1, q2, _⟩)
  ·exact yB (g.bnd b k h) g.size
  ·exact g.block_lt q1 q2
 have hG' : GOk P.G ⟨w, [], [], X.av⟩ := fun q cs hq => Rep.data (X := X) (Y := ⟨w, [], [], X.av⟩) (fun b k v hc ha => ⟨hc, fun h => ha ((hav w b k).1 h)⟩) _ _ (by simp only [isD]; exact P.gd q cs hq) (hG q cs hq)
 refine (h3 w X.av vs hbnd hG' (RepL.data (X := X) (Y := ⟨w, [], [], X.av⟩) (fun b k v hc ha => ⟨hc, fun h => ha ((hav w b k).1 h)⟩) _ _ h1 hr)).mono ?_
 rintro e w' ⟨v, rfl, hb, hv⟩
 refine ⟨v, r, ob, be, rfl, hb.mono g.size, g.below hb, Moves.below (X := X) hb, ?_, hK⟩
 refine Rep.data (X := ⟨w', [], [], X.av⟩) (Y := ⟨w', ob, be, C⟩) (fun b k u hc ha => ⟨hc, fun h => ha ((hav w' b k).2 ?_)⟩) _ _ h2 hv
 rcases h with h | ⟨o, x, c, q1, q2, q3⟩
 ·exact .inl h
 ·exact .inr ⟨o, x, c, q1, q2, q3⟩
structure St where
 fr : List (Nat × AV)
 ob : List Ob
structure Ctx where
 B : Nat
 X0 : Cx
 N : Nat
 /-- What stands deferred. -/
 ds : List Deferred
def Sim (Γ : Ctx) (st : St) (a : Act) (w : World) : Prop :=
 a.defers = Γ.ds ∧ a.tmps.size = Γ.N ∧ Below Γ.B Γ.X0.w w ∧ ∃ be, Held Γ.B ⟨w, st.ob, be, Γ.X0.C⟩ ∧ Moves Γ.X0 ⟨w, st.ob, be, Γ.X0.C⟩ ∧
  ∀ i, Rep ⟨w, st.ob, be, Γ.X0.C⟩ (look st.fr i) (a.tmps.getD i undef)
def QQ (fr : List (Nat × AV)) (dst : Option Nat) (v : AV) : List (Nat × AV) :=
 match dst with
 | some d => (d, v) :: fr
 | none => fr
def Qy (fr : List (Nat × AV)) : Option (Nat × Bool) → Option Bool
 | none => some true
 | some (d, b) =>
  match look fr d with
  | .bool t => some (t == b)
  | .tup [] => some false
  | _ => none
def wpO (P : Prg) : List AO → (St → Prop) → St → Prop
 | [], K, st => K st
 | o :: os, K, st =>
  match Qy st.fr o.guard with
  | some true =>
   match o.op with
   | .call f args => ACall P f (args.map (opd P.G st.fr)) st.ob fun r ob' => wpO P os K ⟨QQ st.fr o.dst r, ob'⟩
   | .callv f args =>
    match look st.fr f with
    | .fn (.func g) fs cs => ACall P g (fs ++ args.map (opd P.G st.fr) ++ cs) st.ob fun r ob' => wpO P os K ⟨QQ st.fr o.dst r, ob'⟩
    | _ => False
   | .op p =>
    match aop (opd P.G st.fr) st.ob st.ob.length p with
    | some (v, u) => wpO P os K ⟨QQ st.fr o.dst v, app st.ob u⟩
    | none => False
  | some false => wpO P os K ⟨QQ st.fr o.dst (.tup []), st.ob⟩
  | none => False
theorem Qbs {fr : List (Nat × AV)} {d i : Nat} {v : AV} : look ((d, v) :: fr) i = if i = d then v else look fr i := rfl
theorem Qdo {X : Cx} {fr : List (Nat × AV)} {a : Act} {N : Nat} (hN : a.tmps.size = N) (h : ∀ i, Rep X (look fr i) (a.tmps.getD i undef)) {dst : Option Nat} (hd : ∀ d, dst = some d → d < N) {v : Value} {av : AV} (hv : Rep X av v) :
  ∀ i, Rep X (look (QQ fr dst av) i) ((a.put dst v).tmps.getD i undef) := by
 intro i
 cases dst with
 | none => exact h i
 | some d =>
  have hlt := hd d rfl
  simp only [QQ, Qbs, Act.put]
  split
  ·rename_i e
   subst e
   have : i < a.tmps.size := by omega
   simp [this]
   exact hv
  ·rename_i e
   have := h i
   simp only [qr] at this ⊢
   rw [yH (fun h => e h.symm)]
   exact this
theorem J1 {a : Act} {dst : Option Nat} {v : Value} : (a.put dst v).tmps.size = a.tmps.size := by
 cases dst <;> simp [Act.put]
theorem Xn {a : Act} {dst : Option Nat} {v : Value} : (a.put dst v).defers = a.defers := by
 cases dst <;> rfl
theorem Q3 {P : Program} {N : Nat} {ops : Array Oper} {o : Oper} {q : AO} (h : Xj P N ops o = some q) :
  cAK P o.op = some q.op ∧ q.dst = o.dst ∧ (∀ d, o.dst = some d → d < N) ∧
   ((o.guard = none ∧ q.guard = none) ∨ ∃ j b d, o.guard = some (j, b) ∧ (ops[j]?).bind (·.dst) = some d ∧ q.guard = some (d, b)) := by
 unfold Xj at h
 split at h
 ·cases h
 rename_i p hp
 split at h
 case isFalse => cases h
 rename_i hd
 have hd' : ∀ d, o.dst = some d → d < N := fun d e => by rw [e] at hd; simpa [Qo8] using hd
 split at h
 ·cases h
  exact ⟨hp, rfl, hd', .inl ⟨by assumption, rfl⟩⟩
 ·rename_i j b hg
  split at h <;> cases h
  exact ⟨hp, rfl, hd', .inr ⟨j, b, _, hg, by assumption, rfl⟩⟩
theorem QU {P : Program} {N : Nat} {ops : Array Oper} {o : Oper} {q : AO} (hc : Xj P N ops o = some q) {X : Cx} {fr : List (Nat × AV)} {a : Act} (h : ∀ i, Rep X (look fr i) (a.tmps.getD i undef)) {t : Bool}
  (hw : Qy fr q.guard = some t) : Region.wanted o (yielded ops a.tmps) = t := by
 obtain ⟨_, _, _, hg⟩ := Q3 hc
 rcases hg with ⟨h1, h2⟩ | ⟨j, b, d, h1, h2, h3⟩
 ·rw [h2] at hw
  simp [Qy] at hw
  subst hw
  simp [Region.wanted, h1]
 ·rw [h3] at hw
  simp only [Qy] at hw
  have hr := h d
  split at hw
  ·rename_i t' hl
   rw [hl] at hr
   simp only [Rep] at hr
   cases hw
   have hd : a.tmps[d]? = some (.bool t') := by
    simp only [qr] at hr
    cases hq : a.tmps[d]? with
    | none => rw [hq] at hr; simp [undef] at hr
    | some v => rw [hq] at hr; simp at hr; rw [hr]
   simp only [Region.wanted, h1, yielded, h2, yW, hd]
   cases t' <;> cases b <;> rfl
  ·rename_i hl
   rw [hl] at hr
   simp only [Rep] at hr
   cases hw
   obtain ⟨vs, hr, h4⟩ := hr
   simp only [RepL] at h4
   subst h4
   have hd : ∀ u, a.tmps[d]? = some u → u = .tuple #[] := fun u hu => by
    simp only [qr, hu] at hr
    simpa using hr
   simp only [Region.wanted, h1, yielded, h2, yW]
   cases hq : a.tmps[d]? with
   | none => simp
   | some u => rw [hd u hq]; simp
  ·cases hw
end Go.Am
/- The abstract machine: code. -/
namespace Go.Am
open Go.RowKit
theorem Q7 {P : Program} {f : FuncId} (h : Enters P f) (args : Array Value) (w : World) : (callFunc f args).run P w = .ok (.enter f args) w := by
 obtain ⟨fn, h1, h2, h3⟩ := h
 simp only [callFunc, Sem.run_bind, run_program, Result.andThen_ok, h1, h2, h3, ya, yS, Sem.run_pure]
theorem Qna {op : Op} {f : FuncId} {args : List Operand} (h : cFn op = some (.call f args)) : ∃ c, op = .call c ∧ c.callee = .value (.func f) ∧ args = c.args.toList := by
 unfold cFn at h
 split at h
 ·split at h <;> cases h
  exact ⟨_, rfl, by assumption, rfl⟩
 ·cases h
theorem QlX {op : Op} {t : Nat} {args : List Operand} (h : cFn op = some (.callv t args)) : ∃ c, op = .call c ∧ c.callee = .value (.tmp t) ∧ args = c.args.toList := by
 unfold cFn at h
 split at h
 ·split at h <;> cases h
  exact ⟨_, rfl, by assumption, rfl⟩
 ·cases h
theorem Qpe {op : Op} {p : AOp} : cFn op ≠ some (.op p) := by
 intro h
 unfold cFn at h
 split at h
 ·split at h <;> cases h
 ·cases h
theorem Qc6 {P : Program} {op : Op} {f : FuncId} {args : List Operand} (h : cAK P op = some (.call f args)) : ∃ c, op = .call c ∧ c.callee = .value (.func f) ∧ args = c.args.toList := by
 unfold cAK at h
 split at h
 ·cases h; exact Qna (by assumption)
 ·simp at h
theorem Xw {P : Program} {op : Op} {f : Nat} {args : List Operand} (h : cAK P op = some (.callv f args)) : ∃ c, op = .call c ∧ c.callee = .value (.tmp f) ∧ args = c.args.toList := by
 unfold cAK at h
 split at h
 ·cases h; exact QlX (by assumption)
 ·simp at h
theorem QeN {P : Program} {op : Op} {p : AOp} (h : cAK P op = some (.op p)) (hp : p ≠ .bad) : cOp P op = some p := by
 unfold cAK at h
 split at h
 ·rename_i hk; cases h; exact absurd hk Qpe
 ·cases hc : cOp P op with
  | none => rw [hc] at h; simp at h; exact absurd h.symm hp
  | some q => rw [hc] at h; simp at h; rw [h]
theorem QaW {η : Operand → AV} {ob : List Ob} {id : Nat} {p : AOp} {r : AV × Option (Nat × Ob)} (h : aop η ob id p = some r) : p ≠ .bad := by
 rintro rfl
 simp [aop] at h
section
variable {P : Prg} {N : Nat} {Γ : Ctx}
def Fit (P : Prg) (N : Nat) (Γ : Ctx) : Prop := Γ.N = N ∧ GOk P.G Γ.X0
theorem Sim.eta {st : St} {a : Act} {w : World} (hs : Sim Γ st a w) (hG : GOk P.G Γ.X0) : ∃ be, Held Γ.B ⟨w, st.ob, be, Γ.X0.C⟩ ∧ Moves Γ.X0 ⟨w, st.ob, be, Γ.X0.C⟩ ∧ (∀ x, Rep ⟨w, st.ob, be, Γ.X0.C⟩ (opd P.G st.fr x) (a.eval x)) ∧ ∀ i, Rep ⟨w, st.ob, be, Γ.X0.C⟩ (look st.fr i) (a.tmps.getD i undef) := by
 obtain ⟨_, _, _, be, h1, h2, h3⟩ := hs
 exact ⟨be, h1, h2, QnP (hG.move h2) h3, h3⟩
theorem Sim.put {st : St} {a : Act} {w w' : World} (hs : Sim Γ st a w) {dst : Option Nat} (hd : ∀ d, dst = some d → d < Γ.N) {be be' : List (Option (Nat × Nat))} (hm0 : Moves Γ.X0 ⟨w, st.ob, be, Γ.X0.C⟩)
  (h3 : ∀ i, Rep ⟨w, st.ob, be, Γ.X0.C⟩ (look st.fr i) (a.tmps.getD i undef)) {ob' : List Ob} (hb : Below Γ.B w w') (hh : Held Γ.B ⟨w', ob', be', Γ.X0.C⟩) (hm : Moves ⟨w, st.ob, be, Γ.X0.C⟩ ⟨w', ob', be', Γ.X0.C⟩) {v : Value} {av : AV}
  (hv : Rep ⟨w', ob', be', Γ.X0.C⟩ av v) : Sim Γ ⟨QQ st.fr dst av, ob'⟩ (a.put dst v) w' := by
 obtain ⟨q1, q2, q3, _⟩ := hs
 refine ⟨by rw [Xn]; exact q1, by rw [J1]; exact q2, q3.trans hb, be', hh, hm0.trans hm, ?_⟩
 exact Qdo q2 (fun i => Rep.move hm _ _ (h3 i)) hd hv
theorem JF (hN : Fit P N Γ) {ops : Array Oper} {Q : Exit → Act → World → Prop} {K : St → Prop} (hK : ∀ st a w, K st → Sim Γ st a w → Q .normal a w) : ∀ (l : List Oper) (qs : List AO) (st : St) (a : Act) (w : World),
  l.mapM (Xj P N ops) = some qs → wpO P qs K st → Sim Γ st a w → wpList P ops Q l a w
 | [], qs, st, a, w, hl, hw, hs => by
  simp at hl
  subst hl
  simp only [wpO] at hw
  exact hK st a w hw hs
 | o :: l, qs, st, a, w, hl, hw, hs => by
  simp only [qP, qx, qk, qe, qc] at hl
  obtain ⟨q, hq, qs', hqs, rfl⟩ := hl
  have hsp := Q3 hq
  obtain ⟨c1, c2, c3, _⟩ := hsp
  obtain ⟨be, g, hm0, hη, hfr⟩ := hs.eta hN.2
  have hd : ∀ d, o.dst = some d → d < Γ.N := fun d e => by rw [hN.1]; exact c3 d e
  simp only [wpO] at hw
  unfold wpList
  split at hw
  case h_3 => exact hw.elim
  case h_2 hwant =>
   have hwd := QU hq hfr hwant
   rw [hwd]
   simp only [ya, yS]
   rw [c2] at hw
   exact JF hN hK l qs' _ _ _ hqs hw (hs.put hd hm0 hfr (Below.refl _ _) g (Moves.refl _) (by simp [Rep, undef, RepL]))
  case h_1 hwant =>
   have hwd := QU hq hfr hwant
   rw [hwd]
   simp only [yI]
   refine .inl ?_
   have call : ∀ (f : FuncId) (avs : List AV) (vs : List Value), RepL ⟨w, st.ob, be, Γ.X0.C⟩ avs vs → (execOp a.eval o).run P w = (callFunc f vs.toArray).run P w →
     ACall P f avs st.ob (fun r ob' => wpO P qs' K ⟨QQ st.fr o.dst r, ob'⟩) → o.wp P a w (wpList P ops Q l) Q := by
    intro f avs vs hr hrun hcall
    obtain ⟨he, hcall⟩ := hcall
    unfold Oper.wp
    rw [hrun, Q7 he]
    refine (hcall Γ.B w be Γ.X0.C vs g (hN.2.move hm0) hr).mono ?_
    rintro e w' ⟨v, r, ob', be', rfl, hb, hh, hm, hv, hk⟩
    exact JF hN hK l qs' _ _ _ hqs hk (hs.put hd hm0 hfr hb hh hm hv)
   split at hw
   ·rename_i f args hop
    rw [c2] at hw
    rw [hop] at c1
    obtain ⟨c, ho, hcal, rfl⟩ := Qc6 c1
    refine call f _ _ (QP g hη c.args.toList) ?_ hw
    have : c.args.map a.eval = (c.args.toList.map a.eval).toArray := by apply q9; simp
    simp only [execOp, ho, resolve, hcal, Deferred.ofValue, Act.eval, invoke, Sem.run_bind, Sem.run_pure, Result.andThen_ok, ← this]
    simp
   ·rename_i f args hop
    rw [c2] at hw
    rw [hop] at c1
    obtain ⟨c, ho, hcal, rfl⟩ := Xw c1
    split at hw
    case h_2 => exact hw.elim
    rename_i fid fs cs hf
    have hr := hfr f
    rw [hf] at hr
    simp only [Rep] at hr
    obtain ⟨va, vb, e1, e2, e3⟩ := hr
    have e4 : a.eval (.tmp f) = .func (.func fid) va.toArray vb.toArray := e1
    refine call fid _ _ ((e2.append (QP g hη c.args.toList)).append e3) ?_ hw
    have : va.toArray ++ c.args.map a.eval ++ vb.toArray = (va ++ c.args.toList.map a.eval ++ vb).toArray := by apply q9; simp
    simp only [execOp, ho, resolve, hcal, e4, Deferred.ofValue, invoke, Sem.run_bind, Sem.run_pure, Result.andThen_ok, this]
   ·rename_i p hop
    rw [hop] at c1
    split at hw
    case h_2 => exact hw.elim
    rename_i v u hv
    rw [c2] at hw
    obtain ⟨vv, w', be', hr, hb, hh, hm, hrep⟩ := QbE g hη (.inl rfl) (fun _ => rfl) (o := o) (QeN c1 (QaW hv)) hv
    unfold Oper.wp
    rcases hr with hr | ⟨hr, rfl⟩
    ·rw [hr]
     exact JF hN hK l qs' _ _ _ hqs hw (hs.put hd hm0 hfr hb hh hm hrep)
    ·rw [hr]
     exact JF hN hK l qs' _ _ _ hqs hw (hs.put hd hm0 hfr hb hh hm hrep)
end
end Go.Am
/- The abstract machine: what an operation looks at, and what it turns. -/
namespace Go.Am
open Go.RowKit
def Qd2 : AV → Option Nat
 | .own o _ | .ownc o _ _ | .view o _ _ _ | .ref o _ _ => some o
 | _ => none
def ZX : AOp → List Operand
 | .mv x => [x]
 | .pick c a b => [c, a, b]
 | .alloc _ _ => []
 | .box _ _ x => [x]
 | .build _ ps => ps.map fun p => p.2.2
 | .bslice _ _ _ _ ps => ps.map fun p => p.2.2
 | .load _ x => [x]
 | .store _ x v => [x, v]
 | .nilck x => [x]
 | .bin _ x y => [x, y]
 | .beq _ x y => [x, y]
 | .nileq _ x => [x]
 | .un _ x => [x]
 | .conv _ x => [x]
 | .mkfn _ fs cs => fs ++ cs
 | .mkslice _ _ _ _ l c => [l, c]
 | .slices x lo hi => x :: (lo.toList ++ hi.toList)
 | .slice _ x lo hi mx => x :: (lo.toList ++ hi.toList ++ mx.toList)
 | .slicea _ _ x lo hi => x :: (lo.toList ++ hi.toList)
 | .faddr _ x => [x]
 | .field _ _ x => [x]
 | .iaddr _ x i => [x, i]
 | .index _ x i => [x, i]
 | .extract x _ => [x]
 | .len _ x => [x]
 | .append _ _ _ _ x y => [x, y]
 | .copy _ _ x y => [x, y]
 | .min xs => xs
 | .max xs => xs
 | .aggeq _ _ x y => [x, y]
 | .cap x => [x]
 | .strsh x => [x]
 | .ifeq _ x => [x]
 | .bad => []
def rdA : AOp → Bool
 | .load _ _ | .store _ _ _ | .nilck _ | .nileq _ _ | .conv .toStr _ | .slice .. | .slicea .. | .faddr .. | .iaddr .. | .len .. | .append .. | .copy .. | .cap .. | .strsh .. => true
 | _ => false
def wrA : AOp → Bool
 | .store .. | .append .. | .copy .. | .strsh .. => true
 | _ => false
def frA : AOp → Bool
 | .alloc .. | .box .. | .bslice .. | .mkslice .. | .append .. => true
 | _ => false
def okW : AOp → Bool
 | .mv .. => true
 | .pick .. => true
 | .alloc .. => true
 | .box .. => true
 | .build .. => true
 | .bslice .. => true
 | .load .. => true
 | .store .. => true
 | .nilck .. => true
 | .bin .. => true
 | .beq .. => true
 | .nileq .. => true
 | .un .. => true
 | .conv .. => true
 | .mkfn .. => true
 | .mkslice .. => true
 | .slices .. => true
 | .slicea .. => true
 | .faddr .. => true
 | .field .. => true
 | .iaddr .. => true
 | .index .. => true
 | .extract .. => true
 | .len .. => true
 | .append .. => true
 | .copy .. => true
 | .min .. => true
 | .max .. => true
 | .aggeq .. => true
 | .cap .. => true
 | .strsh .. => true
 | .ifeq .. => true
 | .bad => true
 | .slice .. => false
theorem Qok {η η' : Operand → AV} {ob : List Ob} {id : Nat} : ∀ {p : AOp}, (∀ x ∈ ZX p, η x = η' x) → aop η ob id p = aop η' ob id p
 | .mv x, h | .box _ _ x, h | .load _ x, h | .nilck x, h | .nileq _ x, h | .un _ x, h | .conv _ x, h | .faddr _ x, h | .field _ _ x, h | .extract x _, h | .len _ x, h | .cap x, h | .strsh x, h | .ifeq _ x, h => by
  have := h x (by simp [ZX])
  simp only [aop, this]
 | .pick c a b, h => by
  have h1 := h c (by simp [ZX]); have h2 := h a (by simp [ZX]); have h3 := h b (by simp [ZX])
  simp only [aop, h1, h2, h3]
 | .alloc _ _, h => rfl
 | .bad, h => rfl
 | .store _ x y, h | .bin _ x y, h | .beq _ x y, h | .mkslice _ _ _ _ x y, h | .iaddr _ x y, h | .index _ x y, h | .append _ _ _ _ x y, h | .copy _ _ x y, h | .aggeq _ _ x y, h => by
  have h1 := h x (by simp [ZX]); have h2 := h y (by simp [ZX])
  simp only [aop, h1, h2]
 | .build z ps, h => by
  have : (ps.map fun p => (p.1, p.2.1, η p.2.2)) = ps.map fun p => (p.1, p.2.1, η' p.2.2) := ye fun p hp => by rw [h p.2.2 (qV.2 ⟨p, hp, rfl⟩)]
  simp only [aop, this]
 | .bslice _ _ _ z ps, h => by
  have : (ps.map fun p => (p.1, p.2.1, η p.2.2)) = ps.map fun p => (p.1, p.2.1, η' p.2.2) := ye fun p hp => by rw [h p.2.2 (qV.2 ⟨p, hp, rfl⟩)]
  simp only [aop, this]
 | .mkfn f fs cs, h => by
  have h1 : fs.map (η) = fs.map (η') := ye fun p hp => h p (by simp [ZX, hp])
  have h2 : cs.map (η) = cs.map (η') := ye fun p hp => h p (by simp [ZX, hp])
  simp only [aop, h1, h2]
 | .slices x lo hi, h => by
  have h1 := h x (by simp [ZX])
  have h2 : lo.map (η) = lo.map (η') := by cases lo with | none => rfl | some y => simp [h y (by simp [ZX])]
  have h3 : hi.map (η) = hi.map (η') := by cases hi with | none => rfl | some y => simp [h y (by simp [ZX])]
  simp only [aop, h1, h2, h3]
 | .slicea _ _ x lo hi, h => by
  have h1 := h x (by simp [ZX])
  have h2 : lo.map (η) = lo.map (η') := by cases lo with | none => rfl | some y => simp [h y (by simp [ZX])]
  have h3 : hi.map (η) = hi.map (η') := by cases hi with | none => rfl | some y => simp [h y (by simp [ZX])]
  simp only [aop, h1, h2, h3]
 | .slice _ x lo hi mx, h => by
  have h1 := h x (by simp [ZX])
  have h2 : lo.map (η) = lo.map (η') := by cases lo with | none => rfl | some y => simp [h y (by simp [ZX])]
  have h3 : hi.map (η) = hi.map (η') := by cases hi with | none => rfl | some y => simp [h y (by simp [ZX])]
  cases mx with
  | none => simp only [aop, h1, h2, h3]
  | some m =>
   have h4 := h m (by simp [ZX])
   simp only [aop, h1, h2, h3, h4]
 | .min xs, h => by
  have h1 : xs.map (η) = xs.map (η') := ye fun p hp => h p (by simp [ZX, hp])
  simp only [aop, h1]
 | .max xs, h => by
  have h1 : xs.map (η) = xs.map (η') := ye fun p hp => h p (by simp [ZX, hp])
  simp only [aop, h1]
section
variable {ob ob' : List Ob}
theorem Qhh {v : AV} (h : ∀ o, Qd2 v = some o → ob[o]? = ob'[o]?) : ZJ ob v = ZJ ob' v := by
 cases v <;> simp only [ZJ]
 case ref o ver k => rw [h o rfl]
theorem QO {sz : Nat} {v : AV} (h : ∀ o, Qd2 v = some o → ob[o]? = ob'[o]?) : Qc ob sz v = Qc ob' sz v := by
 cases v <;> simp only [Qc]
 case own o n => rw [h o rfl]
 case ownc o n c => rw [h o rfl]
 case view o ver k n => rw [h o rfl]
theorem Qli {v : AV} (h : ∀ o, Qd2 v = some o → ob[o]? = ob'[o]?) : QmL ob v = QmL ob' v := by
 cases v
 case own o n => simp only [QmL, h o rfl]
 case ownc o n c => simp only [QmL, h o rfl]
 case emp z => cases z <;> rfl
 all_goals rfl
theorem JI {sz : Nat} {v : AV} {l k : Int} (h : ∀ o, Qd2 v = some o → ob[o]? = ob'[o]?) : Qd3 ob sz v l k = Qd3 ob' sz v l k := by
 cases v
 case own o n => simp only [Qd3, h o rfl]
 case ownc o n c => simp only [Qd3, h o rfl]
 all_goals rfl
theorem Qbk {sz : Nat} {st : Bool} {v : AV} (h : ∀ o, Qd2 v = some o → ob[o]? = ob'[o]?) : QhP ob sz st v = QhP ob' sz st v := by
 simp only [QhP, QO h]
theorem QbF {η : Operand → AV} {id : Nat} {p : AOp} (h : rdA p = true → ∀ x ∈ ZX p, ∀ o, Qd2 (η x) = some o → ob[o]? = ob'[o]?) : aop η ob id p = aop η ob' id p := by
 cases p
 case conv k x =>
  cases k
  case toStr => simp only [aop, QO (h rfl x (by simp [ZX]))]
  all_goals rfl
 case load sz x => simp only [aop, Qhh (h rfl x (by simp [ZX]))]
 case cap x =>
  have h1 := h rfl x (by simp [ZX])
  simp only [aop]
  cases hx : η x <;> first | rfl | skip
  case ownc o n c => rw [hx] at h1; simp only [h1 o rfl]
 case strsh x =>
  have h1 := h rfl x (by simp [ZX])
  simp only [aop]
  cases hx : η x <;> first | rfl | skip
  case own o n => rw [hx] at h1; simp only [h1 o rfl]
 case nileq n x => simp only [aop, Qli (h rfl x (by simp [ZX]))]
 case len k x =>
  have h1 := h rfl x (by simp [ZX])
  simp only [aop]
  cases k with
  | some k => cases k <;> rfl
  | none =>
   simp only [QO h1]
   cases hx : η x <;> first | rfl | skip
   case own o n => rw [hx] at h1; simp only [Qc, h1 o rfl]
   case ownc o n c => rw [hx] at h1; simp only [Qc, h1 o rfl]
   case view o ver k n => rw [hx] at h1; simp only [h1 o rfl]
 case store sz x v =>
  have h1 := h rfl x (by simp [ZX])
  simp only [aop]
  cases hx : η x <;> first | rfl | skip
  case ref o ver k => rw [hx] at h1; simp only [h1 o rfl]
 case nilck x =>
  have h1 := h rfl x (by simp [ZX])
  simp only [aop]
  cases hx : η x <;> first | rfl | skip
  case ref o ver k => rw [hx] at h1; simp only [h1 o rfl]
  case fn f fs cs => cases f <;> rfl
 case faddr f x =>
  have h1 := h rfl x (by simp [ZX])
  simp only [aop]
  cases hx : η x <;> first | rfl | skip
  case ref o ver k => rw [hx] at h1; simp only [h1 o rfl]
 case iaddr k x i =>
  have h1 := h rfl x (by simp [ZX])
  simp only [aop]
  cases η i <;> first | rfl | skip
  cases k <;> cases hx : η x <;> first | rfl | skip
  case slice.own o n => rw [hx] at h1; simp only [h1 o rfl]
  case slice.view o ver k n => rw [hx] at h1; simp only [h1 o rfl]
  case arr.ref o ver k => rw [hx] at h1; simp only [h1 o rfl]
 case slicea len sz x lo hi =>
  have h1 := h rfl x (by simp [ZX])
  simp only [aop]
  cases hx : η x <;> first | rfl | skip
  case ref o ver k =>
   rw [hx] at h1
   cases loA (lo.map (η)) <;> cases hiA len (hi.map (η)) <;> first | rfl | simp only [h1 o rfl]
  case cell cs => cases loA (lo.map (η)) <;> cases hiA len (hi.map (η)) <;> rfl
 case slice sz x lo hi mx =>
  have h1 := h rfl x (by simp [ZX])
  cases mx with
  | none =>
   simp only [aop, QO h1, JI h1]
   cases hx : η x <;> first | rfl | skip
   case ownc o n c =>
    rw [hx] at h1
    simp only [Qk2, h1 o rfl, JI h1]
  | some m => simp only [aop, QO h1, JI h1]
 case append ty sz b st x y =>
  have h1 := h rfl x (by simp [ZX])
  have h2 := h rfl y (by simp [ZX])
  simp only [aop, Qbk h2]
  cases hx : η x <;> first | rfl | skip
  case own o n => rw [hx] at h1; simp only [h1 o rfl]
 case copy sz st x y =>
  have h1 := h rfl x (by simp [ZX])
  have h2 := h rfl y (by simp [ZX])
  simp only [aop, Qbk h2]
  cases hx : η x <;> first | rfl | skip
  case own o n => rw [hx] at h1; simp only [h1 o rfl]
  case view o ver k n => rw [hx] at h1; simp only [h1 o rfl]
 all_goals rfl
end
def ph2 : Ob := ⟨1, 0, 0, [], 0⟩
theorem QhM {η : Operand → AV} {ob : List Ob} {id : Nat} {p : AOp} {v : AV} {o : Nat} {x' : Ob} (hk : okW p = true) (h : aop η ob id p = some (v, some (o, x'))) :
  (frA p = true ∧ o = id ∧ x'.sz ≠ 0) ∨ (wrA p = true ∧ (∃ y ∈ ZX p, Qd2 (η y) = some o) ∧ ∃ b, ob[o]? = some b ∧ x'.sz = b.sz) := by
 cases p
 case alloc => simp only [aop] at h; split at h <;> cases h; rename_i hc; simp only [qf, ql] at hc; exact .inl ⟨rfl, rfl, by simp only [ne_eq]; omega⟩
 case box => simp only [aop] at h; split at h <;> cases h; rename_i hc; simp only [qf, ql] at hc; exact .inl ⟨rfl, rfl, by simp only [ne_eq]; omega⟩
 case bslice => simp only [aop] at h; split at h; rename_i hc; simp only [qf, ql] at hc; split at h <;> cases h; exact .inl ⟨rfl, rfl, by simp only [ne_eq]; omega⟩; cases h
 case mkslice =>
  simp only [aop] at h
  split at h
  case h_2 => cases h
  split at h
  ·rename_i hc; cases h; exact .inl ⟨rfl, rfl, by simp only [ne_eq]; omega⟩
  ·split at h <;> cases h
   rename_i hc
   exact .inl ⟨rfl, rfl, by simp only [ne_eq]; omega⟩
 case store sz x y =>
  simp only [aop] at h
  split at h
  case h_2 => cases h
  rename_i hx
  split at h
  case h_2 => cases h
  rename_i b hb
  split at h <;> cases h
  exact .inr ⟨rfl, ⟨x, by simp [ZX], by rw [hx]; rfl⟩, b, hb, rfl⟩
 case append ty sz b st x y =>
  simp only [aop] at h
  split at h
  case h_2 => cases h
  split at h
  case isFalse => cases h
  rename_i hc
  split at h
  ·split at h <;> cases h; exact .inl ⟨rfl, rfl, by simp only [ne_eq]; omega⟩
  ·rename_i hx
   split at h
   case h_2 => cases h
   rename_i b hb
   split at h <;> cases h
   exact .inr ⟨rfl, ⟨x, by simp [ZX], by rw [hx]; rfl⟩, b, hb, rfl⟩
  ·cases h
 case copy sz st x y =>
  simp only [aop] at h
  split at h
  case h_2 => cases h
  split at h
  case isFalse => cases h
  split at h
  ·cases h
  ·rename_i hx
   split at h
   case h_2 => cases h
   rename_i b hb
   split at h <;> cases h
   exact .inr ⟨rfl, ⟨x, by simp [ZX], by rw [hx]; rfl⟩, b, hb, rfl⟩
  ·rename_i hx
   split at h
   case h_2 => cases h
   rename_i b hb
   split at h <;> cases h
   exact .inr ⟨rfl, ⟨x, by simp [ZX], by rw [hx]; rfl⟩, b, hb, rfl⟩
  ·cases h
 case slice => cases hk
 case strsh x =>
  simp only [aop] at h
  split at h
  ·rename_i hx
   split at h
   case h_2 => cases h
   rename_i b hb
   split at h <;> cases h
   exact .inr ⟨rfl, ⟨x, by simp [ZX], by rw [hx]; rfl⟩, b, hb, rfl⟩
  ·cases h
 all_goals (exfalso; simp only [aop] at h; repeat' (first | (cases h; done) | (simp only [qa] at h; obtain ⟨_, _, h⟩ := h) | split at h))
theorem QiB {v : AV} {cs : List AV} (h : ZJ [] v = some cs) : Qd2 v = none := by
 cases v <;> simp [ZJ, Qd2] at h ⊢
theorem Zt {sz : Nat} {v : AV} {r : Nat × List AV} (h : Qc [] sz v = some r) : Qd2 v = none := by
 cases v <;> simp [Qc, Qd2] at h ⊢
theorem Qi2 {sz : Nat} {st : Bool} {v : AV} {r : Nat × List AV} (h : QhP [] sz st v = some r) : Qd2 v = none := by
 cases st
 ·exact Zt (sz := sz) h
 ·cases v <;> simp [QhP, Qd2] at h ⊢
theorem Qjb {v : AV} {r : Option Bool} (h : QmL [] v = some r) : Qd2 v = none := by
 cases v <;> simp [QmL, Qd2] at h ⊢
theorem Qma {η : Operand → AV} {ob : List Ob} {id : Nat} {p : AOp} {r : AV × Option (Nat × Ob)} (h : aop η [] id p = some r) : aop η ob id p = some r := by
 have key : ∀ {x : Operand}, Qd2 (η x) = none → ∀ o, Qd2 (η x) = some o → ([] : List Ob)[o]? = ob[o]? := fun h o h' => by rw [h] at h'; cases h'
 cases p
 case conv k x =>
  cases k
  case toStr =>
   have h0 := h
   simp only [aop] at h
   split at h
   ·rename_i h1
    rw [← h0]
    exact (QbF fun _ y hy => by simp only [ZX, qZ] at hy; subst hy; exact key (Zt h1)).symm
   ·cases h
  all_goals exact h
 case load sz x =>
  have h0 := h
  simp only [aop] at h
  split at h
  ·rename_i h1
   rw [← h0]
   exact (QbF fun _ y hy => by simp only [ZX, qZ] at hy; subst hy; exact key (QiB h1)).symm
  ·cases h
 case nileq n x =>
  rw [← h]
  refine (QbF fun _ y hy => ?_).symm
  simp only [ZX, qZ] at hy; subst hy
  simp only [aop] at h
  split at h
  ·rename_i h1; exact key (Qjb h1)
  ·rename_i h1; exact key (Qjb h1)
  ·cases h
 case len k x =>
  cases k with
  | some k => cases k <;> exact h
  | none =>
   rw [← h]
   refine (QbF fun _ y hy => ?_).symm
   simp only [ZX, qZ] at hy; subst hy
   simp only [aop] at h
   split at h
   ·simp at h
   ·split at h
    ·rename_i h1; exact key (Zt h1)
    ·cases h
 case store sz x v =>
  simp only [aop] at h
  split at h
  ·simp at h
  ·cases h
 case nilck x =>
  simp only [aop] at h ⊢
  split at h
  ·simp at h
  ·rename_i h1; first | exact h | (rw [h1]; exact h)
  ·rename_i h1; first | exact h | (rw [h1]; exact h)
  ·cases h
 case faddr f x =>
  simp only [aop] at h ⊢
  split at h
  ·simp at h
  ·rename_i h1; first | exact h | (rw [h1]; exact h)
  ·cases h
 case iaddr k x i =>
  simp only [aop] at h ⊢
  cases hi : η i <;> rw [hi] at h <;> simp only at h <;> first | (cases h; done) | skip
  cases k with
  | slice sz =>
   cases hx : η x <;> rw [hx] at h <;> simp at h <;> first | (cases h; done) | skip
   simp [h]
  | arr len sz =>
   cases hx : η x <;> rw [hx] at h <;> simp at h <;> first | (cases h; done) | skip
   simp [h]
 case slicea len sz x lo hi =>
  simp only [aop] at h ⊢
  split at h
  ·simp at h
  ·rename_i h1 h2 h3; first | exact h | (simp only [h1, h2, h3]; exact h)
  ·cases h
 case slice sz x lo hi mx =>
  have h2 : Qd2 (η x) = none := by
   cases mx with
   | none =>
    simp only [aop] at h
    split at h
    ·rename_i hx
     split at h
     ·simp [Qk2, Qd3] at h
     ·cases h
    ·split at h
     ·rename_i h1 _; exact Zt h1
     ·cases h
   | some m =>
    simp only [aop] at h
    split at h
    ·rename_i h1 _ _ _; exact Zt h1
    ·cases h
  have h3 := key h2
  cases mx with
  | some m => simp only [aop, ← QO h3, ← JI h3] at h ⊢; exact h
  | none =>
   cases hx : η x <;> (rw [hx] at h2 h3; first | (cases h2; done) | (simp only [aop, hx] at h ⊢; simp only [← QO h3, ← JI h3]; exact h))
 case cap x =>
  simp only [aop] at h ⊢
  cases hx : η x <;> rw [hx] at h <;> simp only at h ⊢ <;> first | exact h | (simp at h; done)
 case strsh x =>
  simp only [aop] at h ⊢
  cases hx : η x <;> rw [hx] at h <;> simp only at h ⊢ <;> first | exact h | (simp at h; done)
 case append ty sz b st x y =>
  simp only [aop] at h
  split at h
  case h_2 => cases h
  rename_i m cs h1
  have h3 := key (Qi2 h1)
  simp only [aop, ← Qbk h3]
  rw [h1]
  simp only
  split at h
  case isFalse => cases h
  rename_i hl
  rw [qE hl]
  split at h
  ·rename_i hx; first | exact h | (rw [hx]; exact h)
  ·simp at h
  ·cases h
 case copy sz st x y =>
  simp only [aop] at h
  split at h
  case h_2 => cases h
  rename_i m cs h1
  have h3 := key (Qi2 h1)
  simp only [aop, ← Qbk h3]
  rw [h1]
  simp only
  split at h
  case isFalse => cases h
  rename_i hl
  rw [qE hl]
  split at h
  ·rename_i hx; first | exact h | (rw [hx]; exact h)
  ·simp at h
  ·simp at h
  ·cases h
 all_goals exact h
end Go.Am
/- The abstract machine: steps whose order is free. -/
namespace Go.Am
open Go.RowKit
structure It where
 id : Nat
 dat : Bool
 q : AO
def Qe9 : Operand → Option Nat
 | .tmp t => some t
 | _ => none
def AO.looks (q : AO) : List Nat :=
 (match q.op with
  | .op p => ZX p
  | .call _ args => args
  | .callv f args => Operand.tmp f :: args).filterMap Qe9 ++
 (match q.guard with
  | some (d, _) => [d]
  | none => [])
def AO.rd (q : AO) : Bool := match q.op with | .op p => rdA p | _ => false
def It.rd (x : It) : Bool := x.q.rd && !x.dat
def It.sees (x : It) (ob : List Ob) : List Ob := if x.dat then [] else ob
def It.ef (x : It) : Bool := x.dat && (match x.q.op with | .callv .. => true | .call .. => true | _ => false)
def AO.isC (q : AO) : Bool := match q.op with | .callv .. => true | .call .. => true | _ => false
def It.ro (x : It) : Bool := x.q.isC && !x.dat && x.id == 1
def AO.wr (q : AO) : Bool := match q.op with | .op p => wrA p | _ => false
def AO.fr (q : AO) : Bool := match q.op with | .op p => frA p | _ => false
def QpU (x y : It) : Bool :=
 (match x.q.dst with | some d => !(y.q.looks.contains d) && y.q.dst != some d | none => true) &&
 (match y.q.dst with | some d => !(x.q.looks.contains d) | none => true) &&
 (!x.q.wr || !y.rd && !y.q.wr) && (!y.q.wr || !x.rd && !x.q.wr) && (!x.q.fr || !y.q.fr || x.id != y.id) && !x.ef && !y.ef && (!x.ro || !y.q.wr && !y.q.fr && (!y.q.isC || y.ro)) && (!y.ro || !x.q.wr && !x.q.fr && (!x.q.isC || x.ro))
structure Ind (x y : It) : Prop where
 a : ∀ d, x.q.dst = some d → d ∉ y.q.looks
 b : ∀ d, x.q.dst = some d → y.q.dst ≠ some d
 c : ∀ d, y.q.dst = some d → d ∉ x.q.looks
 d : x.q.wr = true → y.rd = false ∧ y.q.wr = false
 e : y.q.wr = true → x.rd = false ∧ x.q.wr = false
 f : x.q.fr = true → y.q.fr = true → x.id ≠ y.id
 g : x.ef = false
 h : y.ef = false
 i : x.ro = true → y.q.wr = false ∧ y.q.fr = false ∧ (y.q.isC = true → y.ro = true)
 j : y.ro = true → x.q.wr = false ∧ x.q.fr = false ∧ (x.q.isC = true → x.ro = true)
theorem QgY {x y : It} (h : QpU x y = true) : Ind x y := by
 simp only [QpU, qf, yF, yG, bne_iff_ne] at h
 obtain ⟨⟨⟨⟨⟨⟨⟨⟨h1, h2⟩, h3⟩, h4⟩, h5⟩, h6⟩, h7⟩, h8⟩, h9⟩ := h
 refine ⟨fun d hd => ?_, fun d hd => ?_, fun d hd => ?_, fun hd => ?_, fun hd => ?_, fun hx hy => ?_, h6, h7, fun hr => ?_, fun hr => ?_⟩
 ·simp [hd] at h1; exact h1.1
 ·simp [hd] at h1; exact h1.2
 ·simp [hd] at h2; exact h2
 ·rcases h3 with h3 | h3; rw [hd] at h3; cases h3; exact h3
 ·rcases h4 with h4 | h4; rw [hd] at h4; cases h4; exact h4
 ·rcases h5 with (h5 | h5) | h5
  ·rw [hx] at h5; cases h5
  ·rw [hy] at h5; cases h5
  ·exact h5
 ·rcases h8 with h8 | ⟨⟨h8, h8'⟩, h8''⟩
  ·rw [hr] at h8; cases h8
  ·exact ⟨h8, h8', fun hc => h8''.resolve_left (by rw [hc]; simp)⟩
 ·rcases h9 with h9 | ⟨⟨h9, h9'⟩, h9''⟩
  ·rw [hr] at h9; cases h9
  ·exact ⟨h9, h9', fun hc => h9''.resolve_left (by rw [hc]; simp)⟩
def Qdk : Operand → Operand → Bool
 | .const (.int k n), .const (.int k' m) => decide (k = k') && decide (n = m)
 | _, _ => false
theorem QjO {l c : Operand} (h : Qdk l c = true) : l = c := by
 unfold Qdk at h
 split at h
 ·simp only [qf, ql] at h
  rw [h.1, h.2]
 ·cases h
def Qq : AOp → Bool
 | .bslice .. => true
 | .mv .. => false
 | .pick .. => false
 | .alloc .. => false
 | .box .. => false
 | .build .. => false
 | .load .. => false
 | .store .. => false
 | .nilck .. => false
 | .bin .. => false
 | .beq .. => false
 | .nileq .. => false
 | .un .. => false
 | .conv .. => false
 | .mkfn .. => false
 | .mkslice _ _ _ _ l c => Qdk l c
 | .slices .. => false
 | .slice .. => false
 | .slicea .. => false
 | .faddr .. => false
 | .field .. => false
 | .iaddr .. => false
 | .index .. => false
 | .extract .. => false
 | .len .. => false
 | .append .. => false
 | .copy .. => false
 | .min .. => false
 | .max .. => false
 | .aggeq .. => false
 | .cap .. => false
 | .strsh .. => false
 | .ifeq .. => false
 | .bad => false
def Qaa : Bool → Option (AV × Option (Nat × Ob)) → Option (AV × Option (Nat × Ob))
 | false, r => r
 | true, some (.own o n, some (i, b)) => if o = i ∧ n = b.n ∧ isDL b.cs = true then some (.list n b.cs, none) else none
 | true, _ => none
theorem Qdj {t : Bool} {r : Option (AV × Option (Nat × Ob))} {v : AV} {u : Nat × Ob} (h : Qaa t r = some (v, some u)) : t = false ∧ r = some (v, some u) := by
 unfold Qaa at h
 split at h
 ·exact ⟨rfl, h⟩
 ·split at h <;> cases h
 ·cases h
theorem QjN {r : Option (AV × Option (Nat × Ob))} {v : AV} {u : Option (Nat × Ob)} (h : Qaa true r = some (v, u)) : u = none ∧ ∃ i b, r = some (.own i b.n, some (i, b)) ∧ v = .list b.n b.cs ∧ isDL b.cs = true := by
 unfold Qaa at h
 split at h
 ·contradiction
 ·rename_i i b _
  split at h
  ·rename_i hq
   obtain ⟨rfl, rfl, h3⟩ := hq
   cases h
   exact ⟨rfl, _, b, rfl, rfl, h3⟩
  ·cases h
 ·cases h
def Zx (P : Prg) (ef : Bool) (k : Nat) (f : FuncId) (avs : List AV) (ob : List Ob) (r : AV) (u : Option (Nat × Ob)) : Prop :=
 if ef then ACall P f avs ob (fun r' ob' => r' = r ∧ ob' = app ob u) ∧ (∀ o x', u = some (o, x') → ∃ x, ob[o]? = some x ∧ x ≠ ph)
 else if k = 1 then ACall P f avs ob (fun r' ob' => r' = r ∧ ob' = ob) ∧ u = none
 else (VC P f avs r ∧ u = none) ∨ ∃ o x, Enters P f ∧ (∀ ob', ob'[o]? = some ph2 → ACall P f avs ob' (fun r' ob'' => r' = r ∧ ob'' = ob'.set o x)) ∧ u = some (o, x) ∧ ob[o]? = some ph2 ∧ x.sz ≠ 0
def Xm (P : Prg) (x : It) (st st' : St) : Prop :=
 match Qy st.fr x.q.guard with
 | some true =>
  match x.q.op with
  | .op p => ∃ v u, Qaa (x.dat && Qq p) (aop (opd P.G st.fr) (x.sees st.ob) x.id p) = some (v, u) ∧ (u = none ∨ okW p = true) ∧ st' = ⟨QQ st.fr x.q.dst v, app st.ob u⟩
  | .call f args => ∃ r u, Zx P x.dat x.id f (args.map (opd P.G st.fr)) st.ob r u ∧ st' = ⟨QQ st.fr x.q.dst r, app st.ob u⟩
  | .callv f args =>
   match look st.fr f with
   | .fn (.func g) fs cs => ∃ r u, Zx P x.dat x.id g (fs ++ args.map (opd P.G st.fr) ++ cs) st.ob r u ∧ st' = ⟨QQ st.fr x.q.dst r, app st.ob u⟩
   | _ => False
 | some false => st' = ⟨QQ st.fr x.q.dst (.tup []), st.ob⟩
 | none => False
def Same (s t : St) : Prop := (∀ i, look s.fr i = look t.fr i) ∧ s.ob = t.ob
theorem Same.refl (s : St) : Same s s := ⟨fun _ => rfl, rfl⟩
theorem Same.symm {s t : St} (h : Same s t) : Same t s := ⟨fun i => (h.1 i).symm, h.2.symm⟩
theorem Same.trans {s t u : St} (h : Same s t) (g : Same t u) : Same s u := ⟨fun i => (h.1 i).trans (g.1 i), h.2.trans g.2⟩
theorem Qfl {G : List (Nat × List AV)} {fr fr' : List (Nat × AV)} {x : Operand} (h : ∀ t, x = .tmp t → look fr t = look fr' t) : opd G fr x = opd G fr' x := by
 cases x <;> simp only [opd]
 exact h _ rfl
theorem Qgk {fr fr' : List (Nat × AV)} {g : Option (Nat × Bool)} (h : ∀ d b, g = some (d, b) → look fr d = look fr' d) : Qy fr g = Qy fr' g := by
 cases g with
 | none => rfl
 | some p => obtain ⟨d, b⟩ := p; simp only [Qy, h d b rfl]
theorem Qlb {fr fr' : List (Nat × AV)} (h : ∀ i, look fr i = look fr' i) (dst : Option Nat) (v : AV) : ∀ i, look (QQ fr dst v) i = look (QQ fr' dst v) i := by
 intro i
 cases dst with
 | none => exact h i
 | some d => simp only [QQ, Qbs, h i]
theorem Zj {fr : List (Nat × AV)} {dst : Option Nat} {v : AV} {i : Nat} (h : dst ≠ some i) : look (QQ fr dst v) i = look fr i := by
 cases dst with
 | none => rfl
 | some d => simp only [QQ, Qbs]; rw [qz (fun e => h (by rw [e]))]
theorem Qlc {fr : List (Nat × AV)} {x y : Option Nat} {v u : AV} (h : ∀ d, x = some d → y ≠ some d) : ∀ i, look (QQ (QQ fr x v) y u) i = look (QQ (QQ fr y u) x v) i := by
 intro i
 by_cases hx : x = some i
 ·have hy := h i hx
  rw [Zj hy]
  subst hx
  simp only [QQ, Qbs, yI]
 ·rw [Zj (v := v) (dst := x) (fr := QQ fr y u) hx]
  by_cases hy : y = some i
  ·subst hy; simp only [QQ, Qbs, yI]
  ·rw [Zj hy, Zj hx, Zj hy]
theorem Qbq {q : AO} {t : Nat} : (match q.op with | .op p => Operand.tmp t ∈ ZX p | .call _ args => .tmp t ∈ args | .callv f args => f = t ∨ .tmp t ∈ args) → t ∈ q.looks := by
 intro h
 unfold AO.looks
 refine qp.2 (.inl ?_)
 rw [List.mem_filterMap]
 refine ⟨.tmp t, ?_, rfl⟩
 cases hq : q.op with
 | op p => rw [hq] at h; exact h
 | call f args => rw [hq] at h; exact h
 | callv f args =>
  rw [hq] at h
  rcases h with h | h
  ·rw [h]; exact List.mem_cons_self
  ·exact qN _ h
theorem Qdr {q : AO} {d : Nat} {b : Bool} (h : q.guard = some (d, b)) : d ∈ q.looks := by
 unfold AO.looks
 refine qp.2 (.inr ?_)
 rw [h]; exact List.mem_cons_self
def Qfi (P : Prg) (x : It) (fr : List (Nat × AV)) (ob : List Ob) (v : AV) (u : Option (Nat × Ob)) : Prop :=
 match Qy fr x.q.guard with
 | some true =>
  match x.q.op with
  | .op p => Qaa (x.dat && Qq p) (aop (opd P.G fr) (x.sees ob) x.id p) = some (v, u) ∧ (u = none ∨ okW p = true)
  | .call f args => Zx P x.dat x.id f (args.map (opd P.G fr)) ob v u
  | .callv f args =>
   match look fr f with
   | .fn (.func g) fs cs => Zx P x.dat x.id g (fs ++ args.map (opd P.G fr) ++ cs) ob v u
   | _ => False
 | some false => v = .tup [] ∧ u = none
 | none => False
theorem Z3 {P : Prg} {x : It} {st st' : St} : Xm P x st st' ↔ ∃ v u, Qfi P x st.fr st.ob v u ∧ st' = ⟨QQ st.fr x.q.dst v, app st.ob u⟩ := by
 unfold Xm Qfi
 cases Qy st.fr x.q.guard with
 | none => simp
 | some t =>
  cases t with
  | false =>
   constructor
   ·rintro rfl; exact ⟨_, _, ⟨rfl, rfl⟩, rfl⟩
   ·rintro ⟨v, u, ⟨rfl, rfl⟩, rfl⟩; rfl
  | true =>
   cases x.q.op with
   | op p =>
    constructor
    ·rintro ⟨v, u, h1, h2, h3⟩; exact ⟨v, u, ⟨h1, h2⟩, h3⟩
    ·rintro ⟨v, u, ⟨h1, h2⟩, h3⟩; exact ⟨v, u, h1, h2, h3⟩
   | call f args => exact Iff.rfl
   | callv f args =>
    simp only
    split
    ·exact Iff.rfl
    ·simp
theorem Qb8 {P : Prg} {x : It} {fr fr' : List (Nat × AV)} {ob : List Ob} {v : AV} {u : Option (Nat × Ob)} (h : ∀ t ∈ x.q.looks, look fr t = look fr' t) (ho : Qfi P x fr ob v u) : Qfi P x fr' ob v u := by
 have hg : Qy fr x.q.guard = Qy fr' x.q.guard := Qgk fun d b e => h d (Qdr e)
 unfold Qfi at ho ⊢
 rw [hg] at ho
 split
 ·rename_i hw
  rw [hw] at ho
  simp only at ho
  split
  ·rename_i p hp
   rw [hp] at ho
   simp only at ho
   refine ⟨?_, ho.2⟩
   rw [← ho.1]
   congr 1
   exact (Qok fun y hy => Qfl fun t e => h t (Qbq (by rw [hp]; subst e; exact hy))).symm
  ·rename_i f args hp
   rw [hp] at ho
   simp only at ho
   have : args.map (opd P.G fr) = args.map (opd P.G fr') := ye fun y hy => Qfl fun t e => h t (Qbq (by rw [hp]; subst e; exact hy))
   rw [this] at ho
   exact ho
  ·rename_i f args hp
   rw [hp] at ho
   simp only at ho
   have : args.map (opd P.G fr) = args.map (opd P.G fr') := ye fun y hy => Qfl fun t e => h t (Qbq (by rw [hp]; subst e; exact .inr hy))
   rw [this, h f (Qbq (by rw [hp]; exact .inl rfl))] at ho
   exact ho
 ·rename_i hw
  rw [hw] at ho
  exact ho
 ·rename_i hw
  rw [hw] at ho
  exact ho
theorem QeB {P : Prg} {x : It} {fr : List (Nat × AV)} {ob ob' : List Ob} {v : AV} {u : Option (Nat × Ob)} (hx : x.ef = false) (hx1 : x.ro = false) (h : x.rd = true → ∀ (y : Operand) (o : Nat), Qd2 (opd P.G fr y) = some o → ob[o]? = ob'[o]?)
  (hu : ∀ o x', u = some (o, x') → ob[o]? = some ph2 → ob'[o]? = some ph2) (ho : Qfi P x fr ob v u) : Qfi P x fr ob' v u := by
 have key : ∀ {k : Nat} {f : FuncId} {avs : List AV}, k ≠ 1 → Zx P false k f avs ob v u → Zx P false k f avs ob' v u := fun hk h => by
  simp only [Zx, ya, yS, qz hk] at h ⊢
  rcases h with h | ⟨o, x', h1, h2, h3, h4, h5⟩
  ·exact .inl h
  ·exact .inr ⟨o, x', h1, h2, h3, hu o x' h3 h4, h5⟩
 unfold Qfi at ho ⊢
 split
 ·rename_i hw
  rw [hw] at ho
  simp only at ho
  split
  ·rename_i p hp
   rw [hp] at ho
   simp only at ho
   refine ⟨?_, ho.2⟩
   rw [← ho.1]
   congr 1
   unfold It.sees
   cases hdat : x.dat with
   | true => rfl
   | false => exact (QbF fun hr y _ o hy => h (by simp only [It.rd, AO.rd, hp, hr, hdat]; rfl) y o hy).symm
  ·rename_i f args hp
   rw [hp] at ho
   have hd : x.dat = false := by simpa [It.ef, hp] using hx
   have hk : x.id ≠ 1 := by simpa [It.ro, AO.isC, hp, hd] using hx1
   simp only [hd] at ho ⊢
   exact key hk ho
  ·rename_i f args hp
   rw [hp] at ho
   have hd : x.dat = false := by simpa [It.ef, hp] using hx
   have hk : x.id ≠ 1 := by simpa [It.ro, AO.isC, hp, hd] using hx1
   simp only [hd] at ho ⊢
   split at ho
   ·exact key hk ho
   ·exact ho.elim
 ·rename_i hw
  rw [hw] at ho
  exact ho
 ·rename_i hw
  rw [hw] at ho
  exact ho
theorem ZG {P : Prg} {x : It} {fr : List (Nat × AV)} {ob : List Ob} {v : AV} {o : Nat} {x' : Ob} (hx : x.ef = false) (h : Qfi P x fr ob v (some (o, x'))) :
  (x.q.fr = true ∧ o = x.id ∧ x'.sz ≠ 0) ∨ (x.q.wr = true ∧ (∃ y, Qd2 (opd P.G fr y) = some o) ∧ ∃ b, ob[o]? = some b ∧ x'.sz = b.sz) ∨ (ob[o]? = some ph2 ∧ x'.sz ≠ 0) := by
 have key : ∀ {k : Nat} {f : FuncId} {avs : List AV}, Zx P false k f avs ob v (some (o, x')) → ob[o]? = some ph2 ∧ x'.sz ≠ 0 := fun h => by
  simp only [Zx, ya, yS] at h
  split at h
  ·cases h.2
  rcases h with ⟨_, h⟩ | ⟨o, x', h1, h2, h3, h4, h5⟩
  ·cases h
  ·cases h3; exact ⟨h4, h5⟩
 unfold Qfi at h
 split at h
 ·split at h
  ·rename_i p hp
   rcases QhM (h.2.resolve_left (by simp)) (Qdj h.1).2 with ⟨h1, h2, h3⟩ | ⟨h1, ⟨y, _, h2⟩, b, h3, h4⟩
   ·exact .inl ⟨by simp only [AO.fr, hp, h1], h2, h3⟩
   ·refine .inr (.inl ⟨by simp only [AO.wr, hp, h1], ⟨y, h2⟩, b, ?_, h4⟩)
    unfold It.sees at h3
    split at h3
    ·simp at h3
    ·exact h3
  ·rename_i hp
   have hd : x.dat = false := by simpa [It.ef, hp] using hx
   rw [hd] at h
   exact .inr (.inr (key h))
  ·rename_i hp
   split at h
   ·have hd : x.dat = false := by simpa [It.ef, hp] using hx
    rw [hd] at h
    exact .inr (.inr (key h))
   ·exact h.elim
 ·cases h.2
 ·exact h.elim
theorem QeC {P : Prg} {x : It} {fr : List (Nat × AV)} {ob : List Ob} {v : AV} {u : Option (Nat × Ob)} (hx : x.ef = false) (h1 : x.q.wr = false) (h2 : x.q.fr = false) (h3 : x.q.isC = true → x.ro = true) (h : Qfi P x fr ob v u) : u = none := by
 have hro : ∀ {k : Nat} {f : FuncId} {avs : List AV}, k = 1 → Zx P false k f avs ob v u → u = none := fun hk h => by
  simp only [Zx, ya, yS, qE hk] at h
  exact h.2
 cases u with
 | none => rfl
 | some ux =>
  obtain ⟨o, x'⟩ := ux
  have h0 := h
  unfold Qfi at h
  split at h
  ·split at h
   ·rename_i p hp
    rcases ZG hx h0 with ⟨a, _⟩ | ⟨a, _⟩ | ⟨a, b⟩
    ·rw [h2] at a; cases a
    ·rw [h1] at a; cases a
    ·rcases QhM (h.2.resolve_left (by simp)) (Qdj h.1).2 with ⟨a, _⟩ | ⟨a, _⟩
     ·rw [show x.q.fr = true by simp only [AO.fr, hp, a]] at h2; cases h2
     ·rw [show x.q.wr = true by simp only [AO.wr, hp, a]] at h1; cases h1
   ·rename_i hp
    have hr := h3 (by simp [AO.isC, hp])
    simp only [It.ro, qf, yG, beq_iff_eq] at hr
    rw [hr.1.2] at h
    exact absurd (hro hr.2 h) (by simp)
   ·rename_i hp
    have hr := h3 (by simp [AO.isC, hp])
    simp only [It.ro, qf, yG, beq_iff_eq] at hr
    split at h
    ·rw [hr.1.2] at h
     exact absurd (hro hr.2 h) (by simp)
    ·exact h.elim
  ·cases h.2
  ·exact h.elim
def Qnh (G : List (Nat × List AV)) (st : St) : Prop := ∀ (y : Operand) (o : Nat), Qd2 (opd G st.fr y) = some o → ∃ b, st.ob[o]? = some b ∧ b.sz ≠ 0
theorem Qfn {ob : List Ob} {o : Nat} (h : ∃ b, ob[o]? = some b ∧ b.sz ≠ 0) : ob[o]? ≠ some ph ∧ ob[o]? ≠ some ph2 ∧ o < ob.length := by
 obtain ⟨b, h1, h2⟩ := h
 refine ⟨fun e => ?_, fun e => ?_, (qb.1 h1).1⟩
 ·rw [h1] at e; cases e; exact h2 rfl
 ·rw [h1] at e; cases e; exact h2 rfl
theorem ZH {ob : List Ob} {o o' : Nat} {x' : Ob} (h : o < ob.length) (hne : o' ≠ o) : (app ob (some (o, x')))[o']? = ob[o']? := by
 simp only [app, qE h]
 exact qA fun e => hne e.symm
theorem Qkw {ob : List Ob} {o : Nat} {x' : Ob} (h : o < ob.length) : (app ob (some (o, x')))[o]? = some x' := by
 simp only [app, qE h]
 exact List.getElem?_set_self h
theorem Qne {ob : List Ob} {o o' : Nat} {x x' : Ob} (h : o < ob.length) (h' : o' < ob.length) (hne : o ≠ o') : app (app ob (some (o, x))) (some (o', x')) = app (app ob (some (o', x'))) (some (o, x)) := by
 simp only [app, qE h, qE h', List.length_set]
 exact List.set_comm _ _ hne
theorem Qqi {P : Prg} {x y : It} {s s1 s2 : St} (hi : Ind x y) (hc : Qnh P.G s) (hx : x.q.fr = true → s.ob[x.id]? = some ph) (hy : y.q.fr = true → s.ob[y.id]? = some ph)
  (h1 : Xm P x s s1) (h2 : Xm P y s1 s2) : ∃ t1 t2, Xm P y s t1 ∧ Xm P x t1 t2 ∧ Same t2 s2 := by
 obtain ⟨v, u, ho, rfl⟩ := Z3.1 h1
 obtain ⟨v', u', ho', rfl⟩ := Z3.1 h2
 simp only at ho'
 have f1 : Qfi P y s.fr (app s.ob u) v' u' := Qb8 (fun t ht => by rw [Zj]; intro e; exact hi.a t e ht) ho'
 have lt : ∀ {o x'} {z : It} {w : AV}, z.ef = false → Qfi P z s.fr s.ob w (some (o, x')) → (z.q.fr = true → s.ob[z.id]? = some ph) → o < s.ob.length ∧ x'.sz ≠ 0 := fun he ho hz => by
  rcases ZG he ho with ⟨h3, rfl, h4⟩ | ⟨_, ⟨z, hz⟩, b, h4, h5⟩ | ⟨h3, h4⟩
  ·exact ⟨(qb.1 (hz h3)).1, h4⟩
  ·obtain ⟨b', h6, h7⟩ := hc z _ hz
   rw [h4] at h6; cases h6
   exact ⟨(qb.1 h4).1, by rw [h5]; exact h7⟩
  ·exact ⟨(qb.1 h3).1, h4⟩
 have hne : ∀ (o : Nat) (x' : Ob) (o' : Nat) (y' : Ob), u = some (o, x') → u' = some (o', y') → o ≠ o' := by
  rintro o x' o' y' rfl rfl e
  subst e
  obtain ⟨l1, l2⟩ := lt hi.g ho hx
  rcases ZG hi.h f1 with ⟨h4, e4, _⟩ | ⟨h4, ⟨z', hz'⟩, _⟩ | ⟨h4, _⟩
  ·rcases ZG hi.g ho with ⟨h3, e3, _⟩ | ⟨h3, ⟨z, hz⟩, _⟩ | ⟨h3, _⟩
   ·exact hi.f h3 h4 (by rw [← e3, e4])
   ·rw [e4] at hz; exact (Qfn (hc z _ hz)).1 (hy h4)
   ·rw [e4, hy h4] at h3; cases h3
  ·rcases ZG hi.g ho with ⟨h3, e3, _⟩ | ⟨h3, ⟨z, hz⟩, _⟩ | ⟨h3, _⟩
   ·rw [e3] at hz'; exact (Qfn (hc z' _ hz')).1 (hx h3)
   ·have := (hi.d h3).2; rw [h4] at this; cases this
   ·exact (Qfn (hc z' _ hz')).2.1 h3
  ·rw [Qkw l1] at h4
   cases h4
   exact l2 rfl
 have f2 : Qfi P y s.fr s.ob v' u' := by
  cases u with
  | none => exact f1
  | some ux =>
   have hy1 : y.ro = false := by
    cases hq : y.ro with
    | false => rfl
    | true => obtain ⟨a, b, c⟩ := hi.j hq; cases QeC hi.g a b c ho
   obtain ⟨o, x'⟩ := ux
   refine QeB hi.h hy1 (fun hr z o' hz => ?_) (fun o' y' e h => ?_) f1
   ·refine ZH (lt hi.g ho hx).1 fun e => ?_
    subst e
    rcases ZG hi.g ho with ⟨h3, rfl, _⟩ | ⟨h3, _⟩ | ⟨h3, _⟩
    ·exact (Qfn (hc z _ hz)).1 (hx h3)
    ·have := (hi.d h3).1; rw [this] at hr; cases hr
    ·exact (Qfn (hc z _ hz)).2.1 h3
   ·rwa [ZH (lt hi.g ho hx).1 (fun e' => hne _ _ _ _ rfl e e'.symm)] at h
 have g1 : Qfi P x s.fr (app s.ob u') v u := by
  cases u' with
  | none => exact ho
  | some ux =>
   have hx1 : x.ro = false := by
    cases hq : x.ro with
    | false => rfl
    | true => obtain ⟨a, b, c⟩ := hi.i hq; cases QeC hi.h a b c f2
   obtain ⟨o, x'⟩ := ux
   refine QeB hi.g hx1 (fun hr z o' hz => ?_) (fun o' y' e h => ?_) ho
   ·refine (ZH (lt hi.h f2 hy).1 fun e => ?_).symm
    subst e
    rcases ZG hi.h f2 with ⟨h3, rfl, _⟩ | ⟨h3, _⟩ | ⟨h3, _⟩
    ·exact (Qfn (hc z _ hz)).1 (hy h3)
    ·have := (hi.e h3).1; rw [this] at hr; cases hr
    ·exact (Qfn (hc z _ hz)).2.1 h3
   ·rw [ZH (lt hi.h f2 hy).1 (hne _ _ _ _ e rfl)]
    exact h
 have g2 : Qfi P x (QQ s.fr y.q.dst v') (app s.ob u') v u := Qb8 (fun t ht => by rw [Zj]; intro e; exact hi.c t e ht) g1
 refine ⟨⟨QQ s.fr y.q.dst v', app s.ob u'⟩, ⟨QQ (QQ s.fr y.q.dst v') x.q.dst v, app (app s.ob u') u⟩, Z3.2 ⟨_, _, f2, rfl⟩, Z3.2 ⟨_, _, g2, rfl⟩, fun i => (Qlc hi.b i).symm, ?_⟩
 cases u with
 | none => rfl
 | some ux =>
  cases u' with
  | none => rfl
  | some uy =>
   obtain ⟨o, x'⟩ := ux
   obtain ⟨o', y'⟩ := uy
   exact Qne (lt hi.h f2 hy).1 (lt hi.g ho hx).1 fun e => hne _ _ _ _ rfl rfl e.symm
theorem Xm.same {P : Prg} {x : It} {s s1 t : St} (h : Xm P x s s1) (hs : Same s t) : ∃ t1, Xm P x t t1 ∧ Same s1 t1 := by
 obtain ⟨v, u, ho, rfl⟩ := Z3.1 h
 refine ⟨_, Z3.2 ⟨v, u, ?_, rfl⟩, Qlb hs.1 _ _, by rw [hs.2]⟩
 have := Qb8 (fr' := t.fr) (fun i _ => hs.1 i) ho
 rwa [hs.2] at this
def Qcl (P : Prg) : List It → St → St → Prop
 | [], s, t => Same s t
 | x :: l, s, t => ∃ s1, Xm P x s s1 ∧ Qcl P l s1 t
theorem Qcl.same {P : Prg} : ∀ {l : List It} {s t s' : St}, Qcl P l s t → Same s s' → Qcl P l s' t
 | [], _, _, _, h, hs => hs.symm.trans h
 | _ :: _, _, _, _, ⟨s1, h1, h2⟩, hs => by
  obtain ⟨t1, h3, h4⟩ := h1.same hs
  exact ⟨t1, h3, h2.same h4⟩
def Qnu (l : List It) (s : St) : Prop := ∀ x ∈ l, x.q.fr = true → s.ob[x.id]? = some ph
theorem Xm.pend {P : Prg} {x : It} {l : List It} {s s1 : St} (h : Xm P x s s1) (hc : Qnh P.G s) (hx : x.q.fr = true → s.ob[x.id]? = some ph) (hl : Qnu l s) (hd : ∀ y ∈ l, x.q.fr = true → y.q.fr = true → x.id ≠ y.id) : Qnu l s1 := by
 obtain ⟨v, u, ho, rfl⟩ := Z3.1 h
 intro y hy hf
 have h0 := hl y hy hf
 cases u with
 | none => exact h0
 | some ux =>
  obtain ⟨o, x'⟩ := ux
  show (app s.ob (some (o, x')))[y.id]? = some ph
  by_cases he : x.ef = true
  ·obtain ⟨z, hz, hzp⟩ : ∃ z, s.ob[o]? = some z ∧ z ≠ ph := by
    unfold Qfi at ho
    split at ho
    ·split at ho
     ·rename_i hp; simp [It.ef, hp] at he
     ·have hd : x.dat = true := by simp only [It.ef, qf] at he; exact he.1
      simp only [Zx, hd, yI] at ho
      exact ho.2 _ _ rfl
     ·split at ho
      ·have hd : x.dat = true := by simp only [It.ef, qf] at he; exact he.1
       simp only [Zx, hd, yI] at ho
       exact ho.2 _ _ rfl
      ·exact ho.elim
    ·cases ho.2
    ·exact ho.elim
   rw [ZH (qb.1 hz).1 (fun e => by subst e; rw [hz] at h0; exact hzp (Option.some.inj h0))]
   exact h0
  rcases ZG (by simpa using he) ho with ⟨h3, rfl, _⟩ | ⟨_, ⟨z, hz⟩, _⟩ | ⟨h3, _⟩
  ·rw [ZH (qb.1 (hx h3)).1 (fun e => hd y hy h3 hf e.symm)]
   exact h0
  ·rw [ZH (Qfn (hc z _ hz)).2.2 (fun e => by subst e; exact (Qfn (hc z _ hz)).1 h0)]
   exact h0
  ·rw [ZH (qb.1 h3).1 (fun e => by subst e; rw [h3] at h0; cases h0)]
   exact h0
theorem Qcl.front {P : Prg} (Fine : St → Prop) (hfc : ∀ s, Fine s → Qnh P.G s) : ∀ {pre : List It} {x : It} {post : List It} {s t : St}, Fine s → Qnu (pre ++ x :: post) s →
  (∀ (y : It) (s s1 : St), y ∈ pre → Fine s → (y.q.fr = true → s.ob[y.id]? = some ph) → Xm P y s s1 → Fine s1) →
  (∀ y ∈ pre, Ind y x) → (pre ++ x :: post).Pairwise (fun a b => a.q.fr = true → b.q.fr = true → a.id ≠ b.id) →
  Qcl P (pre ++ x :: post) s t → Qcl P (x :: (pre ++ post)) s t
 | [], _, _, _, _, _, _, _, _, _, h => h
 | y :: pre, x, post, s, t, hF, hp, hstep, hi, hd, h => by
  obtain ⟨s1, h1, h2⟩ := h
  have hy : y.q.fr = true → s.ob[y.id]? = some ph := hp y (by simp)
  have hF1 : Fine s1 := hstep y s s1 (by simp) hF hy h1
  rw [qW, yL] at hd
  have hp1 : Qnu (pre ++ x :: post) s1 := h1.pend (hfc _ hF) hy (fun z hz => hp z (by simp only [qW, qo]; exact .inr hz)) (fun z hz => hd.1 z hz)
  obtain ⟨s2, h3, h4⟩ := Qcl.front Fine hfc hF1 hp1 (fun z a b hz => hstep z a b (by simp [hz])) (fun z hz => hi z (by simp [hz])) hd.2 h2
  obtain ⟨t1, t2, q1, q2, q3⟩ := Qqi (hi y (by simp)) (hfc _ hF) hy (hp x (by simp)) h1 h3
  exact ⟨t1, q1, t2, q2, h4.same q3.symm⟩
end Go.Am
/- The abstract machine: regions whose order Go leaves open. -/
namespace Go.Am
open Go.RowKit
theorem QdB {B : Nat} {X : Cx} (g : Held B X) {e : TypeId} {n : Nat} {cs : List AV} {vs : List Value} (hr : RepL X cs vs) (h1 : ∀ v ∈ vs, v.oneCell' = true) {r : Result Next}
  (hrun : r = .ok (.value (.slice (some ⟨X.w.heap.size, 0, none⟩) n n)) (X.w.alloc (.cells vs.toArray e))) : Eff B X r (.list n cs) X.ob := by
 have hb : Below X.w.heap.size X.w (X.w.alloc (.cells vs.toArray e)) := JN _ (qg _) _
 have g' := g.below hb
 refine ⟨_, _, X.be, .inl hrun, hb.mono g.size, g', Moves.below hb, ?_⟩
 simp only [Rep]
 have hh : (X.w.alloc (.cells vs.toArray e)).heap[X.w.heap.size]? = some (.cells vs.toArray e (0, 0)) := by simp only [World.alloc]; exact Array.getElem?_push_size
 refine ⟨_, n, vs, rfl, qg _, .inr ⟨X.w.heap.size, 0, rfl, fun i v hv => ⟨⟨?_, ?_⟩, h1 v (qK hv)⟩⟩, RepL.move (Moves.below hb) _ _ hr⟩
 ·show (X.w.alloc (.cells vs.toArray e)).cell? _ = _
  rw [cell_of_row _ _ _ _ _ _ hh]
  simpa using hv
 ·rintro (h | ⟨o, x, c, q1, q2, _⟩)
  ·have h2 := g.bnd _ _ h
   have h3 := g.size
   exact absurd h2 (by show ¬ X.w.heap.size < B; omega)
  ·have := g.block_lt (X := X) q1 q2
   omega
theorem QdD {B : Nat} {X : Cx} {P : Program} (g : Held B X) {ρ : Operand → Value} {η : Operand → AV} (hρ : ∀ x, Rep X (η x) (ρ x)) {o : Oper} {t e : TypeId} {len s : Nat} {parts : Array (Nat × Operand)} {z : Value} {cs : List AV} (ho : o.op = .buildSlice t len parts) (ht : P.underlying t = some (.slice e)) (hs : szO P e = some s) (hz : XR P e = some z)
  (hle : len * s ≤ 16777216) (h1 : (z.cells.toList.map cV1).all AV.one = true) (hzs : (z.cells.toList.map cV1).length = s) (h0 : 0 < s)
  (h : X3 (Qp (z.cells.toList.map cV1) len) (parts.toList.map fun p => (p.1 * s, s, η p.2)) = some cs) : Eff B X ((execOp ρ o).run P X.w) (.list len cs) X.ob := by
 have hzs' : z.cells.size = s := by simpa using hzs
 obtain ⟨cv, e1, e2, e3⟩ := Xu (X := X) (place := fun i => some (i * s, s)) (parts.toList.map fun p => (p.1 * s, s, η p.2)) (parts.toList.map fun p => (p.1, ρ p.2)) _ _ cs (Q8 (X := X) (n := len) hzs' h0) (ZF h1 len) (by simp)
  (fun i p q hp hq => by
   simp only [qv, qa] at hp hq
   obtain ⟨p', hp, rfl⟩ := hp
   obtain ⟨q', hq, rfl⟩ := hq
   rw [hp] at hq
   cases hq
   exact ⟨rfl, hρ _⟩) h
 have hlen : cs.length = len * s := by
  have : ∀ (ps : List (Nat × Nat × AV)) (z cs : List AV), X3 z ps = some cs → cs.length = z.length := by
   intro ps
   induction ps with
   | nil => intro z cs h; simp [X3] at h; rw [h]
   | cons p ps ih =>
    obtain ⟨off, sz, v⟩ := p
    intro z cs h
    simp only [X3] at h
    split at h
    ·rename_i hc
     simp only [qf, beq_iff_eq, ql] at hc
     rw [ih _ _ h]
     simp; omega
    ·cases h
  rw [this _ _ _ h, QC, hzs]
 have hmul : len ≤ len * s := ja _ h0
 refine QdB g (e := e) (vs := cv) e2 e3 ?_
 simp only [yV] at e1
 have e4 : (parts.map fun x => (x.1, ρ x.2)).toList = parts.toList.map fun p => (p.1, ρ p.2) := by simp
 have hle' : ¬ (16777216 < len * s) := by omega
 by_cases hl0 : len = 0
 ·subst hl0
  simp at e1
  have r0 : Array.range 0 = #[] := rfl
  simp [r0] at e1
  simp [execOp, ho, Instr.buildSlice, run_underlying ht, ZT hs, e1, newRow, r0]
 ·have hne : ¬ (len * s = 0) := by
   have : 0 < len * s := Nat.mul_pos (by omega) h0
   omega
  simp [execOp, ho, Instr.buildSlice, run_underlying ht, ZT hs, Z1 hz, hle', hne, e1, newRow]
theorem QcQ {B : Nat} {X : Cx} {P : Program} (g : Held B X) {ρ : Operand → Value} {η : Operand → AV} (hρ : ∀ x, Rep X (η x) (ρ x)) {o : Oper} {t e : TypeId} {l c : Operand} {s b : Nat} {z : Value} {k k' : IntKind} {n : Int} (ho : o.op = .makeSlice t l c) (ht : P.underlying t = some (.slice e)) (hs : szO P e = some s) (hb : byO P e = some b) (hz : XR P e = some z)
  (hl : η l = .int k n) (hc : η c = .int k' n) (h0 : 0 ≤ n) (hby : n * b ≤ 281474976710656) (hm : n ≤ 9223372036854775807) (h1 : (z.cells.toList.map cV1).all AV.one = true) (hzs : (z.cells.toList.map cV1).length = s) (hs0 : 0 < s) :
  Eff B X ((execOp ρ o).run P X.w) (.list n.toNat (Qp (z.cells.toList.map cV1) n.toNat)) X.ob := by
 have el := Q2 g hρ hl
 have ec := Q2 g hρ hc
 have hzs' : z.cells.size = s := by simpa using hzs
 have hw : IntKind.i64.wrap n = n := by
  simp [IntKind.wrap, IntKind.bits, IntKind.signed]
  omega
 unfold byO at hb
 obtain ⟨i, hi, rfl⟩ := qa.1 hb
 refine QdB g (e := e) (vs := ((Array.range (n.toNat * s)).map (z.cells[· % z.cells.size]!)).toList) (Q8 hzs' hs0) (QaV (ZF h1 _) (Q8 (X := X) hzs' hs0)) ?_
 have hby' : ¬ (281474976710656 < (i.bytes : Int) * n) := by rw [Int.mul_comm]; omega
 have hneg : ¬ (n < 0) := by omega
 by_cases hn0 : n.toNat = 0
 ·have : n = 0 := by omega
  subst this
  have r0 : Array.range 0 = #[] := rfl
  simp [execOp, ho, Instr.makeSlice, run_underlying ht, el, ec, asInt, asIntOf, typeInfo, hi, hw, ZT hs, newRow, r0]
 ·have hne : ¬ (n.toNat * s = 0) := by
   have : 0 < n.toNat * s := Nat.mul_pos (by omega) hs0
   omega
  simp only [execOp, ho, Instr.makeSlice]
  simp [run_underlying ht, el, ec, asInt, asIntOf, typeInfo, hi, hw, ZT hs, Z1 hz, newRow, hby', hneg, hne]
  congr 2
  apply q9
  simp [Array.toList_range]
theorem Qpc {P : Program} {op : Op} {p : AOp} (h : cOp P op = some p) (hf : Qq p = true) : (∃ t len parts, op = .buildSlice t len parts ∧ Qcf P t len parts = some p) ∨ ∃ t l c, op = .makeSlice t l c ∧ Jo P t l c = some p := by
 cases op <;> first | (simp only [cOp] at h; cases h; done) | skip
 case buildSlice t len parts => exact .inl ⟨t, len, parts, rfl, h⟩
 case makeSlice t l c => exact .inr ⟨t, l, c, rfl, h⟩
 all_goals exfalso
 all_goals simp only [cOp] at h
 all_goals try (cases h; cases hf; done)
 all_goals try (obtain ⟨_, _, rfl⟩ := qa.1 h; cases hf; done)
 all_goals try unfold Qho at h
 all_goals try unfold Qpf at h
 all_goals try unfold QlZ at h
 all_goals try unfold Jo at h
 all_goals try unfold Qhi at h
 all_goals try unfold Qhm at h
 all_goals try unfold Qhl at h
 all_goals try unfold Qhk at h
 all_goals try unfold Qhj at h
 all_goals try (unfold Qnb at h; split at h)
 all_goals try unfold Qpd at h
 all_goals try unfold QdE at h
 all_goals try unfold QlY at h
 all_goals try unfold QpA at h
 all_goals try (split at h)
 all_goals try (split at h)
 all_goals try (split at h)
 all_goals try (cases h; done)
 all_goals try (cases h; cases hf; done)
 all_goals try (obtain ⟨_, _, rfl⟩ := qa.1 h; cases hf; done)
 all_goals simp only [qk, qe, qx] at h
 all_goals try (obtain ⟨_, _, h⟩ := h)
 all_goals try (obtain ⟨_, _, h⟩ := h)
 all_goals try (obtain ⟨_, _, h⟩ := h)
 all_goals try (obtain ⟨_, _, h⟩ := h)
 all_goals try (split at h)
 all_goals try (simp only [qe] at h)
 all_goals try (obtain ⟨_, _, h⟩ := h)
 all_goals try (split at h)
 all_goals try (split at h)
 all_goals try (cases h; done)
 all_goals try (cases h; cases hf; done)
 all_goals first | (cases hf; done) | (simp [Qq] at hf; done)
theorem QjM {B : Nat} {X : Cx} {P : Program} (g : Held B X) {ρ : Operand → Value} {η : Operand → AV} (hρ : ∀ x, Rep X (η x) (ρ x)) {o : Oper} {p : AOp} (hc : cOp P o.op = some p) (hf : Qq p = true) {id i : Nat} {b : Ob} (h : aop η X.ob id p = some (.own i b.n, some (i, b))) :
  Eff B X ((execOp ρ o).run P X.w) (.list b.n b.cs) X.ob := by
 rcases Qpc hc hf with ⟨t, len, ps, ho, hc⟩ | ⟨t, l, c, ho, hc⟩
 case inr =>
  unfold Jo at hc
  simp only [qk, qe] at hc
  obtain ⟨e, he, s, hs, by_, hb, z, hz, hc⟩ := hc
  cases hc
  have hlc : l = c := QjO hf
  subst hlc
  simp only [aop] at h
  split at h
  case h_2 => cases h
  rename_i k n k' m e1 e2
  have hnm : n = m := by rw [e1] at e2; cases e2; rfl
  subst hnm
  split at h
  case isFalse => rw [qz (by omega)] at h; cases h
  rename_i hh
  obtain ⟨_, q1, q2, q3, q4, q5, q6⟩ := hh
  simp only [qc, yc, AV.own.injEq] at h
  obtain ⟨⟨rfl, hn⟩, _, rfl⟩ := h
  exact QcQ g hρ ho (ZA he) hs hb hz e1 e2 q1 q2 q3 q4 q5 q6
 unfold Qcf at hc
 simp only [qk, qe] at hc
 obtain ⟨e, he, s, hs, z, hz, hc⟩ := hc
 split at hc <;> cases hc
 rename_i hle
 simp only [aop, y0] at h
 split at h
 case isFalse => cases h
 rename_i h1
 simp only [qf, beq_iff_eq, ql] at h1
 split at h
 case h_2 => cases h
 rename_i cs hcs
 simp only [qc, yc, AV.own.injEq] at h
 obtain ⟨⟨rfl, hn⟩, _, rfl⟩ := h
 exact QdD g hρ ho (ZA he) hs hz hle h1.1.1 h1.1.2 h1.2 (by simpa [Function.comp_def] using hcs)
theorem Qpj {η : Operand → AV} {ob : List Ob} {id id' : Nat} {p : AOp} (h : frA p = false) : aop η ob id p = aop η ob id' p := by
 cases p <;> first | rfl | (cases h; done)
section
variable {P : Prg} {N : Nat} {Γ : Ctx}
theorem Qdg (hN : Fit P N Γ) {ops : Array Oper} {o : Oper} {x : It} (hq : Xj P N ops o = some x.q) {st st1 : St} (hst : Xm P x st st1) (hsp : x.q.fr = true → QhS st.ob x.id) {a : Act} {w : World} (hs : Sim Γ st a w) :
  (Region.wanted o (yielded ops a.tmps) = false ∧ Sim Γ st1 (a.put o.dst undef) w) ∨
  (Region.wanted o (yielded ops a.tmps) = true ∧ ∃ v w', ((execOp a.eval o).run P w = .ok (.value v) w' ∨ ((execOp a.eval o).run P w = .ok .skip w' ∧ v = undef)) ∧ Sim Γ st1 (a.put o.dst v) w') ∨
  (Region.wanted o (yielded ops a.tmps) = true ∧ ∃ f vs, (execOp a.eval o).run P w = .ok (.enter f vs) w ∧ Calls P f vs w fun e w' => ∃ v, e = .returned v ∧ Sim Γ st1 (a.put o.dst v) w') := by
 have hsp0 := Q3 hq
 obtain ⟨c1, c2, c3, _⟩ := hsp0
 obtain ⟨be, g, hm0, hη, hfr⟩ := hs.eta hN.2
 have hd : ∀ d, o.dst = some d → d < Γ.N := fun d e => by rw [hN.1]; exact c3 d e
 obtain ⟨av, u, ho, rfl⟩ := Z3.1 hst
 unfold Qfi at ho
 split at ho
 case h_3 => exact ho.elim
 case h_2 hwant =>
  obtain ⟨rfl, rfl⟩ := ho
  refine .inl ⟨QU hq hfr hwant, ?_⟩
  rw [c2]
  exact hs.put hd hm0 hfr (Below.refl _ _) g (Moves.refl _) (by simp [Rep, undef, RepL])
 case h_1 hwant =>
  have hwd := QU hq hfr hwant
  have call : ∀ (f : FuncId) (avs : List AV) (vs : List Value), RepL ⟨w, st.ob, be, Γ.X0.C⟩ avs vs → (execOp a.eval o).run P w = (callFunc f vs.toArray).run P w →
    VC P f avs av → u = none → ∃ f vs, (execOp a.eval o).run P w = .ok (.enter f vs) w ∧ Calls P f vs w fun e w' => ∃ v, e = .returned v ∧ Sim Γ ⟨QQ st.fr x.q.dst av, app st.ob u⟩ (a.put o.dst v) w' := by
   intro f avs vs hr hrun hvc hu
   subst hu
   have hcall := ACall.of_vc hvc (ob := st.ob) (K := fun r ob' => r = av ∧ ob' = st.ob) ⟨rfl, rfl⟩
   obtain ⟨he, hcall⟩ := hcall
   refine ⟨f, vs.toArray, by rw [hrun, Q7 he], (hcall Γ.B w be Γ.X0.C vs g (hN.2.move hm0) hr).mono ?_⟩
   rintro e w' ⟨v, r, ob', be', rfl, hb, hh, hm, hv, rfl, rfl⟩
   refine ⟨v, rfl, ?_⟩
   rw [c2]
   exact hs.put hd hm0 hfr hb hh hm hv
  have callE : ∀ (f : FuncId) (avs : List AV) (vs : List Value), RepL ⟨w, st.ob, be, Γ.X0.C⟩ avs vs → (execOp a.eval o).run P w = (callFunc f vs.toArray).run P w →
    ACall P f avs st.ob (fun r' ob' => r' = av ∧ ob' = app st.ob u) → ∃ f vs, (execOp a.eval o).run P w = .ok (.enter f vs) w ∧ Calls P f vs w fun e w' => ∃ v, e = .returned v ∧ Sim Γ ⟨QQ st.fr x.q.dst av, app st.ob u⟩ (a.put o.dst v) w' := by
   intro f avs vs hr hrun hcall
   obtain ⟨he, hcall⟩ := hcall
   refine ⟨f, vs.toArray, by rw [hrun, Q7 he], (hcall Γ.B w be Γ.X0.C vs g (hN.2.move hm0) hr).mono ?_⟩
   rintro e w' ⟨v, r, ob', be', rfl, hb, hh, hm, hv, rfl, rfl⟩
   refine ⟨v, rfl, ?_⟩
   rw [c2]
   exact hs.put hd hm0 hfr hb hh hm hv
  split at ho
  ·rename_i p hop
   refine .inr (.inl ⟨hwd, ?_⟩)
   rw [hop] at c1
   have hsee : ∀ {av : AV} {u : Option (Nat × Ob)}, aop (opd P.G st.fr) (x.sees st.ob) x.id p = some (av, u) → aop (opd P.G st.fr) st.ob x.id p = some (av, u) := fun h => by
    unfold It.sees at h
    split at h
    ·exact Qma h
    ·exact h
   cases hsl : x.dat && Qq p with
   | true =>
    rw [hsl] at ho
    obtain ⟨rfl, i, b, h1, rfl, hbd⟩ := QjN ho.1
    have hof : Qq p = true := by simp only [qf] at hsl; exact hsl.2
    obtain ⟨vv, w', be', hr, hb, hh, hm, hrep⟩ := QjM (X := ⟨w, st.ob, be, Γ.X0.C⟩) (P := P) g hη (o := o) (QeN c1 (QaW (hsee h1))) hof (hsee h1)
    refine ⟨vv, w', ?_, ?_⟩
    ·rcases hr with hr | ⟨hr, hv⟩
     ·exact .inl hr
     ·exact .inr ⟨hr, hv⟩
    ·rw [c2]
     exact hs.put hd hm0 hfr hb hh hm hrep
   | false =>
   rw [hsl] at ho
   simp only [Qaa] at ho
   have ho' : ∃ id', QhS st.ob id' ∧ aop (opd P.G st.fr) st.ob id' p = some (av, u) := by
    by_cases hf : frA p = true
    ·exact ⟨x.id, hsp (by simp only [AO.fr, hop, hf]), hsee ho.1⟩
    ·exact ⟨st.ob.length, .inl rfl, by rw [← hsee ho.1]; exact Qpj (by simpa using hf)⟩
   obtain ⟨id', hid, ho'⟩ := ho'
   obtain ⟨vv, w', be', hr, hb, hh, hm, hrep⟩ := QbE (X := ⟨w, st.ob, be, Γ.X0.C⟩) g hη hid (fun _ => rfl) (o := o) (QeN c1 (QaW ho')) ho'
   refine ⟨vv, w', ?_, ?_⟩
   ·rcases hr with hr | ⟨hr, hv⟩
    ·exact .inl hr
    ·exact .inr ⟨hr, hv⟩
   ·rw [c2]
    exact hs.put hd hm0 hfr hb hh hm hrep
  ·rename_i f args hop
   rw [hop] at c1
   obtain ⟨c, hoc, hcal, rfl⟩ := Qc6 c1
   have hrun : (execOp a.eval o).run P w = (callFunc f (c.args.toList.map a.eval).toArray).run P w := by
    have : c.args.map a.eval = (c.args.toList.map a.eval).toArray := by apply q9; simp
    simp only [execOp, hoc, resolve, hcal, Deferred.ofValue, Act.eval, invoke, Sem.run_bind, Sem.run_pure, Result.andThen_ok, ← this]
    simp
   unfold Zx at ho
   split at ho
   ·exact .inr (.inr ⟨hwd, callE f _ _ (QP g hη c.args.toList) hrun ho.1⟩)
   split at ho
   ·obtain ⟨ho, rfl⟩ := ho
    exact .inr (.inr ⟨hwd, callE f _ _ (QP g hη c.args.toList) hrun ho⟩)
   ·rcases ho with ho | ⟨o', x', _, h2, h3, h4, _⟩
    ·exact .inr (.inr ⟨hwd, call f _ _ (QP g hη c.args.toList) hrun ho.1 ho.2⟩)
    ·subst h3
     exact .inr (.inr ⟨hwd, callE f _ _ (QP g hη c.args.toList) hrun (by simp only [app, qE (qb.1 h4).1]; exact h2 _ h4)⟩)
  ·rename_i f args hop
   rw [hop] at c1
   obtain ⟨c, hoc, hcal, rfl⟩ := Xw c1
   split at ho
   case h_2 => exact ho.elim
   rename_i fid fs cs hf
   have hr := hfr f
   rw [hf] at hr
   simp only [Rep] at hr
   obtain ⟨va, vb, e1, e2, e3⟩ := hr
   have e4 : a.eval (.tmp f) = .func (.func fid) va.toArray vb.toArray := e1
   have hrun : (execOp a.eval o).run P w = (callFunc fid ((va ++ c.args.toList.map a.eval) ++ vb).toArray).run P w := by
    have : va.toArray ++ c.args.map a.eval ++ vb.toArray = (va ++ c.args.toList.map a.eval ++ vb).toArray := by apply q9; simp
    simp only [execOp, hoc, resolve, hcal, e4, Deferred.ofValue, invoke, Sem.run_bind, Sem.run_pure, Result.andThen_ok, this]
   unfold Zx at ho
   split at ho
   ·exact .inr (.inr ⟨hwd, callE fid _ _ ((e2.append (QP g hη c.args.toList)).append e3) hrun ho.1⟩)
   split at ho
   ·obtain ⟨ho, rfl⟩ := ho
    exact .inr (.inr ⟨hwd, callE fid _ _ ((e2.append (QP g hη c.args.toList)).append e3) hrun ho⟩)
   have hrun2 : (execOp a.eval o).run P w = (callFunc fid ((va ++ c.args.toList.map a.eval) ++ vb).toArray).run P w := hrun
   rcases ho with ho | ⟨o', x', _, h2, h3, h4, _⟩
   case inr =>
    subst h3
    exact .inr (.inr ⟨hwd, callE fid _ _ ((e2.append (QP g hη c.args.toList)).append e3) hrun (by simp only [app, qE (qb.1 h4).1]; exact h2 _ h4)⟩)
   refine .inr (.inr ⟨hwd, call fid _ _ ((e2.append (QP g hη c.args.toList)).append e3) ?_ ho.1 ho.2⟩)
   have : va.toArray ++ c.args.map a.eval ++ vb.toArray = (va ++ c.args.toList.map a.eval ++ vb).toArray := by apply q9; simp
   simp only [execOp, hoc, resolve, hcal, e4, Deferred.ofValue, invoke, Sem.run_bind, Sem.run_pure, Result.andThen_ok, this]
theorem QnD (hN : Fit P N Γ) {ops : Array Oper} {i : Nat} {o : Oper} (ho : ops[i]? = some o) {x : It} (hq : Xj P N ops o = some x.q) {st st1 : St} (hst : Xm P x st st1) (hsp : x.q.fr = true → QhS st.ob x.id) {a : Act} {w : World} (hs : Sim Γ st a w)
  {Q : Exit → Act → World → Prop} {K : Act → World → Prop} (hK : ∀ a' w', Sim Γ st1 a' w' → K a' w') : wpOp P ops Q i K a w := by
 unfold wpOp
 rw [ho]
 simp only
 rcases Qdg hN hq hst hsp hs with ⟨h1, h2⟩ | ⟨h1, v, w', h2, h3⟩ | ⟨h1, f, vs, h2, h3⟩
 ·rw [h1]; exact hK _ _ h2
 ·rw [h1]
  refine .inl ?_
  unfold Oper.wp
  rcases h2 with h2 | ⟨h2, rfl⟩ <;> rw [h2] <;> exact hK _ _ h3
 ·rw [h1]
  refine .inl ?_
  unfold Oper.wp
  rw [h2]
  refine h3.mono ?_
  rintro e w' ⟨v, rfl, h4⟩
  exact hK _ _ h4
def Fine (Γ : Ctx) (st : St) : Prop := ∃ a w, Sim Γ st a w
theorem Qgz (hN : Fit P N Γ) {ops : Array Oper} {o : Oper} {x : It} (hq : Xj P N ops o = some x.q) {st st1 : St} (hst : Xm P x st st1) (hsp : x.q.fr = true → QhS st.ob x.id) (hs : Fine Γ st) : Fine Γ st1 := by
 obtain ⟨a, w, hs⟩ := hs
 rcases Qdg hN hq hst hsp hs with ⟨h1, h2⟩ | ⟨h1, v, w', h2, h3⟩ | ⟨h1, f, vs, h2, h3⟩
 ·exact ⟨_, _, h2⟩
 ·exact ⟨_, _, h3⟩
 ·obtain ⟨e, w', fr, ⟨v, _, h4⟩, _⟩ := h3 []
  exact ⟨_, _, h4⟩
theorem J7 (hN : Fit P N Γ) {st : St} (h : Fine Γ st) : Qnh P.G st := by
 obtain ⟨a, w, hs⟩ := h
 obtain ⟨be, g, hm0, hη, hfr⟩ := hs.eta hN.2
 intro y o hy
 have hr := hη y
 have key : ∀ (ver : Nat) (p : Option (Option (Nat × Nat)) → Prop), Cur ⟨w, st.ob, be, Γ.X0.C⟩ o ver p → ∃ b, st.ob[o]? = some b ∧ b.sz ≠ 0 := by
  rintro ver p ⟨x, hx, h0, _⟩
  exact ⟨x, hx, h0⟩
 cases hv : opd P.G st.fr y <;> rw [hv] at hy hr <;> simp only [Qd2, qc] at hy <;> first | (cases hy; done) | skip
 all_goals (subst hy; simp only [Rep] at hr; exact key _ _ hr.1)
theorem Sim.same {s t : St} (h : Same s t) {a : Act} {w : World} (hs : Sim Γ s a w) : Sim Γ t a w := by
 obtain ⟨q1, q2, q3, be, g, hm, hfr⟩ := hs
 obtain ⟨h1, h2⟩ := h
 cases s
 cases t
 simp only at h1 h2
 subst h2
 exact ⟨q1, q2, q3, be, g, hm, fun i => by have := hfr i; simp only at this; rw [h1 i] at this; exact this⟩
theorem Sim.places {st : St} {a : Act} {w : World} : ∀ (n : Nat) {ob : List Ob}, Sim Γ ⟨st.fr, ob⟩ a w → Sim Γ ⟨st.fr, ob ++ List.replicate n ph⟩ a w
 | 0, ob, h => by simpa using h
 | n + 1, ob, h => by
  obtain ⟨q1, q2, q3, be, g, hm, hfr⟩ := h
  obtain ⟨g1, m1⟩ := g.empty 0 0
  have h2 : Sim Γ ⟨st.fr, ob ++ [ph]⟩ a w := ⟨q1, q2, q3, _, g1, hm.trans m1, fun i => Rep.move m1 _ _ (hfr i)⟩
  have := Sim.places n h2
  simpa [List.replicate_succ, qM] using this
end
def QjW : List Nat → List (List Nat) → List Nat
 | acc, [] => acc
 | acc, a :: r => QjW (acc ++ [a.foldl (fun m e => m ||| 1 <<< e ||| acc.getD e 0) 0]) r
theorem Qjn (acc : List Nat) (k : Nat) : ∀ (a : List Nat) (m : Nat), (a.foldl (fun m e => m ||| 1 <<< e ||| acc.getD e 0) m).testBit k = true → m.testBit k = true ∨ ∃ e ∈ a, k = e ∨ (acc.getD e 0).testBit k = true
 | [], m, h => .inl h
 | e :: a, m, h => by
  rw [List.foldl_cons] at h
  rcases Qjn acc k a _ h with h | ⟨e', he, h⟩
  ·simp only [Nat.testBit_or, yF, Nat.one_shiftLeft, Nat.testBit_two_pow, ql] at h
   rcases h with (h | h) | h
   ·exact .inl h
   ·exact .inr ⟨e, by simp, .inl h.symm⟩
   ·exact .inr ⟨e, by simp, .inr h⟩
  ·exact .inr ⟨e', by simp [he], h⟩
theorem Qb9 (afs : List (List Nat)) (S : Nat → Prop) (hS : ∀ (j : Nat) (a : List Nat), afs[j]? = some a → S j → ∀ e ∈ a, S e) : ∀ (r : List (List Nat)) (pre : List (List Nat)) (acc : List Nat), afs = pre ++ r → acc.length = pre.length →
  (∀ (j : Nat) (a : List Nat), pre[j]? = some a → (∀ e ∈ a, S e) → ∀ k, (acc.getD j 0).testBit k = true → S k) → ∀ (j : Nat) (a : List Nat), afs[j]? = some a → (∀ e ∈ a, S e) → ∀ k, ((QjW acc r).getD j 0).testBit k = true → S k
 | [], pre, acc, h, hl, hi => by
  simp only [yN] at h
  subst h
  exact hi
 | b :: r, pre, acc, h, hl, hi => by
  refine Qb9 afs S hS r (pre ++ [b]) _ (by rw [h]; simp) (by simp [hl]) ?_
  intro j a ha hall k hk
  rcases yP j pre.length with hj | hj
  ·rw [qj hj] at ha
   refine hi j a ha hall k ?_
   rw [qh, qj (by omega), ← qh] at hk
   exact hk
  ·have hj2 : j < (pre ++ [b]).length := (qb.1 ha).1
   have : j = pre.length := by simp at hj2; omega
   subst this
   simp at ha
   subst ha
   rw [qh, ← hl] at hk
   simp at hk
   rcases Qjn acc k _ _ hk with h0 | ⟨e, he, h1⟩
   ·simp at h0
   ·rcases h1 with rfl | h1
    ·exact hall k he
    ·by_cases hlt : e < pre.length
     ·have hpe : pre[e]? = some pre[e] := qd hlt
      refine hi e _ hpe (hS e _ ?_ (hall e he)) k h1
      rw [h, qj hlt]; exact hpe
     ·rw [qh, qO (by omega)] at h1
      simp at h1
def Z9 : It := ⟨0, false, ⟨none, none, .op (.mv (.func 0))⟩⟩
def Zg (ops : Array Oper) : List (List Nat) := ops.toList.map fun o => (o.after.toList.filter (Region.binds .any)).map (·.on)
def Xa (ops : Array Oper) (xs : List It) (nf : Nat) : Bool :=
 let afs := Zg ops
 let T := QjW [] afs
 (List.range xs.length).all fun j =>
  let x := xs.getD j Z9
  let m := T.getD j 0
  (afs.getD j []).all (fun e => decide (e < j)) && (!x.q.fr || decide (x.id < nf)) &&
  (List.range j).all fun k =>
   let y := xs.getD k Z9
   (m.testBit k || QpU y x) && (!y.q.fr || !x.q.fr || y.id != x.id)
def J2 : Nat → List AO → List It
 | _, [] => []
 | n, q :: qs => ⟨n, false, q⟩ :: J2 (if q.fr then n + 1 else n) qs
def Qi5 (sl : AO → Bool) (qs : List AO) (q : AO) : Bool :=
 match q.op, q.dst with
 | .op (.bslice _ _ len _ _), some t =>
  decide (0 < len) && (qs.any fun r => match r.op with | .op p => ((ZX p).filterMap Qe9).contains t && Qq p && sl r | .call _ args => (args.filterMap Qe9).contains t | .callv _ args => (args.filterMap Qe9).contains t) &&
  !(qs.any fun r => match r.op with | .op p => ((ZX p).filterMap Qe9).contains t && !(Qq p && sl r) | _ => false)
 | .op (.mkslice _ _ _ _ (.const (.int _ len)) _), some t =>
  decide (0 < len) && (qs.any fun r => match r.op with | .op p => ((ZX p).filterMap Qe9).contains t && Qq p && sl r | .call _ args => (args.filterMap Qe9).contains t | .callv _ args => (args.filterMap Qe9).contains t) &&
  !(qs.any fun r => match r.op with | .op p => ((ZX p).filterMap Qe9).contains t && !(Qq p && sl r) | _ => false)
 | _, _ => false
def sealed (qs : List AO) (q : AO) : Bool := Qi5 (Qi5 (fun _ => false) qs) qs q
def Qpk (T : List Nat) (qs : List AO) (p : It × Nat) : Bool :=
 match p.1.q.op with
 | .callv .. | .call .. => qs.zipIdx.all fun r => r.2 == p.2 || (T.getD p.2 0).testBit r.2 || (T.getD r.2 0).testBit p.2
 | _ => false
def Qnk (T : List Nat) (qs : List AO) (p : It × Nat) : It :=
 ⟨if p.1.q.isC then (if qs.any (fun q => q.wr || q.fr) then 0 else 1) else p.1.id, (p.1.q.rd && !p.1.q.wr && (qs.zipIdx.any fun r => r.1.wr && !((T.getD p.2 0).testBit r.2) && !((T.getD r.2 0).testBit p.2) && r.2 != p.2)) || sealed qs p.1.q || Qpk T qs p, p.1.q⟩
def number (ops : Array Oper) (qs : List AO) : List It := (J2 0 qs).zipIdx.map (Qnk (QjW [] (Zg ops)) qs)
def QmM (qs : List AO) : Nat := (qs.filter AO.fr).length
theorem Qcq : ∀ (qs : List AO) (n : Nat), (J2 n qs).map (·.q) = qs
 | [], _ => rfl
 | q :: qs, n => by simp [J2, Qcq qs]
theorem Qc1 (ops : Array Oper) (qs : List AO) : (number ops qs).map (·.q) = qs := by
 have h : ∀ (f : It × Nat → It) (l : List It), (∀ x, (f x).q = x.1.q) → (l.zipIdx.map f).map (·.q) = l.map (·.q) := fun f l hf => by
  apply yl
  intro i
  simp only [qv, List.getElem?_zipIdx, Option.map_map]
  congr 1
  funext x
  exact hf _
 unfold number
 exact (h (Qnk _ _) _ (fun _ => rfl)).trans (Qcq qs 0)
end Go.Am
/- The abstract machine: one walk for every order. -/
namespace Go.Am
open Go.RowKit
def up (M : Nat) (x : It) : It := ⟨if x.q.isC then x.id else M + x.id, x.dat, x.q⟩
def wpD (P : Prg) (M : Nat) : List It → (St → Prop) → St → Prop
 | [], K, st => K st
 | x :: xs, K, st => ∃ s1, Xm P (up M x) st s1 ∧ wpD P M xs K s1
theorem Qn6 {q : AO} (h : q.fr = true) : q.isC = false := by
 unfold AO.fr at h
 unfold AO.isC
 split at h
 ·rename_i hp; rw [hp]
 ·cases h
theorem Qe8 {x : It} (h : x.q.fr = true) (M : Nat) : (up M x).id = M + x.id := by simp only [up, Qn6 h]; rfl
theorem Qoy (x : It) (M : Nat) : (up M x).ro = x.ro := by
 simp only [It.ro, up]
 cases hq : x.q.isC <;> simp
theorem Qbb {P : Prg} {M : Nat} {K : St → Prop} : ∀ {xs : List It} {st : St}, wpD P M xs K st → ∃ t, Qcl P (xs.map (up M)) st t ∧ K t
 | [], st, h => ⟨st, Same.refl _, h⟩
 | x :: xs, st, ⟨s1, h1, h2⟩ => by
  obtain ⟨t, h3, h4⟩ := Qbb h2
  exact ⟨t, ⟨s1, h1, h3⟩, h4⟩
theorem Ind.up {x y : It} (h : Ind x y) (M : Nat) : Ind (up M x) (up M y) :=
 ⟨h.a, h.b, h.c, h.d, h.e, fun h1 h2 e => h.f h1 h2 (by have a := Qe8 (x := x) h1 M; have b := Qe8 (x := y) h2 M; omega), h.g, h.h, fun hr => by rw [Qoy] at hr ⊢; exact h.i hr, fun hr => by rw [Qoy] at hr ⊢; exact h.j hr⟩
theorem XF {α β : Type} {f : α → Option β} : ∀ {l : List α} {r : List β}, l.mapM f = some r → r.length = l.length ∧ ∀ (i : Nat) (x : α), l[i]? = some x → ∃ y, r[i]? = some y ∧ f x = some y
 | [], r, h => by simp at h; subst h; simp
 | a :: l, r, h => by
  simp only [qP, qx, qk, qe, qc] at h
  obtain ⟨y, hy, r', hr, rfl⟩ := h
  obtain ⟨h1, h2⟩ := XF hr
  refine ⟨by simp [h1], fun i x hx => ?_⟩
  cases i with
  | zero => simp at hx; subst hx; exact ⟨y, by simp, hy⟩
  | succ i => simp at hx; simpa using h2 i x hx
section
variable {P : Prg} {N : Nat} {Γ : Ctx}
def Qg (n : Nat) (listed : Array Bool) : List Nat := (List.range n).filter fun i => !listed.getD i true
theorem Qco {n : Nat} {listed : Array Bool} (hl : listed.size = n) {j : Nat} (hj : j < n) {pre post : List Nat} (h : Qg n listed = pre ++ j :: post) : Qg n (listed.setIfInBounds j true) = pre ++ post := by
 have hnd : (Qg n listed).Nodup := List.nodup_range.filter _
 have h1 : Qg n (listed.setIfInBounds j true) = (Qg n listed).filter (fun i => i != j) := by
  unfold Qg
  rw [List.filter_filter]
  apply List.filter_congr
  intro i hi
  by_cases e : i = j
  ·subst e
   have : i < listed.size := by omega
   simp [this]
  ·simp [e, yH (fun h => e h.symm)]
 rw [h1, h]
 rw [h] at hnd
 rw [List.nodup_append] at hnd
 obtain ⟨n1, n2, n3⟩ := hnd
 rw [List.nodup_cons] at n2
 rw [List.filter_append, List.filter_cons]
 simp only [bne_self_eq_false, ya, yS]
 rw [yK.2, yK.2]
 ·intro x hx; simp; intro e; subst e; exact n2.1 hx
 ·intro x hx; simp; exact fun e => n3 x hx j (by simp) e
theorem Qet (hN : Fit P N Γ) {ops : Array Oper} {qs : List AO} {xs : List It} {nf M : Nat} (hqs : ops.toList.mapM (Xj P N ops) = some qs) (hxs : xs.map (·.q) = qs) (hok : Xa ops xs nf = true) {K : Act → World → Prop} {Q : Exit → Act → World → Prop}
  {t : St} (hK : ∀ a w, Sim Γ t a w → Q .normal a w) :
  ∀ (fuel : Nat) (listed : Array Bool) (s : St) (a : Act) (w : World), listed.size = xs.length → fuel = (Qg xs.length listed).length →
   (∀ (j : Nat) (af : List Nat), (Zg ops)[j]? = some af → listed.getD j false = true → ∀ e ∈ af, listed.getD e false = true) →
   Qcl P ((Qg xs.length listed).map fun i => up M (xs.getD i Z9)) s t → Qnu ((Qg xs.length listed).map fun i => up M (xs.getD i Z9)) s → Sim Γ s a w → wpAny P .any ops Q fuel listed a w := by
 obtain ⟨hlen, hget⟩ := XF hqs
 have hn : ops.size = xs.length := by
  have h1 : qs.length = xs.length := by rw [← hxs]; simp
  rw [← h1, hlen]; simp
 have hcop : ∀ i o, ops[i]? = some o → Xj P N ops o = some (xs.getD i Z9).q := fun i o ho => by
  obtain ⟨y, hy, hc⟩ := hget i o (by simpa using ho)
  rw [← hxs, qv] at hy
  obtain ⟨x, hx, rfl⟩ := qa.1 hy
  rw [qh, hx]
  exact hc
 simp only [Xa, qR, yC, qf, ql] at hok
 have hdist : ∀ k j, k < j → j < xs.length → (xs.getD k Z9).q.fr = true → (xs.getD j Z9).q.fr = true → (xs.getD k Z9).id ≠ (xs.getD j Z9).id := fun k j hkj hj h1 h2 => by
  have := ((hok j hj).2 k hkj).2
  rw [h1, h2] at this
  simpa using this
 have hsorted : ∀ listed : Array Bool, (Qg xs.length listed).Pairwise (· < ·) := fun listed => (List.pairwise_lt_range).filter _
 have hmem : ∀ (listed : Array Bool) i, i ∈ Qg xs.length listed ↔ i < xs.length ∧ listed.getD i true = false := fun listed i => by
  unfold Qg
  rw [yw, yC]
  simp
 intro fuel
 induction fuel with
 | zero =>
  intro listed s a w hsz hf hcl hch hp hs
  have hnil : Qg xs.length listed = [] := qw hf.symm
  rw [hnil] at hch
  refine ⟨?_, hK a w (Sim.same hch hs)⟩
  refine List.eq_nil_iff_forall_not_mem.2 fun j hj => ?_
  obtain ⟨h0, o, ho, _⟩ := mem_ready.1 hj
  have : j ∈ Qg xs.length listed := (hmem _ _).2 ⟨by rw [← hn]; exact (qi.1 ho).1, h0⟩
  rw [hnil] at this
  cases this
 | succ fuel ih =>
  intro listed s a w hsz hf hcl hch hp hs
  have haf : ∀ (j : Nat) (o : Oper), ops[j]? = some o → (Zg ops)[j]? = some ((o.after.toList.filter (Region.binds .any)).map (·.on)) := fun j o ho => by
   unfold Zg
   rw [qv]
   have : ops.toList[j]? = some o := by simpa using ho
   rw [this]; rfl
  refine ⟨fun hr => ?_, fun j hj => ?_⟩
  · -- the first Qg is ready
   exfalso
   cases hu : Qg xs.length listed with
   | nil => rw [hu] at hf; cases hf
   | cons i rest =>
    have hi := (hmem listed i).1 (by rw [hu]; simp)
    have hlt : i < ops.size := by rw [hn]; exact hi.1
    have ho : ops[i]? = some ops[i] := qF hlt
    have hready : i ∈ Region.ready .any ops listed := by
     refine mem_ready.2 ⟨hi.2, ops[i], ho, fun e he hb => ?_⟩
     have h1 := ((hok i hi.1).1.1) e.on (by
      rw [qh, haf i _ ho]
      simp only [yy, qV, yw]
      exact ⟨e, ⟨by simpa using he, hb⟩, rfl⟩)
     cases hle : listed.getD e.on false with
     | true => rfl
     | false =>
      exfalso
      have hlt2 : e.on < listed.size := by rw [hsz]; omega
      have : e.on ∈ Qg xs.length listed := (hmem listed e.on).2 ⟨by omega, by
       simp only [qr, qF hlt2, yy] at hle ⊢
       exact hle⟩
      rw [hu] at this
      have hs := hsorted listed
      rw [hu, yL] at hs
      rcases qo.1 this with h2 | h2
      ·omega
      ·have := hs.1 _ h2; omega
    rw [hr] at hready
    cases hready
  ·obtain ⟨h0, o, ho, hall⟩ := mem_ready.1 hj
   have hjlt : j < xs.length := by rw [← hn]; exact (qi.1 ho).1
   have hjm : j ∈ Qg xs.length listed := (hmem _ _).2 ⟨hjlt, h0⟩
   obtain ⟨pre, post, hsplit⟩ := List.append_of_mem hjm
   have hnext := Qco hsz hjlt hsplit
   have hsrt := hsorted listed
   rw [hsplit] at hsrt
   rw [yT] at hsrt
   obtain ⟨s1, s2, s3⟩ := hsrt
   have haj := haf j o ho
   have hpreds : ∀ k, ((QjW [] (Zg ops)).getD j 0).testBit k = true → listed.getD k false = true :=
    Qb9 (Zg ops) (fun k => listed.getD k false = true) hcl (Zg ops) [] [] (by simp) rfl (by simp) j _ haj (fun e he => by
     simp only [qV, yw] at he
     obtain ⟨e', ⟨he1, he2⟩, rfl⟩ := he
     exact hall e' (by simpa using he1) he2)
   have hind : ∀ k ∈ pre, Ind (xs.getD k Z9) (xs.getD j Z9) := fun k hk => by
    have hkj : k < j := s3 k hk j (by simp)
    have hku : k ∈ Qg xs.length listed := by rw [hsplit]; simp [hk]
    have h2 := ((hok j hjlt).2 k hkj).1
    simp only [yF] at h2
    rcases h2 with h2 | h2
    ·exfalso
     have h3 := hpreds k h2
     have h4 := ((hmem _ _).1 hku).2
     have hlt2 : k < listed.size := by rw [hsz]; omega
     simp only [qr, qF hlt2, yy] at h3 h4
     rw [h3] at h4
     cases h4
    ·exact QgY h2
   rw [hsplit, yt, qC] at hch hp
   have hpw : ((pre.map fun i => up M (xs.getD i Z9)) ++ up M (xs.getD j Z9) :: (post.map fun i => up M (xs.getD i Z9))).Pairwise (fun a b => a.q.fr = true → b.q.fr = true → a.id ≠ b.id) := by
    have : ((pre ++ j :: post).map fun i => up M (xs.getD i Z9)).Pairwise (fun a b => a.q.fr = true → b.q.fr = true → a.id ≠ b.id) := by
     rw [List.pairwise_map]
     have hs := hsorted listed
     rw [hsplit] at hs
     refine hs.imp_of_mem ?_
     intro k i hk hi hlt h1 h2 e
     have hi' : i < xs.length := ((hmem listed i).1 (by rw [hsplit]; exact hi)).1
     refine hdist k i hlt hi' h1 h2 ?_
     have a1 := Qe8 (x := xs.getD k Z9) h1 M
     have a2 := Qe8 (x := xs.getD i Z9) h2 M
     omega
    simpa [yt, qC] using this
   have hstep : ∀ (y : It) (s s1 : St), y ∈ (pre.map fun i => up M (xs.getD i Z9)) → Fine Γ s → (y.q.fr = true → s.ob[y.id]? = some ph) → Xm P y s s1 → Fine Γ s1 := by
    intro y s s1 hy hF hph hst
    obtain ⟨k, hk, rfl⟩ := qV.1 hy
    have hku : k ∈ Qg xs.length listed := by rw [hsplit]; simp [hk]
    have hklt : k < ops.size := by rw [hn]; exact ((hmem _ _).1 hku).1
    exact Qgz (x := up M (xs.getD k Z9)) hN (hcop k _ (qF hklt)) hst (fun h => .inr (hph h)) hF
   obtain ⟨sj, hj1, hj2⟩ := Qcl.front (Fine Γ) (fun s h => J7 hN h) ⟨a, w, hs⟩ hp hstep (fun y hy => by
    obtain ⟨k, hk, rfl⟩ := qV.1 hy
    exact (hind k hk).up M) hpw hch
   have hpj : (up M (xs.getD j Z9)).q.fr = true → s.ob[(up M (xs.getD j Z9)).id]? = some ph := hp _ (by simp)
   have hpn : Qnu ((pre.map fun i => up M (xs.getD i Z9)) ++ (post.map fun i => up M (xs.getD i Z9))) sj := by
    refine hj1.pend (J7 hN ⟨a, w, hs⟩) hpj (fun y hy => hp y ?_) (fun y hy h1 h2 => ?_)
    ·rcases qp.1 hy with hy | hy
     ·exact qp.2 (.inl hy)
     ·exact qp.2 (.inr (qN _ hy))
    ·rw [yT, yL] at hpw
     rcases qp.1 hy with hy | hy
     ·exact fun e => hpw.2.2 y hy _ (by simp) h2 h1 e.symm
     ·exact hpw.2.1.1 y hy h1 h2
   refine QnD hN ho (x := up M (xs.getD j Z9)) (hcop j o ho) hj1 (fun h => .inr (hpj h)) hs fun a' w' hs' => ?_
   refine ih (listed.setIfInBounds j true) sj a' w' (by simpa using hsz) ?_ ?_ ?_ ?_ hs'
   ·rw [hnext]
    rw [hsplit] at hf
    simp at hf ⊢
    omega
   ·intro k af hk hkl e he
    by_cases hkj : k = j
    ·subst hkj
     rw [haj] at hk
     cases hk
     simp only [qV, yw] at he
     obtain ⟨e', ⟨he1, he2⟩, rfl⟩ := he
     exact getD_set_true (hall e' (by simpa using he1) he2)
    ·rw [getD_set_ne false (fun h => hkj h.symm)] at hkl
     exact getD_set_true (hcl k af hk hkl e he)
   ·rw [hnext, yt]; exact hj2
   ·rw [hnext, yt]; exact hpn
theorem QkD (hN : Fit P N Γ) {id : Nat} {ops : Array Oper} {qs : List AO} {xs : List It} {nf : Nat} (hm : P.prog.follows .mixedOrders = true) (hqs : ops.toList.mapM (Xj P N ops) = some qs) (hxs : xs.map (·.q) = qs) (hok : Xa ops xs nf = true)
  {Q : Exit → Act → World → Prop} {K : St → Prop} (hK : ∀ st a w, K st → Sim Γ st a w → Q .normal a w) {st : St} (hw : wpD P st.ob.length xs K ⟨st.fr, st.ob ++ List.replicate nf ph⟩) {a : Act} {w : World} (hs : Sim Γ st a w) :
  (Code.region id ops true).wp P Q a w := by
 refine wp_region_any hm ?_
 obtain ⟨t, hch, hk⟩ := Qbb hw
 obtain ⟨hlen, hget⟩ := XF hqs
 have hn : ops.size = xs.length := by
  have h1 : qs.length = xs.length := by rw [← hxs]; simp
  rw [← h1, hlen]; simp
 have hun : Qg xs.length (Array.replicate ops.size false) = List.range xs.length := by
  unfold Qg
  refine yK.2 fun i hi => ?_
  have : i < ops.size := by rw [hn]; simpa using hi
  simp [this]
 have hmap : ((List.range xs.length).map fun i => up st.ob.length (xs.getD i Z9)) = xs.map (up st.ob.length) := by
  apply yl
  intro i
  rw [qv, qv]
  by_cases h : i < xs.length
  ·rw [yZ h, qd h]
   simp [qh, qd h]
  ·rw [qO (by simpa using h), qO (by simpa using h)]
   rfl
 have hs0 : Sim Γ st a { w with drawn := w.drawn + 1 } := by
  obtain ⟨q1, q2, q3, be, g, hm0, hfr⟩ := hs
  have hb : Below w.heap.size w { w with drawn := w.drawn + 1 } := (Below.refl _ _).drew
  have mv := Moves.below (X := ⟨w, st.ob, be, Γ.X0.C⟩) hb
  exact ⟨q1, q2, q3.trans (hb.mono g.size), be, g.below (X := ⟨w, st.ob, be, Γ.X0.C⟩) hb, hm0.trans mv, fun i => Rep.move mv _ _ (hfr i)⟩
 refine Qet hN hqs hxs hok (K := fun _ _ => True) (M := st.ob.length) (t := t) (fun a w h => hK t a w hk h) _ _ _ _ _ (by simp [hn]) (by rw [hun]; simp [hn]) ?_ ?_ ?_ (Sim.places nf hs0)
 ·intro j af _ h
  exfalso
  by_cases hj : j < ops.size <;> simp [hj] at h
 ·rw [hun, hmap]; exact hch
 ·rw [hun, hmap]
  intro x hx hf
  obtain ⟨y, hy, rfl⟩ := qV.1 hx
  obtain ⟨i, hi, e⟩ := yD.1 hy
  simp only [Xa, qR, yC, qf, yF, yG, ql] at hok
  have h1 := (hok i hi).1.2
  have h2 : xs.getD i Z9 = y := by rw [qh, qd hi]; exact e
  rw [h2] at h1
  rcases h1 with h1 | h1
  ·simp only [up] at hf; rw [h1] at hf; cases hf
  ·show (st.ob ++ List.replicate nf ph)[(up st.ob.length y).id]? = some ph
   rw [Qe8 (x := y) hf]
   rw [qI (by omega)]
   simp [h1]
end
end Go.Am
/- The abstract machine: code, and its soundness. -/
namespace Go.Am
open Go.RowKit
inductive AC where
 | skip
 | reg (qs : List AO)
 | draw (xs : List It) (ps : List Ob)
 | seq (a b : AC)
 | cond (x : Operand) (a b : AC)
 | block (id : Nat) (c : AC)
 | loop (c : AC)
 | exit (id : Nat)
 | ret
 | bad
def Qb (P : Program) (N : Nat) : Code → Option AC
 | .skip => some .skip
 | .region _ ops d =>
  match ops.toList.mapM (Xj P N ops) with
  | some qs =>
   if d then
    (if P.follows .mixedOrders && Xa ops (number ops qs) (QmM qs) then some (.draw (number ops qs) (List.replicate (QmM qs) ph)) else some .bad)
   else some (.reg qs)
  | none => some .bad
 | .seq a b =>
  match Qb P N a with
  | some x =>
   match Qb P N b with
   | some y => some (.seq x y)
   | none => none
  | none => none
 | .cond x a b =>
  match Qb P N a with
  | some y =>
   match Qb P N b with
   | some z => some (.cond x y z)
   | none => none
  | none => none
 | .block id c => (Qb P N c).map (.block id)
 | .loop c => (Qb P N c).map .loop
 | .exit id => some (.exit id)
 | .ret => some .ret
 | _ => some .bad
def AWp (P : Prg) (N M : Nat) (c : Code) (Q : Exit → St → Prop) (st : St) : Prop :=
 ∀ (Γ : Ctx) (a : Act) (w : World), Fit P N Γ → Γ.X0.ob.length = M → Sim Γ st a w → c.wp P (fun e a' w' => ∃ st', Q e st' ∧ Sim Γ st' a' w') a w
def QiZ (P : Prg) (N M : Nat) (ac : AC) (Q : Exit → St → Prop) (st : St) : Prop := ∀ c, Qb P N c = some ac → AWp P N M (.loop c) Q st
def XY (next : St → Prop) (Q : Exit → St → Prop) : Exit → St → Prop
 | .normal, st => next st
 | e, st => Q e st
def Qjw (id : Nat) (Q : Exit → St → Prop) : Exit → St → Prop
 | .exit j, st => if j = id then Q .normal st else Q (.exit j) st
 | e, st => Q e st
def wpC (P : Prg) (N M : Nat) : AC → (Exit → St → Prop) → St → Prop
 | .skip, Q, st => Q .normal st
 | .reg qs, Q, st => wpO P qs (Q .normal) st
 | .draw xs ps, Q, st => wpD P st.ob.length xs (Q .normal) ⟨st.fr, st.ob ++ ps⟩
 | .seq a b, Q, st => wpC P N M a (XY (wpC P N M b Q) Q) st
 | .cond x a b, Q, st =>
  match opd P.G st.fr x with
  | .bool t => if t = true then wpC P N M a Q st else wpC P N M b Q st
  | .ubool => wpC P N M a Q st ∧ wpC P N M b Q st
  | _ => False
 | .block id c, Q, st => wpC P N M c (Qjw id Q) st
 | .loop c, Q, st => QiZ P N M c Q st
 | .exit id, Q, st => Q (.exit id) st
 | .ret, Q, st => Q .ret st
 | .bad, _, _ => False
theorem AWp.mono {P : Prg} {N M : Nat} {c : Code} {Q Q' : Exit → St → Prop} (h : ∀ e st, Q e st → Q' e st) {st : St} (hw : AWp P N M c Q st) : AWp P N M c Q' st :=
 fun Γ a w h1 h2 hs => wp_mono (hw Γ a w h1 h2 hs) fun e a' w' ⟨st', hq, hs'⟩ => ⟨st', h e st' hq, hs'⟩
theorem Qn {P : Prg} {N M : Nat} : ∀ (c : Code) (ac : AC) (Q : Exit → St → Prop) (st : St), Qb P N c = some ac → wpC P N M ac Q st → AWp P N M c Q st
 | .skip, ac, Q, st, hc, h => by
  simp only [Qb, qc] at hc
  subst hc
  simp only [wpC] at h
  exact fun Γ a w _ _ hs => wp_skip ⟨st, h, hs⟩
 | .region id ops d, ac, Q, st, hc, h => by
  simp only [Qb] at hc
  split at hc
  case h_2 => cases hc; exact h.elim
  rename_i qs hq
  split at hc
  ·rename_i hd
   subst hd
   split at hc
   case isFalse => cases hc; exact h.elim
   cases hc
   rename_i hok
   simp only [qf] at hok
   simp only [wpC] at h
   exact fun Γ a w h1 _ hs => QkD h1 hok.1 hq (Qc1 ops qs) hok.2 (fun st a w hk hs => ⟨st, hk, hs⟩) h hs
  ·rename_i hd
   cases hc
   have hd' : d = false := by simpa using hd
   subst hd'
   simp only [wpC] at h
   exact fun Γ a w h1 _ hs => wp_region_list (JF h1 (fun st a w hk hs => ⟨st, hk, hs⟩) _ qs st a w hq h hs)
 | .seq x y, ac, Q, st, hc, h => by
  simp only [Qb] at hc
  split at hc
  case h_2 => cases hc
  rename_i ax hx
  split at hc <;> cases hc
  rename_i ay hy
  simp only [wpC] at h
  intro Γ a w h1 h2 hs
  refine wp_seq (wp_mono (Qn x ax _ st hx h Γ a w h1 h2 hs) ?_)
  rintro e a' w' ⟨st', hq, hs'⟩
  cases e with
  | normal => exact Qn y ay Q st' hy hq Γ a' w' h1 h2 hs'
  | exit id => exact ⟨st', hq, hs'⟩
  | goto l => exact ⟨st', hq, hs'⟩
  | ret => exact ⟨st', hq, hs'⟩
  | panic ch => exact ⟨st', hq, hs'⟩
  | outgrown => exact ⟨st', hq, hs'⟩
 | .cond x y z, ac, Q, st, hc, h => by
  simp only [Qb] at hc
  split at hc
  case h_2 => cases hc
  rename_i ay hy
  split at hc <;> cases hc
  rename_i az hz
  simp only [wpC] at h
  intro Γ a w h1 h2 hs
  obtain ⟨be, g, hm0, hη, hfr⟩ := hs.eta h1.2
  have hr := hη x
  split at h
  ·rename_i t hx
   rw [hx] at hr
   simp only [Rep] at hr
   refine wp_cond hr ?_
   cases t
   ·exact Qn z az Q st hz h Γ a w h1 h2 hs
   ·exact Qn y ay Q st hy h Γ a w h1 h2 hs
  ·rename_i hx
   rw [hx] at hr
   simp only [Rep] at hr
   obtain ⟨t, hr⟩ := hr
   refine wp_cond hr ?_
   cases t
   ·exact Qn z az Q st hz h.2 Γ a w h1 h2 hs
   ·exact Qn y ay Q st hy h.1 Γ a w h1 h2 hs
  ·exact h.elim
 | .block id c, ac, Q, st, hc, h => by
  simp only [Qb, qa] at hc
  obtain ⟨x, hx, rfl⟩ := hc
  simp only [wpC] at h
  intro Γ a w h1 h2 hs
  refine wp_block (wp_mono (Qn c x _ st hx h Γ a w h1 h2 hs) ?_)
  rintro e a' w' ⟨st', hq, hs'⟩
  cases e with
  | exit j =>
   simp only [Qjw] at hq
   simp only [Exit.inBlock]
   split
   ·rename_i e; rw [qE e] at hq; exact ⟨st', hq, hs'⟩
   ·rename_i e; rw [qz e] at hq; exact ⟨st', hq, hs'⟩
  | normal => exact ⟨st', hq, hs'⟩
  | goto l => exact ⟨st', hq, hs'⟩
  | ret => exact ⟨st', hq, hs'⟩
  | panic ch => exact ⟨st', hq, hs'⟩
  | outgrown => exact ⟨st', hq, hs'⟩
 | .loop c, ac, Q, st, hc, h => by
  simp only [Qb, qa] at hc
  obtain ⟨x, hx, rfl⟩ := hc
  simp only [wpC] at h
  exact h c hx
 | .exit id, ac, Q, st, hc, h => by
  simp only [Qb, qc] at hc
  subst hc
  simp only [wpC] at h
  exact fun Γ a w _ _ hs => wp_exit ⟨st, h, hs⟩
 | .ret, ac, Q, st, hc, h => by
  simp only [Qb, qc] at hc
  subst hc
  simp only [wpC] at h
  exact fun Γ a w _ _ hs => wp_ret ⟨st, h, hs⟩
 | .rangeFunc .., _, _, _, hc, h => by simp only [Qb, qc] at hc; subst hc; exact h.elim
 | .scope _, _, _, _, hc, h => by simp only [Qb, qc] at hc; subst hc; exact h.elim
 | .label _, _, _, _, hc, h => by simp only [Qb, qc] at hc; subst hc; exact h.elim
 | .goto _, _, _, _, hc, h => by simp only [Qb, qc] at hc; subst hc; exact h.elim
 | .refuse _, _, _, _, hc, h => by simp only [Qb, qc] at hc; subst hc; exact h.elim
def Le (M : Nat) (st st' : St) : Prop := ∀ (Γ : Ctx) (a : Act) (w : World), Γ.X0.ob.length = M → Sim Γ st a w → Sim Γ st' a w
theorem Le.refl (M : Nat) (st : St) : Le M st st := fun _ _ _ _ h => h
theorem Le.trans {M : Nat} {a b c : St} (h : Le M a b) (g : Le M b c) : Le M a c := fun Γ x w hM hs => g Γ x w hM (h Γ x w hM hs)
theorem QiZ.rule {P : Prg} {N M : Nat} {ac : AC} {Q : Exit → St → Prop} {st : St} {ι : Type} (S : ι → St) (ok : ι → Prop) (μ : ι → Nat) (i0 : ι) (h0 : Le M st (S i0)) (hok : ok i0)
  (step : ∀ i, ok i → wpC P N M ac (XY (fun st' => ∃ j, ok j ∧ μ j < μ i ∧ Le M st' (S j)) Q) (S i)) : QiZ P N M ac Q st := by
 intro c hc Γ a w h1 h2 hs
 have key : ∀ n i a w, μ i < n → ok i → Sim Γ (S i) a w → Code.rounds P c (fun e a' w' => ∃ st', Q e st' ∧ Sim Γ st' a' w') n a w := by
  intro n
  induction n with
  | zero => intro i a w h; omega
  | succ n ih =>
   intro i a w hn hi hsi
   rw [rounds_succ]
   refine wp_mono (Qn c ac _ (S i) hc (step i hi) Γ a w h1 h2 hsi) ?_
   rintro e a' w' ⟨st', hq, hs'⟩
   cases e with
   | normal =>
    obtain ⟨j, hj, hlt, hle⟩ := hq
    exact ih j a' w' (by omega) hj (hle Γ a' w' h2 hs')
   | exit id => exact ⟨st', hq, hs'⟩
   | goto l => exact ⟨st', hq, hs'⟩
   | ret => exact ⟨st', hq, hs'⟩
   | panic ch => exact ⟨st', hq, hs'⟩
   | outgrown => exact ⟨st', hq, hs'⟩
 exact wp_loop_rounds (μ i0 + 1) (key _ i0 a w (by omega) hok (h0 Γ a w h2 hs))
theorem QjE {P : Prg} {N M : Nat} {ac : AC} {Q : Exit → St → Prop} {st st' : St} (h : Le M st st') (hw : ∀ c, Qb P N c = some ac → AWp P N M c Q st') : ∀ c, Qb P N c = some ac → AWp P N M c Q st :=
 fun c hc Γ a w h1 h2 hs => hw c hc Γ a w h1 h2 (h Γ a w h2 hs)
def Z8 (fr : List (Nat × AV)) (ob : List Ob) (P : Program) : List ResultVar → Option (List AV)
 | [] => some []
 | .tmp t :: r => (Z8 fr ob P r).map (look fr t :: ·)
 | .cell p t :: r =>
  match Xp P t, ZJ ob (look fr p), Z8 fr ob P r with
  | some none, some (c :: _), some rest => some (c :: rest)
  | some (some n), some cs, some rest => if n ≤ cs.length then some (.agg (cs.take n) :: rest) else none
  | _, _, _ => none
def QM : List AV → AV
 | [v] => v
 | vs => .tup vs
theorem JZ {P : Program} {Γ : Ctx} {st : St} {a : Act} {w : World} {be : List (Option (Nat × Nat))} (g : Held Γ.B ⟨w, st.ob, be, Γ.X0.C⟩) (h : ∀ i, Rep ⟨w, st.ob, be, Γ.X0.C⟩ (look st.fr i) (a.tmps.getD i undef)) :
  ∀ (rs : List ResultVar) (avs : List AV), Z8 st.fr st.ob P rs = some avs → ∃ vs : List Value,
   (rs.mapM fun x => (match x with | .tmp t => pure (a.tmps.getD t undef) | .cell p t => do loadVar t (← asAddr (a.tmps.getD p undef)) : Sem Value)).run P w = .ok vs w ∧ RepL ⟨w, st.ob, be, Γ.X0.C⟩ avs vs
 | [], avs, hr => by
  simp only [Z8, qc] at hr
  subst hr
  exact ⟨[], by simp, by simp [RepL]⟩
 | .tmp t :: rs, avs, hr => by
  simp only [Z8, qa] at hr
  obtain ⟨rest, hr, rfl⟩ := hr
  obtain ⟨vs, h1, h2⟩ := JZ g h rs rest hr
  exact ⟨a.tmps.getD t undef :: vs, by simp only [qP, Sem.run_bind, Sem.run_pure, Result.andThen_ok, h1], by simp only [RepL]; exact ⟨_, _, rfl, h t, h2⟩⟩
 | .cell p t :: rs, avs, hr => by
  simp only [Z8] at hr
  have hp := h p
  split at hr
  ·rename_i c cs rest ha hc hrest
   cases hr
   obtain ⟨vs, h1, h2⟩ := JZ g h rs rest hrest
   obtain ⟨b, k, us, hv, hl, hru⟩ := Jn g hc hp
   obtain ⟨v, h3, h4⟩ := XL (P := P) ha hl hru (c := c) (.inl ⟨rfl, rfl⟩)
   have ha' : (asAddr (a.tmps.getD p undef)).run P w = .ok ⟨b, k, none⟩ w := by rw [hv]; rfl
   have h3' : (loadVar t ⟨b, k, none⟩).run P w = .ok v w := h3
   exact ⟨v :: vs, by simp only [qP, Sem.run_bind, Sem.run_pure, Result.andThen_ok, h1, ha', h3'], by simp only [RepL]; exact ⟨_, _, rfl, h4, h2⟩⟩
  ·rename_i n cs rest ha hc hrest
   split at hr <;> cases hr
   rename_i hn
   obtain ⟨vs, h1, h2⟩ := JZ g h rs rest hrest
   obtain ⟨b, k, us, hv, hl, hru⟩ := Jn g hc hp
   obtain ⟨v, h3, h4⟩ := XL (P := P) ha hl hru (c := .agg (cs.take n)) (.inr ⟨n, rfl, hn, rfl⟩)
   have ha' : (asAddr (a.tmps.getD p undef)).run P w = .ok ⟨b, k, none⟩ w := by rw [hv]; rfl
   have h3' : (loadVar t ⟨b, k, none⟩).run P w = .ok v w := h3
   exact ⟨v :: vs, by simp only [qP, Sem.run_bind, Sem.run_pure, Result.andThen_ok, h1, ha', h3'], by simp only [RepL]; exact ⟨_, _, rfl, h4, h2⟩⟩
  ·cases hr
theorem ZI {P : Program} {Γ : Ctx} {st : St} {a : Act} {w : World} {be : List (Option (Nat × Nat))} (g : Held Γ.B ⟨w, st.ob, be, Γ.X0.C⟩) (h : ∀ i, Rep ⟨w, st.ob, be, Γ.X0.C⟩ (look st.fr i) (a.tmps.getD i undef)) {fn : Func} {avs : List AV} (hr : Z8 st.fr st.ob P fn.results.toList = some avs) :
  ∃ v, (results fn a.tmps).run P w = .ok v w ∧ Rep ⟨w, st.ob, be, Γ.X0.C⟩ (QM avs) v := by
 obtain ⟨vs, h1, h2⟩ := JZ g h fn.results.toList avs hr
 have hl := h2.length
 have hm : (fn.results.mapM fun x => (match x with | .tmp t => pure (a.tmps.getD t undef) | .cell p t => do loadVar t (← asAddr (a.tmps.getD p undef)) : Sem Value)).run P w = .ok vs.toArray w := by
  rw [Array.mapM_eq_mapM_toList]
  simp only [Sem.run_map, h1, Result.andThen_ok]
 refine ⟨if h : vs.toArray.size = 1 then vs.toArray[0] else .tuple vs.toArray, ?_, ?_⟩
 ·unfold results
  simp only [Sem.run_bind]
  erw [hm]
  rfl
 ·match avs, vs, hl, h2 with
  | [], [], _, _ => simp [QM, Rep, RepL]
  | [c], [v], _, h2 =>
   simp only [RepL] at h2
   obtain ⟨v', rest, e, h3, _⟩ := h2
   cases e
   simpa [QM] using h3
  | c :: d :: cs, v :: u :: us, _, h2 =>
   simp only [jc, qn]
   rw [dif_neg (by omega)]
   simp only [QM, Rep]
   exact ⟨_, rfl, h2⟩
def Qz : Nat → List AV → List (Nat × AV)
 | _, [] => []
 | i, v :: vs => (i, v) :: Qz (i + 1) vs
theorem ZV {X : Cx} : ∀ (avs : List AV) (vs : List Value) (k : Nat), RepL X avs vs → ∀ i, (look (Qz k avs) i = .any) ∨ (k ≤ i ∧ ∃ v, vs[i - k]? = some v ∧ Rep X (look (Qz k avs) i) v)
 | [], _, _, _, i => .inl rfl
 | c :: cs, _, k, h, i => by
  simp only [RepL] at h
  obtain ⟨v, rest, rfl, h1, h2⟩ := h
  simp only [Qz, look]
  split
  ·rename_i e
   subst e
   exact .inr ⟨qg _, v, by simp, h1⟩
  ·rename_i hne
   rcases ZV cs rest (k + 1) h2 i with h3 | ⟨h3, u, h4, h5⟩
   ·exact .inl h3
   ·refine .inr ⟨by omega, u, ?_, h5⟩
    rw [show i - k = (i - (k + 1)) + 1 by omega]
    simpa using h4
def Body (P : Prg) (f : FuncId) (N : Nat) (rl : List ResultVar) (ac : AC) : Prop :=
 ∃ fn, P.prog.funcs[f]? = some fn ∧ (fn.name == "runtime.NumGoroutine") = false ∧ fn.ntmps = N ∧ fn.results.toList = rl ∧ fn.body.bind (Qb P N) = some ac
def QaZ (P : Prg) (rl : List ResultVar) (K : AV → List Ob → Prop) : Exit → St → Prop
 | .normal, st | .ret, st => match Z8 st.fr st.ob P rl with | some rs => K (QM rs) st.ob | none => False
 | _, _ => False
theorem Ql {P : Prg} {f : FuncId} {ac : AC} {N : Nat} {rl : List ResultVar} (hbody : Body P f N rl ac)
  {avs : List AV} {ob : List Ob} {K : AV → List Ob → Prop} (hlen : avs.length ≤ N)
  (h0 : wpC P N ob.length ac (QaZ P rl K) ⟨Qz 0 avs, ob⟩) : ACall P f avs ob K := by
 obtain ⟨fn, hf, hn, hN, hrl, hc'⟩ := hbody
 subst hN
 subst hrl
 obtain ⟨c, hb, hc⟩ := qe.1 hc'
 refine ⟨⟨fn, hf, hn, by rw [hb]; rfl⟩, fun B w be C vs g hG hr => ?_⟩
 refine calls_of_wp hf hb ?_
 have hvl := hr.length
 let Γ : Ctx := ⟨B, ⟨w, ob, be, C⟩, fn.ntmps, []⟩
 have hs : Sim Γ ⟨Qz 0 avs, ob⟩ { tmps := vs.toArray ++ Array.replicate (fn.ntmps - vs.toArray.size) undef, defers := [] } w := by
  refine ⟨rfl, by simp [Γ]; omega, Below.refl _ _, be, g, Moves.refl _, fun i => ?_⟩
  rcases ZV avs vs 0 hr i with h1 | ⟨_, v, h2, h3⟩
  ·show Rep _ (look (Qz 0 avs) i) _
   rw [h1]; simp only [Rep]
  ·have h4 : (vs.toArray ++ Array.replicate (fn.ntmps - vs.toArray.size) undef).getD i undef = v := by
    simp only [yJ] at h2
    have hlt := (qb.1 h2).1
    rw [qr, yg (by simpa using hlt)]
    simp [h2]
   show Rep _ (look (Qz 0 avs) i) ((vs.toArray ++ Array.replicate (fn.ntmps - vs.toArray.size) undef).getD i undef)
   rw [h4]
   exact h3
 refine wp_mono (Qn c ac _ _ hc h0 Γ _ w ⟨rfl, hG⟩ rfl hs) ?_
 rintro e a' w' ⟨st', he, hs'⟩
 obtain ⟨q1, q2, q3, be', g', hm, hfr⟩ := hs'
 have hpost : ∀ rs, Z8 st'.fr st'.ob P fn.results.toList = some rs → K (QM rs) st'.ob → a'.defers = [] ∧ ∃ v, (results fn a'.tmps).run P w' = .ok v w' ∧ ∃ v_1 r ob' be', Ending.returned v = .returned v_1 ∧ Below B w w' ∧ Held B ⟨w', ob', be', C⟩ ∧ Moves ⟨w, ob, be, C⟩ ⟨w', ob', be', C⟩ ∧ Rep ⟨w', ob', be', C⟩ r v_1 ∧ K r ob' := fun rs hrs hk => by
  obtain ⟨v, hv1, hv2⟩ := ZI (P := P) (Γ := Γ) g' hfr hrs
  exact ⟨q1, v, hv1, v, QM rs, st'.ob, be', rfl, q3, g', hm, hv2, hk⟩
 cases e with
 | normal =>
  simp only [QaZ] at he
  split at he
  ·exact hpost _ (by assumption) he
  ·exact he.elim
 | ret =>
  simp only [QaZ] at he
  split at he
  ·exact hpost _ (by assumption) he
  ·exact he.elim
 | exit id => exact he.elim
 | goto l => exact he.elim
 | panic ch => exact he.elim
 | outgrown => exact he.elim
theorem Ju {P : Prg} {f : FuncId} {ds : List AV} {r : AV} (h1 : isDL ds = true) (h2 : isD r = true) (h : ACall P f ds [] (fun r' _ => r' = r)) : VC P f ds r := by
 obtain ⟨h0, h⟩ := h
 refine ⟨h0, h1, h2, fun w C vs hbnd hG hr => ?_⟩
 have g : Held w.heap.size ⟨w, [], [], C⟩ := ⟨rfl, by simp, by simp, by simp, hbnd, qg _⟩
 refine (h w.heap.size w [] C vs g hG hr).mono ?_
 rintro e w' ⟨v, r', ob', be', rfl, hb, hh, hm, hv, rfl⟩
 refine ⟨v, rfl, hb, Rep.data (X := ⟨w', ob', be', C⟩) (Y := ⟨w', [], [], C⟩) (fun b k u hc ha => ⟨hc, fun h => ha ?_⟩) _ _ h2 hv⟩
 rcases h with h | ⟨o, x, c, q1, _⟩
 ·exact .inl h
 ·simp at q1
theorem ZR {P : Prg} {f : FuncId} {ds : List AV} {r : AV} {N : Nat} {rl : List ResultVar} {ac : AC} (h1 : isDL ds = true) (h2 : isD r = true) (bd : Body P f N rl ac) (h : wpC P N 0 ac (QaZ P rl (fun r2 _ => r2 = r)) ⟨Qz 0 ds, []⟩) (hl : ds.length ≤ N := by simp) : VC P f ds r := Ju h1 h2 (Ql bd hl h)
end Go.Am
/- The abstract machine: how 'simp' walks: equations in applied form Qpk, what follows kept behind names. -/
namespace Go.Am
open Go.RowKit
def Qnl (P : Prg) (N M : Nat) (b : AC) (Q : Exit → St → Prop) : Exit → St → Prop := XY (wpC P N M b Q) Q
def Qnm (id : Nat) (Q : Exit → St → Prop) : Exit → St → Prop := Qjw id Q
def QnW (R : St → Prop) (Q : Exit → St → Prop) : Exit → St → Prop := XY R Q
section
variable {P : Prg} {N M : Nat} {a b c : AC} {Q : Exit → St → Prop} {st : St} {R : St → Prop}
def wpQ (P : Prg) (qs : List AO) (Q : Exit → St → Prop) (st : St) : Prop := wpO P qs (Q .normal) st
def QgF (dt : Bool) (ob : List Ob) : List Ob := if dt then [] else ob
def XU (P : Prg) (B : Nat) (xs : List It) (Q : Exit → St → Prop) (st : St) : Prop := wpD P B xs (Q .normal) st
def Qfa (P : Prg) (B : Nat) (ok : Bool) (r : Option (AV × Option (Nat × Ob))) (xs : List It) (Q : Exit → St → Prop) (fr : List (Nat × AV)) (ob : List Ob) (dst : Option Nat) : Prop :=
 match r with
 | some (v, none) => XU P B xs Q ⟨QQ fr dst v, ob⟩
 | some (v, some u) => ok = true ∧ XU P B xs Q ⟨QQ fr dst v, app ob (some u)⟩
 | none => False
def XN (P : Prg) (B : Nat) (dt : Bool) (k : Nat) (f : FuncId) (avs : List AV) (xs : List It) (Q : Exit → St → Prop) (fr : List (Nat × AV)) (ob : List Ob) (dst : Option Nat) : Prop :=
 ∃ r u, Zx P dt k f avs ob r u ∧ XU P B xs Q ⟨QQ fr dst r, app ob u⟩
def Qat (P : Prg) (B : Nat) (t : Option Bool) (r : Nat) (dt : Bool) (o : AO) (xs : List It) (Q : Exit → St → Prop) (fr : List (Nat × AV)) (ob : List Ob) : Prop :=
 match t with
 | some true => XU P B (⟨r, dt, ⟨o.dst, none, o.op⟩⟩ :: xs) Q ⟨fr, ob⟩
 | some false => XU P B xs Q ⟨QQ fr o.dst (.tup []), ob⟩
 | none => False
theorem QR {B : Nat} {dt : Bool} {k : Nat} {f : FuncId} {ds : List AV} {r : AV} (h : VC P f ds r) {xs : List It} {fr : List (Nat × AV)} {ob : List Ob} {dst : Option Nat} (hK : XU P B xs Q ⟨QQ fr dst r, ob⟩) : XN P B dt k f ds xs Q fr ob dst := by
 refine ⟨r, none, ?_, hK⟩
 unfold Zx
 split
 ·exact ⟨ACall.of_vc h ⟨rfl, rfl⟩, fun _ _ e => by cases e⟩
 split
 ·exact ⟨ACall.of_vc h ⟨rfl, rfl⟩, rfl⟩
 ·exact .inl ⟨h, rfl⟩
theorem XN.ro {B : Nat} {f : FuncId} {avs : List AV} {r : AV} {xs : List It} {fr : List (Nat × AV)} {ob : List Ob} {dst : Option Nat} (h : ∀ K : AV → List Ob → Prop, K r ob → ACall P f avs ob K) (hK : XU P B xs Q ⟨QQ fr dst r, ob⟩) : XN P B false 1 f avs xs Q fr ob dst := by
 refine ⟨r, none, ?_, hK⟩
 unfold Zx
 rw [qz (by simp), qE rfl]
 exact ⟨h _ ⟨rfl, rfl⟩, rfl⟩
theorem XN.at {B : Nat} {f : FuncId} {ds : List AV} {r : AV} {ob : List Ob} (o : Nat) (x : Ob) (he : Enters P f) (h : ∀ ob', ob'[o]? = some ph2 → ACall P f ds ob' (fun r' ob'' => r' = r ∧ ob'' = ob'.set o x)) (ho : ob[o]? = some ph2) (hx : x.sz ≠ 0)
  {xs : List It} {fr : List (Nat × AV)} {dst : Option Nat} (hK : XU P B xs Q ⟨QQ fr dst r, app ob (some (o, x))⟩) : XN P B false 0 f ds xs Q fr ob dst :=
 ⟨r, some (o, x), by unfold Zx; rw [qz (by simp), qz (by decide)]; exact .inr ⟨o, x, he, h, rfl, ho, hx⟩, hK⟩
theorem QkE {B r : Nat} {dt : Bool} {dst : Option Nat} {p : AOp} {xs : List It} {fr : List (Nat × AV)} {ob : List Ob} : XU P B (⟨r, dt, ⟨dst, none, .op p⟩⟩ :: xs) Q ⟨fr, ob⟩ = Qfa P B (okW p) (Qaa (dt && Qq p) (aop (opd P.G fr) (QgF dt ob) (B + r) p)) xs Q fr ob dst := by
 refine propext ⟨?_, ?_⟩
 ·rintro ⟨s1, ⟨v, u, h1, h0, rfl⟩, h2⟩
  have h1' : Qaa (dt && Qq p) (aop (opd P.G fr) (QgF dt ob) (B + r) p) = some (v, u) := h1
  unfold Qfa
  rw [h1']
  cases u with
  | none => exact h2
  | some u => exact ⟨h0.resolve_left (by simp), h2⟩
 ·intro h
  unfold Qfa at h
  split at h
  ·rename_i v h1
   exact ⟨_, ⟨v, none, h1, .inl rfl, rfl⟩, h⟩
  ·rename_i v u h1
   exact ⟨_, ⟨v, some u, h1, .inr h.1, rfl⟩, h.2⟩
  ·exact h.elim
theorem Qgj {B r : Nat} {dt : Bool} {dst : Option Nat} {f : FuncId} {args : List Operand} {xs : List It} {fr : List (Nat × AV)} {ob : List Ob} : XU P B (⟨r, dt, ⟨dst, none, .call f args⟩⟩ :: xs) Q ⟨fr, ob⟩ = XN P B dt r f (args.map (opd P.G fr)) xs Q fr ob dst := by
 refine propext ⟨?_, ?_⟩
 ·rintro ⟨s1, ⟨v, u, h1, rfl⟩, h2⟩
  exact ⟨v, u, h1, h2⟩
 ·rintro ⟨v, u, h1, h2⟩
  exact ⟨_, ⟨v, u, h1, rfl⟩, h2⟩
theorem Qes {B r : Nat} {dt : Bool} {dst : Option Nat} {g : Nat × Bool} {k : AK} {xs : List It} {fr : List (Nat × AV)} {ob : List Ob} : XU P B (⟨r, dt, ⟨dst, some g, k⟩⟩ :: xs) Q ⟨fr, ob⟩ = Qat P B (Qy fr (some g)) r dt ⟨dst, some g, k⟩ xs Q fr ob := by
 simp only [XU, wpD, Xm, Qat, up]
 cases Qy fr (some g) with
 | none => simp
 | some t =>
  cases t with
  | true => rfl
  | false => simp
def Qa0 (P : Prg) (f : FuncId) (avs : List AV) (ob : List Ob) (os : List AO) (Q : Exit → St → Prop) (fr : List (Nat × AV)) (dst : Option Nat) : Prop :=
 ACall P f avs ob fun r ob' => wpQ P os Q ⟨QQ fr dst r, ob'⟩
def Qmv (P : Prg) (r : Option (AV × Option (Nat × Ob))) (os : List AO) (Q : Exit → St → Prop) (fr : List (Nat × AV)) (ob : List Ob) (dst : Option Nat) : Prop :=
 match r with
 | some (v, u) => wpQ P os Q ⟨QQ fr dst v, app ob u⟩
 | none => False
def Qas (P : Prg) (t : Option Bool) (o : AO) (os : List AO) (Q : Exit → St → Prop) (fr : List (Nat × AV)) (ob : List Ob) : Prop :=
 match t with
 | some true => wpQ P (⟨o.dst, none, o.op⟩ :: os) Q ⟨fr, ob⟩
 | some false => wpQ P os Q ⟨QQ fr o.dst (.tup []), ob⟩
 | none => False
def Qae (P : Prg) (N M : Nat) (v : AV) (a b : AC) (Q : Exit → St → Prop) (st : St) : Prop :=
 match v with
 | .bool t => if t = true then wpC P N M a Q st else wpC P N M b Q st
 | .ubool => wpC P N M a Q st ∧ wpC P N M b Q st
 | _ => False
theorem Qgh {dst : Option Nat} {g : Nat × Bool} {k : AK} {os : List AO} {fr : List (Nat × AV)} {ob : List Ob} : wpQ P (⟨dst, some g, k⟩ :: os) Q ⟨fr, ob⟩ = Qas P (Qy fr (some g)) ⟨dst, some g, k⟩ os Q fr ob := by
 simp only [wpQ, wpO, Qas]
 cases Qy fr (some g) with
 | none => rfl
 | some t => cases t <;> rfl
theorem Qa {f : FuncId} {ds : List AV} {r : AV} (h : VC P f ds r) {ob : List Ob} {os : List AO} {fr : List (Nat × AV)} {dst : Option Nat} (hK : wpQ P os Q ⟨QQ fr dst r, ob⟩) : Qa0 P f ds ob os Q fr dst :=
 ACall.of_vc h hK
end
theorem Zq {P : Prg} {N M : Nat} {ac : AC} {Q : Exit → St → Prop} {st : St} {ι : Type} (S : ι → St) (ok : ι → Prop) (μ : ι → Nat) (i0 : ι) (h0 : Le M st (S i0)) (hok : ok i0)
  (step : ∀ i, ok i → wpC P N M ac (QnW (fun st' => ∃ j, ok j ∧ μ j < μ i ∧ Le M st' (S j)) Q) (S i)) : QiZ P N M ac Q st :=
 QiZ.rule S ok μ i0 h0 hok step
theorem walk :
  (∀ P N M Q st, wpC P N M .skip Q st = Q .normal st) ∧
  (∀ P N M qs Q st, wpC P N M (.reg qs) Q st = wpQ P qs Q st) ∧
  (∀ P N M xs ps Q st, wpC P N M (.draw xs ps) Q st = XU P st.ob.length xs Q ⟨st.fr, st.ob ++ ps⟩) ∧
  (∀ P B Q st, XU P B [] Q st = Q .normal st) ∧
  (∀ P B r dt dst p xs Q fr ob, XU P B (⟨r, dt, ⟨dst, none, .op p⟩⟩ :: xs) Q ⟨fr, ob⟩ = Qfa P B (okW p) (Qaa (dt && Qq p) (aop (opd P.G fr) (QgF dt ob) (B + r) p)) xs Q fr ob dst) ∧
  (∀ P B r dt dst f args xs Q fr ob, XU P B (⟨r, dt, ⟨dst, none, .call f args⟩⟩ :: xs) Q ⟨fr, ob⟩ = XN P B dt r f (args.map (opd P.G fr)) xs Q fr ob dst) ∧
  (∀ P B r dt dst g k xs Q fr ob, XU P B (⟨r, dt, ⟨dst, some g, k⟩⟩ :: xs) Q ⟨fr, ob⟩ = Qat P B (Qy fr (some g)) r dt ⟨dst, some g, k⟩ xs Q fr ob) ∧
  (∀ P B k v xs Q fr ob dst, Qfa P B k (some (v, none)) xs Q fr ob dst = XU P B xs Q ⟨QQ fr dst v, ob⟩) ∧
  (∀ P B v u xs Q fr ob dst, Qfa P B true (some (v, some u)) xs Q fr ob dst = XU P B xs Q ⟨QQ fr dst v, app ob (some u)⟩) ∧
  (∀ P B r dt o xs Q fr ob, Qat P B (some true) r dt o xs Q fr ob = XU P B (⟨r, dt, ⟨o.dst, none, o.op⟩⟩ :: xs) Q ⟨fr, ob⟩) ∧
  (∀ P B r dt o xs Q fr ob, Qat P B (some false) r dt o xs Q fr ob = XU P B xs Q ⟨QQ fr o.dst (.tup []), ob⟩) ∧
  (∀ ob, QgF true ob = []) ∧
  (∀ ob, QgF false ob = ob) ∧
  (∀ P N M a b Q st, wpC P N M (.seq a b) Q st = wpC P N M a (Qnl P N M b Q) st) ∧
  (∀ P N M x a b Q st, wpC P N M (.cond x a b) Q st = Qae P N M (opd P.G st.fr x) a b Q st) ∧
  (∀ P N M id c Q st, wpC P N M (.block id c) Q st = wpC P N M c (Qnm id Q) st) ∧
  (∀ P N M c Q st, wpC P N M (.loop c) Q st = QiZ P N M c Q st) ∧
  (∀ P N M id Q st, wpC P N M (.exit id) Q st = Q (.exit id) st) ∧
  (∀ P N M Q st, wpC P N M .ret Q st = Q .ret st) ∧
  (∀ P N M b Q st, Qnl P N M b Q .normal st = wpC P N M b Q st) ∧
  (∀ P N M b Q j st, Qnl P N M b Q (.exit j) st = Q (.exit j) st) ∧
  (∀ P N M b Q st, Qnl P N M b Q .ret st = Q .ret st) ∧
  (∀ id Q st, Qnm id Q .normal st = Q .normal st) ∧
  (∀ id Q j st, Qnm id Q (.exit j) st = if j = id then Q .normal st else Q (.exit j) st) ∧
  (∀ id Q st, Qnm id Q .ret st = Q .ret st) ∧
  (∀ R Q st, QnW R Q .normal st = R st) ∧
  (∀ R Q j st, QnW R Q (.exit j) st = Q (.exit j) st) ∧
  (∀ R Q st, QnW R Q .ret st = Q .ret st) ∧
  (∀ P N M t a b Q st, Qae P N M (.bool t) a b Q st = if t = true then wpC P N M a Q st else wpC P N M b Q st) ∧
  (∀ P N M a b Q st, Qae P N M .ubool a b Q st = (wpC P N M a Q st ∧ wpC P N M b Q st)) ∧
  (∀ P Q st, wpQ P [] Q st = Q .normal st) ∧
  (∀ P dst p os Q fr ob, wpQ P (⟨dst, none, .op p⟩ :: os) Q ⟨fr, ob⟩ = Qmv P (aop (opd P.G fr) ob ob.length p) os Q fr ob dst) ∧
  (∀ P dst f args os Q fr ob, wpQ P (⟨dst, none, .call f args⟩ :: os) Q ⟨fr, ob⟩ = Qa0 P f (args.map (opd P.G fr)) ob os Q fr dst) ∧
  (∀ P dst g k os Q fr ob, wpQ P (⟨dst, some g, k⟩ :: os) Q ⟨fr, ob⟩ = Qas P (Qy fr (some g)) ⟨dst, some g, k⟩ os Q fr ob) ∧
  (∀ P v u os Q fr ob dst, Qmv P (some (v, u)) os Q fr ob dst = wpQ P os Q ⟨QQ fr dst v, app ob u⟩) ∧
  (∀ P dst g k os Q fr ob, Qas P (some true) ⟨dst, g, k⟩ os Q fr ob = wpQ P (⟨dst, none, k⟩ :: os) Q ⟨fr, ob⟩) ∧
  (∀ P dst g k os Q fr ob, Qas P (some false) ⟨dst, g, k⟩ os Q fr ob = wpQ P os Q ⟨QQ fr dst (.tup []), ob⟩) ∧
  (∀ P rl K fr ob, QaZ P rl K .ret ⟨fr, ob⟩ = match Z8 fr ob P rl with | some rs => K (QM rs) ob | none => False) ∧
  (∀ P rl K fr ob, QaZ P rl K .normal ⟨fr, ob⟩ = match Z8 fr ob P rl with | some rs => K (QM rs) ob | none => False) ∧
  (∀ fr d v, QQ fr (some d) v = (d, v) :: fr) ∧
  (∀ fr v, QQ fr none v = fr) ∧
  (∀ fr d b, Qy fr (some (d, b)) = match look fr d with | .bool t => some (t == b) | .tup [] => some false | _ => none) ∧
  (∀ ob, app ob none = ob) ∧
  (∀ j i v r, look ((j, v) :: r) i = if i = j then v else look r i) ∧
  (∀ i, look [] i = .any) ∧
  (∀ G fr t, opd G fr (.tmp t) = look fr t) ∧
  (∀ G fr v, opd G fr (.const v) = cV v) ∧
  (∀ G fr f, opd G fr (.func f) = .fn (.func f) [] []) ∧
  (∀ P t fr ob r, Z8 fr ob P (.tmp t :: r) = (Z8 fr ob P r).map (look fr t :: ·)) ∧
  (∀ P fr ob, Z8 fr ob P [] = some []) ∧
  (∀ v, QM [v] = v) ∧
  (∀ v u r, QM (v :: u :: r) = .tup (v :: u :: r)) ∧
  (∀ k, Qz k [] = []) ∧
  (∀ k v vs, Qz k (v :: vs) = (k, v) :: Qz (k + 1) vs) := by
 refine ⟨?_, ?_, ?_, ?_, ?_, ?_, ?_, ?_, ?_, ?_, ?_, ?_, ?_, ?_, ?_, ?_, ?_, ?_, ?_, ?_, ?_, ?_, ?_, ?_, ?_, ?_, ?_, ?_, ?_, ?_, ?_, ?_, ?_, ?_, ?_, ?_, ?_, ?_, ?_, ?_, ?_, ?_, ?_, ?_, ?_, ?_, ?_, ?_, ?_, ?_, ?_, ?_, ?_, ?_⟩ <;> intros <;> first | rfl | exact Qgh | exact QkE | exact Qgj | exact Qes | exact propext ⟨fun h => h.2, fun h => ⟨rfl, h⟩⟩
mutual
def below (m : Nat) : AV → Bool
 | .own o _ | .ownc o _ _ | .view o _ _ _ | .ref o _ _ => decide (o < m)
 | .list _ cs | .cell cs | .agg cs | .tup cs => belowL m cs
 | .fn _ a b => belowL m a && belowL m b
 | _ => true
def belowL (m : Nat) : List AV → Bool
 | [] => true
 | c :: cs => below m c && belowL m cs
end
theorem Jw {M : Nat} {fr fr' : List (Nat × AV)} {ob : List Ob} (h : ∀ p ∈ fr', p.2 = .any ∨ look fr p.1 = p.2) : Le M ⟨fr, ob⟩ ⟨fr', ob⟩ := by
 intro Γ a w hM ⟨q1, q2, q3, be, g, hm, hfr⟩
 refine ⟨q1, q2, q3, be, g, hm, fun i => ?_⟩
 have key : ∀ l : List (Nat × AV), (∀ p ∈ l, p.2 = .any ∨ look fr p.1 = p.2) → look l i = .any ∨ look l i = look fr i := by
  intro l
  induction l with
  | nil => intro _; exact .inl rfl
  | cons p l ih =>
   obtain ⟨j, v⟩ := p
   intro h
   simp only [look]
   split
   ·rename_i e
    subst e
    rcases h (i, v) (by simp) with h1 | h1
    ·exact .inl h1
    ·exact .inr h1.symm
   ·exact ih fun p hp => h p (by simp [hp])
 rcases key fr' h with h1 | h1
 ·show Rep _ (look fr' i) _
  rw [h1]; simp only [Rep]
 ·show Rep _ (look fr' i) _
  rw [h1]; exact hfr i
theorem QA {M : Nat} {fr fr2 : List (Nat × AV)} {ob : List Ob} (h : ∀ p ∈ fr2, p.2 = .any ∨ look fr p.1 = p.2 := by simp [Am.look]) : Le M ⟨fr, ob⟩ ⟨fr2, ob⟩ := Jw h
end Go.Am
/- The abstract machine: what lies in objects becomes data. -/
namespace Go.Am
open Go.RowKit
mutual
def Q6 (f : List AV → Option (List AV)) (kp ok : Nat → Bool) (ob : List Ob) : AV → Option AV
 | .own o n =>
  if kp o = true then some (.own o n) else
  match ob[o]? with
  | some x => if x.n = n ∧ ok o = true then (f x.cs).map (.list n) else none
  | none => none
 | .ownc o n c =>
  if kp o = true then some (.ownc o n c) else
  match ob[o]? with
  | some x => if x.n = n ∧ ok o = true then (f x.cs).map (.list n) else none
  | none => none
 | .view o ver k n =>
  if kp o = true then some (.view o ver k n) else
  match ob[o]? with
  | some x => if x.n = ver ∧ ok o = true ∧ n ≠ 0 then (f ((x.cs.drop k).take (n * (if x.n = 1 ∧ x.cs.length < k + n * x.sz then 1 else x.sz)))).map (.list n) else none
  | none => none
 | .ref o ver k =>
  if kp o = true then some (.ref o ver k) else
  match ob[o]? with
  | some x => if x.n = ver ∧ ok o = true then (f (x.cs.drop k)).map .cell else none
  | none => none
 | .list n cs => (frzL f kp ok ob cs).map (.list n)
 | .cell cs => (frzL f kp ok ob cs).map .cell
 | .agg cs => (frzL f kp ok ob cs).map .agg
 | .tup cs => (frzL f kp ok ob cs).map .tup
 | .fn g a b =>
  match frzL f kp ok ob a, frzL f kp ok ob b with
  | some a, some b => some (.fn g a b)
  | _, _ => none
 | .any => some .any
 | .int k n => some (.int k n)
 | .bool b => some (.bool b)
 | .ubool => some .ubool
 | .str s => some (.str s)
 | .lit v => some (.lit v)
 | .emp _ => some (.list 0 [])
def frzL (f : List AV → Option (List AV)) (kp ok : Nat → Bool) (ob : List Ob) : List AV → Option (List AV)
 | [] => some []
 | c :: cs =>
  match Q6 f kp ok ob c, frzL f kp ok ob cs with
  | some c, some cs => some (c :: cs)
  | _, _ => none
end
def Zf (kp ok : Nat → Bool) (ob : List Ob) : Nat → List AV → Option (List AV)
 | 0 => fun cs => if isDL cs then some cs else none
 | k + 1 => frzL (Zf kp ok ob k) kp ok ob
def Z6 (ok : Nat → Bool) (ob : List Ob) (k : Nat) (l : List AV) : Option (List AV) := Zf (fun _ => false) ok ob k l
section
variable {B : Nat} {X Y : Cx} (g : Held B X) (hw : Y.w = X.w) (hC : ∀ b k, Y.av b k → X.av b k) {kp ok : Nat → Bool}
 (hK : ∀ (o : Nat) (x : Ob), kp o = true → X.ob[o]? = some x → ∃ y, Y.ob[o]? = some y ∧ y.n = x.n ∧ y.sz = x.sz ∧ Y.be[o]? = X.be[o]?)
 (hO : ∀ (o b c : Nat) (x : Ob), ok o = true → X.ob[o]? = some x → X.be[o]? = some (some (b, c)) → ∀ k, k < x.cs.length → ¬ Y.av b k)
include g hw hC hO
theorem Ql6 {b k : Nat} {vs : List Value} (h : AtC X b k vs) : AtC Y b k vs := fun i v hv =>
 ⟨⟨by rw [hw]; exact (h i v hv).1.1, fun hh => (h i v hv).1.2 (hC _ _ hh)⟩, (h i v hv).2⟩
theorem Qjx {o b c : Nat} {x : Ob} (ho : ok o = true) (hx : X.ob[o]? = some x) (he : X.be[o]? = some (some (b, c))) : ∃ vs, vs.length = x.cs.length ∧ RepL X x.cs vs ∧ AtC Y b 0 vs := by
 obtain ⟨cur, ⟨fr, q1, _⟩, q2, q3, q4, q5, q6, q7⟩ := g.ok o x _ hx he
 have hl := J3 (m := x.cs.length) q1 (fun v hv => q7 v (qG hv))
 refine ⟨_, q6.length, q6, fun i v hv => ⟨⟨by rw [hw]; exact (hl i v hv).1, fun hh => ?_⟩, (hl i v hv).2⟩⟩
 have hlt := (qb.1 hv).1
 have h2 := hh
 rw [qY] at h2
 exact hO o b c x ho hx he i (by rw [← q6.length]; exact hlt) h2
theorem AtC.part {Y : Cx} {b : Nat} {vs : List Value} (h : AtC Y b 0 vs) (k m : Nat) : AtC Y b k ((vs.drop k).take m) := fun i v hv => by
 rw [ym] at hv
 split at hv
 ·rw [yM] at hv
  have := h (k + i) v hv
  simpa using this
 ·cases hv
omit hw hC hO in
include hK in
theorem Qc5 {o ver : Nat} {p : Option (Option (Nat × Nat)) → Prop} (hk : kp o = true) (h : Cur X o ver p) : Cur Y o ver p := by
 obtain ⟨x, hx, h0, hn, hp⟩ := h
 obtain ⟨y, hy, e1, e2, e3⟩ := hK o x hk hx
 exact ⟨y, hy, by rw [e2]; exact h0, by rw [e1]; exact hn, fun e => by rw [e3]; exact hp (by omega)⟩
include hK
mutual
theorem Qj4 {f : List AV → Option (List AV)} (hf : ∀ cs r vs, f cs = some r → RepL X cs vs → RepL Y r vs) : ∀ (c r : AV) (v : Value), Q6 f kp ok X.ob c = some r → Rep X c v → Rep Y r v
 | .any, r, v, h, _ => by simp only [Q6, qc] at h; subst h; simp only [Rep]
 | .int _ _, r, v, h, hr => by simp only [Q6, qc] at h; subst h; simpa only [Rep] using hr
 | .bool _, r, v, h, hr => by simp only [Q6, qc] at h; subst h; simpa only [Rep] using hr
 | .ubool, r, v, h, hr => by simp only [Q6, qc] at h; subst h; simpa only [Rep] using hr
 | .str _, r, v, h, hr => by simp only [Q6, qc] at h; subst h; simpa only [Rep] using hr
 | .lit _, r, v, h, hr => by simp only [Q6, qc] at h; subst h; simpa only [Rep] using hr
 | .emp _, r, v, h, hr => by
  simp only [Q6, qc] at h
  subst h
  simp only [Rep] at hr ⊢
  obtain ⟨a, e, _⟩ := hr
  exact ⟨a, 0, [], e, qg _, .inl rfl, by simp [RepL]⟩
 | .list n cs, r, v, h, hr => by
  simp only [Q6, qa] at h
  obtain ⟨cs', h, rfl⟩ := h
  simp only [Rep] at hr ⊢
  obtain ⟨a, cap, vs, e, gc, g1, g2⟩ := hr
  refine ⟨a, cap, vs, e, gc, ?_, frzL_sound hf cs cs' vs h g2⟩
  rcases g1 with g1 | ⟨b, k, e1, g1⟩
  ·exact .inl g1
  ·exact .inr ⟨b, k, e1, Ql6 g hw hC hO g1⟩
 | .cell cs, r, v, h, hr => by
  simp only [Q6, qa] at h
  obtain ⟨cs', h, rfl⟩ := h
  simp only [Rep] at hr ⊢
  obtain ⟨b, k, vs, e, g1, g2⟩ := hr
  exact ⟨b, k, vs, e, Ql6 g hw hC hO g1, frzL_sound hf cs cs' vs h g2⟩
 | .agg cs, r, v, h, hr => by
  simp only [Q6, qa] at h
  obtain ⟨cs', h, rfl⟩ := h
  simp only [Rep] at hr ⊢
  obtain ⟨vs, e, g2⟩ := hr
  exact ⟨vs, e, frzL_sound hf cs cs' vs h g2⟩
 | .tup cs, r, v, h, hr => by
  simp only [Q6, qa] at h
  obtain ⟨cs', h, rfl⟩ := h
  simp only [Rep] at hr ⊢
  obtain ⟨vs, e, g2⟩ := hr
  exact ⟨vs, e, frzL_sound hf cs cs' vs h g2⟩
 | .fn q a b, r, v, h, hr => by
  simp only [Q6] at h
  split at h
  ·rename_i a' b' ha hb
   cases h
   simp only [Rep] at hr ⊢
   obtain ⟨va, vb, e, g1, g2⟩ := hr
   exact ⟨va, vb, e, frzL_sound hf a a' va ha g1, frzL_sound hf b b' vb hb g2⟩
  ·cases h
 | .own o n, r, v, h, hr => by
  simp only [Q6] at h
  split at h
  ·rename_i hk
   cases h
   simp only [Rep] at hr ⊢
   exact ⟨Qc5 g hK hk hr.1, hr.2⟩
  split at h
  case h_2 => cases h
  rename_i x hx
  split at h
  case isFalse => cases h
  rename_i hok
  simp only [qa] at h
  obtain ⟨cs', h, rfl⟩ := h
  simp only [Rep] at hr
  obtain ⟨⟨y, hy, _, _, hp⟩, _⟩ := hr
  rw [hx] at hy
  cases hy
  have h2 := hp hok.1
  obtain ⟨e, he, hob⟩ := g.get hx
  cases e with
  | none =>
   simp only [he, OwnV] at h2
   obtain ⟨a, rfl⟩ := h2
   have hn : n = 0 := by rw [← hok.1]; exact hob.1
   subst hn
   have hcs : RepL Y cs' [] := hf _ _ _ h (by rw [hob.2]; simp [RepL])
   simp only [Rep]
   exact ⟨a, 0, [], rfl, qg _, .inl rfl, hcs⟩
  | some p =>
   obtain ⟨b, cap⟩ := p
   simp only [he, OwnV] at h2
   subst h2
   obtain ⟨vs, hl, hrv, hat⟩ := Qjx g hw hC hO hok.2 hx he
   obtain ⟨cur, ⟨fr, q1, _⟩, q2, q3, q4, q5, q6, q7⟩ := hob
   simp only [Rep]
   exact ⟨_, cap, vs, rfl, by omega, .inr ⟨b, 0, rfl, hat⟩, hf _ _ _ h hrv⟩
 | .ownc o n c, r, v, h, hr => by
  simp only [Q6] at h
  split at h
  ·rename_i hk
   cases h
   simp only [Rep] at hr ⊢
   exact ⟨Qc5 g hK hk hr.1, hr.2⟩
  split at h
  case h_2 => cases h
  rename_i x hx
  split at h
  case isFalse => cases h
  rename_i hok
  simp only [qa] at h
  obtain ⟨cs', h, rfl⟩ := h
  simp only [Rep] at hr
  obtain ⟨⟨y, hy, _, _, hp⟩, _⟩ := hr
  rw [hx] at hy
  cases hy
  have h2 := (hp hok.1).1
  obtain ⟨e, he, hob⟩ := g.get hx
  cases e with
  | none =>
   simp only [he, OwnV] at h2
   obtain ⟨a, rfl⟩ := h2
   have hn : n = 0 := by rw [← hok.1]; exact hob.1
   subst hn
   have hcs : RepL Y cs' [] := hf _ _ _ h (by rw [hob.2]; simp [RepL])
   simp only [Rep]
   exact ⟨a, 0, [], rfl, qg _, .inl rfl, hcs⟩
  | some p =>
   obtain ⟨b, cap⟩ := p
   simp only [he, OwnV] at h2
   subst h2
   obtain ⟨vs, hl, hrv, hat⟩ := Qjx g hw hC hO hok.2 hx he
   obtain ⟨cur, ⟨fr, q1, _⟩, q2, q3, q4, q5, q6, q7⟩ := hob
   simp only [Rep]
   exact ⟨_, cap, vs, rfl, by omega, .inr ⟨b, 0, rfl, hat⟩, hf _ _ _ h hrv⟩
 | .view o ver k n, r, v, h, hr => by
  simp only [Q6] at h
  split at h
  ·rename_i hk
   cases h
   simp only [Rep] at hr ⊢
   exact ⟨Qc5 g hK hk hr.1, hr.2⟩
  split at h
  case h_2 => cases h
  rename_i x hx
  split at h
  case isFalse => cases h
  rename_i hok
  simp only [qa] at h
  obtain ⟨cs', h, rfl⟩ := h
  simp only [Rep] at hr
  obtain ⟨⟨y, hy, _, _, hp⟩, _⟩ := hr
  rw [hx] at hy
  cases hy
  obtain ⟨a, cap, rfl, hc, h2⟩ := hp hok.1
  rcases h2 with h2 | ⟨b, c, he, rfl⟩
  ·exact absurd h2 hok.2.2
  ·obtain ⟨vs, hl, hrv, hat⟩ := Qjx g hw hC hO hok.2.1 hx he
   simp only [Rep]
   exact ⟨_, cap, _, rfl, hc, .inr ⟨b, k, rfl, AtC.part g hw hC hO hat k _⟩, hf _ _ _ h ((hrv.drop k).take _)⟩
 | .ref o ver k, r, v, h, hr => by
  simp only [Q6] at h
  split at h
  ·rename_i hk
   cases h
   simp only [Rep] at hr ⊢
   exact ⟨Qc5 g hK hk hr.1, hr.2⟩
  split at h
  case h_2 => cases h
  rename_i x hx
  split at h
  case isFalse => cases h
  rename_i hok
  simp only [qa] at h
  obtain ⟨cs', h, rfl⟩ := h
  simp only [Rep] at hr
  obtain ⟨⟨y, hy, _, _, hp⟩, _⟩ := hr
  rw [hx] at hy
  cases hy
  obtain ⟨b, c, he, rfl⟩ := hp hok.1
  obtain ⟨vs, hl, hrv, hat⟩ := Qjx g hw hC hO hok.2 hx he
  simp only [Rep]
  refine ⟨b, k, vs.drop k, rfl, ?_, hf _ _ _ h (hrv.drop k)⟩
  have := AtC.part g hw hC hO hat k (vs.drop k).length
  rwa [yn] at this
theorem frzL_sound {f : List AV → Option (List AV)} (hf : ∀ cs r vs, f cs = some r → RepL X cs vs → RepL Y r vs) : ∀ (cs r : List AV) (vs : List Value), frzL f kp ok X.ob cs = some r → RepL X cs vs → RepL Y r vs
 | [], r, vs, h, hr => by simp only [frzL, qc] at h; subst h; simpa only [RepL] using hr
 | c :: cs, r, vs, h, hr => by
  simp only [frzL] at h
  split at h
  ·rename_i c' cs' h1 h2
   cases h
   simp only [RepL] at hr ⊢
   obtain ⟨v, rest, e, g1, g2⟩ := hr
   exact ⟨v, rest, e, Qj4 hf c c' v h1 g1, frzL_sound hf cs cs' rest h2 g2⟩
  ·cases h
end
theorem J6 : ∀ (k : Nat) (cs r : List AV) (vs : List Value), Zf kp ok X.ob k cs = some r → RepL X cs vs → RepL Y r vs
 | 0, cs, r, vs, h, hr => by
  simp only [Zf] at h
  split at h <;> cases h
  rename_i hd
  exact RepL.data (X := X) (Y := Y) (fun b k v hc ha => ⟨by rw [hw]; exact hc, fun hh => ha (hC _ _ hh)⟩) _ _ hd hr
 | k + 1, cs, r, vs, h, hr => frzL_sound g hw hC hK hO (J6 k) cs r vs h hr
end
theorem Qii {w : World} {C' : Nat → Nat → Prop} {b k : Nat} : (Cx.mk w [] [] C').av b k ↔ C' b k := by
 constructor
 ·rintro (h | ⟨o, x, c, h, _⟩)
  ·exact h
  ·simp at h
 ·exact fun h => .inl h
theorem X2 {B : Nat} {X : Cx} (g : Held B X) {C' : Nat → Nat → Prop} (hC : ∀ b k, C' b k → X.av b k) {ok : Nat → Bool}
  (hO : ∀ (o b c : Nat) (x : Ob), ok o = true → X.ob[o]? = some x → X.be[o]? = some (some (b, c)) → ∀ k, k < x.cs.length → ¬ C' b k) (k : Nat) (cs r : List AV) (vs : List Value) (h : Z6 ok X.ob k cs = some r) (hr : RepL X cs vs) : RepL ⟨X.w, [], [], C'⟩ r vs :=
 J6 (X := X) (Y := ⟨X.w, [], [], C'⟩) g rfl (fun b k h => hC b k (Qii.1 h)) (fun o x h _ => by cases h) (fun o b c x h1 h2 h3 k hk hh => hO o b c x h1 h2 h3 k hk (Qii.1 hh)) k cs r vs h hr
theorem QT {P : Prg} {f : FuncId} {ds : List AV} {r : AV} (k : Nat) (h1 : isDL ds = true) (h2 : isD r = true) (h : ACall P f ds [] (fun r' ob' => Z6 (fun _ => true) ob' (k + 1) [r'] = some [r])) : VC P f ds r := by
 obtain ⟨h0, h⟩ := h
 refine ⟨h0, h1, h2, fun w C vs hbnd hG hr => ?_⟩
 have g : Held w.heap.size ⟨w, [], [], C⟩ := ⟨rfl, by simp, by simp, by simp, hbnd, qg _⟩
 refine (h w.heap.size w [] C vs g hG hr).mono ?_
 rintro e w' ⟨v, r', ob', be', rfl, hb, hh, hm, hv, hf⟩
 refine ⟨v, rfl, hb, ?_⟩
 have := X2 (X := ⟨w', ob', be', C⟩) hh (C' := C) (fun b k h => .inl h) (ok := fun _ => true) (fun o b c x _ _ he k _ hc => by
  have h1 := hh.base o b c he
  have h2 := hh.bnd b k hc
  omega) (k + 1) [r'] [r] [v] hf (by simp only [RepL]; exact ⟨v, [], rfl, hv, rfl⟩)
 simp only [RepL] at this
 obtain ⟨v', rest, e, h3, _⟩ := this
 cases e
 exact h3
def flat : AV → Bool
 | .int _ _ | .bool _ | .ubool | .str _ => true
 | _ => false
def flatR : AV → Bool
 | .tup cs => cs.all flat
 | v => flat v
theorem Rep.flat {X Y : Cx} {c : AV} {v : Value} (h : flat c = true) (hr : Rep X c v) : Rep Y c v := by
 cases c <;> first | (cases h; done) | (simp only [Rep] at hr ⊢; exact hr)
theorem RepL.flat {X Y : Cx} : ∀ {cs : List AV} {vs : List Value}, cs.all Go.Am.flat = true → RepL X cs vs → RepL Y cs vs
 | [], _, _, hr => by simp only [RepL] at hr ⊢; exact hr
 | c :: cs, _, h, hr => by
  simp only [List.all_cons, qf] at h
  simp only [RepL] at hr ⊢
  obtain ⟨v, rest, e, h1, h2⟩ := hr
  exact ⟨v, rest, e, Rep.flat h.1 h1, RepL.flat h.2 h2⟩
theorem Rep.flatR {X Y : Cx} {c : AV} {v : Value} (h : flatR c = true) (hr : Rep X c v) : Rep Y c v := by
 cases c
 case tup cs =>
  simp only [Rep] at hr ⊢
  obtain ⟨vs, e, h2⟩ := hr
  exact ⟨vs, e, RepL.flat h h2⟩
 all_goals exact Rep.flat h hr
theorem ACall.of_vc_flat {P : Prg} {f : FuncId} {avs ds : List AV} {r : AV} (k : Nat) {ob : List Ob} (hf : Z6 (fun _ => true) ob (k + 1) avs = some ds) (h : VC P f ds r) (hr : flatR r = true) {K : AV → List Ob → Prop} (hK : K r ob) : ACall P f avs ob K := by
 obtain ⟨h0, h1, h2, h3⟩ := h
 refine ⟨h0, fun B w be C vs g hG hrep => ?_⟩
 have hd := X2 (X := ⟨w, ob, be, C⟩) g (C' := fun _ _ => False) (fun _ _ h => h.elim) (ok := fun _ => true) (fun _ _ _ _ _ _ _ _ _ h => h) (k + 1) avs ds vs hf hrep
 refine (h3 w (fun _ _ => False) vs (fun _ _ h => h.elim) (hG.data fun b k v hc _ => ⟨hc, fun h => (Qii.1 h)⟩) hd).mono ?_
 rintro e w' ⟨v, rfl, hb, hv⟩
 exact ⟨v, r, ob, be, rfl, hb.mono g.size, g.below hb, Moves.below (X := ⟨w, ob, be, C⟩) hb, Rep.flatR hr hv, hK⟩
def Qe : List Nat → List Ob → List Ob
 | [], ob => ob
 | i :: is, ob => Qe is (match ob[i]? with | some x => ob.set i { x with fz := x.fz + x.cs.length } | none => ob)
theorem QN : ∀ (is : List Nat) (ob : List Ob) (o : Nat) (x : Ob), ob[o]? = some x → ∃ m, (Qe is ob)[o]? = some { x with fz := m } ∧ x.fz ≤ m ∧ (o ∈ is → x.cs.length ≤ m)
 | [], ob, o, x, h => ⟨x.fz, h, qg _, fun h => by cases h⟩
 | i :: is, ob, o, x, h => by
  by_cases e : i = o
  ·subst e
   have hl := (qb.1 h).1
   obtain ⟨m, h1, h2, h3⟩ := QN is (ob.set i { x with fz := x.fz + x.cs.length }) i { x with fz := x.fz + x.cs.length } (by simp [hl])
   simp only [Qe, h]
   exact ⟨m, h1, by simp only at h2; omega, fun _ => by simp only at h2; omega⟩
  ·have h0 : (match ob[i]? with | some x => ob.set i { x with fz := x.fz + x.cs.length } | none => ob)[o]? = some x := by
    split
    ·rw [qA e]; exact h
    ·exact h
   obtain ⟨m, h1, h2, h3⟩ := QN is _ o x h0
   simp only [Qe]
   exact ⟨m, h1, h2, fun hm => h3 (by rcases qo.1 hm with h | h; exact absurd h.symm e; exact h)⟩
theorem Held.still {B : Nat} {w : World} {be : List (Option (Nat × Nat))} {C : Nat → Nat → Prop} : ∀ (is : List Nat) {ob : List Ob}, Held B ⟨w, ob, be, C⟩ → Held B ⟨w, Qe is ob, be, C⟩ ∧ Moves ⟨w, ob, be, C⟩ ⟨w, Qe is ob, be, C⟩
 | [], ob, g => ⟨g, Moves.refl _⟩
 | i :: is, ob, g => by
  simp only [Qe]
  split
  ·rename_i x hx
   obtain ⟨g1, m1⟩ := g.sealed hx (x.fz + x.cs.length) (Nat.le_add_right _ _)
   obtain ⟨g2, m2⟩ := Held.still is g1
   exact ⟨g2, m1.trans m2⟩
  ·exact Held.still is g
theorem ACall.of_vc_still {P : Prg} {f : FuncId} {avs ds : List AV} {r : AV} (k : Nat) (is : List Nat) {ob : List Ob} (hf : Z6 (fun o => is.contains o) ob (k + 1) avs = some ds) (h : VC P f ds r) {K : AV → List Ob → Prop} (hK : K r (Qe is ob)) : ACall P f avs ob K := by
 have hd := h.2.1
 have hE := h.1
 obtain ⟨_, hcall⟩ := ACall.of_vc h (ob := Qe is ob) (K := fun r' ob' => r' = r ∧ ob' = Qe is ob) ⟨rfl, rfl⟩
 refine ⟨hE, fun B w be C vs g hG hrep => ?_⟩
 obtain ⟨g1, m1⟩ := Held.still is g
 let X : Cx := ⟨w, ob, be, C⟩
 let Y : Cx := ⟨w, Qe is ob, be, C⟩
 have hsub : ∀ b k, Y.av b k → X.av b k := by
  rintro b k (h | ⟨o, x, c, h1, h2, h3⟩)
  ·exact .inl h
  ·have hlt : o < ob.length := by
    have hA : o < be.length := (qb.1 h2).1
    have hB : be.length = ob.length := g.len
    omega
   obtain ⟨m, h4, h5, _⟩ := QN is ob o ob[o] (qd hlt)
   have h1' : (Qe is ob)[o]? = some x := h1
   rw [h4] at h1'
   cases h1'
   exact .inr ⟨o, ob[o], c, qd hlt, h2, by simp only at h3; omega⟩
 have hds := X2 (X := X) g (C' := Y.av) hsub (ok := fun o => is.contains o) (fun o b c x hok hx he k hk hav => by
  have hmem : o ∈ is := by simpa using hok
  rcases hav with h | ⟨o', x', c', h1, h2, h3⟩
  ·have h4 := g.base o b c he
   have h5 := g.bnd b k h
   omega
  ·have := g.inj o o' b c c' he h2
   subst this
   obtain ⟨m, h4, _, h6⟩ := QN is ob o x hx
   have h1' : (Qe is ob)[o]? = some x' := h1
   rw [h4] at h1'
   cases h1'
   have := h6 hmem
   simp only at h3
   omega) (k + 1) avs ds vs hf hrep
 have hds' : RepL ⟨w, Qe is ob, be, C⟩ ds vs := RepL.data (X := ⟨w, [], [], Y.av⟩) (Y := Y) (fun b k v hc ha => ⟨hc, fun h => ha (.inl h)⟩) _ _ hd hds
 refine (hcall B w be C vs g1 (hG.move m1) hds').mono ?_
 rintro e w' ⟨v, r', ob', be', rfl, hb, hh, hm, hv, rfl, rfl⟩
 exact ⟨v, r', Qe is ob, be', rfl, hb, hh, m1.trans hm, hv, hK⟩
theorem Qow {P : Prg} {Q : Exit → St → Prop} {f : FuncId} {avs ds : List AV} {r : AV} (k : Nat) (h : VC P f ds r) (hr : flatR r = true) {ob : List Ob} (hf : Z6 (fun _ => true) ob (k + 1) avs = some ds) {os : List AO} {fr : List (Nat × AV)} {dst : Option Nat} (hK : wpQ P os Q ⟨QQ fr dst r, ob⟩) : Qa0 P f avs ob os Q fr dst :=
 ACall.of_vc_flat k hf h hr hK
theorem ZW {P : Prg} {Q : Exit → St → Prop} {f : FuncId} {avs ds : List AV} {r : AV} (k : Nat) (is : List Nat) (h : VC P f ds r) {ob : List Ob} (hf : Z6 (fun o => is.contains o) ob (k + 1) avs = some ds) {os : List AO} {fr : List (Nat × AV)} {dst : Option Nat} (hK : wpQ P os Q ⟨QQ fr dst r, Qe is ob⟩) : Qa0 P f avs ob os Q fr dst :=
 ACall.of_vc_still k is hf h hK
end Go.Am
/- The abstract machine: objects forgotten; a nil slice as an object. -/
namespace Go.Am
open Go.RowKit
theorem QS {α : Type} {l : List α} {m i : Nat} {x : α} (h : (l.take m)[i]? = some x) : i < m ∧ l[i]? = some x := by
 rw [ym] at h
 split at h
 ·exact ⟨by assumption, h⟩
 ·cases h
theorem Le.drop {M : Nat} (m k : Nat) {fr fr' : List (Nat × AV)} {ob ob' : List Ob} (hM : M ≤ m) (hlen : ob'.length = m)
  (hfr : ∀ p ∈ fr', p.2 = .any ∨ Zf (fun o => decide (o < m)) (fun o => decide (m ≤ o)) ob k [look fr p.1] = some [p.2])
  (hob : ∀ (i : Nat) (y : Ob), ob'[i]? = some y → ∃ cs, ob[i]? = some { y with cs := cs } ∧ Zf (fun o => decide (o < m)) (fun o => decide (m ≤ o)) ob k cs = some y.cs) : Le M ⟨fr, ob⟩ ⟨fr', ob'⟩ := by
 intro Γ a w hX ⟨q1, q2, q3, be, g, hm, hfr0⟩
 let X : Cx := ⟨w, ob, be, Γ.X0.C⟩
 let Y : Cx := ⟨w, ob', be.take m, Γ.X0.C⟩
 have hsub : ∀ b k, Y.av b k → X.av b k := by
  rintro b k (h | ⟨o, y, c, h1, h2, h3⟩)
  ·exact .inl h
  ·obtain ⟨hlt, h2'⟩ := QS h2
   obtain ⟨cs, h4, _⟩ := hob o y h1
   exact .inr ⟨o, _, c, h4, h2', h3⟩
 have hK : ∀ (o : Nat) (x : Ob), decide (o < m) = true → X.ob[o]? = some x → ∃ y, Y.ob[o]? = some y ∧ y.n = x.n ∧ y.sz = x.sz ∧ Y.be[o]? = X.be[o]? := by
  intro o x ho hx
  have hlt : o < m := by simpa using ho
  have hy : ob'[o]? = some ob'[o] := qd (by omega)
  obtain ⟨cs, h4, _⟩ := hob o _ hy
  have hx' : ob[o]? = some x := hx
  rw [hx'] at h4
  cases h4
  exact ⟨_, hy, rfl, rfl, by simp only [Y, X]; rw [yk hlt]⟩
 have hO : ∀ (o b c : Nat) (x : Ob), decide (m ≤ o) = true → X.ob[o]? = some x → X.be[o]? = some (some (b, c)) → ∀ k, k < x.cs.length → ¬ Y.av b k := by
  rintro o b c x ho hx he k _ (h | ⟨o', y, c', h1, h2, h3⟩)
  ·have h4 := g.base o b c he
   have h5 := g.bnd b k h
   omega
  ·obtain ⟨hlt, h2'⟩ := QS h2
   have := g.inj o o' b c c' he h2'
   have : m ≤ o := by simpa using ho
   omega
 have hrep : ∀ (cs r : List AV) (vs : List Value), Zf (fun o => decide (o < m)) (fun o => decide (m ≤ o)) ob k cs = some r → RepL X cs vs → RepL Y r vs := fun cs r vs h hr =>
  J6 (X := X) (Y := Y) g rfl hsub hK hO k cs r vs h hr
 have hlb : be.length = ob.length := g.len
 have hmo : m ≤ ob.length := by
  rcases y8 m with h | h
  ·omega
  ·obtain ⟨cs, h4, _⟩ := hob (m - 1) ob'[m - 1] (qd (by omega))
   have := (qb.1 h4).1
   omega
 have gY : Held Γ.B Y := by
  refine ⟨by simp only [Y, qX]; omega, fun o y e hy he => ?_, fun o o' b c c' h1 h2 => g.inj o o' b c c' (QS h1).2 (QS h2).2, fun o b c h1 => g.base o b c (QS h1).2, g.bnd, g.size⟩
  obtain ⟨cs, h4, h5⟩ := hob o y hy
  have := g.ok o _ e h4 (QS he).2
  cases e with
  | none =>
   obtain ⟨h6, h7⟩ := this
   have h7' : cs = [] := h7
   subst h7'
   have h8 := hrep _ _ [] h5 (by simp [RepL])
   exact ⟨h6, qw (h8.length).symm⟩
  | some p =>
   obtain ⟨b, cap⟩ := p
   obtain ⟨cur, r1, r2, r3, r4, r5, r6, r7⟩ := this
   have h8 := hrep _ _ _ h5 r6
   have h9 : y.cs.length = cs.length := by rw [← h8.length]; exact r6.length
   exact ⟨cur, by obtain ⟨fr, e, h⟩ := r1; exact ⟨fr, e, h⟩, r2, r3, r4, by rw [h9]; exact r5, by rw [h9]; exact h8, r7⟩
 refine ⟨q1, q2, q3, be.take m, gY, ⟨fun b k v hc ha => ?_, fun o x hx => ?_, fun b hb hf => ?_⟩, fun i => ?_⟩
 rotate_left 2
 ·obtain ⟨h1, h2⟩ := hm.blk b hb hf
  exact ⟨h1, fun o c h => h2 o c (QS h).2⟩
 rotate_left 1
 ·obtain ⟨h1, h2⟩ := hm.cell b k v hc ha
  exact ⟨h1, fun h => h2 (hsub b k h)⟩
 ·obtain ⟨y, hy, h1, h2⟩ := hm.ob o x hx
  have hlt : o < m := by have := (qb.1 hx).1; omega
  obtain ⟨z, hz, e1, e2, e3⟩ := hK o y (by simpa using hlt) hy
  have e3' : (be.take m)[o]? = be[o]? := e3
  refine ⟨z, hz, by omega, fun h0 => ⟨by rw [e2]; exact (h2 h0).1, fun e => ?_⟩⟩
  show (be.take m)[o]? = _
  rw [e3']
  exact (h2 h0).2 (by omega)
 ·have key : ∀ l : List (Nat × AV), (∀ p ∈ l, p.2 = .any ∨ Zf (fun o => decide (o < m)) (fun o => decide (m ≤ o)) ob k [look fr p.1] = some [p.2]) → look l i = .any ∨ Zf (fun o => decide (o < m)) (fun o => decide (m ≤ o)) ob k [look fr i] = some [look l i] := by
   intro l
   induction l with
   | nil => intro _; exact .inl rfl
   | cons p l ih =>
    obtain ⟨j, v⟩ := p
    intro h
    simp only [look]
    split
    ·rename_i e
     subst e
     exact h (i, v) (by simp)
    ·exact ih fun p hp => h p (by simp [hp])
  show Rep Y (look fr' i) _
  rcases key fr' hfr with h1 | h1
  ·rw [h1]; simp only [Rep]
  ·have := hrep _ _ [a.tmps.getD i undef] h1 (by simp only [RepL]; exact ⟨_, [], rfl, hfr0 i, rfl⟩)
   simp only [RepL] at this
   obtain ⟨v', rest, e, h3, _⟩ := this
   cases e
   exact h3
theorem Qmi {M : Nat} {fr : List (Nat × AV)} {ob : List Ob} (s ty sz : Nat) {z : Bool} (h0 : sz ≠ 0) (hs : look fr s = .emp z) : Le M ⟨fr, ob⟩ ⟨(s, .own ob.length 0) :: fr, ob ++ [⟨ty, sz, 0, [], 0⟩]⟩ := by
 intro Γ a w hX ⟨q1, q2, q3, be, g, hm, hfr0⟩
 obtain ⟨g1, m1⟩ := g.empty ty sz
 refine ⟨q1, q2, q3, _, g1, hm.trans m1, fun i => ?_⟩
 simp only [look]
 split
 ·rename_i e
  subst e
  have := hfr0 i
  rw [hs] at this
  simp only [Rep] at this ⊢
  obtain ⟨a', e, _⟩ := this
  have hl : be.length = ob.length := g.len
  refine ⟨⟨⟨ty, sz, 0, [], 0⟩, by simp, h0, qg _, fun _ => ?_⟩, by rw [e]; rfl⟩
  simp only [OwnV]
  rw [show ob.length = be.length from hl.symm]
  simp [e]
 ·exact Rep.move m1 _ _ (hfr0 i)
mutual
def isT : AV → Bool
 | .own _ _ | .ownc _ _ _ | .view _ _ _ _ | .ref _ _ _ | .emp _ => false
 | .list _ cs | .cell cs | .agg cs | .tup cs => isTL cs
 | .fn _ a b => isTL a && isTL b
 | _ => true
def isTL : List AV → Bool
 | [] => true
 | c :: cs => isT c && isTL cs
end
mutual
theorem Qo0 {f : List AV → Option (List AV)} {kp ok : Nat → Bool} {ob : List Ob} : ∀ (c : AV), isT c = true → Q6 f kp ok ob c = some c
 | .any, _ | .int _ _, _ | .bool _, _ | .ubool, _ | .str _, _ | .lit _, _ => by simp only [Q6]
 | .emp _, h => by simp [isT] at h
 | .own _ _, h => by simp [isT] at h
 | .ownc _ _ _, h => by simp [isT] at h
 | .view _ _ _ _, h => by simp [isT] at h
 | .ref _ _ _, h => by simp [isT] at h
 | .list n cs, h => by simp only [isT] at h; simp only [Q6, frzL_T cs h, qS]
 | .cell cs, h => by simp only [isT] at h; simp only [Q6, frzL_T cs h, qS]
 | .agg cs, h => by simp only [isT] at h; simp only [Q6, frzL_T cs h, qS]
 | .tup cs, h => by simp only [isT] at h; simp only [Q6, frzL_T cs h, qS]
 | .fn g a b, h => by simp only [isT, qf] at h; simp only [Q6, frzL_T a h.1, frzL_T b h.2]
theorem frzL_T {f : List AV → Option (List AV)} {kp ok : Nat → Bool} {ob : List Ob} : ∀ (cs : List AV), isTL cs = true → frzL f kp ok ob cs = some cs
 | [], _ => by simp only [frzL]
 | c :: cs, h => by simp only [isTL, qf] at h; simp only [frzL, Qo0 c h.1, frzL_T cs h.2]
end
end Go.Am
/- The abstract machine: bytes; steps whose outcome isn't known. -/
namespace Go.Am
open Go.RowKit
def bs (l : List UInt8) : AV := .list l.length (u8 l)
theorem Qgw (l : List UInt8) : (u8 l).length = l.length := by simp [u8]
theorem Qnz (l : List UInt8) (k : Nat) : (u8 l).take k = u8 (l.take k) := by simp [u8, List.map_take]
theorem QkG (a b : List UInt8) : u8 a ++ u8 b = u8 (a ++ b) := by simp [u8]
theorem QhX (x : UInt8) (l : List UInt8) : u8 (x :: l) = .int .u8 x.toNat :: u8 l := rfl
theorem Qlv (l : List UInt8) : isDL (u8 l) = true := by
 induction l with
 | nil => rfl
 | cons x l ih => simp [QhX, isDL, isD, ih]
theorem Qaq (l : List UInt8) : isD (bs l) = true := by simp [bs, isD, Qlv]
section
variable {P : Prg} {N M : Nat} {Q : Exit → St → Prop}
theorem Qas.by {t : Bool} {o : AO} {os : List AO} {fr : List (Nat × AV)} {ob : List Ob} (h1 : t = true → wpQ P (⟨o.dst, none, o.op⟩ :: os) Q ⟨fr, ob⟩) (h2 : t = false → wpQ P os Q ⟨QQ fr o.dst (.tup []), ob⟩) : Qas P (some t) o os Q fr ob := by
 cases t
 ·exact h2 rfl
 ·exact h1 rfl
theorem Qat.by {B : Nat} {t : Bool} {r : Nat} {dt : Bool} {o : AO} {xs : List It} {fr : List (Nat × AV)} {ob : List Ob} (h1 : t = true → XU P B (⟨r, dt, ⟨o.dst, none, o.op⟩⟩ :: xs) Q ⟨fr, ob⟩) (h2 : t = false → XU P B xs Q ⟨QQ fr o.dst (.tup []), ob⟩) :
  Qat P B (some t) r dt o xs Q fr ob := by
 cases t
 ·exact h2 rfl
 ·exact h1 rfl
theorem Qae.by {t : Bool} {a b : AC} {st : St} (h1 : t = true → wpC P N M a Q st) (h2 : t = false → wpC P N M b Q st) : Qae P N M (.bool t) a b Q st := by
 cases t
 ·exact h2 rfl
 ·exact h1 rfl
end
theorem ev :
  (∀ ob sz n cs, Qc ob sz (.list n cs) = some (n, cs)) ∧
  (∀ ob sz z, Qc ob sz (.emp z) = some (0, [])) ∧
  (∀ ob cs, ZJ ob (.cell cs) = some cs) ∧
  (∀ op a b, Qei op (.str a) (.str b) = Qgy op a b) ∧
  (∀ k a b, Qei .add (.int k a) (.int k b) = some (.int k (k.wrap (a + b)))) ∧
  (∀ k a b, Qei .sub (.int k a) (.int k b) = some (.int k (k.wrap (a - b)))) ∧
  (∀ k a b, Qei .mul (.int k a) (.int k b) = some (.int k (k.wrap (a * b)))) ∧
  (∀ k a b, Qei .eql (.int k a) (.int k b) = some (.bool (a == b))) ∧
  (∀ k a b, Qei .neq (.int k a) (.int k b) = some (.bool (a != b))) ∧
  (∀ k a b, Qei .lss (.int k a) (.int k b) = some (.bool (decide (a < b)))) ∧
  (∀ k a b, Qei .leq (.int k a) (.int k b) = some (.bool (decide (a ≤ b)))) ∧
  (∀ k a b, Qei .gtr (.int k a) (.int k b) = some (.bool (decide (b < a)))) ∧
  (∀ k a b, Qei .geq (.int k a) (.int k b) = some (.bool (decide (b ≤ a)))) ∧
  (∀ k a k' b, Qei .shl (.int k a) (.int k' b) = Qan true k a b) ∧
  (∀ k a k' b, Qei .shr (.int k a) (.int k' b) = Qan false k a b) ∧
  (∀ k a b, Qei .quo (.int k a) (.int k b) = if b = 0 then none else some (.int k (k.wrap (a.tdiv b)))) ∧
  (∀ k a b, Qei .rem (.int k a) (.int k b) = if b = 0 then none else some (.int k (a.tmod b))) ∧
  (∀ k a b, Qei .and (.int k a) (.int k b) = some (.int k (k.wrap (BitVec.ofInt k.bits a &&& BitVec.ofInt k.bits b).toNat))) ∧
  (∀ k a b, Qei .or (.int k a) (.int k b) = some (.int k (k.wrap (BitVec.ofInt k.bits a ||| BitVec.ofInt k.bits b).toNat))) ∧
  (∀ k a b, Qei .xor (.int k a) (.int k b) = some (.int k (k.wrap (BitVec.ofInt k.bits a ^^^ BitVec.ofInt k.bits b).toNat))) ∧
  (∀ a, unA .not (.bool a) = some (.bool !a)) ∧
  ((true == true) = true) ∧ ((false == false) = true) ∧ ((true == false) = false) ∧ ((false == true) = false) ∧ (∀ x : Bool, (x == true) = x) ∧ (∀ x : Bool, (x == false) = !x) ∧ (∀ x : Bool, (false != x) = x) ∧ (∀ x : Bool, (true != x) = !x) ∧
  (loA none = some 0) ∧ (∀ k n, loA (some (.int k n)) = some n) ∧ (∀ len, hiA len none = some (len : Int)) ∧ (∀ len k n, hiA len (some (.int k n)) = some n) := by
 refine ⟨?_, ?_, ?_, ?_, ?_, ?_, ?_, ?_, ?_, ?_, ?_, ?_, ?_, ?_, ?_, ?_, ?_, ?_, ?_, ?_, ?_, ?_, ?_, ?_, ?_, ?_, ?_, ?_, ?_, ?_, ?_, ?_, ?_⟩ <;> intros <;> first | rfl | simp [Qei, Qpy]
def zs (d : Nat) (p : AOp) : AO := ⟨some d, none, .op p⟩
def zu (p : AOp) : AO := ⟨none, none, .op p⟩
def zm (d a : Nat) : AO := ⟨some d, none, .op (.mv (.tmp a))⟩
def zc (d : Nat) (n : Int) : AO := ⟨some d, none, .op (.mv (.const (.int .i64 n)))⟩
def zb (o : BinOp) (d a b : Nat) : AO := ⟨some d, none, .op (.bin o (.tmp a) (.tmp b))⟩
def zn (o : BinOp) (d a : Nat) (n : Int) : AO := ⟨some d, none, .op (.bin o (.tmp a) (.const (.int .i64 n)))⟩
def zx (d a i : Nat) : AO := ⟨some d, none, .op (.extract (.tmp a) i)⟩
def zl (d a : Nat) : AO := ⟨some d, none, .op (.load none (.tmp a))⟩
def zL (d n a : Nat) : AO := ⟨some d, none, .op (.load (some n) (.tmp a))⟩
def zf (d o a : Nat) : AO := ⟨some d, none, .op (.faddr o (.tmp a))⟩
def zw (n a b : Nat) : AO := ⟨none, none, .op (.store n (.tmp a) (.tmp b))⟩
def zk (d a : Nat) : AO := ⟨some d, none, .op (.len none (.tmp a))⟩
def zi (d n a b : Nat) : AO := ⟨some d, none, .op (.iaddr (.slice n) (.tmp a) (.tmp b))⟩
def zq (d f : Nat) (l : List Operand) : AO := ⟨some d, none, .call f l⟩
def zg (d g : Nat) (b : Bool) (k : AK) : AO := ⟨some d, some (g, b), k⟩
def zK (n : Int) : Operand := .const (.int .i64 n)
def zN : Operand := .const (.slice none 0 0)
def zd (n : Nat) (q : AO) : It := ⟨n, false, q⟩
def ze (n : Nat) (q : AO) : It := ⟨n, true, q⟩
def zG (d g a : Nat) : AO := ⟨some d, some (g, false), .op (.mv (.tmp a))⟩
def zH (d g a : Nat) : AO := ⟨some d, some (g, true), .op (.mv (.tmp a))⟩
def zA (d f a : Nat) : AO := ⟨some d, none, .call f [.tmp a]⟩
def zB (d f a b : Nat) : AO := ⟨some d, none, .call f [.tmp a, .tmp b]⟩
def zP (d a b : Nat) : AO := ⟨some d, none, .op (.pick (.tmp a) (.const (.bool true)) (.tmp b))⟩
def zJ (d a b : Nat) : AO := ⟨some d, none, .op (.pick (.tmp a) (.tmp b) (.const (.bool false)))⟩
def zV (d : Nat) (b : Bool) : AO := ⟨some d, none, .op (.mv (.const (.bool b)))⟩
def zU (d a : Nat) : AO := ⟨some d, none, .op (.un .not (.tmp a))⟩
def zC (d a : Nat) : AO := ⟨some d, none, .op (.nilck (.tmp a))⟩
def zr (l : List AO) (a : AC) : AC := .seq (.reg l) a
def zT (l : List AO) : AC := .seq (.reg l) .ret
def zI (n : Nat) (a : AC) : AC := .cond (.tmp n) a .skip
def zE (n k : Nat) : AC := .cond (.tmp n) .skip (.exit k)
def z1L : List AV := [.int .i64 0, .int .i32 0, .int .i32 0, .int .i32 0, .int .i32 0, .int .i32 0, .int .i32 0, .int .i32 0, .int .i32 0, .int .i32 0, .int .i32 0, .int .i32 0, .int .i32 0, .int .i32 0, .int .i32 0, .int .i32 0, .int .i32 0, .int .i32 0, .int .i32 0, .int .i32 0, .int .i32 0, .int .i32 0, .int .i32 0, .int .i32 0, .int .i32 0, .int .i32 0, .int .i32 0, .int .i32 0, .int .i32 0, .int .i32 0, .int .i32 0, .int .i32 0, .int .i32 0]
def z2L : List AV := [.int .i64 0, .int .i32 0, .int .i64 0, .int .i32 0, .int .i32 0, .int .i32 0, .int .i32 0, .int .i32 0, .int .i32 0, .int .i32 0, .int .i32 0, .int .i32 0, .int .i32 0, .int .i32 0, .int .i32 0, .int .i32 0, .int .i32 0, .int .i32 0, .int .i32 0, .int .i32 0, .int .i32 0, .int .i32 0, .int .i32 0, .int .i32 0, .int .i32 0, .int .i32 0, .int .i32 0, .int .i32 0, .int .i32 0, .int .i32 0, .int .i32 0, .int .i32 0, .int .i32 0, .int .i32 0, .int .i32 0]
def z3L : List AV := [.int .i32 0, .int .i32 0, .int .i32 0, .int .i32 0, .int .i32 0, .int .i32 0, .int .i32 0, .int .i32 0, .int .i32 0, .int .i32 0, .int .i32 0, .int .i32 0, .int .i32 0, .int .i32 0, .int .i32 0, .int .i32 0]
def z4L : List AV := [.int .u64 0, .int .u64 0, .int .u64 0, .int .u64 0, .int .u64 0, .int .u64 0, .int .u64 0, .int .u64 0, .int .u64 0]
def z5L : List AV := [.int .i64 0, .int .i64 0, .int .u64 0, .int .u64 0, .int .i64 0, .int .i64 0, .int .u64 0, .int .u64 0, .int .i64 0, .int .i64 0, .int .u64 0, .int .u64 0, .int .i64 0, .int .i64 0, .int .u64 0, .int .u64 0, .int .i64 0, .int .i64 0, .int .u64 0, .int .u64 0, .int .i64 0, .int .i64 0, .int .u64 0, .int .u64 0]
def z6L : List AV := (z2L ++ (z2L ++ (z2L ++ (z2L ++ (z2L ++ z2L)))))
theorem abv :
  (∀ (d : Nat) (p : AOp), zs d p = (⟨some d, none, .op p⟩ : AO)) ∧ (∀ (p : AOp), zu p = (⟨none, none, .op p⟩ : AO)) ∧ (∀ (d a : Nat), zm d a = (⟨some d, none, .op (.mv (.tmp a))⟩ : AO)) ∧ (∀ (d : Nat) (n : Int), zc d n = (⟨some d, none, .op (.mv (.const (.int .i64 n)))⟩ : AO)) ∧ (∀ (o : BinOp) (d a b : Nat), zb o d a b = (⟨some d, none, .op (.bin o (.tmp a) (.tmp b))⟩ : AO)) ∧ (∀ (o : BinOp) (d a : Nat) (n : Int), zn o d a n = (⟨some d, none, .op (.bin o (.tmp a) (.const (.int .i64 n)))⟩ : AO)) ∧ (∀ (d a i : Nat), zx d a i = (⟨some d, none, .op (.extract (.tmp a) i)⟩ : AO)) ∧ (∀ (d a : Nat), zl d a = (⟨some d, none, .op (.load none (.tmp a))⟩ : AO)) ∧ (∀ (d n a : Nat), zL d n a = (⟨some d, none, .op (.load (some n) (.tmp a))⟩ : AO)) ∧ (∀ (d o a : Nat), zf d o a = (⟨some d, none, .op (.faddr o (.tmp a))⟩ : AO)) ∧ (∀ (n a b : Nat), zw n a b = (⟨none, none, .op (.store n (.tmp a) (.tmp b))⟩ : AO)) ∧ (∀ (d a : Nat), zk d a = (⟨some d, none, .op (.len none (.tmp a))⟩ : AO)) ∧ (∀ (d n a b : Nat), zi d n a b = (⟨some d, none, .op (.iaddr (.slice n) (.tmp a) (.tmp b))⟩ : AO)) ∧ (∀ (d f : Nat) (l : List Operand), zq d f l = (⟨some d, none, .call f l⟩ : AO)) ∧ (∀ (d g : Nat) (b : Bool) (k : AK), zg d g b k = (⟨some d, some (g, b), k⟩ : AO)) ∧ (∀ (n : Int), zK n = .const (.int .i64 n)) ∧ (zN = .const (.slice none 0 0)) ∧ (∀ (n : Nat) (q : AO), zd n q = (⟨n, false, q⟩ : It)) ∧ (∀ (n : Nat) (q : AO), ze n q = (⟨n, true, q⟩ : It)) ∧ (∀ (d g a : Nat), zG d g a = (⟨some d, some (g, false), .op (.mv (.tmp a))⟩ : AO)) ∧ (∀ (d g a : Nat), zH d g a = (⟨some d, some (g, true), .op (.mv (.tmp a))⟩ : AO)) ∧ (∀ (d f a : Nat), zA d f a = (⟨some d, none, .call f [.tmp a]⟩ : AO)) ∧ (∀ (d f a b : Nat), zB d f a b = (⟨some d, none, .call f [.tmp a, .tmp b]⟩ : AO)) ∧ (∀ (d a b : Nat), zP d a b = (⟨some d, none, .op (.pick (.tmp a) (.const (.bool true)) (.tmp b))⟩ : AO)) ∧ (∀ (d a b : Nat), zJ d a b = (⟨some d, none, .op (.pick (.tmp a) (.tmp b) (.const (.bool false)))⟩ : AO)) ∧ (∀ (d : Nat) (b : Bool), zV d b = (⟨some d, none, .op (.mv (.const (.bool b)))⟩ : AO)) ∧ (∀ (d a : Nat), zU d a = (⟨some d, none, .op (.un .not (.tmp a))⟩ : AO)) ∧ (∀ (d a : Nat), zC d a = (⟨some d, none, .op (.nilck (.tmp a))⟩ : AO)) ∧ (∀ (l : List AO) (a : AC), zr l a = .seq (.reg l) a) ∧ (∀ (l : List AO), zT l = .seq (.reg l) .ret) ∧ (∀ (n : Nat) (a : AC), zI n a = .cond (.tmp n) a .skip) ∧ (∀ (n k : Nat), zE n k = .cond (.tmp n) .skip (.exit k)) :=
 ⟨fun _ _ => rfl, fun _ => rfl, fun _ _ => rfl, fun _ _ => rfl, fun _ _ _ _ => rfl, fun _ _ _ _ => rfl, fun _ _ _ => rfl, fun _ _ => rfl, fun _ _ _ => rfl, fun _ _ _ => rfl, fun _ _ _ => rfl, fun _ _ => rfl, fun _ _ _ _ => rfl, fun _ _ _ => rfl, fun _ _ _ _ => rfl, fun _ => rfl, rfl, fun _ _ => rfl, fun _ _ => rfl, fun _ _ _ => rfl, fun _ _ _ => rfl, fun _ _ _ => rfl, fun _ _ _ _ => rfl, fun _ _ _ => rfl, fun _ _ _ => rfl, fun _ _ => rfl, fun _ _ => rfl, fun _ _ => rfl, fun _ _ => rfl, fun _ => rfl, fun _ _ => rfl, fun _ _ => rfl⟩
end Go.Am
/- The abstract machine: numbers. -/
namespace Go.Am
open Go.RowKit
theorem JY {x : Int} (h1 : -9223372036854775808 ≤ x) (h2 : x ≤ 9223372036854775807) : IntKind.i64.wrap x = x := by
 simp [IntKind.wrap, IntKind.bits, IntKind.signed]; omega
theorem Qmp {x : Int} (h1 : -2147483648 ≤ x) (h2 : x ≤ 2147483647) : IntKind.i32.wrap x = x := by
 simp [IntKind.wrap, IntKind.bits, IntKind.signed]; omega
theorem wrap_u64 {x : Int} (h1 : 0 ≤ x) (h2 : x < 18446744073709551616) : IntKind.u64.wrap x = x := by
 simp [IntKind.wrap, IntKind.bits, IntKind.signed]; omega
theorem Qmn {x : Int} (h1 : 0 ≤ x) (h2 : x < 4294967296) : IntKind.u32.wrap x = x := by
 simp [IntKind.wrap, IntKind.bits, IntKind.signed]; omega
theorem Qmo {x : Int} (h1 : 0 ≤ x) (h2 : x < 65536) : IntKind.u16.wrap x = x := by
 simp [IntKind.wrap, IntKind.bits, IntKind.signed]; omega
theorem Qnv {x : Int} (h1 : 0 ≤ x) (h2 : x < 256) : IntKind.u8.wrap x = x := by
 simp [IntKind.wrap, IntKind.bits, IntKind.signed]; omega
theorem Qol (a b : Nat) (ha : a < 18446744073709551616) (hb : b < 18446744073709551616) : IntKind.u64.wrap (BitVec.ofInt IntKind.u64.bits a &&& BitVec.ofInt IntKind.u64.bits b).toNat = ((a &&& b : Nat) : Int) := by
 have e : IntKind.u64.bits = 64 := rfl
 have h1 : (BitVec.ofInt 64 (a : Int)).toNat = a := by simp; omega
 have h2 : (BitVec.ofInt 64 (b : Int)).toNat = b := by simp; omega
 have hlt : a &&& b < 2 ^ 64 := Nat.and_lt_two_pow _ (by omega)
 rw [e, BitVec.toNat_and, h1, h2]
 exact wrap_u64 (by omega) (by omega)
end Go.Am
/- The abstract machine: from a contract to a law: arguments read as data, the law's answer true. -/
namespace Go.Am
open Go.RowKit Go.ChangeShapes Go.WideShapes
def QmE (P : Program) (ts : List TypeId) : Bool := ts.all fun t => P.readableRec t && decide (t < P.types.size)
theorem Qbh {H : Type} {enc : TypeId × Value → H} {P : Program} (hl : laidOutB P = true) {W W' : World} (hb : Below W.heap.size W W') {sp : Nat → Bool} :
  ∀ {ts : List TypeId} {vs : List Value} {ds : List (DataW H)} {ps : List MemPlace}, QmE P ts = true → DataW.TrodAll enc P W 0 (fun _ => true) true ts vs ds ps → (∀ p ∈ ps, p.block < W.heap.size) → (∀ p ∈ ps, sp p.block = true) → DataW.TrodAll enc P W' 0 sp true ts vs ds ps
 | [], [], [], ps, _, h, _, _ => h
 | [], _ :: _, _, _, _, h, _, _ => h.elim
 | [], [], _ :: _, _, _, h, _, _ => h.elim
 | _ :: _, [], _, _, _, h, _, _ => h.elim
 | _ :: _, _ :: _, [], _, _, h, _, _ => h.elim
 | t :: ts, v :: vs, d :: ds, ps, hr, h, hlt, hsp => by
  obtain ⟨p, q, h1, h2, rfl⟩ := h
  simp only [QmE, List.all_cons, qf, ql] at hr
  exact ⟨p, q, WideElems.Trod_stays hl hr.1.1 hr.1.2 h1 (fun x hx => hb.same (hlt x (by simp [hx]))) (fun x hx => hsp x (by simp [hx])),
   Qbh hl hb (by simpa [QmE] using hr.2) h2 (fun x hx => hlt x (by simp [hx])) (fun x hx => hsp x (by simp [hx])), rfl⟩
theorem Qld {P : Program} {H : Type} {enc : TypeId × Value → H} {f : Func} {s : ChangeSpec} {apart fresh handsOn again : Bool} {W W' : World} {args : Array Value} {ds : List (DataW H)} {before : List MemPlace} {tb : TypeId}
  (hl : laidOutB P = true) (hrows : QmE P f.params.toList = true) (hrt : f.resultTypes = #[tb]) (htb : P.underlying tb = some .bool) (hvars : s.vars = [])
  (hfn : (s.fn H (ds ++ [])).results = [.lit (.bool true)] ∧ (s.fn H (ds ++ [])).args = ds ∧ (s.fn H (ds ++ [])).vars = [])
  (hW : DataW.Whole enc P f.params.toList s.vars apart W args.toList ds [] before) (hb : Below W.heap.size W W') : s.post enc P f apart fresh handsOn again W args (.bool true) W' := by
 obtain ⟨e1, e2, e3⟩ := hfn
 have hlt : ∀ p ∈ before, p.block < W.heap.size := fun p hp => hW.lt p hp
 have hW' := hW
 obtain ⟨p, q, hA, hV, rfl, hz, hn⟩ := hW'
 rw [hvars] at hV
 have hq : q = [] := hV
 subst hq
 simp only [yN] at hlt hz hn hW
 have hres : ∀ (b : Nat) (sp : Nat → Bool) (hd : Bool), DataW.TrodAll enc P W' b sp hd f.resultTypes.toList ((Value.bool true).resultList f.resultTypes.size) [.lit (.bool true)] [] := fun b sp hd => by
  rw [hrt]
  exact trodAll_cons_mk (shut_bool htb _) trodAll_mk0
 have hargs : ∀ sp : Nat → Bool, (∀ x ∈ p, sp x.block = true) → DataW.TrodAll enc P W' 0 sp true f.params.toList args.toList ds p := fun sp h => Qbh hl hb hrows hA hlt h
 have hold : ∀ x ∈ p, (fun b => decide (b < W.heap.size)) x.block = true := fun x hx => by simpa using hlt x hx
 refine ⟨ds, [], p, [], p, [], hW, ?_, ?_, ?_, World.keptBut_mono (fun x hx => ⟨hx, .inr (.inl hx)⟩) (hb.frame _), fun _ => ?_⟩
 ·rw [e1]; exact hres _ _ _
 ·rw [e2]; exact hargs _ hold
 ·rw [e3, hvars]; rfl
 ·have hrs : (Value.bool true).resultList f.resultTypes.size = [.bool true] := by rw [hrt]; rfl
  refine ⟨?_, [.lit (.bool true)] ++ ds, [], ([] ++ p) ++ [], ⟨[] ++ p, [], trodAll_append (hargs _ (fun _ _ => rfl)) (hres _ _ _), by rw [hvars]; exact rfl, rfl, ?_, ?_⟩, ?_⟩
  ·intro j t r hj hr
   rw [hrs] at hr
   rw [hrt] at hj
   cases j with
   | zero => simp at hj hr; subst hj hr; exact okWide_bool_mk htb _
   | succ j => simp at hr
  ·intro b off hp
   have hm : MemPlace.cell b off ∈ p := by simpa using hp
   rw [hb.frozen (hlt _ hm)]
   exact hz b off hm
  ·intro ha
   simpa using hn ha
  ·intro x hx _
   simpa using hx
def X0 (W : World) : Cx := ⟨W, [], [], fun _ _ => False⟩
theorem Qon {W : World} {b k : Nat} : ¬ (X0 W).av b k := by
 rintro (h | ⟨o, x, c, h, _⟩)
 ·exact h
 ·simp [X0] at h
theorem Qkh {P : Prg} {f : FuncId} {avs : List AV} (h : VC P f avs (.bool true)) {W : World} (hG : GOk P.G (X0 W)) {args : Array Value} (hr : RepL (X0 W) avs args.toList) : Calls P f args W fun e W' => e = .returned (.bool true) ∧ Below W.heap.size W W' := by
 have := h.2.2.2 W (fun _ _ => False) args.toList (fun _ _ h => h.elim) hG hr
 simp only [yV] at this
 refine this.mono ?_
 rintro e w' ⟨v, rfl, hb, hv⟩
 simp only [Rep] at hv
 exact ⟨by rw [hv], hb⟩
theorem QkL {W : World} {a : Addr} {v : Value} (h : W.cell? a = some v) : a = ⟨a.block, a.off, none⟩ := by
 obtain ⟨b, o, s⟩ := a
 unfold World.cell? at h
 split at h
 ·cases s with
  | none => rfl
  | some _ => simp at h
 ·cases h
theorem Qpl (a : Addr) (i : Nat) (h : a.spot = none) : a.add i = ⟨a.block, a.off + i, none⟩ := by
 unfold Addr.add
 split
 ·rename_i e; subst e; obtain ⟨b, o, s⟩ := a; simp only at h; subst h; rfl
 ·rfl
end Go.Am
/- The abstract machine: a walk that settles its tests by arithmetic. -/
namespace Go.Am
open Go.RowKit
theorem Qqo {a b : Int} (h : a < b) : (a < b) = True := eq_true h
theorem Qqp {a b : Int} (h : b ≤ a) : (a < b) = False := eq_false (by omega)
theorem Qqq {a b : Int} (h : a ≤ b) : (a ≤ b) = True := eq_true h
theorem Qqr {a b : Int} (h : b < a) : (a ≤ b) = False := eq_false (by omega)
theorem Qqv {a b : Int} (h : a = b) : (a = b) = True := eq_true h
theorem Qqw {a b : Int} (h : a < b ∨ b < a) : (a = b) = False := eq_false (by omega)
theorem QpO {a b : Nat} (h : a < b) : (a < b) = True := eq_true h
theorem QpP {a b : Nat} (h : b ≤ a) : (a < b) = False := eq_false (by omega)
theorem QpQ {a b : Nat} (h : a ≤ b) : (a ≤ b) = True := eq_true h
theorem QpR {a b : Nat} (h : b < a) : (a ≤ b) = False := eq_false (by omega)
theorem Qnd {a b : Int} : (a == b) = decide (a = b) := by rw [Bool.eq_iff_iff]; simp
theorem Qnc {a b : Int} : (a != b) = !decide (a = b) := by rw [Bool.eq_iff_iff]; simp
theorem QkJ {a b : Int} (ha : 0 ≤ a) (hb : 0 ≤ b) : (a + b).toNat = a.toNat + b.toNat := by omega
theorem QkI {a b : Int} (hb : 0 ≤ b) (hab : b ≤ a) : (a - b).toNat = a.toNat - b.toNat := by omega
theorem toNat_mul {a b : Int} (ha : 0 ≤ a) (hb : 0 ≤ b) : (a * b).toNat = a.toNat * b.toNat := Int.toNat_mul ha hb
section
variable {P : Prg} {N M : Nat} {Q : Exit → St → Prop}
theorem Qkd {a b : AC} {st : St} : Qae P N M (.bool true) a b Q st = wpC P N M a Q st := by simp [Qae]
theorem Qiz {a b : AC} {st : St} : Qae P N M (.bool false) a b Q st = wpC P N M b Q st := by simp [Qae]
theorem Qae.beq {x y : Int} {a b : AC} {st : St} (h1 : x = y → wpC P N M a Q st) (h2 : x ≠ y → wpC P N M b Q st) : Qae P N M (.bool (x == y)) a b Q st :=
 Qae.by (fun h => h1 (by simpa using h)) (fun h => h2 (by simpa using h))
end
theorem step :
  (∀ P N M Q st, wpC P N M .skip Q st = Q .normal st) ∧
  (∀ P N M qs Q st, wpC P N M (.reg qs) Q st = wpQ P qs Q st) ∧
  (∀ P N M xs ps Q st, wpC P N M (.draw xs ps) Q st = XU P st.ob.length xs Q ⟨st.fr, st.ob ++ ps⟩) ∧
  (∀ P B Q st, XU P B [] Q st = Q .normal st) ∧
  (∀ P B r dt dst p xs Q fr ob, XU P B (⟨r, dt, ⟨dst, none, .op p⟩⟩ :: xs) Q ⟨fr, ob⟩ = Qfa P B (okW p) (Qaa (dt && Qq p) (aop (opd P.G fr) (QgF dt ob) (B + r) p)) xs Q fr ob dst) ∧
  (∀ P B r dt dst f args xs Q fr ob, XU P B (⟨r, dt, ⟨dst, none, .call f args⟩⟩ :: xs) Q ⟨fr, ob⟩ = XN P B dt r f (args.map (opd P.G fr)) xs Q fr ob dst) ∧
  (∀ P B r dt dst g k xs Q fr ob, XU P B (⟨r, dt, ⟨dst, some g, k⟩⟩ :: xs) Q ⟨fr, ob⟩ = Qat P B (Qy fr (some g)) r dt ⟨dst, some g, k⟩ xs Q fr ob) ∧
  (∀ P B k v xs Q fr ob dst, Qfa P B k (some (v, none)) xs Q fr ob dst = XU P B xs Q ⟨QQ fr dst v, ob⟩) ∧
  (∀ P B v u xs Q fr ob dst, Qfa P B true (some (v, some u)) xs Q fr ob dst = XU P B xs Q ⟨QQ fr dst v, app ob (some u)⟩) ∧
  (∀ P B r dt o xs Q fr ob, Qat P B (some true) r dt o xs Q fr ob = XU P B (⟨r, dt, ⟨o.dst, none, o.op⟩⟩ :: xs) Q ⟨fr, ob⟩) ∧
  (∀ P B r dt o xs Q fr ob, Qat P B (some false) r dt o xs Q fr ob = XU P B xs Q ⟨QQ fr o.dst (.tup []), ob⟩) ∧
  (∀ ob, QgF true ob = []) ∧
  (∀ ob, QgF false ob = ob) ∧
  (∀ P N M a b Q st, wpC P N M (.seq a b) Q st = wpC P N M a (Qnl P N M b Q) st) ∧
  (∀ P N M x a b Q st, wpC P N M (.cond x a b) Q st = Qae P N M (opd P.G st.fr x) a b Q st) ∧
  (∀ P N M id c Q st, wpC P N M (.block id c) Q st = wpC P N M c (Qnm id Q) st) ∧
  (∀ P N M c Q st, wpC P N M (.loop c) Q st = QiZ P N M c Q st) ∧
  (∀ P N M id Q st, wpC P N M (.exit id) Q st = Q (.exit id) st) ∧
  (∀ P N M Q st, wpC P N M .ret Q st = Q .ret st) ∧
  (∀ P N M b Q st, Qnl P N M b Q .normal st = wpC P N M b Q st) ∧
  (∀ P N M b Q j st, Qnl P N M b Q (.exit j) st = Q (.exit j) st) ∧
  (∀ P N M b Q st, Qnl P N M b Q .ret st = Q .ret st) ∧
  (∀ id Q st, Qnm id Q .normal st = Q .normal st) ∧
  (∀ id Q j st, Qnm id Q (.exit j) st = if j = id then Q .normal st else Q (.exit j) st) ∧
  (∀ id Q st, Qnm id Q .ret st = Q .ret st) ∧
  (∀ R Q st, QnW R Q .normal st = R st) ∧
  (∀ R Q j st, QnW R Q (.exit j) st = Q (.exit j) st) ∧
  (∀ R Q st, QnW R Q .ret st = Q .ret st) ∧
  (∀ P N M a b Q st, Qae P N M (.bool true) a b Q st = wpC P N M a Q st) ∧
  (∀ P N M a b Q st, Qae P N M (.bool false) a b Q st = wpC P N M b Q st) ∧
  (∀ P N M a b Q st, Qae P N M .ubool a b Q st = (wpC P N M a Q st ∧ wpC P N M b Q st)) ∧
  (∀ P Q st, wpQ P [] Q st = Q .normal st) ∧
  (∀ P dst p os Q fr ob, wpQ P (⟨dst, none, .op p⟩ :: os) Q ⟨fr, ob⟩ = Qmv P (aop (opd P.G fr) ob ob.length p) os Q fr ob dst) ∧
  (∀ P dst f args os Q fr ob, wpQ P (⟨dst, none, .call f args⟩ :: os) Q ⟨fr, ob⟩ = Qa0 P f (args.map (opd P.G fr)) ob os Q fr dst) ∧
  (∀ P dst g k os Q fr ob, wpQ P (⟨dst, some g, k⟩ :: os) Q ⟨fr, ob⟩ = Qas P (Qy fr (some g)) ⟨dst, some g, k⟩ os Q fr ob) ∧
  (∀ P v u os Q fr ob dst, Qmv P (some (v, u)) os Q fr ob dst = wpQ P os Q ⟨QQ fr dst v, app ob u⟩) ∧
  (∀ P dst g k os Q fr ob, Qas P (some true) ⟨dst, g, k⟩ os Q fr ob = wpQ P (⟨dst, none, k⟩ :: os) Q ⟨fr, ob⟩) ∧
  (∀ P dst g k os Q fr ob, Qas P (some false) ⟨dst, g, k⟩ os Q fr ob = wpQ P os Q ⟨QQ fr dst (.tup []), ob⟩) ∧
  (∀ P rl K fr ob, QaZ P rl K .ret ⟨fr, ob⟩ = match Z8 fr ob P rl with | some rs => K (QM rs) ob | none => False) ∧
  (∀ P rl K fr ob, QaZ P rl K .normal ⟨fr, ob⟩ = match Z8 fr ob P rl with | some rs => K (QM rs) ob | none => False) ∧
  (∀ fr d v, QQ fr (some d) v = (d, v) :: fr) ∧
  (∀ fr v, QQ fr none v = fr) ∧
  (∀ fr d b, Qy fr (some (d, b)) = match look fr d with | .bool t => some (t == b) | .tup [] => some false | _ => none) ∧
  (∀ ob, app ob none = ob) ∧
  (∀ j i v r, look ((j, v) :: r) i = if i = j then v else look r i) ∧
  (∀ i, look [] i = .any) ∧
  (∀ G fr t, opd G fr (.tmp t) = look fr t) ∧
  (∀ G fr v, opd G fr (.const v) = cV v) ∧
  (∀ G fr f, opd G fr (.func f) = .fn (.func f) [] []) ∧
  (∀ P t fr ob r, Z8 fr ob P (.tmp t :: r) = (Z8 fr ob P r).map (look fr t :: ·)) ∧
  (∀ P fr ob, Z8 fr ob P [] = some []) ∧
  (∀ v, QM [v] = v) ∧
  (∀ v u r, QM (v :: u :: r) = .tup (v :: u :: r)) ∧
  (∀ k, Qz k [] = []) ∧
  (∀ k v vs, Qz k (v :: vs) = (k, v) :: Qz (k + 1) vs) := by
 refine ⟨?_, ?_, ?_, ?_, ?_, ?_, ?_, ?_, ?_, ?_, ?_, ?_, ?_, ?_, ?_, ?_, ?_, ?_, ?_, ?_, ?_, ?_, ?_, ?_, ?_, ?_, ?_, ?_, ?_, ?_, ?_, ?_, ?_, ?_, ?_, ?_, ?_, ?_, ?_, ?_, ?_, ?_, ?_, ?_, ?_, ?_, ?_, ?_, ?_, ?_, ?_, ?_, ?_, ?_, ?_⟩ <;> intros <;> first | rfl | exact Qgh | exact QkE | exact Qgj | exact Qes | exact propext ⟨fun h => h.2, fun h => ⟨rfl, h⟩⟩ | exact Qkd | exact Qiz
def QlT (P : Prg) (v : AV) (args : List AV) (ob : List Ob) (os : List AO) (Q : Exit → St → Prop) (fr : List (Nat × AV)) (dst : Option Nat) : Prop :=
 match v with
 | .fn (.func g) fs cs => Qa0 P g (fs ++ args ++ cs) ob os Q fr dst
 | _ => False
def QlU (P : Prg) (B : Nat) (dt : Bool) (k : Nat) (v : AV) (args : List AV) (xs : List It) (Q : Exit → St → Prop) (fr : List (Nat × AV)) (ob : List Ob) (dst : Option Nat) : Prop :=
 match v with
 | .fn (.func g) fs cs => XN P B dt k g (fs ++ args ++ cs) xs Q fr ob dst
 | _ => False
theorem QpD :
  (∀ P dst f args os Q fr ob, wpQ P (⟨dst, none, .callv f args⟩ :: os) Q ⟨fr, ob⟩ = QlT P (look fr f) (args.map (opd P.G fr)) ob os Q fr dst) ∧
  (∀ P g fs cs args ob os Q fr dst, QlT P (.fn (.func g) fs cs) args ob os Q fr dst = Qa0 P g (fs ++ args ++ cs) ob os Q fr dst) ∧
  (∀ P B r dt dst f args xs Q fr ob, XU P B (⟨r, dt, ⟨dst, none, .callv f args⟩⟩ :: xs) Q ⟨fr, ob⟩ = QlU P B dt r (look fr f) (args.map (opd P.G fr)) xs Q fr ob dst) ∧
  (∀ P B dt k g fs cs args xs Q fr ob dst, QlU P B dt k (.fn (.func g) fs cs) args xs Q fr ob dst = XN P B dt k g (fs ++ args ++ cs) xs Q fr ob dst) ∧
  (∀ G fr g, opd G fr (.global g) = QpV G g) := by
 refine ⟨?_, ?_, ?_, ?_, fun _ _ _ => rfl⟩ <;> intros
 ·simp only [wpQ, wpO, Qy, QlT]
  rfl
 ·rfl
 ·simp only [XU, wpD, Xm, Qy, QlU, up, AO.isC, yI]
  generalize look _ _ = v
  cases v <;> try simp
  rename_i h fs cs
  cases h <;> try simp
  rename_i dt _ _ _ _ _ _ _ g
  simp only [XN]
  refine ⟨?_, ?_⟩
  ·rintro ⟨s1, ⟨r, u, h1, rfl⟩, h2⟩
   exact ⟨r, u, h1, h2⟩
  ·rintro ⟨r, u, h1, h2⟩
   exact ⟨_, ⟨r, u, h1, rfl⟩, h2⟩
 ·rfl
def ks (K : IntKind) (l : List Int) : List AV := l.map (.int K)
theorem QD (K : IntKind) (l : List Int) : (ks K l).length = l.length := by simp [ks]
theorem Qin (K : IntKind) (x : Int) (l : List Int) : ks K (x :: l) = .int K x :: ks K l := rfl
theorem Qln (K : IntKind) (a b : List Int) : ks K a ++ ks K b = ks K (a ++ b) := by simp [ks]
theorem QnS (K : IntKind) (a : List Int) (x : Int) : ks K a ++ [.int K x] = ks K (a ++ [x]) := by simp [ks]
theorem QaX (K : IntKind) (l : List Int) (k : Nat) : (ks K l).drop k = ks K (l.drop k) := by simp [ks, List.map_drop]
theorem Qod {K : IntKind} {l : List Int} {k : Nat} (h : k < l.length) : (ks K l).drop k = .int K l[k] :: ks K (l.drop (k + 1)) := by
 rw [QaX, yp h]; rfl
theorem XM (K : IntKind) (l : List Int) : isDL (ks K l) = true := by
 induction l with
 | nil => rfl
 | cons x l ih => simp [Qin, isDL, isD, ih]
theorem QK (K : IntKind) (l : List Int) : isTL (ks K l) = true := by
 induction l with
 | nil => rfl
 | cons x l ih => simp [Qin, isTL, isT, ih]
theorem Qlm (K : IntKind) (l : List Int) : (ks K l).all AV.one = true := by
 induction l with
 | nil => rfl
 | cons x l ih => simp [Qin, AV.one, ih]
theorem wl :
  (∀ α : Type, ([] : List α).length = 0) ∧ (∀ (α : Type) (a : α) l, (a :: l).length = l.length + 1) ∧ (∀ (α β : Type) (f : α → β), [].map f = []) ∧ (∀ (α β : Type) (f : α → β) a l, (a :: l).map f = f a :: l.map f) ∧
  (∀ (α : Type) (a : α) l m, (a :: l) ++ m = a :: (l ++ m)) ∧ (∀ (α : Type) (l : List α), [] ++ l = l) ∧ (∀ (α : Type) (l : List α), l ++ [] = l) ∧
  (∀ (α β : Type) (f : α → β) a, (some a).map f = some (f a)) ∧ (∀ (α β : Type) (f : α → β), (none : Option α).map f = none) ∧ (∀ (α β : Type) (f : α → Option β) a, (some a).bind f = f a) ∧
  (∀ (α : Type) (a : α) l, (a :: l)[0]? = some a) ∧ (∀ (α : Type) (a : α) l (n : Nat), (a :: l)[n + 1]? = l[n]?) ∧
  (∀ (α : Type) (l : List α), l.drop 0 = l) ∧ (∀ (α : Type) (n : Nat), ([] : List α).drop n = []) ∧ (∀ (α : Type) (n : Nat), ([] : List α).take n = []) ∧ (∀ (α : Type) (l : List α), l.take 0 = []) ∧
  (∀ (α : Type) (a : α) l (n : Nat), (a :: l).drop (n + 1) = l.drop n) ∧ (∀ (α : Type) (a : α) l (n : Nat), (a :: l).take (n + 1) = a :: l.take n) ∧ (∀ (α : Type) (l : List α), l.take l.length = l) ∧
  (∀ (α : Type) (a b : α) l, (a :: l).set 0 b = b :: l) ∧ (∀ (α : Type) (a b : α) l (n : Nat), (a :: l).set (n + 1) b = a :: l.set n b) ∧ (∀ (α : Type) (l : List α) n a, (l.set n a).length = l.length) ∧
  (∀ (α : Type) (p : α → Bool), ([] : List α).all p = true) ∧ (∀ (α : Type) (p : α → Bool) a l, (a :: l).all p = (p a && l.all p)) ∧
  (∀ (α : Type) (l m : List α), (l ++ m).length = l.length + m.length) ∧ (∀ (α : Type) (l : List α) n, (l.drop n).length = l.length - n) ∧ (∀ (α : Type) (l : List α) n, (l.take n).length = min n l.length) ∧
  (∀ (α : Type) (a : α) n, (List.replicate n a).length = n) ∧ (∀ (α β : Type) (f : α → β) (l : List α), (l.map f).length = l.length) ∧
  (∀ l : List UInt8, (u8 l).length = l.length) ∧ (∀ l : List UInt8, QfE (u8 l) = some l) ∧ (∀ a b : List UInt8, u8 a ++ u8 b = u8 (a ++ b)) ∧ (∀ (K : IntKind) (l : List Int), (ks K l).length = l.length) ∧ (∀ (K : IntKind) (a b : List Int), ks K a ++ ks K b = ks K (a ++ b)) := by
 refine ⟨?_, ?_, ?_, ?_, ?_, ?_, ?_, ?_, ?_, ?_, ?_, ?_, ?_, ?_, ?_, ?_, ?_, ?_, ?_, ?_, ?_, ?_, ?_, ?_, ?_, ?_, ?_, ?_, ?_, ?_, ?_, ?_, ?_, ?_⟩ <;> intros <;> first | rfl | exact Qjs _ | exact Qgw _ | exact QkG _ _ | exact QD _ _ | exact Qln _ _ _ | simp
theorem wn :
  (∀ n : Nat, n * 1 = n) ∧ (∀ n : Nat, 1 * n = n) ∧ (∀ n : Nat, 0 + n = n) ∧ (∀ n : Nat, n + 0 = n) ∧ (∀ n : Nat, (n ≤ n) = True) ∧ (∀ n : Nat, (0 ≤ n) = True) ∧ (∀ n : Nat, ((n : Nat) : Int).toNat = n) ∧ (∀ a b : Nat, ((a + b : Nat) : Int) = a + b) ∧
  (∀ a b : Int, 0 ≤ a → 0 ≤ b → (a + b).toNat = a.toNat + b.toNat) ∧ (∀ a b : Int, 0 ≤ b → b ≤ a → (a - b).toNat = a.toNat - b.toNat) ∧ (∀ a b : Int, 0 ≤ a → 0 ≤ b → (a * b).toNat = a.toNat * b.toNat) ∧
  (∀ a b : Int, 0 ≤ a → a.tdiv b = a / b) ∧ (∀ a b : Int, 0 ≤ a → a.tmod b = a % b) ∧
  (∀ x : Int, -9223372036854775808 ≤ x → x ≤ 9223372036854775807 → IntKind.i64.wrap x = x) ∧ (∀ x : Int, -2147483648 ≤ x → x ≤ 2147483647 → IntKind.i32.wrap x = x) ∧ (∀ x : Int, 0 ≤ x → x < 18446744073709551616 → IntKind.u64.wrap x = x) ∧
  (∀ x : Int, 0 ≤ x → x < 4294967296 → IntKind.u32.wrap x = x) ∧ (∀ x : Int, 0 ≤ x → x < 65536 → IntKind.u16.wrap x = x) ∧ (∀ x : Int, 0 ≤ x → x < 256 → IntKind.u8.wrap x = x) ∧
  (∀ a b : Int, a < b → (a < b) = True) ∧ (∀ a b : Int, b ≤ a → (a < b) = False) ∧ (∀ a b : Int, a ≤ b → (a ≤ b) = True) ∧ (∀ a b : Int, b < a → (a ≤ b) = False) ∧ (∀ a b : Int, a = b → (a = b) = True) ∧ (∀ a b : Int, a < b ∨ b < a → (a = b) = False) ∧
  (∀ a b : Nat, a < b → (a < b) = True) ∧ (∀ a b : Nat, b ≤ a → (a < b) = False) ∧ (∀ a b : Nat, a ≤ b → (a ≤ b) = True) ∧ (∀ a b : Nat, b < a → (a ≤ b) = False) ∧
  (∀ a b : Int, (a == b) = decide (a = b)) ∧ (∀ a b : Int, (a != b) = !decide (a = b)) :=
 ⟨Nat.mul_one, yQ, qY, yA, fun n => eq_true (qg n), fun n => eq_true (yd n), fun _ => rfl, Int.natCast_add, fun _ _ => QkJ, fun _ _ => QkI, fun _ _ => toNat_mul,
  fun _ _ => yh, fun _ _ => Int.tmod_eq_emod_of_nonneg, fun _ => JY, fun _ => Qmp, fun _ => wrap_u64, fun _ => Qmn, fun _ => Qmo, fun _ => Qnv,
  fun _ _ => Qqo, fun _ _ => Qqp, fun _ _ => Qqq, fun _ _ => Qqr, fun _ _ => Qqv, fun _ _ => Qqw, fun _ _ => QpO, fun _ _ => QpP, fun _ _ => QpQ, fun _ _ => QpR, fun _ _ => Qnd, fun _ _ => Qnc⟩
theorem wp :
  (∀ h : Decidable True, @decide True h = true) ∧ (∀ h : Decidable False, @decide False h = false) ∧ ((false = true) = False) ∧ ((!true) = false) ∧ ((!false) = true) ∧ (∀ b : Bool, (!!b) = b) ∧
  (∀ p : Prop, (True ∧ p) = p) ∧ (∀ p : Prop, (p ∧ True) = p) ∧ (∀ p : Prop, (p ∧ p) = p) ∧ (∀ p : Prop, (p ∧ False) = False) ∧ (∀ p : Prop, (False ∧ p) = False) ∧
  (∀ p : Prop, (True ∨ p) = True) ∧ (∀ p : Prop, (p ∨ True) = True) ∧ (∀ p : Prop, (p ∨ p) = p) ∧ (∀ p : Prop, (p ∨ False) = p) ∧ (∀ p : Prop, (False ∨ p) = p) ∧
  (∀ b : Bool, (b && b) = b) ∧ (∀ b : Bool, (b && true) = b) ∧ (∀ b : Bool, (true && b) = b) ∧ (∀ b : Bool, (b && false) = false) ∧ (∀ b : Bool, (false && b) = false) ∧
  (∀ b : Bool, (b || true) = true) ∧ (∀ b : Bool, (true || b) = true) ∧ (∀ b : Bool, (b || false) = b) ∧ (∀ b : Bool, (false || b) = b) ∧ ((¬ True) = False) ∧ ((¬ False) = True) ∧ (∀ b : Bool, (b == b) = true) := by
 refine ⟨?_, ?_, ?_, ?_, ?_, ?_, ?_, ?_, ?_, ?_, ?_, ?_, ?_, ?_, ?_, ?_, ?_, ?_, ?_, ?_, ?_, ?_, ?_, ?_, ?_, ?_, ?_, ?_⟩ <;> intros <;> simp
theorem callE.by {P : Prg} {B k : Nat} {f : FuncId} {avs : List AV} {xs : List It} {Q : Exit → St → Prop} {fr : List (Nat × AV)} {ob : List Ob} {dst : Option Nat} {r : AV} {o : Nat} {x x' : Ob} (ho : ob[o]? = some x) (hx : x ≠ ph)
  (h : ∀ K : AV → List Ob → Prop, K r (ob.set o x') → ACall P f avs ob K) (hK : XU P B xs Q ⟨QQ fr dst r, ob.set o x'⟩) : XN P B true k f avs xs Q fr ob dst := by
 have hl : o < ob.length := (qb.1 ho).1
 have ha : app ob (some (o, x')) = ob.set o x' := by simp [app, hl]
 refine ⟨r, some (o, x'), ?_, by rw [ha]; exact hK⟩
 unfold Zx
 rw [qE rfl]
 refine ⟨h _ ⟨rfl, by rw [ha]⟩, fun o' y e => ?_⟩
 cases e
 exact ⟨x, ho, hx⟩
theorem wz :
  (∀ r, Qaa false r = r) ∧ (∀ o n i b, Qaa true (some (.own o n, some (i, b))) = if o = i ∧ n = b.n ∧ isDL b.cs = true then some (.list n b.cs, none) else none) ∧
  (∀ z, Qp z 0 = []) ∧ (∀ z n, Qp z (n + 1) = z ++ Qp z n) ∧
  (∀ z, X3 z [] = some z) ∧ (∀ z off sz v r, X3 z ((off, sz, v) :: r) = if ((Qh v).all AV.one && (Qh v).length == sz && decide (off + sz ≤ z.length)) = true then X3 (z.take off ++ Qh v ++ z.drop (off + sz)) r else none) ∧
  (∀ (α : Type) (a b : α), (a ≠ b) = ¬ (a = b)) ∧ (∀ a b : Nat, ((a == b) = true) = (a = b)) ∧ (∀ a b : Bool, ((a == b) = true) = (a = b)) ∧ (∀ a b : List UInt8, ((a == b) = true) = (a = b)) ∧
  (∀ a : Nat, (a == a) = true) ∧ (∀ a : Int, (a == a) = true) ∧ (∀ a : List UInt8, (a == a) = true) ∧
  (∀ k n, unA .neg (.int k n) = some (.int k (k.wrap (0 - n)))) ∧
  (∀ k n, unA .xor (.int k n) = some (.int k (k.wrap (BitVec.ofInt k.bits (if k.signed then -1 else k.max) ^^^ BitVec.ofInt k.bits n).toNat))) ∧ (∀ b, unA .not (.bool b) = some (.bool !b)) ∧
  (∀ x, Qml x [] = some x) ∧ (∀ k x k' y r, Qml (.int k x) (.int k' y :: r) = Qml (.int k (if y < x then y else x)) r) ∧
  (∀ x, Qmm x [] = some x) ∧ (∀ k x k' y r, Qmm (.int k x) (.int k' y :: r) = Qmm (.int k (if x < y then y else x)) r) ∧
  (∀ k a k' b, QlG 0 (.int k a) (.int k' b) = if k = k' then some (a == b) else none) ∧ (∀ a b, QlG 1 (.bool a) (.bool b) = some (a == b)) ∧ (∀ a b, QlG 2 (.str a) (.str b) = some (a == b)) ∧
  (∀ k n, Qdk (.const (.int k n)) (.const (.int k n)) = true) := by
 refine ⟨?_, ?_, ?_, ?_, ?_, ?_, ?_, ?_, ?_, ?_, ?_, ?_, ?_, ?_, ?_, ?_, ?_, ?_, ?_, ?_, ?_, ?_, ?_, ?_⟩ <;> intros <;> first | rfl | simp [Qml, Qmm, X3, Qdk]
end Go.Am

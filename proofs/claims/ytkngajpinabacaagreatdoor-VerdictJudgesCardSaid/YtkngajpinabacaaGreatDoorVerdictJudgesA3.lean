/- An abstract machine for pure Go code, part 3: sound for the given semantics; no conditions. -/
import Derived.Test.YtkngajpinabacaaGreatDoorVerdictJudgesA2
set_option linter.unusedSectionVars false
set_option linter.unusedSimpArgs false
set_option linter.unusedVariables false
/- The abstract machine: a function that returns a slice of its caller's own. -/
namespace Go.Am
open Go.RowKit

def shr (m : Nat) : AV → AV
  | .own _ n => .own m n
  | .tup (.own _ n :: cs) => .tup (.own m n :: cs)
  | v => v
def okr (n : Nat) : AV → Bool
  | .own _ k => k == n
  | .tup (.own _ k :: cs) => k == n && cs.all flat
  | _ => false

theorem rep_own {X Y : Cx} {i j n : Nat} {x : Ob} {v : Value} (hx : X.ob[i]? = some x) (hy : Y.ob[j]? = some x) (he : Y.be[j]? = X.be[i]?) (h : Rep X (.own i n) v) : Rep Y (.own j n) v := by
  simp only [Rep] at h ⊢
  obtain ⟨⟨z, hz, h1, h2, h3⟩, h4⟩ := h
  rw [hx] at hz; cases hz
  exact ⟨⟨x, hy, h1, h2, fun e => by rw [he]; exact h3 e⟩, h4⟩

theorem rep_shr {X Y : Cx} {i j : Nat} {x : Ob} {r : AV} {v : Value} (hx : X.ob[i]? = some x) (hy : Y.ob[j]? = some x) (he : Y.be[j]? = X.be[i]?) (hok : okr x.n r = true) (h : Rep X (shr i r) v) : Rep Y (shr j r) v := by
  unfold okr at hok
  split at hok
  · exact rep_own hx hy he h
  · simp only [shr] at h ⊢
    simp only [Bool.and_eq_true] at hok
    simp only [Rep, RepL] at h ⊢
    obtain ⟨vs, e, v1, rest, rfl, h1, h2⟩ := h
    exact ⟨_, e, v1, rest, rfl, rep_own hx hy he (by simp only [Rep]; exact h1), RepL.flat hok.2 h2⟩
  · cases hok

def VO (P : Prg) (f : FuncId) (ds : List AV) (r : AV) (x : Ob) : Prop :=
  Enters P f ∧ isDL ds = true ∧ isDL x.cs = true ∧ okr x.n r = true ∧ ∀ (w : World) (C : Nat → Nat → Prop) (vs : List Value), (∀ b k, C b k → b < w.heap.size) → GOk P.G ⟨w, [], [], C⟩ → RepL ⟨w, [], [], C⟩ ds vs →
    Calls P f vs.toArray w fun e w' => ∃ v be, e = .returned v ∧ Below w.heap.size w w' ∧ Held w.heap.size ⟨w', [x], [be], C⟩ ∧ Rep ⟨w', [x], [be], C⟩ (shr 0 r) v

theorem VO.of_walk {P : Prg} {f : FuncId} {ds : List AV} {r : AV} {x : Ob} (h1 : isDL ds = true) (h2 : isDL x.cs = true) (h3 : okr x.n r = true)
    (h : ACall P f ds [] (fun r' ob' => ∃ i, ob'[i]? = some x ∧ r' = shr i r)) : VO P f ds r x := by
  obtain ⟨h0, h⟩ := h
  refine ⟨h0, h1, h2, h3, fun w C vs hbnd hG hr => ?_⟩
  have g : Held w.heap.size ⟨w, [], [], C⟩ := ⟨rfl, by simp, by simp, by simp, hbnd, Nat.le_refl _⟩
  refine (h w.heap.size w [] C vs g hG hr).mono ?_
  rintro e w' ⟨v, r', ob', be', rfl, hb, hh, hm, hv, i, hi, rfl⟩
  obtain ⟨e, he, hok⟩ := hh.get hi
  have he' : be'[i]? = some e := he
  refine ⟨v, e, rfl, hb, ⟨rfl, fun o y e' hy he2 => ?_, fun o o' b c c' q1 q2 => ?_, fun o b c q => ?_, hbnd, hh.size⟩, rep_shr (X := ⟨w', ob', be', C⟩) (i := i) hi rfl (by simp [he']) h3 hv⟩
  · obtain rfl : o = 0 := by
      rcases o with _ | o
      · rfl
      · simp at hy
    simp at hy he2
    subst hy; subst he2
    cases e with
    | none => exact hok
    | some q =>
      obtain ⟨b, cap⟩ := q
      obtain ⟨cur, q1, q2, q3, q4, q5, q6, q7⟩ := hok
      have hd : ∀ (b' k' : Nat) (v' : Value), (Cx.mk w' ob' be' C).w.cell? ⟨b', k', none⟩ = some v' → ¬ (Cx.mk w' ob' be' C).av b' k' → (Cx.mk w' [x] [some (b, cap)] C).w.cell? ⟨b', k', none⟩ = some v' ∧ ¬ (Cx.mk w' [x] [some (b, cap)] C).av b' k' := fun b' k' v' hc ha => ⟨hc, fun h => ha ?_⟩
      · exact ⟨cur, q1, q2, q3, q4, q5, RepL.data hd _ _ h2 q6, q7⟩
      rcases h with h | ⟨o, y, c, a1, a2, a3⟩
      · exact .inl h
      · rcases o with _ | o
        · simp at a1 a2
          subst a1
          obtain ⟨rfl, rfl⟩ := a2
          exact .inr ⟨i, x, _, hi, he', a3⟩
        · simp at a1
  · rcases o with _ | o
    · rcases o' with _ | o'
      · rfl
      · simp at q2
    · simp at q1
  · rcases o with _ | o
    · simp at q
      subst q
      exact hh.base i b c he'
    · simp at q

theorem ACall.of_vo {P : Prg} {f : FuncId} {ds : List AV} {r : AV} {x : Ob} (h : VO P f ds r x) {ob : List Ob} {K : AV → List Ob → Prop} (hK : K (shr ob.length r) (ob ++ [x])) : ACall P f ds ob K := by
  obtain ⟨h0, h1, h2, h3, h⟩ := h
  refine ⟨h0, fun B w be C vs g hG hr => ?_⟩
  let X : Cx := ⟨w, ob, be, C⟩
  have hav : ∀ w' b k, (Cx.mk w' [] [] X.av).av b k ↔ X.av b k := fun w' b k => by
    constructor
    · rintro (h | ⟨o, x, c, h, _⟩)
      · exact h
      · simp at h
    · exact fun h => .inl h
  have hbnd : ∀ b k, X.av b k → b < w.heap.size := by
    rintro b k (h | ⟨o, x, c, q1, q2, _⟩)
    · exact Nat.lt_of_lt_of_le (g.bnd b k h) g.size
    · exact g.block_lt q1 q2
  have hG' : GOk P.G ⟨w, [], [], X.av⟩ := fun q cs hq => Rep.data (X := X) (Y := ⟨w, [], [], X.av⟩) (fun b k v hc ha => ⟨hc, fun h => ha ((hav w b k).1 h)⟩) _ _ (by simp only [isD]; exact P.gd q cs hq) (hG q cs hq)
  refine (h w X.av vs hbnd hG' (RepL.data (X := X) (Y := ⟨w, [], [], X.av⟩) (fun b k v hc ha => ⟨hc, fun h => ha ((hav w b k).1 h)⟩) _ _ h1 hr)).mono ?_
  rintro e w' ⟨v, e, rfl, hb, hh, hv⟩
  have g' : Held B ⟨w', ob, be, C⟩ := g.below hb
  have hlen : be.length = ob.length := g.len
  let Z : Cx := ⟨w', [x], [e], X.av⟩
  let Y : Cx := ⟨w', ob ++ [x], be ++ [e], C⟩
  have hob : ∀ (o : Nat) (y : Ob), Y.ob[o]? = some y → (o = ob.length ∧ y = x) ∨ (o < ob.length ∧ ob[o]? = some y) := by
    intro o y hy
    simp only [Y] at hy
    rcases Nat.lt_or_ge o ob.length with hl | hl
    · rw [List.getElem?_append_left hl] at hy; exact .inr ⟨hl, hy⟩
    · rw [List.getElem?_append_right hl] at hy
      have : o - ob.length = 0 := by
        rcases Nat.eq_zero_or_pos (o - ob.length) with h | h
        · exact h
        · rw [List.getElem?_eq_none (by simp; omega)] at hy; cases hy
      rw [this] at hy
      exact .inl ⟨by omega, by simpa using hy.symm⟩
  have hbe : ∀ (o : Nat) (y : Option (Nat × Nat)), Y.be[o]? = some y → (o = ob.length ∧ y = e) ∨ (o < ob.length ∧ be[o]? = some y) := by
    intro o y hy
    simp only [Y] at hy
    rcases Nat.lt_or_ge o ob.length with hl | hl
    · rw [List.getElem?_append_left (by omega)] at hy; exact .inr ⟨hl, hy⟩
    · rw [List.getElem?_append_right (by omega)] at hy
      have : o - be.length = 0 := by
        rcases Nat.eq_zero_or_pos (o - be.length) with h | h
        · exact h
        · rw [List.getElem?_eq_none (by simp; omega)] at hy; cases hy
      rw [this] at hy
      exact .inl ⟨by omega, by simpa using hy.symm⟩
  have hx : Y.ob[ob.length]? = some x := by simp [Y]
  have hxe : Y.be[ob.length]? = some e := by simp [Y, ← hlen]
  have hnew : ∀ b c, e = some (b, c) → w.heap.size ≤ b := fun b c he => hh.base 0 b c (by rw [he]; rfl)
  -- what may be written in Y may be written in Z
  have hYZ : ∀ b k, Y.av b k → Z.av b k := by
    rintro b k (h | ⟨o, y, c, a1, a2, a3⟩)
    · exact .inl (.inl h)
    · rcases hob o y a1 with ⟨rfl, rfl⟩ | ⟨hl, b1⟩
      · rw [hxe] at a2
        cases a2
        exact .inr ⟨0, y, c, rfl, rfl, a3⟩
      · rcases hbe o _ a2 with ⟨rfl, _⟩ | ⟨_, b2⟩
        · omega
        · exact .inl (.inr ⟨o, y, c, b1, b2, a3⟩)
  -- and what of it is old may be written in X
  have hYX : ∀ b k, b < w.heap.size → Y.av b k → X.av b k := by
    rintro b k hlt (h | ⟨o, y, c, a1, a2, a3⟩)
    · exact .inl h
    · rcases hob o y a1 with ⟨rfl, rfl⟩ | ⟨hl, b1⟩
      · rw [hxe] at a2
        cases a2
        have := hnew b c rfl
        omega
      · rcases hbe o _ a2 with ⟨rfl, _⟩ | ⟨_, b2⟩
        · omega
        · exact .inr ⟨o, y, c, b1, b2, a3⟩
  have blk : ∀ (o b c : Nat), be[o]? = some (some (b, c)) → b < w.heap.size := fun o b c h => by
    have hlt : o < ob.length := by rw [← hlen]; exact (List.getElem?_eq_some_iff.1 h).1
    exact g.block_lt (X := X) (List.getElem?_eq_getElem hlt) h
  have mXY : Moves X Y := by
    refine ⟨fun b k v hc ha => ?_, fun o y hy => ?_⟩
    · have hlt := World.block_lt_of_cell? w _ hc
      exact ⟨by show w'.cell? _ = _; rw [hb.cell (p := ⟨b, k, none⟩) hlt]; exact hc, fun h => ha (hYX b k hlt h)⟩
    · have hl : o < ob.length := (List.getElem?_eq_some_iff.1 hy).1
      exact ⟨y, by simp only [Y]; rw [List.getElem?_append_left hl]; exact hy, Nat.le_refl _, fun h => ⟨h, fun _ => by simp only [Y]; rw [List.getElem?_append_left (by omega)]⟩⟩
  refine ⟨v, shr ob.length r, ob ++ [x], be ++ [e], rfl, hb.mono g.size, ⟨by simp [hlen], fun o y e' hy he => ?_, ?_, ?_, g.bnd, Nat.le_trans g.size hb.size⟩, mXY, ?_, hK⟩
  · rcases hob o y hy with ⟨rfl, rfl⟩ | ⟨hl, b1⟩
    · rw [hxe] at he
      cases he
      obtain hok := hh.ok 0 y e rfl rfl
      cases e with
      | none => exact hok
      | some q =>
        obtain ⟨b, cap⟩ := q
        obtain ⟨cur, q1, q2, q3, q4, q5, q6, q7⟩ := hok
        have hd : ∀ (b' k' : Nat) (v' : Value), Z.w.cell? ⟨b', k', none⟩ = some v' → ¬ Z.av b' k' → Y.w.cell? ⟨b', k', none⟩ = some v' ∧ ¬ Y.av b' k' := fun b' k' v' hc ha => ⟨hc, fun h => ha (hYZ _ _ h)⟩
        exact ⟨cur, q1, q2, q3, q4, q5, RepL.data hd _ _ h2 q6, q7⟩
    · rcases hbe o e' he with ⟨rfl, _⟩ | ⟨_, b2⟩
      · omega
      · refine (g.ok o y e' b1 b2).move mXY fun b c hbc => ?_
        subst hbc
        exact hb.block b (blk o b c b2)
  · intro o o' b c c' q1 q2
    rcases hbe o _ q1 with ⟨rfl, a1⟩ | ⟨l1, a1⟩ <;> rcases hbe o' _ q2 with ⟨rfl, a2⟩ | ⟨l2, a2⟩
    · rfl
    · have := hnew b c a1.symm; have := blk _ _ _ a2; omega
    · have := hnew b c' a2.symm; have := blk _ _ _ a1; omega
    · exact g.inj o o' b c c' a1 a2
  · intro o b c q
    rcases hbe o _ q with ⟨rfl, a1⟩ | ⟨l1, a1⟩
    · have h1 := hnew b c a1.symm; have h2 : B ≤ w.heap.size := g.size; omega
    · exact g.base o b c a1
  · exact rep_shr (X := Z) (i := 0) rfl hx (by rw [hxe]; rfl) h3 hv

theorem callQ.vo {P : Prg} {Q : Exit → St → Prop} {f : FuncId} {ds : List AV} {r : AV} {x : Ob} (h : VO P f ds r x) {ob : List Ob} {os : List AO} {fr : List (Nat × AV)} {dst : Option Nat} (hK : wpQ P os Q ⟨putA fr dst (shr ob.length r), ob ++ [x]⟩) : callQ P f ds ob os Q fr dst :=
  ACall.of_vo h hK

end Go.Am

/- The abstract machine: package variables that lie as a table of numbers. -/
namespace Go.Am
open Go.RowKit

theorem int_of_trod {H : Type} {enc : TypeId × Value → H} {P : Program} {w : World} {base : Nat} {sp : Nat → Bool} {held : Bool} {fuel : Nat} {e : TypeId} {k : IntKind} {cs : List Value} {m : Int} {k' : IntKind} {p : List MemPlace}
    (he : P.underlying e = some (.int k)) (h : DataW.trod enc P w base sp held fuel e cs = some (.lit (.int k' m), p)) : cs = [.int k' m] := by
  cases fuel with
  | zero => simp [DataW.trod] at h
  | succ fuel =>
    match cs with
    | [] => simp [DataW.trod, he] at h
    | _ :: _ :: _ => simp [DataW.trod, he] at h
    | [c] =>
      cases c <;> simp [DataW.trod, he] at h
      obtain ⟨⟨rfl, _⟩, ⟨rfl, rfl⟩, _⟩ := h
      rfl

theorem arr_of_trod {H : Type} {enc : TypeId × Value → H} {P : Program} {w : World} {base : Nat} {sp : Nat → Bool} {held : Bool} {fuel n : Nat} {t e : TypeId} {k : IntKind} {cs : List Value} {p : List MemPlace} {ns : List Int}
    (ht : P.underlying t = some (.array n e)) (he : P.underlying e = some (.int k)) (h1 : P.cellsOf e = 1) (h2 : P.cellsOf t = n)
    (h : DataW.trod enc P w base sp held fuel t cs = some (.agg (ns.map fun x => .lit (.int k x)), p)) : cs = ns.map (.int k) := by
  cases fuel with
  | zero => simp [DataW.trod] at h
  | succ fuel =>
    simp only [DataW.trod, ht, h1, h2, Nat.mul_one] at h
    split at h
    case isFalse => cases h
    rename_i hl
    simp only [Option.map_eq_some_iff, Prod.mk.injEq, DataW.agg.injEq] at h
    obtain ⟨xs, hx, e1, _⟩ := h
    obtain ⟨hlen, hget⟩ := mapM_get hx
    have hxl : xs.length = ns.length := by
      have := congrArg List.length e1
      simpa using this
    have hln : ns.length = n := by rw [← hxl, hlen]; simp
    apply List.ext_getElem
    · simp [hl, hln]
    · intro i hi hi2
      obtain ⟨y, hy1, hy2⟩ := hget i i (List.getElem?_range (by omega))
      have hy : xs[i]? = some y := hy1
      have hin : i < ns.length := by omega
      have e2 : (xs.map (·.1))[i]? = (ns.map fun x => DataW.lit (Lit.int k x))[i]? := by rw [e1]
      rw [List.getElem?_map, List.getElem?_map, hy, List.getElem?_eq_getElem hin] at e2
      simp only [Option.map_some, Option.some.injEq] at e2
      have hd : (cs.drop i).take 1 = [cs[i]] := by rw [List.drop_eq_getElem_cons hi]; rfl
      rw [hd] at hy2
      obtain ⟨y1, y2⟩ := y
      simp only at e2
      subst e2
      have := int_of_trod he hy2
      simp only [List.cons.injEq, and_true] at this
      rw [this]
      simp

theorem table_of_laid {P : Program} {w : World} {name : String} {ns : List Int} {k : IntKind} {g n : Nat} {t e : TypeId} (hg : P.globalNamed name = some g) (hty : (P.globals[g]?).map (·.type) = some t)
    (ht : P.underlying t = some (.array n e)) (he : P.underlying e = some (.int k)) (h1 : P.cellsOf e = 1) (h2 : P.cellsOf t = n) :
    ∀ {laid : List (String × DataW Unit)} {ps : List MemPlace}, DataW.LaidVars P w laid ps → (name, DataW.agg (ns.map fun x => .lit (.int k x))) ∈ laid → ∀ i v, (ns.map (Value.int k))[i]? = some v → w.cell? ⟨g, i, none⟩ = some v
  | [], _, _, hm => by cases hm
  | (m, d) :: r, ps, h, hm => by
    obtain ⟨g', t', cs, fuel, p, q, q1, q2, q3, q4, q5, _⟩ := h
    rcases List.mem_cons.1 hm with hm | hm
    · cases hm
      rw [hg] at q1
      cases q1
      rw [hty] at q2
      cases q2
      have hcs := arr_of_trod ht he h1 h2 q4
      intro i v hv
      rw [← hcs] at hv
      simp only [World.var?, hg, Option.bind_some] at q3
      split at q3
      · rename_i c ty fr hh
        cases q3
        rw [cell_of_row _ _ _ _ _ _ hh]
        simpa using hv
      · cases q3
    · exact table_of_laid hg hty ht he h1 h2 q5 hm

theorem rep_ints {X : Cx} {k : IntKind} : ∀ ns : List Int, RepL X (ns.map (AV.int k)) (ns.map (Value.int k))
  | [] => by simp [RepL]
  | n :: ns => by simp only [List.map_cons, RepL]; exact ⟨_, _, rfl, rfl, rep_ints ns⟩

theorem rep_table {P : Program} {w : World} {laid : List (String × DataW Unit)} (hl : laidMet P laid w) {name : String} (ns : List Int) {k : IntKind} {g n : Nat} {t e : TypeId} (hg : P.globalNamed name = some g) (hty : (P.globals[g]?).map (·.type) = some t)
    (ht : P.underlying t = some (.array n e)) (he : P.underlying e = some (.int k)) (h1 : P.cellsOf e = 1) (h2 : P.cellsOf t = n) (hm : (name, DataW.agg (ns.map fun x => .lit (.int k x))) ∈ laid) :
    Rep (X0 w) (.cell (ns.map (AV.int k))) (.pointer (some ⟨g, 0, none⟩)) := by
  obtain ⟨ps, hv, _, _⟩ := hl
  have hc := table_of_laid hg hty ht he h1 h2 hv hm
  simp only [Rep]
  refine ⟨g, 0, ns.map (Value.int k), rfl, fun i v hv => ⟨⟨by rw [Nat.zero_add]; exact hc i v hv, X0_av⟩, ?_⟩, rep_ints ns⟩
  obtain ⟨n, _, rfl⟩ := List.mem_map.1 (List.mem_of_getElem? hv)
  rfl

def tblB (P : Program) (name : String) (g : Nat) (k : IntKind) : Bool :=
  decide (P.globalNamed name = some g) &&
  match (P.globals[g]?).map (·.type) with
  | some t =>
    match P.underlying t with
    | some (.array n e) => (match P.underlying e with | some (.int k') => decide (k' = k) | _ => false) && decide (P.cellsOf e = 1) && decide (P.cellsOf t = n)
    | _ => false
  | none => false

theorem rep_tableB {P : Program} {w : World} {laid : List (String × DataW Unit)} (hl : laidMet P laid w) {name : String} (ns : List Int) {k : IntKind} {g : Nat} (hb : tblB P name g k = true) (hm : (name, DataW.agg (ns.map fun x => .lit (.int k x))) ∈ laid) :
    Rep (X0 w) (.cell (ns.map (AV.int k))) (.pointer (some ⟨g, 0, none⟩)) := by
  simp only [tblB, Bool.and_eq_true, decide_eq_true_eq] at hb
  obtain ⟨hg, hb⟩ := hb
  split at hb
  · rename_i t hty
    split at hb
    · rename_i n e ht
      simp only [Bool.and_eq_true, decide_eq_true_eq] at hb
      obtain ⟨⟨hb, h1⟩, h2⟩ := hb
      split at hb
      · rename_i k' he
        simp only [decide_eq_true_eq] at hb
        subst hb
        exact rep_table hl ns hg hty ht he h1 h2 hm
      · cases hb
    · cases hb
  · cases hb

end Go.Am

/- The abstract machine: calls with objects that nobody writes any more, told anew; a result whose room is known. -/
namespace Go.Am
open Go.RowKit

theorem stillAt_len : ∀ (is : List Nat) (ob : List Ob), (stillAt is ob).length = ob.length
  | [], _ => rfl
  | i :: is, ob => by
    simp only [stillAt]
    rw [stillAt_len is]
    split <;> simp

theorem ACall.of_still {P : Prg} {f : FuncId} {avs ds : List AV} (k : Nat) (is : List Nat) {ob : List Ob} (hf : frzN (fun o => is.contains o) ob (k + 1) avs = some ds) (hd : isDL ds = true) {K : AV → List Ob → Prop} (h : ACall P f ds (stillAt is ob) K) : ACall P f avs ob K := by
  obtain ⟨hE, hcall⟩ := h
  refine ⟨hE, fun B w be C vs g hG hrep => ?_⟩
  obtain ⟨g1, m1⟩ := Held.still is g
  let X : Cx := ⟨w, ob, be, C⟩
  let Y : Cx := ⟨w, stillAt is ob, be, C⟩
  have hsub : ∀ b k, Y.av b k → X.av b k := by
    rintro b k (h | ⟨o, x, c, h1, h2, h3⟩)
    · exact .inl h
    · have hlt : o < ob.length := by
        have hA : o < be.length := (List.getElem?_eq_some_iff.1 h2).1
        have hB : be.length = ob.length := g.len
        omega
      obtain ⟨m, h4, h5, _⟩ := stillAt_get is ob o ob[o] (List.getElem?_eq_getElem hlt)
      have h1' : (stillAt is ob)[o]? = some x := h1
      rw [h4] at h1'
      cases h1'
      exact .inr ⟨o, ob[o], c, List.getElem?_eq_getElem hlt, h2, by simp only at h3; omega⟩
  have hds := frzN_sound (X := X) g (C' := Y.av) hsub (ok := fun o => is.contains o) (fun o b c x hok hx he k hk hav => by
    have hmem : o ∈ is := by simpa using hok
    rcases hav with h | ⟨o', x', c', h1, h2, h3⟩
    · have h4 := g.base o b c he
      have h5 := g.bnd b k h
      omega
    · have := g.inj o o' b c c' he h2
      subst this
      obtain ⟨m, h4, _, h6⟩ := stillAt_get is ob o x hx
      have h1' : (stillAt is ob)[o]? = some x' := h1
      rw [h4] at h1'
      cases h1'
      have := h6 hmem
      simp only at h3
      omega) (k + 1) avs ds vs hf hrep
  have hds' : RepL ⟨w, stillAt is ob, be, C⟩ ds vs := RepL.data (X := ⟨w, [], [], Y.av⟩) (Y := Y) (fun b k v hc ha => ⟨hc, fun h => ha (.inl h)⟩) _ _ hd hds
  refine (hcall B w be C vs g1 (hG.move m1) hds').mono ?_
  rintro e w' ⟨v, r', ob', be', rfl, hb, hh, hm, hv, hk⟩
  exact ⟨v, r', ob', be', rfl, hb, hh, m1.trans hm, hv, hk⟩

theorem ACall.of_vo_still {P : Prg} {f : FuncId} {avs ds : List AV} {r : AV} {x : Ob} (k : Nat) (is : List Nat) {ob : List Ob} (h : VO P f ds r x) (hf : frzN (fun o => is.contains o) ob (k + 1) avs = some ds) {K : AV → List Ob → Prop} (hK : K (shr ob.length r) (stillAt is ob ++ [x])) : ACall P f avs ob K :=
  ACall.of_still k is hf h.2.1 (ACall.of_vo h (by rw [stillAt_len]; exact hK))

theorem callQ.vo_still {P : Prg} {Q : Exit → St → Prop} {f : FuncId} {avs ds : List AV} {r : AV} {x : Ob} (k : Nat) (is : List Nat) (h : VO P f ds r x) {ob : List Ob} (hf : frzN (fun o => is.contains o) ob (k + 1) avs = some ds) {os : List AO} {fr : List (Nat × AV)} {dst : Option Nat} (hK : wpQ P os Q ⟨putA fr dst (shr ob.length r), stillAt is ob ++ [x]⟩) : callQ P f avs ob os Q fr dst :=
  ACall.of_vo_still k is h hf hK

theorem ACall.uncapR {P : Prg} {f : FuncId} {avs : List AV} {ob : List Ob} {K : AV → List Ob → Prop}
    (h : ACall P f avs ob (fun r ob' => ∃ o n c, r = .ownc o n c ∧ K (.own o n) ob')) : ACall P f avs ob K := by
  obtain ⟨hE, h⟩ := h
  refine ⟨hE, fun B w be C vs g hG hr => (h B w be C vs g hG hr).mono ?_⟩
  rintro e w' ⟨v, r, ob', be', rfl, hb, hh, hm, hv, o, n, c, rfl, hk⟩
  refine ⟨v, _, ob', be', rfl, hb, hh, hm, ?_, hk⟩
  simp only [Rep] at hv ⊢
  obtain ⟨⟨x, h1, h2, h3, h4⟩, h5⟩ := hv
  exact ⟨⟨x, h1, h2, h3, fun e => (h4 e).1⟩, h5⟩

end Go.Am

/- The abstract machine: a call's own objects forgotten at its end; a nil slice in an object. -/
namespace Go.Am
open Go.RowKit

theorem ACall.trim {P : Prg} {f : FuncId} {avs : List AV} {ob0 : List Ob} {K : AV → List Ob → Prop} (m k : Nat) (hM : ob0.length ≤ m)
    (h : ACall P f avs ob0 (fun r ob => ∃ r' ob', ob'.length = m ∧ frzK (fun o => decide (o < m)) (fun o => decide (m ≤ o)) ob k [r] = some [r'] ∧
      (∀ (i : Nat) (y : Ob), ob'[i]? = some y → ∃ cs, ob[i]? = some { y with cs := cs } ∧ frzK (fun o => decide (o < m)) (fun o => decide (m ≤ o)) ob k cs = some y.cs) ∧ K r' ob')) : ACall P f avs ob0 K := by
  obtain ⟨hE, h⟩ := h
  refine ⟨hE, fun B w0 be0 C vs g0 hG hr => (h B w0 be0 C vs g0 hG hr).mono ?_⟩
  rintro e w ⟨v, r, ob, be, rfl, hb, g, hm, hv, r', ob', hlen, hfr, hob, hk⟩
  let X : Cx := ⟨w, ob, be, C⟩
  let Y : Cx := ⟨w, ob', be.take m, C⟩
  have hsub : ∀ b k, Y.av b k → X.av b k := by
    rintro b k (h | ⟨o, y, c, h1, h2, h3⟩)
    · exact .inl h
    · obtain ⟨hlt, h2'⟩ := lt_of_take h2
      obtain ⟨cs, h4, _⟩ := hob o y h1
      exact .inr ⟨o, _, c, h4, h2', h3⟩
  have hK : ∀ (o : Nat) (x : Ob), decide (o < m) = true → X.ob[o]? = some x → ∃ y, Y.ob[o]? = some y ∧ y.n = x.n ∧ y.sz = x.sz ∧ Y.be[o]? = X.be[o]? := by
    intro o x ho hx
    have hlt : o < m := by simpa using ho
    have hy : ob'[o]? = some ob'[o] := List.getElem?_eq_getElem (by omega)
    obtain ⟨cs, h4, _⟩ := hob o _ hy
    have hx' : ob[o]? = some x := hx
    rw [hx'] at h4
    cases h4
    exact ⟨_, hy, rfl, rfl, by simp only [Y, X]; rw [List.getElem?_take_of_lt hlt]⟩
  have hO : ∀ (o b c : Nat) (x : Ob), decide (m ≤ o) = true → X.ob[o]? = some x → X.be[o]? = some (some (b, c)) → ∀ k, k < x.cs.length → ¬ Y.av b k := by
    rintro o b c x ho hx he k _ (h | ⟨o', y, c', h1, h2, h3⟩)
    · have h4 := g.base o b c he
      have h5 := g.bnd b k h
      omega
    · obtain ⟨hlt, h2'⟩ := lt_of_take h2
      have := g.inj o o' b c c' he h2'
      have : m ≤ o := by simpa using ho
      omega
  have hrep : ∀ (cs r : List AV) (vs : List Value), frzK (fun o => decide (o < m)) (fun o => decide (m ≤ o)) ob k cs = some r → RepL X cs vs → RepL Y r vs := fun cs r vs h hr =>
    frzK_sound (X := X) (Y := Y) g rfl hsub hK hO k cs r vs h hr
  have hlb : be.length = ob.length := g.len
  have hmo : m ≤ ob.length := by
    rcases Nat.eq_zero_or_pos m with h | h
    · omega
    · obtain ⟨cs, h4, _⟩ := hob (m - 1) ob'[m - 1] (List.getElem?_eq_getElem (by omega))
      have := (List.getElem?_eq_some_iff.1 h4).1
      omega
  have gY : Held B Y := by
    refine ⟨by simp only [Y, List.length_take]; omega, fun o y e hy he => ?_, fun o o' b c c' h1 h2 => g.inj o o' b c c' (lt_of_take h1).2 (lt_of_take h2).2, fun o b c h1 => g.base o b c (lt_of_take h1).2, g.bnd, g.size⟩
    obtain ⟨cs, h4, h5⟩ := hob o y hy
    have := g.ok o _ e h4 (lt_of_take he).2
    cases e with
    | none =>
      obtain ⟨h6, h7⟩ := this
      have h7' : cs = [] := h7
      subst h7'
      have h8 := hrep _ _ [] h5 (by simp [RepL])
      exact ⟨h6, List.eq_nil_of_length_eq_zero (h8.length).symm⟩
    | some p =>
      obtain ⟨b, cap⟩ := p
      obtain ⟨cur, r1, r2, r3, r4, r5, r6, r7⟩ := this
      have h8 := hrep _ _ _ h5 r6
      have h9 : y.cs.length = cs.length := by rw [← h8.length]; exact r6.length
      exact ⟨cur, by obtain ⟨fr, e, h⟩ := r1; exact ⟨fr, e, h⟩, r2, r3, r4, by rw [h9]; exact r5, by rw [h9]; exact h8, r7⟩
  refine ⟨v, r', ob', be.take m, rfl, hb, gY, ⟨fun b k v hc ha => ?_, fun o x hx => ?_⟩, ?_, hk⟩
  · obtain ⟨h1, h2⟩ := hm.cell b k v hc ha
    exact ⟨h1, fun h => h2 (hsub b k h)⟩
  · obtain ⟨y, hy, h1, h2⟩ := hm.ob o x hx
    have hlt : o < m := by have : o < ob0.length := (List.getElem?_eq_some_iff.1 hx).1; omega
    obtain ⟨z, hz, e1, e2, e3⟩ := hK o y (by simpa using hlt) hy
    have e3' : (be.take m)[o]? = be[o]? := e3
    refine ⟨z, hz, by omega, fun h0 => ⟨by rw [e2]; exact (h2 h0).1, fun e => ?_⟩⟩
    show (be.take m)[o]? = _
    rw [e3']
    exact (h2 h0).2 (by omega)
  · have := hrep _ _ [v] hfr (by simp only [RepL]; exact ⟨_, [], rfl, hv, rfl⟩)
    simp only [RepL] at this
    obtain ⟨v', rest, e, h3, _⟩ := this
    cases e
    exact h3

theorem Le.virtF {M : Nat} {fr : List (Nat × AV)} {ob : List Ob} (p ty sz : Nat) {x : Ob} {z : Bool} {rest : List AV} (h0 : sz ≠ 0) (hp : ob[p]? = some x) (hx : x.cs = .emp z :: rest) :
    Le M ⟨fr, ob⟩ ⟨fr, ob.set p { x with cs := .own ob.length 0 :: rest } ++ [⟨ty, sz, 0, [], 0⟩]⟩ := by
  intro Γ a w hX ⟨q1, q2, q3, be, g, hm, hfr0⟩
  obtain ⟨g1, m1⟩ := g.empty ty sz
  have hpl : p < ob.length := (List.getElem?_eq_some_iff.1 hp).1
  have hp1 : (ob ++ [(⟨ty, sz, 0, [], 0⟩ : Ob)])[p]? = some x := by rw [List.getElem?_append_left hpl]; exact hp
  have hl : be.length = ob.length := g.len
  obtain ⟨g2, m2, _⟩ := g1.retell hp1 (.own ob.length 0 :: rest) (by rw [hx]; rfl) (fun vs hv => by
    rw [hx] at hv
    simp only [RepL] at hv ⊢
    obtain ⟨v, r, rfl, hv, h2⟩ := hv
    refine ⟨v, r, rfl, ?_, h2⟩
    simp only [Rep] at hv ⊢
    obtain ⟨a', e, _⟩ := hv
    refine ⟨⟨⟨ty, sz, 0, [], 0⟩, by simp, h0, Nat.le_refl _, fun _ => ?_⟩, by rw [e]; rfl⟩
    simp only [OwnV]
    rw [show ob.length = be.length from hl.symm]
    simp [e])
  have e1 : (ob ++ [(⟨ty, sz, 0, [], 0⟩ : Ob)]).set p { x with cs := .own ob.length 0 :: rest } = ob.set p { x with cs := .own ob.length 0 :: rest } ++ [⟨ty, sz, 0, [], 0⟩] := List.set_append_left _ _ hpl
  rw [← e1]
  exact ⟨q1, q2, q3, _, g2, hm.trans (m1.trans m2), fun i => Rep.move m2 _ _ (Rep.move m1 _ _ (hfr0 i))⟩

end Go.Am

/- The abstract machine: a walk that stands still within a loop's body, to tell its state anew. -/
namespace Go.Am
open Go.RowKit

def wpP (P : Prg) (N M : Nat) : List Nat → AC → (Exit → St → Prop) → St → Prop
  | [], ac, Q, st => ∃ st', Le M st st' ∧ wpC P N M ac Q st'
  | 0 :: p, .seq a b, Q, st => wpC P N M a (thenA (wpP P N M p b Q) Q) st
  | 1 :: p, .seq a b, Q, st => wpP P N M p a (thenA (wpC P N M b Q) Q) st
  | 2 :: p, .block id c, Q, st => wpP P N M p c (blockA id Q) st
  | _, _, _, _ => False

def kcutp (P : Prg) (N M : Nat) (p : List Nat) (b : AC) (Q : Exit → St → Prop) : Exit → St → Prop := thenA (wpP P N M p b Q) Q

theorem code_seq {P : Prg} {N : Nat} {c : Code} {ax ay : AC} (hc : cCode P N c = some (.seq ax ay)) : ∃ x y, c = .seq x y ∧ cCode P N x = some ax ∧ cCode P N y = some ay := by
  cases c with
  | seq x y =>
    simp only [cCode] at hc
    split at hc
    case h_2 => cases hc
    rename_i hx
    split at hc <;> cases hc
    rename_i hy
    exact ⟨x, y, rfl, hx, hy⟩
  | region id ops d =>
    simp only [cCode] at hc
    split at hc
    case h_2 => cases hc
    split at hc
    · split at hc <;> cases hc
    · cases hc
  | cond x a b => simp only [cCode] at hc; split at hc <;> (try split at hc) <;> cases hc
  | block id c => simp only [cCode, Option.map_eq_some_iff] at hc; obtain ⟨_, _, h⟩ := hc; cases h
  | loop c => simp only [cCode, Option.map_eq_some_iff] at hc; obtain ⟨_, _, h⟩ := hc; cases h
  | _ => simp only [cCode] at hc; cases hc

theorem code_block {P : Prg} {N id : Nat} {c : Code} {ax : AC} (hc : cCode P N c = some (.block id ax)) : ∃ x, c = .block id x ∧ cCode P N x = some ax := by
  cases c with
  | seq x y =>
    simp only [cCode] at hc
    split at hc
    case h_2 => cases hc
    split at hc <;> cases hc
  | region id ops d =>
    simp only [cCode] at hc
    split at hc
    case h_2 => cases hc
    split at hc
    · split at hc <;> cases hc
    · cases hc
  | cond x a b => simp only [cCode] at hc; split at hc <;> (try split at hc) <;> cases hc
  | block id c =>
    simp only [cCode, Option.map_eq_some_iff] at hc
    obtain ⟨x, hx, h⟩ := hc
    cases h
    exact ⟨_, rfl, hx⟩
  | loop c => simp only [cCode, Option.map_eq_some_iff] at hc; obtain ⟨_, _, h⟩ := hc; cases h
  | _ => simp only [cCode] at hc; cases hc

theorem wp_then {P : Prg} {N M : Nat} {x y : Code} {Q : Exit → St → Prop} {F : St → Prop} {st : St} (hx : AWp P N M x (thenA F Q) st) (hy : ∀ st', F st' → AWp P N M y Q st') : AWp P N M (.seq x y) Q st := by
  intro Γ a w h1 h2 hs
  refine wp_seq (wp_mono (hx Γ a w h1 h2 hs) ?_)
  rintro e a' w' ⟨st', hq, hs'⟩
  cases e with
  | normal => exact hy st' hq Γ a' w' h1 h2 hs'
  | exit id => exact ⟨st', hq, hs'⟩
  | goto l => exact ⟨st', hq, hs'⟩
  | ret => exact ⟨st', hq, hs'⟩
  | panic ch => exact ⟨st', hq, hs'⟩
  | outgrown => exact ⟨st', hq, hs'⟩

theorem wp_blk {P : Prg} {N M id : Nat} {x : Code} {Q : Exit → St → Prop} {st : St} (hx : AWp P N M x (blockA id Q) st) : AWp P N M (.block id x) Q st := by
  intro Γ a w h1 h2 hs
  refine wp_block (wp_mono (hx Γ a w h1 h2 hs) ?_)
  rintro e a' w' ⟨st', hq, hs'⟩
  cases e with
  | normal => exact ⟨st', hq, hs'⟩
  | exit j =>
    simp only [blockA] at hq
    simp only [Exit.inBlock]
    split
    · rename_i e; rw [if_pos e] at hq; exact ⟨st', hq, hs'⟩
    · rename_i e; rw [if_neg e] at hq; exact ⟨st', hq, hs'⟩
  | goto l => exact ⟨st', hq, hs'⟩
  | ret => exact ⟨st', hq, hs'⟩
  | panic ch => exact ⟨st', hq, hs'⟩
  | outgrown => exact ⟨st', hq, hs'⟩

theorem wpP_sound {P : Prg} {N M : Nat} : ∀ (p : List Nat) (c : Code) (ac : AC) (Q : Exit → St → Prop) (st : St), cCode P N c = some ac → wpP P N M p ac Q st → AWp P N M c Q st
  | [], c, ac, Q, st, hc, h => by
    obtain ⟨st', hl, h⟩ := h
    exact fun Γ a w h1 h2 hs => wpC_sound c ac Q st' hc h Γ a w h1 h2 (hl Γ a w h2 hs)
  | 0 :: p, c, ac, Q, st, hc, h => by
    cases ac <;> first | exact h.elim | skip
    rename_i ax ay
    obtain ⟨x, y, rfl, hx, hy⟩ := code_seq hc
    exact wp_then (wpC_sound x ax _ st hx h) fun st' h' => wpP_sound p y ay Q st' hy h'
  | 1 :: p, c, ac, Q, st, hc, h => by
    cases ac <;> first | exact h.elim | skip
    rename_i ax ay
    obtain ⟨x, y, rfl, hx, hy⟩ := code_seq hc
    exact wp_then (wpP_sound p x ax _ st hx h) fun st' h' => wpC_sound y ay Q st' hy h'
  | 2 :: p, c, ac, Q, st, hc, h => by
    cases ac <;> first | exact h.elim | skip
    rename_i id ax
    obtain ⟨x, rfl, hx⟩ := code_block hc
    exact wp_blk (wpP_sound p x ax _ st hx h)
  | (_ + 3) :: p, c, ac, Q, st, hc, h => h.elim

theorem ALoop.byP (p : List Nat) {P : Prg} {N M : Nat} {ac : AC} {Q : Exit → St → Prop} {st : St} {ι : Type} (S : ι → St) (ok : ι → Prop) (μ : ι → Nat) (i0 : ι) (h0 : Le M st (S i0)) (hok : ok i0)
    (step : ∀ i, ok i → wpP P N M p ac (kend (fun st' => ∃ j, ok j ∧ μ j < μ i ∧ Le M st' (S j)) Q) (S i)) : ALoop P N M ac Q st := by
  intro c hc Γ a w h1 h2 hs
  have key : ∀ n i a w, μ i < n → ok i → Sim Γ (S i) a w → Code.rounds P c (fun e a' w' => ∃ st', Q e st' ∧ Sim Γ st' a' w') n a w := by
    intro n
    induction n with
    | zero => intro i a w h; omega
    | succ n ih =>
      intro i a w hn hi hsi
      rw [rounds_succ]
      refine wp_mono (wpP_sound p c ac _ (S i) hc (step i hi) Γ a w h1 h2 hsi) ?_
      rintro e a' w' ⟨st', hq, hs'⟩
      cases e with
      | normal =>
        obtain ⟨j, hj, hlt, hle⟩ := hq
        exact ih j a' w' (by omega) hj (hle Γ a' w' h2 hs')
      | exit id => exact ⟨st', hq, hs'⟩
      | goto l => exact ⟨st', hq, hs'⟩
      | ret => exact ⟨st', hq, hs'⟩
      | panic ch => exact ⟨st', hq, hs'⟩
      | outgrown => exact ⟨st', hq, hs'⟩
  exact wp_loop_rounds (μ i0 + 1) (key _ i0 a w (by omega) hok (h0 Γ a w h2 hs))

theorem cutp :
    (∀ P N M p a b Q st, wpP P N M (0 :: p) (.seq a b) Q st = wpC P N M a (kcutp P N M p b Q) st) ∧
    (∀ P N M p a b Q st, wpP P N M (1 :: p) (.seq a b) Q st = wpP P N M p a (kseq P N M b Q) st) ∧
    (∀ P N M p id c Q st, wpP P N M (2 :: p) (.block id c) Q st = wpP P N M p c (kblk id Q) st) ∧
    (∀ P N M p b Q st, kcutp P N M p b Q .normal st = wpP P N M p b Q st) ∧
    (∀ P N M p b Q st j, kcutp P N M p b Q (.exit j) st = Q (.exit j) st) ∧
    (∀ P N M p b Q st, kcutp P N M p b Q .ret st = Q .ret st) :=
  ⟨fun _ _ _ _ _ _ _ _ => rfl, fun _ _ _ _ _ _ _ _ => rfl, fun _ _ _ _ _ _ _ _ => rfl, fun _ _ _ _ _ _ _ => rfl, fun _ _ _ _ _ _ _ _ => rfl, fun _ _ _ _ _ _ _ => rfl⟩
end Go.Am

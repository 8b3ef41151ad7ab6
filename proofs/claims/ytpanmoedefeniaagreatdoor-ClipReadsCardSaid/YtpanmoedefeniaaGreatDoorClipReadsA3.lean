/- An abstract machine for pure Go code, part 3: sound for the given semantics; no conditions. -/
import Derived.Test.YtpanmoedefeniaaGreatDoorClipReadsA2
set_option linter.unusedSectionVars false
set_option linter.unusedSimpArgs false
set_option linter.unusedVariables false
/- The abstract machine: what an object holds, told anew; a known capacity; a block taken over. -/
namespace Go.Am
open Go.RowKit

theorem Held.retell {B : Nat} {X : Cx} (g : Held B X) {p : Nat} {x : Ob} (hx : X.ob[p]? = some x) (cs' : List AV) (hl : cs'.length = x.cs.length) (hr : ∀ vs, RepL X x.cs vs → RepL X cs' vs) :
    let Y : Cx := ⟨X.w, X.ob.set p { x with cs := cs' }, X.be, X.C⟩
    Held B Y ∧ Moves X Y ∧ Moves Y X := by
  intro Y
  have hol : p < X.ob.length := (List.getElem?_eq_some_iff.1 hx).1
  have hob : ∀ (o2 : Nat) (x2 : Ob), Y.ob[o2]? = some x2 → (o2 = p ∧ x2 = { x with cs := cs' }) ∨ (o2 ≠ p ∧ X.ob[o2]? = some x2) := by
    intro o2 x2 h2
    simp only [Y, List.getElem?_set] at h2
    by_cases e : p = o2
    · subst e; simp [hol] at h2; exact .inl ⟨rfl, h2.symm⟩
    · simp [e] at h2; exact .inr ⟨fun h => e h.symm, h2⟩
  have hav : ∀ b' k, Y.av b' k ↔ X.av b' k := by
    intro b' k
    constructor
    · rintro (h | ⟨o2, x2, c2, h1, h2, h3⟩)
      · exact .inl h
      · rcases hob o2 x2 h1 with ⟨rfl, rfl⟩ | ⟨_, h4⟩
        · exact .inr ⟨o2, x, c2, hx, h2, h3⟩
        · exact .inr ⟨o2, x2, c2, h4, h2, h3⟩
    · rintro (h | ⟨o2, x2, c2, h1, h2, h3⟩)
      · exact .inl h
      · by_cases e : o2 = p
        · subst e
          rw [hx] at h1; cases h1
          exact .inr ⟨o2, { x with cs := cs' }, c2, by simp [Y, hol], h2, h3⟩
        · exact .inr ⟨o2, x2, c2, by simp only [Y]; rw [List.getElem?_set_ne (fun h => e h.symm)]; exact h1, h2, h3⟩
  have hmv : Moves X Y := by
    refine ⟨fun b' k v hc ha => ⟨hc, fun h => ha ((hav b' k).1 h)⟩, fun o2 x2 h2 => ?_, fun b' _ hf => ⟨rfl, hf⟩⟩
    by_cases e : o2 = p
    · subst e
      rw [hx] at h2; cases h2
      exact ⟨{ x with cs := cs' }, by simp [Y, hol], Nat.le_refl _, fun h => ⟨h, fun _ => rfl⟩⟩
    · exact ⟨x2, by simp only [Y]; rw [List.getElem?_set_ne (fun h => e h.symm)]; exact h2, Nat.le_refl _, fun h => ⟨h, fun _ => rfl⟩⟩
  have hmv' : Moves Y X := by
    refine ⟨fun b' k v hc ha => ⟨hc, fun h => ha ((hav b' k).2 h)⟩, fun o2 x2 h2 => ?_, fun b' _ hf => ⟨rfl, hf⟩⟩
    rcases hob o2 x2 h2 with ⟨rfl, rfl⟩ | ⟨_, h4⟩
    · exact ⟨x, hx, Nat.le_refl _, fun h => ⟨h, fun _ => rfl⟩⟩
    · exact ⟨x2, h4, Nat.le_refl _, fun h => ⟨h, fun _ => rfl⟩⟩
  refine ⟨⟨by simp [Y, g.len], fun o2 x2 e2 h2 h3 => ?_, g.inj, g.base, g.bnd, g.size⟩, hmv, hmv'⟩
  rcases hob o2 x2 h2 with ⟨rfl, rfl⟩ | ⟨hne, h4⟩
  · have h5 := g.ok o2 x e2 hx h3
    cases e2 with
    | none =>
      obtain ⟨h6, h7⟩ := h5
      exact ⟨h6, by rw [h7] at hl; exact List.eq_nil_of_length_eq_zero hl⟩
    | some q =>
      obtain ⟨b, c⟩ := q
      obtain ⟨cur, q1, q2, q3, q4, q5, q6, q7⟩ := h5
      exact ⟨cur, by obtain ⟨fr, e, h⟩ := q1; exact ⟨fr, e, h⟩, q2, q3, q4, by show cs'.length = _; rw [hl]; exact q5, by show RepL Y cs' (cur.toList.take cs'.length); rw [hl]; exact RepL.move hmv _ _ (hr _ q6), q7⟩
  · exact (g.ok o2 x2 e2 h4 h3).move hmv fun _ _ _ => rfl

theorem ACall.cap {P : Prg} {f : FuncId} {avs : List AV} {ob : List Ob} {K : AV → List Ob → Prop} {p o n : Nat} {x y : Ob} {rest : List AV} (hp : ob[p]? = some x) (hx : x.cs = .own o n :: rest) (ho : ob[o]? = some y) (hn : y.n = n)
    (hE : Enters P f) (h : ∀ c, n ≤ c → c ≤ maxLen → ACall P f avs (ob.set p { x with cs := .ownc o n c :: rest }) K) : ACall P f avs ob K := by
  refine ⟨hE, fun B w be C vs g hG hr => ?_⟩
  have hcur : ∀ vs, RepL ⟨w, ob, be, C⟩ x.cs vs → ∃ v, Rep ⟨w, ob, be, C⟩ (.own o n) v := fun vs hv => by
    rw [hx] at hv
    simp only [RepL] at hv
    obtain ⟨v, r, rfl, hv, _⟩ := hv
    exact ⟨v, hv⟩
  obtain ⟨e, he, hok⟩ := g.get ho
  have hle : n ≤ capE be[o]? ∧ capE be[o]? ≤ maxLen := by
    have he' : be[o]? = some e := he
    rw [he']
    cases e with
    | none =>
      have := hok.1
      exact ⟨by simp only [capE]; omega, by simp [capE, maxLen]⟩
    | some q =>
      obtain ⟨b, c⟩ := q
      obtain ⟨cur, _, _, q3, q4, _⟩ := hok
      exact ⟨by simp only [capE]; omega, q4⟩
  obtain ⟨g', m1, m2⟩ := g.retell hp (.ownc o n (capE be[o]?) :: rest) (by rw [hx]; rfl) (fun vs hv => by
    rw [hx] at hv
    simp only [RepL] at hv ⊢
    obtain ⟨v, r, rfl, hv, h2⟩ := hv
    refine ⟨v, r, rfl, ?_, h2⟩
    simp only [Rep] at hv ⊢
    obtain ⟨⟨z, hz, hz0, hzn, hzp⟩, h1⟩ := hv
    exact ⟨⟨z, hz, hz0, hzn, fun e => ⟨hzp e, rfl⟩⟩, h1⟩)
  have := (h (capE be[o]?) hle.1 hle.2).2 B w be C vs g' (hG.move m1) (RepL.move m1 _ _ hr)
  refine this.mono ?_
  rintro e w' ⟨v, r, ob', be', rfl, hb, hh, hm, hv, hk⟩
  exact ⟨v, r, ob', be', rfl, hb, hh, m1.trans hm, hv, hk⟩

theorem ACall.mono {P : Prg} {f : FuncId} {avs : List AV} {ob : List Ob} {K K' : AV → List Ob → Prop} (h : ACall P f avs ob K) (hk : ∀ r ob', K r ob' → K' r ob') : ACall P f avs ob K' := by
  refine ⟨h.1, fun B w be C vs g hG hr => (h.2 B w be C vs g hG hr).mono ?_⟩
  rintro e w' ⟨v, r, ob', be', rfl, hb, hh, hm, hv, hkk⟩
  exact ⟨v, r, ob', be', rfl, hb, hh, hm, hv, hk _ _ hkk⟩

def upd2 (ob : List Ob) (o p : Nat) (x y : Ob) : List Ob := (ob.set o x).set p y

section
variable {ob : List Ob} {o p : Nat} {x y x' y' : Ob}
theorem upd2_same (ho : ob[o]? = some x) (hp : ob[p]? = some y) (hpo : p ≠ o) : upd2 ob o p x y = ob := by
  unfold upd2
  rw [set_same ho, set_same hp]
theorem upd2_p : (upd2 ob o p x y).set p y' = upd2 ob o p x y' := by unfold upd2; rw [List.set_set]
theorem upd2_o (hpo : p ≠ o) : (upd2 ob o p x y).set o x' = upd2 ob o p x' y := by
  unfold upd2
  rw [List.set_comm _ _ hpo, List.set_set]
theorem upd2_len : (upd2 ob o p x y).length = ob.length := by simp [upd2]
theorem upd2_gp (h : p < ob.length) : (upd2 ob o p x y)[p]? = some y := by simp [upd2, h]
theorem upd2_go (h : o < ob.length) (hpo : p ≠ o) : (upd2 ob o p x y)[o]? = some x := by
  unfold upd2
  rw [List.getElem?_set_ne hpo]
  simp [h]
end

end Go.Am

/- The abstract machine: a function that returns a slice of its caller's own. -/
namespace Go.Am
open Go.RowKit

def shr (m : Nat) : AV → AV
  | .own _ n => .own m n
  | .tup (.own _ n :: cs) => .tup (.own m n :: cs)
  | v => v
def okr (n : Nat) : AV → Bool
  | .own _ k => k == n
  | .tup (.own _ k :: cs) => k == n && cs.all flat
  | _ => false

theorem rep_own {X Y : Cx} {i j n : Nat} {x : Ob} {v : Value} (hx : X.ob[i]? = some x) (hy : Y.ob[j]? = some x) (he : Y.be[j]? = X.be[i]?) (h : Rep X (.own i n) v) : Rep Y (.own j n) v := by
  simp only [Rep] at h ⊢
  obtain ⟨⟨z, hz, h1, h2, h3⟩, h4⟩ := h
  rw [hx] at hz; cases hz
  exact ⟨⟨x, hy, h1, h2, fun e => by rw [he]; exact h3 e⟩, h4⟩

theorem rep_shr {X Y : Cx} {i j : Nat} {x : Ob} {r : AV} {v : Value} (hx : X.ob[i]? = some x) (hy : Y.ob[j]? = some x) (he : Y.be[j]? = X.be[i]?) (hok : okr x.n r = true) (h : Rep X (shr i r) v) : Rep Y (shr j r) v := by
  unfold okr at hok
  split at hok
  · exact rep_own hx hy he h
  · simp only [shr] at h ⊢
    simp only [Bool.and_eq_true] at hok
    simp only [Rep, RepL] at h ⊢
    obtain ⟨vs, e, v1, rest, rfl, h1, h2⟩ := h
    exact ⟨_, e, v1, rest, rfl, rep_own hx hy he (by simp only [Rep]; exact h1), RepL.flat hok.2 h2⟩
  · cases hok

def VO (P : Prg) (f : FuncId) (ds : List AV) (r : AV) (x : Ob) : Prop :=
  Enters P f ∧ isDL ds = true ∧ isDL x.cs = true ∧ okr x.n r = true ∧ ∀ (w : World) (C : Nat → Nat → Prop) (vs : List Value), (∀ b k, C b k → b < w.heap.size) → GOk P.G ⟨w, [], [], C⟩ → RepL ⟨w, [], [], C⟩ ds vs →
    Calls P f vs.toArray w fun e w' => ∃ v be, e = .returned v ∧ Below w.heap.size w w' ∧ Held w.heap.size ⟨w', [x], [be], C⟩ ∧ Rep ⟨w', [x], [be], C⟩ (shr 0 r) v

theorem VO.of_walk {P : Prg} {f : FuncId} {ds : List AV} {r : AV} {x : Ob} (h1 : isDL ds = true) (h2 : isDL x.cs = true) (h3 : okr x.n r = true)
    (h : ACall P f ds [] (fun r' ob' => ∃ i, ob'[i]? = some x ∧ r' = shr i r)) : VO P f ds r x := by
  obtain ⟨h0, h⟩ := h
  refine ⟨h0, h1, h2, h3, fun w C vs hbnd hG hr => ?_⟩
  have g : Held w.heap.size ⟨w, [], [], C⟩ := ⟨rfl, by simp, by simp, by simp, hbnd, Nat.le_refl _⟩
  refine (h w.heap.size w [] C vs g hG hr).mono ?_
  rintro e w' ⟨v, r', ob', be', rfl, hb, hh, hm, hv, i, hi, rfl⟩
  obtain ⟨e, he, hok⟩ := hh.get hi
  have he' : be'[i]? = some e := he
  refine ⟨v, e, rfl, hb, ⟨rfl, fun o y e' hy he2 => ?_, fun o o' b c c' q1 q2 => ?_, fun o b c q => ?_, hbnd, hh.size⟩, rep_shr (X := ⟨w', ob', be', C⟩) (i := i) hi rfl (by simp [he']) h3 hv⟩
  · obtain rfl : o = 0 := by
      rcases o with _ | o
      · rfl
      · simp at hy
    simp at hy he2
    subst hy; subst he2
    cases e with
    | none => exact hok
    | some q =>
      obtain ⟨b, cap⟩ := q
      obtain ⟨cur, q1, q2, q3, q4, q5, q6, q7⟩ := hok
      have hd : ∀ (b' k' : Nat) (v' : Value), (Cx.mk w' ob' be' C).w.cell? ⟨b', k', none⟩ = some v' → ¬ (Cx.mk w' ob' be' C).av b' k' → (Cx.mk w' [x] [some (b, cap)] C).w.cell? ⟨b', k', none⟩ = some v' ∧ ¬ (Cx.mk w' [x] [some (b, cap)] C).av b' k' := fun b' k' v' hc ha => ⟨hc, fun h => ha ?_⟩
      · exact ⟨cur, q1, q2, q3, q4, q5, RepL.data hd _ _ h2 q6, q7⟩
      rcases h with h | ⟨o, y, c, a1, a2, a3⟩
      · exact .inl h
      · rcases o with _ | o
        · simp at a1 a2
          subst a1
          obtain ⟨rfl, rfl⟩ := a2
          exact .inr ⟨i, x, _, hi, he', a3⟩
        · simp at a1
  · rcases o with _ | o
    · rcases o' with _ | o'
      · rfl
      · simp at q2
    · simp at q1
  · rcases o with _ | o
    · simp at q
      subst q
      exact hh.base i b c he'
    · simp at q

theorem ACall.of_vo {P : Prg} {f : FuncId} {ds : List AV} {r : AV} {x : Ob} (h : VO P f ds r x) {ob : List Ob} {K : AV → List Ob → Prop} (hK : K (shr ob.length r) (ob ++ [x])) : ACall P f ds ob K := by
  obtain ⟨h0, h1, h2, h3, h⟩ := h
  refine ⟨h0, fun B w be C vs g hG hr => ?_⟩
  let X : Cx := ⟨w, ob, be, C⟩
  have hav : ∀ w' b k, (Cx.mk w' [] [] X.av).av b k ↔ X.av b k := fun w' b k => by
    constructor
    · rintro (h | ⟨o, x, c, h, _⟩)
      · exact h
      · simp at h
    · exact fun h => .inl h
  have hbnd : ∀ b k, X.av b k → b < w.heap.size := by
    rintro b k (h | ⟨o, x, c, q1, q2, _⟩)
    · exact Nat.lt_of_lt_of_le (g.bnd b k h) g.size
    · exact g.block_lt q1 q2
  have hG' : GOk P.G ⟨w, [], [], X.av⟩ := fun q cs hq => Rep.data (X := X) (Y := ⟨w, [], [], X.av⟩) (fun b k v hc ha => ⟨hc, fun h => ha ((hav w b k).1 h)⟩) _ _ (by simp only [isD]; exact P.gd q cs hq) (hG q cs hq)
  refine (h w X.av vs hbnd hG' (RepL.data (X := X) (Y := ⟨w, [], [], X.av⟩) (fun b k v hc ha => ⟨hc, fun h => ha ((hav w b k).1 h)⟩) _ _ h1 hr)).mono ?_
  rintro e w' ⟨v, e, rfl, hb, hh, hv⟩
  have g' : Held B ⟨w', ob, be, C⟩ := g.below hb
  have hlen : be.length = ob.length := g.len
  let Z : Cx := ⟨w', [x], [e], X.av⟩
  let Y : Cx := ⟨w', ob ++ [x], be ++ [e], C⟩
  have hob : ∀ (o : Nat) (y : Ob), Y.ob[o]? = some y → (o = ob.length ∧ y = x) ∨ (o < ob.length ∧ ob[o]? = some y) := by
    intro o y hy
    simp only [Y] at hy
    rcases Nat.lt_or_ge o ob.length with hl | hl
    · rw [List.getElem?_append_left hl] at hy; exact .inr ⟨hl, hy⟩
    · rw [List.getElem?_append_right hl] at hy
      have : o - ob.length = 0 := by
        rcases Nat.eq_zero_or_pos (o - ob.length) with h | h
        · exact h
        · rw [List.getElem?_eq_none (by simp; omega)] at hy; cases hy
      rw [this] at hy
      exact .inl ⟨by omega, by simpa using hy.symm⟩
  have hbe : ∀ (o : Nat) (y : Option (Nat × Nat)), Y.be[o]? = some y → (o = ob.length ∧ y = e) ∨ (o < ob.length ∧ be[o]? = some y) := by
    intro o y hy
    simp only [Y] at hy
    rcases Nat.lt_or_ge o ob.length with hl | hl
    · rw [List.getElem?_append_left (by omega)] at hy; exact .inr ⟨hl, hy⟩
    · rw [List.getElem?_append_right (by omega)] at hy
      have : o - be.length = 0 := by
        rcases Nat.eq_zero_or_pos (o - be.length) with h | h
        · exact h
        · rw [List.getElem?_eq_none (by simp; omega)] at hy; cases hy
      rw [this] at hy
      exact .inl ⟨by omega, by simpa using hy.symm⟩
  have hx : Y.ob[ob.length]? = some x := by simp [Y]
  have hxe : Y.be[ob.length]? = some e := by simp [Y, ← hlen]
  have hnew : ∀ b c, e = some (b, c) → w.heap.size ≤ b := fun b c he => hh.base 0 b c (by rw [he]; rfl)
  -- what may be written in Y may be written in Z
  have hYZ : ∀ b k, Y.av b k → Z.av b k := by
    rintro b k (h | ⟨o, y, c, a1, a2, a3⟩)
    · exact .inl (.inl h)
    · rcases hob o y a1 with ⟨rfl, rfl⟩ | ⟨hl, b1⟩
      · rw [hxe] at a2
        cases a2
        exact .inr ⟨0, y, c, rfl, rfl, a3⟩
      · rcases hbe o _ a2 with ⟨rfl, _⟩ | ⟨_, b2⟩
        · omega
        · exact .inl (.inr ⟨o, y, c, b1, b2, a3⟩)
  -- and what of it is old may be written in X
  have hYX : ∀ b k, b < w.heap.size → Y.av b k → X.av b k := by
    rintro b k hlt (h | ⟨o, y, c, a1, a2, a3⟩)
    · exact .inl h
    · rcases hob o y a1 with ⟨rfl, rfl⟩ | ⟨hl, b1⟩
      · rw [hxe] at a2
        cases a2
        have := hnew b c rfl
        omega
      · rcases hbe o _ a2 with ⟨rfl, _⟩ | ⟨_, b2⟩
        · omega
        · exact .inr ⟨o, y, c, b1, b2, a3⟩
  have blk : ∀ (o b c : Nat), be[o]? = some (some (b, c)) → b < w.heap.size := fun o b c h => by
    have hlt : o < ob.length := by rw [← hlen]; exact (List.getElem?_eq_some_iff.1 h).1
    exact g.block_lt (X := X) (List.getElem?_eq_getElem hlt) h
  have mXY : Moves X Y := by
    refine ⟨fun b k v hc ha => ?_, fun o y hy => ?_, fun b hb' hf => ⟨hb.block b hb', fun o3 c3 h3 => ?_⟩⟩
    rotate_left 2
    · rcases hbe o3 _ h3 with ⟨_, q⟩ | ⟨_, q⟩
      · have := hnew b c3 q.symm; have hb2 : b < w.heap.size := hb'; omega
      · exact hf o3 c3 q
    · have hlt := World.block_lt_of_cell? w _ hc
      exact ⟨by show w'.cell? _ = _; rw [hb.cell (p := ⟨b, k, none⟩) hlt]; exact hc, fun h => ha (hYX b k hlt h)⟩
    · have hl : o < ob.length := (List.getElem?_eq_some_iff.1 hy).1
      exact ⟨y, by simp only [Y]; rw [List.getElem?_append_left hl]; exact hy, Nat.le_refl _, fun h => ⟨h, fun _ => by simp only [Y]; rw [List.getElem?_append_left (by omega)]⟩⟩
  refine ⟨v, shr ob.length r, ob ++ [x], be ++ [e], rfl, hb.mono g.size, ⟨by simp [hlen], fun o y e' hy he => ?_, ?_, ?_, g.bnd, Nat.le_trans g.size hb.size⟩, mXY, ?_, hK⟩
  · rcases hob o y hy with ⟨rfl, rfl⟩ | ⟨hl, b1⟩
    · rw [hxe] at he
      cases he
      obtain hok := hh.ok 0 y e rfl rfl
      cases e with
      | none => exact hok
      | some q =>
        obtain ⟨b, cap⟩ := q
        obtain ⟨cur, q1, q2, q3, q4, q5, q6, q7⟩ := hok
        have hd : ∀ (b' k' : Nat) (v' : Value), Z.w.cell? ⟨b', k', none⟩ = some v' → ¬ Z.av b' k' → Y.w.cell? ⟨b', k', none⟩ = some v' ∧ ¬ Y.av b' k' := fun b' k' v' hc ha => ⟨hc, fun h => ha (hYZ _ _ h)⟩
        exact ⟨cur, q1, q2, q3, q4, q5, RepL.data hd _ _ h2 q6, q7⟩
    · rcases hbe o e' he with ⟨rfl, _⟩ | ⟨_, b2⟩
      · omega
      · refine (g.ok o y e' b1 b2).move mXY fun b c hbc => ?_
        subst hbc
        exact hb.block b (blk o b c b2)
  · intro o o' b c c' q1 q2
    rcases hbe o _ q1 with ⟨rfl, a1⟩ | ⟨l1, a1⟩ <;> rcases hbe o' _ q2 with ⟨rfl, a2⟩ | ⟨l2, a2⟩
    · rfl
    · have := hnew b c a1.symm; have := blk _ _ _ a2; omega
    · have := hnew b c' a2.symm; have := blk _ _ _ a1; omega
    · exact g.inj o o' b c c' a1 a2
  · intro o b c q
    rcases hbe o _ q with ⟨rfl, a1⟩ | ⟨l1, a1⟩
    · have h1 := hnew b c a1.symm; have h2 : B ≤ w.heap.size := g.size; omega
    · exact g.base o b c a1
  · exact rep_shr (X := Z) (i := 0) rfl hx (by rw [hxe]; rfl) h3 hv

theorem callQ.vo {P : Prg} {Q : Exit → St → Prop} {f : FuncId} {ds : List AV} {r : AV} {x : Ob} (h : VO P f ds r x) {ob : List Ob} {os : List AO} {fr : List (Nat × AV)} {dst : Option Nat} (hK : wpQ P os Q ⟨putA fr dst (shr ob.length r), ob ++ [x]⟩) : callQ P f ds ob os Q fr dst :=
  ACall.of_vo h hK

end Go.Am

/- The abstract machine: package variables that lie as a table of numbers. -/
namespace Go.Am
open Go.RowKit

theorem int_of_trod {H : Type} {enc : TypeId × Value → H} {P : Program} {w : World} {base : Nat} {sp : Nat → Bool} {held : Bool} {fuel : Nat} {e : TypeId} {k : IntKind} {cs : List Value} {m : Int} {k' : IntKind} {p : List MemPlace}
    (he : P.underlying e = some (.int k)) (h : DataW.trod enc P w base sp held fuel e cs = some (.lit (.int k' m), p)) : cs = [.int k' m] := by
  cases fuel with
  | zero => simp [DataW.trod] at h
  | succ fuel =>
    match cs with
    | [] => simp [DataW.trod, he] at h
    | _ :: _ :: _ => simp [DataW.trod, he] at h
    | [c] =>
      cases c <;> simp [DataW.trod, he] at h
      obtain ⟨⟨rfl, _⟩, ⟨rfl, rfl⟩, _⟩ := h
      rfl

theorem arr_of_trod {H : Type} {enc : TypeId × Value → H} {P : Program} {w : World} {base : Nat} {sp : Nat → Bool} {held : Bool} {fuel n : Nat} {t e : TypeId} {k : IntKind} {cs : List Value} {p : List MemPlace} {ns : List Int}
    (ht : P.underlying t = some (.array n e)) (he : P.underlying e = some (.int k)) (h1 : P.cellsOf e = 1) (h2 : P.cellsOf t = n)
    (h : DataW.trod enc P w base sp held fuel t cs = some (.agg (ns.map fun x => .lit (.int k x)), p)) : cs = ns.map (.int k) := by
  cases fuel with
  | zero => simp [DataW.trod] at h
  | succ fuel =>
    simp only [DataW.trod, ht, h1, h2, Nat.mul_one] at h
    split at h
    case isFalse => cases h
    rename_i hl
    simp only [Option.map_eq_some_iff, Prod.mk.injEq, DataW.agg.injEq] at h
    obtain ⟨xs, hx, e1, _⟩ := h
    obtain ⟨hlen, hget⟩ := mapM_get hx
    have hxl : xs.length = ns.length := by
      have := congrArg List.length e1
      simpa using this
    have hln : ns.length = n := by rw [← hxl, hlen]; simp
    apply List.ext_getElem
    · simp [hl, hln]
    · intro i hi hi2
      obtain ⟨y, hy1, hy2⟩ := hget i i (List.getElem?_range (by omega))
      have hy : xs[i]? = some y := hy1
      have hin : i < ns.length := by omega
      have e2 : (xs.map (·.1))[i]? = (ns.map fun x => DataW.lit (Lit.int k x))[i]? := by rw [e1]
      rw [List.getElem?_map, List.getElem?_map, hy, List.getElem?_eq_getElem hin] at e2
      simp only [Option.map_some, Option.some.injEq] at e2
      have hd : (cs.drop i).take 1 = [cs[i]] := by rw [List.drop_eq_getElem_cons hi]; rfl
      rw [hd] at hy2
      obtain ⟨y1, y2⟩ := y
      simp only at e2
      subst e2
      have := int_of_trod he hy2
      simp only [List.cons.injEq, and_true] at this
      rw [this]
      simp

theorem table_of_laid {P : Program} {w : World} {name : String} {ns : List Int} {k : IntKind} {g n : Nat} {t e : TypeId} (hg : P.globalNamed name = some g) (hty : (P.globals[g]?).map (·.type) = some t)
    (ht : P.underlying t = some (.array n e)) (he : P.underlying e = some (.int k)) (h1 : P.cellsOf e = 1) (h2 : P.cellsOf t = n) :
    ∀ {laid : List (String × DataW Unit)} {ps : List MemPlace}, DataW.LaidVars P w laid ps → (name, DataW.agg (ns.map fun x => .lit (.int k x))) ∈ laid → ∀ i v, (ns.map (Value.int k))[i]? = some v → w.cell? ⟨g, i, none⟩ = some v
  | [], _, _, hm => by cases hm
  | (m, d) :: r, ps, h, hm => by
    obtain ⟨g', t', cs, fuel, p, q, q1, q2, q3, q4, q5, _⟩ := h
    rcases List.mem_cons.1 hm with hm | hm
    · cases hm
      rw [hg] at q1
      cases q1
      rw [hty] at q2
      cases q2
      have hcs := arr_of_trod ht he h1 h2 q4
      intro i v hv
      rw [← hcs] at hv
      simp only [World.var?, hg, Option.bind_some] at q3
      split at q3
      · rename_i c ty fr hh
        cases q3
        rw [cell_of_row _ _ _ _ _ _ hh]
        simpa using hv
      · cases q3
    · exact table_of_laid hg hty ht he h1 h2 q5 hm

theorem rep_ints {X : Cx} {k : IntKind} : ∀ ns : List Int, RepL X (ns.map (AV.int k)) (ns.map (Value.int k))
  | [] => by simp [RepL]
  | n :: ns => by simp only [List.map_cons, RepL]; exact ⟨_, _, rfl, rfl, rep_ints ns⟩

theorem rep_table {P : Program} {w : World} {laid : List (String × DataW Unit)} (hl : laidMet P laid w) {name : String} (ns : List Int) {k : IntKind} {g n : Nat} {t e : TypeId} (hg : P.globalNamed name = some g) (hty : (P.globals[g]?).map (·.type) = some t)
    (ht : P.underlying t = some (.array n e)) (he : P.underlying e = some (.int k)) (h1 : P.cellsOf e = 1) (h2 : P.cellsOf t = n) (hm : (name, DataW.agg (ns.map fun x => .lit (.int k x))) ∈ laid) :
    Rep (X0 w) (.cell (ns.map (AV.int k))) (.pointer (some ⟨g, 0, none⟩)) := by
  obtain ⟨ps, hv, _, _⟩ := hl
  have hc := table_of_laid hg hty ht he h1 h2 hv hm
  simp only [Rep]
  refine ⟨g, 0, ns.map (Value.int k), rfl, fun i v hv => ⟨⟨by rw [Nat.zero_add]; exact hc i v hv, X0_av⟩, ?_⟩, rep_ints ns⟩
  obtain ⟨n, _, rfl⟩ := List.mem_map.1 (List.mem_of_getElem? hv)
  rfl

def tblB (P : Program) (name : String) (g : Nat) (k : IntKind) : Bool :=
  decide (P.globalNamed name = some g) &&
  match (P.globals[g]?).map (·.type) with
  | some t =>
    match P.underlying t with
    | some (.array n e) => (match P.underlying e with | some (.int k') => decide (k' = k) | _ => false) && decide (P.cellsOf e = 1) && decide (P.cellsOf t = n)
    | _ => false
  | none => false

theorem rep_tableB {P : Program} {w : World} {laid : List (String × DataW Unit)} (hl : laidMet P laid w) {name : String} (ns : List Int) {k : IntKind} {g : Nat} (hb : tblB P name g k = true) (hm : (name, DataW.agg (ns.map fun x => .lit (.int k x))) ∈ laid) :
    Rep (X0 w) (.cell (ns.map (AV.int k))) (.pointer (some ⟨g, 0, none⟩)) := by
  simp only [tblB, Bool.and_eq_true, decide_eq_true_eq] at hb
  obtain ⟨hg, hb⟩ := hb
  split at hb
  · rename_i t hty
    split at hb
    · rename_i n e ht
      simp only [Bool.and_eq_true, decide_eq_true_eq] at hb
      obtain ⟨⟨hb, h1⟩, h2⟩ := hb
      split at hb
      · rename_i k' he
        simp only [decide_eq_true_eq] at hb
        subst hb
        exact rep_table hl ns hg hty ht he h1 h2 hm
      · cases hb
    · cases hb
  · cases hb

end Go.Am

/- The abstract machine: calls with objects that nobody writes any more, told anew; a result whose room is known. -/
namespace Go.Am
open Go.RowKit

theorem stillAt_len : ∀ (is : List Nat) (ob : List Ob), (stillAt is ob).length = ob.length
  | [], _ => rfl
  | i :: is, ob => by
    simp only [stillAt]
    rw [stillAt_len is]
    split <;> simp

theorem ACall.of_still {P : Prg} {f : FuncId} {avs ds : List AV} (k : Nat) (is : List Nat) {ob : List Ob} (hf : frzN (fun o => is.contains o) ob (k + 1) avs = some ds) (hd : isDL ds = true) {K : AV → List Ob → Prop} (h : ACall P f ds (stillAt is ob) K) : ACall P f avs ob K := by
  obtain ⟨hE, hcall⟩ := h
  refine ⟨hE, fun B w be C vs g hG hrep => ?_⟩
  obtain ⟨g1, m1⟩ := Held.still is g
  let X : Cx := ⟨w, ob, be, C⟩
  let Y : Cx := ⟨w, stillAt is ob, be, C⟩
  have hsub : ∀ b k, Y.av b k → X.av b k := by
    rintro b k (h | ⟨o, x, c, h1, h2, h3⟩)
    · exact .inl h
    · have hlt : o < ob.length := by
        have hA : o < be.length := (List.getElem?_eq_some_iff.1 h2).1
        have hB : be.length = ob.length := g.len
        omega
      obtain ⟨m, h4, h5, _⟩ := stillAt_get is ob o ob[o] (List.getElem?_eq_getElem hlt)
      have h1' : (stillAt is ob)[o]? = some x := h1
      rw [h4] at h1'
      cases h1'
      exact .inr ⟨o, ob[o], c, List.getElem?_eq_getElem hlt, h2, by simp only at h3; omega⟩
  have hds := frzN_sound (X := X) g (C' := Y.av) hsub (ok := fun o => is.contains o) (fun o b c x hok hx he k hk hav => by
    have hmem : o ∈ is := by simpa using hok
    rcases hav with h | ⟨o', x', c', h1, h2, h3⟩
    · have h4 := g.base o b c he
      have h5 := g.bnd b k h
      omega
    · have := g.inj o o' b c c' he h2
      subst this
      obtain ⟨m, h4, _, h6⟩ := stillAt_get is ob o x hx
      have h1' : (stillAt is ob)[o]? = some x' := h1
      rw [h4] at h1'
      cases h1'
      have := h6 hmem
      simp only at h3
      omega) (k + 1) avs ds vs hf hrep
  have hds' : RepL ⟨w, stillAt is ob, be, C⟩ ds vs := RepL.data (X := ⟨w, [], [], Y.av⟩) (Y := Y) (fun b k v hc ha => ⟨hc, fun h => ha (.inl h)⟩) _ _ hd hds
  refine (hcall B w be C vs g1 (hG.move m1) hds').mono ?_
  rintro e w' ⟨v, r', ob', be', rfl, hb, hh, hm, hv, hk⟩
  exact ⟨v, r', ob', be', rfl, hb, hh, m1.trans hm, hv, hk⟩

theorem ACall.of_vo_still {P : Prg} {f : FuncId} {avs ds : List AV} {r : AV} {x : Ob} (k : Nat) (is : List Nat) {ob : List Ob} (h : VO P f ds r x) (hf : frzN (fun o => is.contains o) ob (k + 1) avs = some ds) {K : AV → List Ob → Prop} (hK : K (shr ob.length r) (stillAt is ob ++ [x])) : ACall P f avs ob K :=
  ACall.of_still k is hf h.2.1 (ACall.of_vo h (by rw [stillAt_len]; exact hK))

theorem callQ.vo_still {P : Prg} {Q : Exit → St → Prop} {f : FuncId} {avs ds : List AV} {r : AV} {x : Ob} (k : Nat) (is : List Nat) (h : VO P f ds r x) {ob : List Ob} (hf : frzN (fun o => is.contains o) ob (k + 1) avs = some ds) {os : List AO} {fr : List (Nat × AV)} {dst : Option Nat} (hK : wpQ P os Q ⟨putA fr dst (shr ob.length r), stillAt is ob ++ [x]⟩) : callQ P f avs ob os Q fr dst :=
  ACall.of_vo_still k is h hf hK

end Go.Am

/- The abstract machine: a call's own objects forgotten at its end; a nil slice in an object. -/
namespace Go.Am
open Go.RowKit

theorem Le.virtF {M : Nat} {fr : List (Nat × AV)} {ob : List Ob} (p ty sz : Nat) {x : Ob} {z : Bool} {rest : List AV} (h0 : sz ≠ 0) (hp : ob[p]? = some x) (hx : x.cs = .emp z :: rest) :
    Le M ⟨fr, ob⟩ ⟨fr, ob.set p { x with cs := .own ob.length 0 :: rest } ++ [⟨ty, sz, 0, [], 0⟩]⟩ := by
  intro Γ a w hX ⟨q1, q2, q3, be, g, hm, hfr0⟩
  obtain ⟨g1, m1⟩ := g.empty ty sz
  have hpl : p < ob.length := (List.getElem?_eq_some_iff.1 hp).1
  have hp1 : (ob ++ [(⟨ty, sz, 0, [], 0⟩ : Ob)])[p]? = some x := by rw [List.getElem?_append_left hpl]; exact hp
  have hl : be.length = ob.length := g.len
  obtain ⟨g2, m2, _⟩ := g1.retell hp1 (.own ob.length 0 :: rest) (by rw [hx]; rfl) (fun vs hv => by
    rw [hx] at hv
    simp only [RepL] at hv ⊢
    obtain ⟨v, r, rfl, hv, h2⟩ := hv
    refine ⟨v, r, rfl, ?_, h2⟩
    simp only [Rep] at hv ⊢
    obtain ⟨a', e, _⟩ := hv
    refine ⟨⟨⟨ty, sz, 0, [], 0⟩, by simp, h0, Nat.le_refl _, fun _ => ?_⟩, by rw [e]; rfl⟩
    simp only [OwnV]
    rw [show ob.length = be.length from hl.symm]
    simp [e])
  have e1 : (ob ++ [(⟨ty, sz, 0, [], 0⟩ : Ob)]).set p { x with cs := .own ob.length 0 :: rest } = ob.set p { x with cs := .own ob.length 0 :: rest } ++ [⟨ty, sz, 0, [], 0⟩] := List.set_append_left _ _ hpl
  rw [← e1]
  exact ⟨q1, q2, q3, _, g2, hm.trans (m1.trans m2), fun i => Rep.move m2 _ _ (Rep.move m1 _ _ (hfr0 i))⟩

end Go.Am

/- The abstract machine: a walk that stands still within a loop's body, to tell its state anew. -/
namespace Go.Am
open Go.RowKit

end Go.Am

/- The abstract machine: a place kept for what a call makes; a call over a row that nobody writes any more. -/
namespace Go.Am
open Go.RowKit

theorem ACall.of_vo_at {P : Prg} {f : FuncId} {ds : List AV} {r : AV} {x : Ob} (h : VO P f ds r x) {ob : List Ob} {o : Nat} (hp : ob[o]? = some ph2) {K : AV → List Ob → Prop} (hK : K (shr o r) (ob.set o x)) : ACall P f ds ob K := by
  obtain ⟨h0, h1, h2, h3, h⟩ := h
  refine ⟨h0, fun B w be C vs g hG hr => ?_⟩
  let X : Cx := ⟨w, ob, be, C⟩
  have hav : ∀ w' b k, (Cx.mk w' [] [] X.av).av b k ↔ X.av b k := fun w' b k => by
    constructor
    · rintro (h | ⟨o, x, c, h, _⟩)
      · exact h
      · simp at h
    · exact fun h => .inl h
  have hbnd : ∀ b k, X.av b k → b < w.heap.size := by
    rintro b k (h | ⟨o, x, c, q1, q2, _⟩)
    · exact Nat.lt_of_lt_of_le (g.bnd b k h) g.size
    · exact g.block_lt q1 q2
  have hG' : GOk P.G ⟨w, [], [], X.av⟩ := fun q cs hq => Rep.data (X := X) (Y := ⟨w, [], [], X.av⟩) (fun b k v hc ha => ⟨hc, fun h => ha ((hav w b k).1 h)⟩) _ _ (by simp only [isD]; exact P.gd q cs hq) (hG q cs hq)
  refine (h w X.av vs hbnd hG' (RepL.data (X := X) (Y := ⟨w, [], [], X.av⟩) (fun b k v hc ha => ⟨hc, fun h => ha ((hav w b k).1 h)⟩) _ _ h1 hr)).mono ?_
  rintro e w' ⟨v, e, rfl, hb, hh, hv⟩
  have g' : Held B ⟨w', ob, be, C⟩ := g.below hb
  have hlen : be.length = ob.length := g.len
  have hol : o < ob.length := (List.getElem?_eq_some_iff.1 hp).1
  let Z : Cx := ⟨w', [x], [e], X.av⟩
  let Y : Cx := ⟨w', ob.set o x, be.set o e, C⟩
  have hob : ∀ (o2 : Nat) (y : Ob), Y.ob[o2]? = some y → (o2 = o ∧ y = x) ∨ (o2 ≠ o ∧ ob[o2]? = some y) := by
    intro o2 y hy
    simp only [Y, List.getElem?_set] at hy
    by_cases e : o = o2
    · subst e; simp [hol] at hy; exact .inl ⟨rfl, hy.symm⟩
    · simp [e] at hy; exact .inr ⟨fun h => e h.symm, hy⟩
  have hbe : ∀ (o2 : Nat) (y : Option (Nat × Nat)), Y.be[o2]? = some y → (o2 = o ∧ y = e) ∨ (o2 ≠ o ∧ be[o2]? = some y) := by
    intro o2 y hy
    simp only [Y, List.getElem?_set] at hy
    by_cases e : o = o2
    · subst e; simp [hlen, hol] at hy; exact .inl ⟨rfl, hy.symm⟩
    · simp [e] at hy; exact .inr ⟨fun h => e h.symm, hy⟩
  have hx : Y.ob[o]? = some x := by simp [Y, hol]
  have hxe : Y.be[o]? = some e := by simp [Y, hlen, hol]
  have hnew : ∀ b c, e = some (b, c) → w.heap.size ≤ b := fun b c he => hh.base 0 b c (by rw [he]; rfl)
  -- what may be written in Y may be written in Z
  have hYZ : ∀ b k, Y.av b k → Z.av b k := by
    rintro b k (h | ⟨o2, y, c, a1, a2, a3⟩)
    · exact .inl (.inl h)
    · rcases hob o2 y a1 with ⟨rfl, rfl⟩ | ⟨hl, b1⟩
      · rw [hxe] at a2
        cases a2
        exact .inr ⟨0, y, c, rfl, rfl, a3⟩
      · rcases hbe o2 _ a2 with ⟨rfl, _⟩ | ⟨_, b2⟩
        · exact absurd rfl hl
        · exact .inl (.inr ⟨o2, y, c, b1, b2, a3⟩)
  -- and what of it is old may be written in X
  have hYX : ∀ b k, b < w.heap.size → Y.av b k → X.av b k := by
    rintro b k hlt (h | ⟨o2, y, c, a1, a2, a3⟩)
    · exact .inl h
    · rcases hob o2 y a1 with ⟨rfl, rfl⟩ | ⟨hl, b1⟩
      · rw [hxe] at a2
        cases a2
        have := hnew b c rfl
        omega
      · rcases hbe o2 _ a2 with ⟨rfl, _⟩ | ⟨_, b2⟩
        · exact absurd rfl hl
        · exact .inr ⟨o2, y, c, b1, b2, a3⟩
  have blk : ∀ (o b c : Nat), be[o]? = some (some (b, c)) → b < w.heap.size := fun o b c h => by
    have hlt : o < ob.length := by rw [← hlen]; exact (List.getElem?_eq_some_iff.1 h).1
    exact g.block_lt (X := X) (List.getElem?_eq_getElem hlt) h
  have mXY : Moves X Y := by
    refine ⟨fun b k v hc ha => ?_, fun o2 y hy => ?_, fun b hb' hf => ⟨hb.block b hb', fun o3 c3 h3 => ?_⟩⟩
    rotate_left 2
    · rcases hbe o3 _ h3 with ⟨_, q⟩ | ⟨_, q⟩
      · have := hnew b c3 q.symm; have hb2 : b < w.heap.size := hb'; omega
      · exact hf o3 c3 q
    · have hlt := World.block_lt_of_cell? w _ hc
      exact ⟨by show w'.cell? _ = _; rw [hb.cell (p := ⟨b, k, none⟩) hlt]; exact hc, fun h => ha (hYX b k hlt h)⟩
    · by_cases e2 : o2 = o
      · subst e2
        have hy' : ob[o2]? = some y := hy
        rw [hp] at hy'; cases hy'
        exact ⟨x, hx, Nat.zero_le _, fun h => absurd rfl h⟩
      · exact ⟨y, by simp only [Y]; rw [List.getElem?_set_ne (fun h => e2 h.symm)]; exact hy, Nat.le_refl _, fun h => ⟨h, fun _ => by simp only [Y]; rw [List.getElem?_set_ne (fun h => e2 h.symm)]⟩⟩
  refine ⟨v, shr o r, ob.set o x, be.set o e, rfl, hb.mono g.size, ⟨by simp [hlen], fun o2 y e' hy he => ?_, ?_, ?_, g.bnd, Nat.le_trans g.size hb.size⟩, mXY, ?_, hK⟩
  · rcases hob o2 y hy with ⟨rfl, rfl⟩ | ⟨hl, b1⟩
    · rw [hxe] at he
      cases he
      obtain hok := hh.ok 0 y e rfl rfl
      cases e with
      | none => exact hok
      | some q =>
        obtain ⟨b, cap⟩ := q
        obtain ⟨cur, q1, q2, q3, q4, q5, q6, q7⟩ := hok
        have hd : ∀ (b' k' : Nat) (v' : Value), Z.w.cell? ⟨b', k', none⟩ = some v' → ¬ Z.av b' k' → Y.w.cell? ⟨b', k', none⟩ = some v' ∧ ¬ Y.av b' k' := fun b' k' v' hc ha => ⟨hc, fun h => ha (hYZ _ _ h)⟩
        exact ⟨cur, q1, q2, q3, q4, q5, RepL.data hd _ _ h2 q6, q7⟩
    · rcases hbe o2 e' he with ⟨rfl, _⟩ | ⟨_, b2⟩
      · exact absurd rfl hl
      · refine (g.ok o2 y e' b1 b2).move mXY fun b c hbc => ?_
        subst hbc
        exact hb.block b (blk o2 b c b2)
  · intro o1 o2 b c c' q1 q2
    rcases hbe o1 _ q1 with ⟨rfl, a1⟩ | ⟨l1, a1⟩ <;> rcases hbe o2 _ q2 with ⟨rfl, a2⟩ | ⟨l2, a2⟩
    · rfl
    · have := hnew b c a1.symm; have := blk _ _ _ a2; omega
    · have := hnew b c' a2.symm; have := blk _ _ _ a1; omega
    · exact g.inj o1 o2 b c c' a1 a2
  · intro o1 b c q
    rcases hbe o1 _ q with ⟨rfl, a1⟩ | ⟨l1, a1⟩
    · have h1 := hnew b c a1.symm; have h2 : B ≤ w.heap.size := g.size; omega
    · exact g.base o1 b c a1
  · exact rep_shr (X := Z) (i := 0) rfl hx (by rw [hxe]; rfl) h3 hv

theorem callD.vo {P : Prg} {B : Nat} {Q : Exit → St → Prop} {f : FuncId} {ds : List AV} {r : AV} {x : Ob} (h : VO P f ds r x) {ob : List Ob} (o : Nat) (ho : ob[o]? = some ph2) (hx : x.sz ≠ 0)
    {xs : List It} {fr : List (Nat × AV)} {dst : Option Nat} (hK : wpDQ P B xs Q ⟨putA fr dst (shr o r), ob.set o x⟩) : callD P B false f ds xs Q fr ob dst := by
  refine callD.at (r := shr o r) o x h.1 (fun ob' h' => ACall.of_vo_at h h' ⟨rfl, rfl⟩) ho hx ?_
  simp only [app, if_pos (List.getElem?_eq_some_iff.1 ho).1]
  exact hK

theorem stillAt_one {i : Nat} {ob : List Ob} {x : Ob} (hx : ob[i]? = some x) : stillAt [i] ob = ob.set i { x with fz := x.fz + x.cs.length } := by
  simp only [stillAt, hx]

theorem callD.still {P : Prg} {B : Nat} {Q : Exit → St → Prop} {f : FuncId} {avs ds : List AV} {r : AV} {ob : List Ob} (k i : Nat) {x : Ob} (hx : ob[i]? = some x) (hp : x ≠ ph) (h : VC P f ds r) (hf : frzN (fun o => [i].contains o) ob (k + 1) avs = some ds)
    {xs : List It} {fr : List (Nat × AV)} {dst : Option Nat} (hK : wpDQ P B xs Q ⟨putA fr dst r, ob.set i { x with fz := x.fz + x.cs.length }⟩) : callD P B true f avs xs Q fr ob dst := by
  have hl := (List.getElem?_eq_some_iff.1 hx).1
  have ha : app ob (some (i, { x with fz := x.fz + x.cs.length })) = ob.set i { x with fz := x.fz + x.cs.length } := by simp only [app, if_pos hl]
  refine ⟨r, some (i, { x with fz := x.fz + x.cs.length }), ?_, by rw [ha]; exact hK⟩
  unfold ECall
  rw [if_pos rfl]
  refine ⟨ACall.of_vc_still k [i] hf h ⟨rfl, by rw [ha, stillAt_one hx]⟩, fun o' y e => ?_⟩
  cases e
  exact ⟨x, hx, hp⟩
end Go.Am

/- The abstract machine: objects behind a place are forgotten, those ahead of it stay as they are. -/
namespace Go.Am
open Go.RowKit

mutual
def lowV (m : Nat) : AV → Bool
  | .own o _ | .ownc o _ _ | .view o _ _ _ | .ref o _ _ => decide (o < m)
  | .list _ cs | .cell cs | .agg cs | .tup cs => lowL m cs
  | .fn _ a b => lowL m a && lowL m b
  | _ => true
def lowL (m : Nat) : List AV → Bool
  | [] => true
  | c :: cs => lowV m c && lowL m cs
end

mutual
theorem lowV_mono {m n : Nat} (h : m ≤ n) : ∀ c : AV, lowV m c = true → lowV n c = true
  | .own _ _, g | .ownc _ _ _, g | .view _ _ _ _, g | .ref _ _ _, g => by simp only [lowV, decide_eq_true_eq] at g ⊢; omega
  | .list _ cs, g | .cell cs, g | .agg cs, g | .tup cs, g => by simp only [lowV] at g ⊢; exact lowL_mono h cs g
  | .fn _ a b, g => by simp only [lowV, Bool.and_eq_true] at g ⊢; exact ⟨lowL_mono h a g.1, lowL_mono h b g.2⟩
  | .any, _ | .int _ _, _ | .bool _, _ | .ubool, _ | .str _, _ | .lit _, _ | .emp _, _ => by simp only [lowV]
theorem lowL_mono {m n : Nat} (h : m ≤ n) : ∀ cs : List AV, lowL m cs = true → lowL n cs = true
  | [], _ => rfl
  | c :: cs, g => by simp only [lowL, Bool.and_eq_true] at g ⊢; exact ⟨lowV_mono h c g.1, lowL_mono h cs g.2⟩
end
mutual
theorem lowV_D {m : Nat} : ∀ c : AV, isD c = true → lowV m c = true
  | .own _ _, g | .ownc _ _ _, g | .view _ _ _ _, g | .ref _ _ _, g => by simp [isD] at g
  | .list _ cs, g | .cell cs, g | .agg cs, g | .tup cs, g => by simp only [isD] at g; simp only [lowV]; exact lowL_D cs g
  | .fn _ a b, g => by simp only [isD, Bool.and_eq_true] at g; simp only [lowV, Bool.and_eq_true]; exact ⟨lowL_D a g.1, lowL_D b g.2⟩
  | .any, _ | .int _ _, _ | .bool _, _ | .ubool, _ | .str _, _ | .lit _, _ | .emp _, _ => by simp only [lowV]
theorem lowL_D {m : Nat} : ∀ cs : List AV, isDL cs = true → lowL m cs = true
  | [], _ => rfl
  | c :: cs, g => by simp only [isDL, Bool.and_eq_true] at g; simp only [lowL, Bool.and_eq_true]; exact ⟨lowV_D c g.1, lowL_D cs g.2⟩
end

section
variable {X Y : Cx} {m : Nat} (hw : Y.w = X.w) (hav : ∀ b k, Y.av b k → X.av b k) (hob : ∀ o, o < m → Y.ob[o]? = X.ob[o]? ∧ Y.be[o]? = X.be[o]?)
include hob in
theorem Cur.low {o ver : Nat} {p : Option (Option (Nat × Nat)) → Prop} (h : o < m) (g : Cur X o ver p) : Cur Y o ver p := by
  obtain ⟨x, h1, h2, h3, h4⟩ := g
  exact ⟨x, by rw [(hob o h).1]; exact h1, h2, h3, fun e => by rw [(hob o h).2]; exact h4 e⟩
include hw hav in
theorem AtC.low {b k : Nat} {vs : List Value} (g : AtC X b k vs) : AtC Y b k vs := fun i v hv =>
  ⟨⟨by rw [hw]; exact (g i v hv).1.1, fun h => (g i v hv).1.2 (hav _ _ h)⟩, (g i v hv).2⟩
include hw hav hob
mutual
theorem Rep.low : ∀ (c : AV) (v : Value), lowV m c = true → Rep X c v → Rep Y c v
  | .any, _, _, _ => by simp only [Rep]
  | .int _ _, _, _, g | .bool _, _, _, g | .ubool, _, _, g | .str _, _, _, g | .lit _, _, _, g | .emp _, _, _, g => by simp only [Rep] at g ⊢; exact g
  | .list _ cs, _, h, g => by
    simp only [Rep] at g ⊢
    simp only [lowV] at h
    obtain ⟨a, cap, vs, e, gc, g1, g2⟩ := g
    refine ⟨a, cap, vs, e, gc, ?_, RepL.low cs vs h g2⟩
    rcases g1 with g1 | ⟨b, k, e1, g1⟩
    · exact .inl g1
    · exact .inr ⟨b, k, e1, g1.low hw hav⟩
  | .cell cs, _, h, g => by
    simp only [Rep] at g ⊢
    simp only [lowV] at h
    obtain ⟨b, k, vs, e, g1, g2⟩ := g
    exact ⟨b, k, vs, e, g1.low hw hav, RepL.low cs vs h g2⟩
  | .own _ _, _, h, g => by simp only [Rep] at g ⊢; simp only [lowV, decide_eq_true_eq] at h; exact ⟨g.1.low hob h, g.2⟩
  | .ownc _ _ _, _, h, g => by simp only [Rep] at g ⊢; simp only [lowV, decide_eq_true_eq] at h; exact ⟨g.1.low hob h, g.2⟩
  | .view _ _ _ _, _, h, g => by simp only [Rep] at g ⊢; simp only [lowV, decide_eq_true_eq] at h; exact ⟨g.1.low hob h, g.2⟩
  | .ref _ _ _, _, h, g => by simp only [Rep] at g ⊢; simp only [lowV, decide_eq_true_eq] at h; exact ⟨g.1.low hob h, g.2⟩
  | .agg cs, _, h, g => by
    simp only [Rep] at g ⊢
    simp only [lowV] at h
    obtain ⟨vs, e, g2⟩ := g
    exact ⟨vs, e, RepL.low cs vs h g2⟩
  | .tup cs, _, h, g => by
    simp only [Rep] at g ⊢
    simp only [lowV] at h
    obtain ⟨vs, e, g2⟩ := g
    exact ⟨vs, e, RepL.low cs vs h g2⟩
  | .fn _ fs cs, _, h, g => by
    simp only [Rep] at g ⊢
    simp only [lowV, Bool.and_eq_true] at h
    obtain ⟨va, vb, e, g1, g2⟩ := g
    exact ⟨va, vb, e, RepL.low fs va h.1 g1, RepL.low cs vb h.2 g2⟩
theorem RepL.low : ∀ (cs : List AV) (vs : List Value), lowL m cs = true → RepL X cs vs → RepL Y cs vs
  | [], _, _, g => by simp only [RepL] at g ⊢; exact g
  | c :: cs, _, h, g => by
    simp only [RepL] at g ⊢
    simp only [lowL, Bool.and_eq_true] at h
    obtain ⟨v, rest, e, g1, g2⟩ := g
    exact ⟨v, rest, e, Rep.low c v h.1 g1, RepL.low cs rest h.2 g2⟩
end
end

def Low (m : Nat) (ob : List Ob) : Prop := ∀ x ∈ ob, lowL m x.cs = true
theorem Low.mono {m n : Nat} {ob : List Ob} (h : Low m ob) (hmn : m ≤ n) : Low n ob := fun x hx => lowL_mono hmn _ (h x hx)
theorem Low.set {m o : Nat} {ob : List Ob} {x : Ob} (h : Low m ob) (hx : lowL m x.cs = true) : Low m (ob.set o x) := fun y hy => by
  rcases List.mem_or_eq_of_mem_set hy with h1 | h1
  · exact h y h1
  · rw [h1]; exact hx
theorem Low.append {m : Nat} {a b : List Ob} (h : Low m a) (g : Low m b) : Low m (a ++ b) := fun x hx => by
  rcases List.mem_append.1 hx with h1 | h1
  · exact h x h1
  · exact g x h1
theorem Low.nil {m : Nat} : Low m [] := fun x hx => by simp at hx
theorem Low.cons {m : Nat} {x : Ob} {ob : List Ob} (hx : lowL m x.cs = true) (h : Low m ob) : Low m (x :: ob) := fun y hy => by
  rcases List.mem_cons.1 hy with h1 | h1
  · rw [h1]; exact hx
  · exact h y h1

theorem Held.low {B : Nat} {w : World} {ob J : List Ob} {be : List (Option (Nat × Nat))} {C : Nat → Nat → Prop} (g : Held B ⟨w, ob ++ J, be, C⟩) (hl : Low ob.length ob) :
    Held B ⟨w, ob, be.take ob.length, C⟩ ∧ (∀ (c : AV) (v : Value), lowV ob.length c = true → Rep ⟨w, ob ++ J, be, C⟩ c v → Rep ⟨w, ob, be.take ob.length, C⟩ c v) ∧
      (∀ (X : Cx), X.ob.length ≤ ob.length → Moves X ⟨w, ob ++ J, be, C⟩ → Moves X ⟨w, ob, be.take ob.length, C⟩) := by
  let X : Cx := ⟨w, ob ++ J, be, C⟩
  let Y : Cx := ⟨w, ob, be.take ob.length, C⟩
  have hlb : be.length = (ob ++ J).length := g.len
  have hob : ∀ o, o < ob.length → Y.ob[o]? = X.ob[o]? ∧ Y.be[o]? = X.be[o]? := fun o ho => ⟨by simp only [X, Y]; rw [List.getElem?_append_left ho], by simp only [X, Y]; rw [List.getElem?_take_of_lt ho]⟩
  have hav : ∀ b k, Y.av b k → X.av b k := by
    rintro b k (h | ⟨o, y, c, h1, h2, h3⟩)
    · exact .inl h
    · have ho : o < ob.length := (List.getElem?_eq_some_iff.1 h1).1
      exact .inr ⟨o, y, c, by rw [← (hob o ho).1]; exact h1, by rw [← (hob o ho).2]; exact h2, h3⟩
  have hrep : ∀ (c : AV) (v : Value), lowV ob.length c = true → Rep X c v → Rep Y c v := fun c v h r => Rep.low (X := X) (Y := Y) rfl hav hob c v h r
  have hrepL : ∀ (c : List AV) (v : List Value), lowL ob.length c = true → RepL X c v → RepL Y c v := fun c v h r => RepL.low (X := X) (Y := Y) rfl hav hob c v h r
  rw [List.length_append] at hlb
  refine ⟨⟨by simp; omega, fun o y e hy he => ?_, fun o o' b c c' h1 h2 => g.inj o o' b c c' (lt_of_take h1).2 (lt_of_take h2).2, fun o b c h1 => g.base o b c (lt_of_take h1).2, g.bnd, g.size⟩, hrep, fun Z hZ hm => ⟨fun b k v hc ha => ?_, fun o x hx => ?_, fun b hb hf => ⟨(hm.blk b hb hf).1, fun o c h => (hm.blk b hb hf).2 o c (lt_of_take h).2⟩⟩⟩
  · have hy' : ob[o]? = some y := hy
    have ho : o < ob.length := (List.getElem?_eq_some_iff.1 hy').1
    have := g.ok o y e (by show (ob ++ J)[o]? = _; rw [List.getElem?_append_left ho]; exact hy') (lt_of_take he).2
    cases e with
    | none => exact this
    | some p =>
      obtain ⟨b, cap⟩ := p
      obtain ⟨cur, r1, r2, r3, r4, r5, r6, r7⟩ := this
      exact ⟨cur, r1, r2, r3, r4, r5, hrepL _ _ (hl y (List.mem_of_getElem? hy')) r6, r7⟩
  · obtain ⟨h1, h2⟩ := hm.cell b k v hc ha
    exact ⟨h1, fun h => h2 (hav b k h)⟩
  · obtain ⟨y, hy, h1, h2⟩ := hm.ob o x hx
    have ho : o < ob.length := by have := (List.getElem?_eq_some_iff.1 hx).1; omega
    obtain ⟨e1, e2⟩ := hob o ho
    exact ⟨y, by rw [e1]; exact hy, h1, fun h0 => ⟨(h2 h0).1, fun e => by rw [e2]; exact (h2 h0).2 e⟩⟩

theorem Le.low {M : Nat} {fr fr' : List (Nat × AV)} {ob J : List Ob} (hM : M ≤ ob.length) (hl : Low ob.length ob) (hfr : ∀ p ∈ fr', p.2 = .any ∨ (p.2 = Am.look fr p.1 ∧ lowV ob.length p.2 = true)) : Le M ⟨fr, ob ++ J⟩ ⟨fr', ob⟩ := by
  intro Γ a w hX ⟨q1, q2, q3, be, g, hm, hfr0⟩
  obtain ⟨g1, g2, g3⟩ := g.low hl
  refine ⟨q1, q2, q3, _, g1, g3 _ (by omega) hm, fun i => ?_⟩
  have key : ∀ l : List (Nat × AV), (∀ p ∈ l, p.2 = .any ∨ (p.2 = Am.look fr p.1 ∧ lowV ob.length p.2 = true)) → Am.look l i = .any ∨ (Am.look l i = Am.look fr i ∧ lowV ob.length (Am.look l i) = true) := by
    intro l
    induction l with
    | nil => intro _; exact .inl rfl
    | cons p l ih =>
      obtain ⟨j, v⟩ := p
      intro h
      simp only [Am.look]
      split
      · rename_i e
        subst e
        exact h (i, v) (by simp)
      · exact ih fun p hp => h p (by simp [hp])
  show Rep _ (Am.look fr' i) _
  rcases key fr' hfr with h1 | ⟨h1, h2⟩
  · rw [h1]; simp only [Rep]
  · rw [h1] at h2 ⊢
    exact g2 _ _ h2 (hfr0 i)

theorem ACall.low {P : Prg} {f : FuncId} {avs : List AV} {ob0 : List Ob} {K : AV → List Ob → Prop}
    (h : ACall P f avs ob0 (fun r ob' => ∃ ob J, ob' = ob ++ J ∧ ob0.length ≤ ob.length ∧ Low ob.length ob ∧ lowV ob.length r = true ∧ K r ob)) : ACall P f avs ob0 K := by
  obtain ⟨hE, h⟩ := h
  refine ⟨hE, fun B w0 be0 C vs g0 hG hr => (h B w0 be0 C vs g0 hG hr).mono ?_⟩
  rintro e w ⟨v, r, ob', be, rfl, hb, g, hm, hv, ob, J, rfl, hlen, hl, hr, hk⟩
  obtain ⟨g1, g2, g3⟩ := g.low hl
  exact ⟨v, r, ob, _, rfl, hb, g1, g3 _ hlen hm, g2 _ _ hr hv, hk⟩

theorem Le.still {M : Nat} (is : List Nat) (k : Nat) {fr fr' : List (Nat × AV)} {ob : List Ob} (hfr : ∀ p ∈ fr', p.2 = .any ∨ frzK (fun o => !is.contains o) (fun o => is.contains o) ob k [Am.look fr p.1] = some [p.2]) : Le M ⟨fr, ob⟩ ⟨fr', stillAt is ob⟩ := by
  intro Γ a w hX ⟨q1, q2, q3, be, g, hm, hfr0⟩
  obtain ⟨g1, m1⟩ := Held.still is g
  let X : Cx := ⟨w, ob, be, Γ.X0.C⟩
  let Y : Cx := ⟨w, stillAt is ob, be, Γ.X0.C⟩
  have hsub : ∀ b k, Y.av b k → X.av b k := by
    rintro b k (h | ⟨o, x, c, h1, h2, h3⟩)
    · exact .inl h
    · have hlt : o < ob.length := by
        have hA : o < be.length := (List.getElem?_eq_some_iff.1 h2).1
        have hB : be.length = ob.length := g.len
        omega
      obtain ⟨m, h4, h5, _⟩ := stillAt_get is ob o ob[o] (List.getElem?_eq_getElem hlt)
      have h1' : (stillAt is ob)[o]? = some x := h1
      rw [h4] at h1'
      cases h1'
      exact .inr ⟨o, ob[o], c, List.getElem?_eq_getElem hlt, h2, by simp only at h3; omega⟩
  have hK : ∀ (o : Nat) (x : Ob), (fun o => !is.contains o) o = true → X.ob[o]? = some x → ∃ y, Y.ob[o]? = some y ∧ y.n = x.n ∧ y.sz = x.sz ∧ Y.be[o]? = X.be[o]? := by
    intro o x _ hx
    obtain ⟨m, h4, _⟩ := stillAt_get is ob o x hx
    exact ⟨_, h4, rfl, rfl, rfl⟩
  have hO : ∀ (o b c : Nat) (x : Ob), (fun o => is.contains o) o = true → X.ob[o]? = some x → X.be[o]? = some (some (b, c)) → ∀ k, k < x.cs.length → ¬ Y.av b k := by
    intro o b c x hok hx he k hk hav
    have hmem : o ∈ is := by simpa using hok
    rcases hav with h | ⟨o', x', c', h1, h2, h3⟩
    · have h4 := g.base o b c he
      have h5 := g.bnd b k h
      omega
    · have := g.inj o o' b c c' he h2
      subst this
      obtain ⟨m, h4, _, h6⟩ := stillAt_get is ob o x hx
      have h1' : (stillAt is ob)[o]? = some x' := h1
      rw [h4] at h1'
      cases h1'
      have := h6 hmem
      simp only at h3
      omega
  have hrep : ∀ (cs r : List AV) (vs : List Value), frzK (fun o => !is.contains o) (fun o => is.contains o) ob k cs = some r → RepL X cs vs → RepL Y r vs := fun cs r vs h hr =>
    frzK_sound (X := X) (Y := Y) g rfl hsub hK hO k cs r vs h hr
  refine ⟨q1, q2, q3, be, g1, hm.trans m1, fun i => ?_⟩
  have key : ∀ l : List (Nat × AV), (∀ p ∈ l, p.2 = .any ∨ frzK (fun o => !is.contains o) (fun o => is.contains o) ob k [Am.look fr p.1] = some [p.2]) → Am.look l i = .any ∨ frzK (fun o => !is.contains o) (fun o => is.contains o) ob k [Am.look fr i] = some [Am.look l i] := by
    intro l
    induction l with
    | nil => intro _; exact .inl rfl
    | cons p l ih =>
      obtain ⟨j, v⟩ := p
      intro h
      simp only [Am.look]
      split
      · rename_i e
        subst e
        exact h (i, v) (by simp)
      · exact ih fun p hp => h p (by simp [hp])
  show Rep Y (Am.look fr' i) _
  rcases key fr' hfr with h1 | h1
  · rw [h1]; simp only [Rep]
  · have := hrep _ _ [a.tmps.getD i undef] h1 (by simp only [RepL]; exact ⟨_, [], rfl, hfr0 i, rfl⟩)
    simp only [RepL] at this
    obtain ⟨v', rest, e, h3, _⟩ := this
    cases e
    exact h3

end Go.Am

/- The abstract machine: what speaks of objects speaks of such that are there; an empty slice in a place that was kept. -/
namespace Go.Am
open Go.RowKit

mutual
theorem Rep.isLow {X : Cx} : ∀ (c : AV) (v : Value), Rep X c v → lowV X.ob.length c = true
  | .own _ _, _, g | .ownc _ _ _, _, g | .view _ _ _ _, _, g | .ref _ _ _, _, g => by
    simp only [Rep] at g
    obtain ⟨⟨x, hx, _⟩, _⟩ := g
    simp only [lowV, decide_eq_true_eq]
    exact (List.getElem?_eq_some_iff.1 hx).1
  | .list _ cs, _, g => by
    simp only [Rep] at g
    obtain ⟨_, _, vs, _, _, _, h⟩ := g
    simp only [lowV]
    exact RepL.isLow cs vs h
  | .cell cs, _, g => by
    simp only [Rep] at g
    obtain ⟨_, _, vs, _, _, h⟩ := g
    simp only [lowV]
    exact RepL.isLow cs vs h
  | .agg cs, _, g => by
    simp only [Rep] at g
    obtain ⟨vs, _, h⟩ := g
    simp only [lowV]
    exact RepL.isLow cs vs h
  | .tup cs, _, g => by
    simp only [Rep] at g
    obtain ⟨vs, _, h⟩ := g
    simp only [lowV]
    exact RepL.isLow cs vs h
  | .fn _ a b, _, g => by
    simp only [Rep] at g
    obtain ⟨va, vb, _, h1, h2⟩ := g
    simp only [lowV, Bool.and_eq_true]
    exact ⟨RepL.isLow a va h1, RepL.isLow b vb h2⟩
  | .any, _, _ | .int _ _, _, _ | .bool _, _, _ | .ubool, _, _ | .str _, _, _ | .lit _, _, _ | .emp _, _, _ => by simp only [lowV]
theorem RepL.isLow {X : Cx} : ∀ (cs : List AV) (vs : List Value), RepL X cs vs → lowL X.ob.length cs = true
  | [], _, _ => rfl
  | c :: cs, _, g => by
    simp only [RepL] at g
    obtain ⟨v, rest, _, h1, h2⟩ := g
    simp only [lowL, Bool.and_eq_true]
    exact ⟨Rep.isLow c v h1, RepL.isLow cs rest h2⟩
end

theorem Held.isLow {B : Nat} {X : Cx} (g : Held B X) : Low X.ob.length X.ob := by
  intro x hx
  obtain ⟨o, hx⟩ := List.mem_iff_getElem?.1 hx
  obtain ⟨e, he, hok⟩ := g.get hx
  cases e with
  | none =>
    obtain ⟨_, h⟩ := hok
    rw [h]; rfl
  | some p =>
    obtain ⟨b, cap⟩ := p
    obtain ⟨cur, _, _, _, _, _, h, _⟩ := hok
    exact RepL.isLow _ _ h

theorem Body.ent {P : Prg} {f N : Nat} {rl : List ResultVar} {ac : AC} (b : Body P f N rl ac) : Enters P f := by
  obtain ⟨fn, hf, hn, _, _, hc⟩ := b
  refine ⟨fn, hf, hn, ?_⟩
  cases hb : fn.body with
  | none => rw [hb] at hc; cases hc
  | some c => rfl

theorem ACall.withLow {P : Prg} {f : FuncId} {avs : List AV} {ob : List Ob} {K : AV → List Ob → Prop} (hE : Enters P f) (h : Low ob.length ob → ACall P f avs ob K) : ACall P f avs ob K :=
  ⟨hE, fun B w be C vs g hG hr => (h g.isLow).2 B w be C vs g hG hr⟩

end Go.Am

/- The abstract machine: a round of a range over a function. -/
namespace Go.Am
open Go.RowKit

def RF (l : Nat) : Fence := Fence.wide.inRound l
theorem semI {lp : Nat} {o : Oper} (h : ∀ c, o.op ≠ .defer c) (ρ : Operand → Value) : o.semAt (RF lp).round ρ = execOp ρ o := Oper.semAt_some lp ρ o h
section
variable {P : Prg} {N : Nat} {Γ : Ctx} {lp n : Nat}
end

def noLoop : AC → Bool
  | .seq a b => noLoop a && noLoop b
  | .cond _ a b => noLoop a && noLoop b
  | .block _ c => noLoop c
  | .loop _ => false
  | _ => true

end Go.Am

/- The abstract machine: a range over a function, the caller's side. -/
namespace Go.Am
open Go.RowKit

structure MovesC (X Y : Cx) : Prop where
  cell : ∀ (b k : Nat) (v : Value), X.w.cell? ⟨b, k, none⟩ = some v → ¬ X.av b k → Y.w.cell? ⟨b, k, none⟩ = some v ∧ ¬ Y.av b k
  ob : ∀ (o : Nat) (x : Ob), X.ob[o]? = some x → ∃ y : Ob, Y.ob[o]? = some y ∧ x.n ≤ y.n ∧ (x.sz ≠ 0 → y.sz ≠ 0 ∧ (y.n = x.n → Y.be[o]? = X.be[o]?))

theorem Moves.toC {X Y : Cx} (h : Moves X Y) : MovesC X Y := ⟨h.cell, h.ob⟩
theorem MovesC.refl (X : Cx) : MovesC X X := (Moves.refl X).toC
theorem MovesC.trans {X Y Z : Cx} (h : MovesC X Y) (g : MovesC Y Z) : MovesC X Z := by
  refine ⟨fun b k v hc ha => ?_, fun o x hx => ?_⟩
  · obtain ⟨h1, h2⟩ := h.cell b k v hc ha
    exact g.cell b k v h1 h2
  · obtain ⟨y, hy, hn, he⟩ := h.ob o x hx
    obtain ⟨z, hz, hm, hf⟩ := g.ob o y hy
    exact ⟨z, hz, Nat.le_trans hn hm, fun h0 => ⟨(hf (he h0).1).1, fun e => by rw [(hf (he h0).1).2 (by omega), (he h0).2 (by omega)]⟩⟩
theorem AtC.moveC {X Y : Cx} (h : MovesC X Y) {b k : Nat} {vs : List Value} (g : AtC X b k vs) : AtC Y b k vs :=
  fun i v hv => ⟨h.cell _ _ _ (g i v hv).1.1 (g i v hv).1.2, (g i v hv).2⟩
theorem Cur.moveC {X Y : Cx} (h : MovesC X Y) {o ver : Nat} {p : Option (Option (Nat × Nat)) → Prop} (g : Cur X o ver p) : Cur Y o ver p := by
  obtain ⟨x, hx, h0, hn, hp⟩ := g
  obtain ⟨y, hy, hm, he⟩ := h.ob o x hx
  exact ⟨y, hy, (he h0).1, Nat.le_trans hn hm, fun e => by rw [(he h0).2 (by omega)]; exact hp (by omega)⟩
mutual
theorem Rep.moveC {X Y : Cx} (h : MovesC X Y) : ∀ (c : AV) (v : Value), Rep X c v → Rep Y c v
  | .any, _, g => g
  | .int _ _, _, g => g
  | .bool _, _, g => g
  | .ubool, _, g => g
  | .str _, _, g => g
  | .lit _, _, g => g
  | .emp _, _, g => g
  | .list _ cs, _, g => by
    simp only [Rep] at g ⊢
    obtain ⟨a, cap, vs, e, gc, g1, g2⟩ := g
    refine ⟨a, cap, vs, e, gc, ?_, RepL.moveC h cs vs g2⟩
    rcases g1 with g1 | ⟨b, k, e1, g1⟩
    · exact .inl g1
    · exact .inr ⟨b, k, e1, g1.moveC h⟩
  | .cell cs, _, g => by
    simp only [Rep] at g ⊢
    obtain ⟨b, k, vs, e, g1, g2⟩ := g
    exact ⟨b, k, vs, e, g1.moveC h, RepL.moveC h cs vs g2⟩
  | .own _ _, _, g => by simp only [Rep] at g ⊢; exact ⟨g.1.moveC h, g.2⟩
  | .ownc _ _ _, _, g => by simp only [Rep] at g ⊢; exact ⟨g.1.moveC h, g.2⟩
  | .view _ _ _ _, _, g => by simp only [Rep] at g ⊢; exact ⟨g.1.moveC h, g.2⟩
  | .ref _ _ _, _, g => by simp only [Rep] at g ⊢; exact ⟨g.1.moveC h, g.2⟩
  | .agg cs, _, g => by
    simp only [Rep] at g ⊢
    obtain ⟨vs, e, g2⟩ := g
    exact ⟨vs, e, RepL.moveC h cs vs g2⟩
  | .tup cs, _, g => by
    simp only [Rep] at g ⊢
    obtain ⟨vs, e, g2⟩ := g
    exact ⟨vs, e, RepL.moveC h cs vs g2⟩
  | .fn _ fs cs, _, g => by
    simp only [Rep] at g ⊢
    obtain ⟨va, vb, e, g1, g2⟩ := g
    exact ⟨va, vb, e, RepL.moveC h fs va g1, RepL.moveC h cs vb g2⟩
theorem RepL.moveC {X Y : Cx} (h : MovesC X Y) : ∀ (cs : List AV) (vs : List Value), RepL X cs vs → RepL Y cs vs
  | [], _, g => by simp only [RepL] at g ⊢; exact g
  | c :: cs, _, g => by
    simp only [RepL] at g ⊢
    obtain ⟨v, rest, e, g1, g2⟩ := g
    exact ⟨v, rest, e, Rep.moveC h c v g1, RepL.moveC h cs rest g2⟩
end

def KpB (Ts : List Nat) (C : Nat → Nat → Prop) (W W' : World) : Prop :=
  (∀ (b : Nat) (cur : Array Value) (ty : Nat) (fr : Nat × Nat), W.heap[b]? = some (Obj.cells cur ty fr) → ty ∈ Ts → W'.heap[b]? = W.heap[b]?) ∧ (∀ (b k : Nat) (v : Value), ¬ C b k → W.cell? ⟨b, k, none⟩ = some v → W'.cell? ⟨b, k, none⟩ = some v)
theorem KpB.trans {Ts : List Nat} {D : Nat → Nat → Prop} {A B C : World} (h : KpB Ts D A B) (g : KpB Ts D B C) : KpB Ts D A C :=
  ⟨fun b cur ty fr hb ht => (g.1 b cur ty fr ((h.1 b cur ty fr hb ht).trans hb) ht).trans (h.1 b cur ty fr hb ht), fun b k v hv hc => g.2 b k v hv (h.2 b k v hv hc)⟩
theorem cells_of_cell {W : World} {a : Addr} {v : Value} (h : W.cell? a = some v) : ∃ o : Obj, W.heap[a.block]? = some o ∧ o.isCells = true := by
  unfold World.cell? at h
  cases ho : W.heap[a.block]? with
  | none => simp [ho] at h
  | some o => exact ⟨o, rfl, by cases o <;> simp_all [Obj.isCells]⟩
theorem KpB.grown {Ts : List Nat} {D : Nat → Nat → Prop} {W W' : World} {row : Option Nat} (hg : W.grownBy W' row) (hr : ∀ r, row = some r → ∃ o : Obj, W.heap[r]? = some o ∧ o.isCells = false) : KpB Ts D W W' := by
  have hne : ∀ (b : Nat) (o : Obj), W.heap[b]? = some o → o.isCells = true → W'.heap[b]? = W.heap[b]? := fun b o hb ho =>
    hg.block b (Array.getElem?_eq_some_iff.1 hb).1 fun e => by
      obtain ⟨o', h1, h2⟩ := hr b e.symm
      rw [hb] at h1; cases h1; rw [ho] at h2; cases h2
  refine ⟨fun b cur ty fr hb _ => hne b _ hb rfl, fun b k v _ hc => ?_⟩
  obtain ⟨o, h1, h2⟩ := cells_of_cell hc
  rw [World.cell?_of_block (w := W) (hne _ o h1 h2)]
  exact hc

theorem MovesC.grown {W W' : World} {ob : List Ob} {be : List (Option (Nat × Nat))} {C : Nat → Nat → Prop} {row : Option Nat} (hg : W.grownBy W' row) (hr : ∀ r, row = some r → ∃ o : Obj, W.heap[r]? = some o ∧ o.isCells = false) : MovesC ⟨W, ob, be, C⟩ ⟨W', ob, be, C⟩ := by
  refine ⟨fun b k v hc ha => ⟨?_, ha⟩, fun o x hx => ⟨x, hx, Nat.le_refl _, fun h => ⟨h, fun _ => rfl⟩⟩⟩
  obtain ⟨o, h1, h2⟩ := cells_of_cell hc
  refine (World.cell?_of_block (w := W) (hg.block b (Array.getElem?_eq_some_iff.1 h1).1 fun e => ?_)).trans hc
  obtain ⟨o', h3, h4⟩ := hr b e.symm
  have h1' : W.heap[b]? = some o := h1
  rw [h1'] at h3; cases h3; rw [h2] at h4; cases h4
theorem Held.grown {B : Nat} {W W' : World} {ob : List Ob} {be : List (Option (Nat × Nat))} {C : Nat → Nat → Prop} {row : Option Nat} (g : Held B ⟨W, ob, be, C⟩) (hg : W.grownBy W' row) (hr : ∀ r, row = some r → ∃ o : Obj, W.heap[r]? = some o ∧ o.isCells = false) : Held B ⟨W', ob, be, C⟩ := by
  refine ⟨g.len, fun o x e hx he => ?_, g.inj, g.base, g.bnd, Nat.le_trans g.size hg.size⟩
  have hok := g.ok o x e hx he
  cases e with
  | none => exact hok
  | some p =>
    obtain ⟨b, cap⟩ := p
    obtain ⟨cur, ⟨fr, h1, h1'⟩, h2, h3, h4, h5, h6, h7⟩ := hok
    refine ⟨cur, ⟨fr, ?_, h1'⟩, h2, h3, h4, h5, RepL.moveC (MovesC.grown hg hr) _ _ h6, h7⟩
    refine (hg.block b (Array.getElem?_eq_some_iff.1 h1).1 fun e => ?_).trans h1
    obtain ⟨o', h8, h9⟩ := hr b e.symm
    have h1'' : W.heap[b]? = some (.cells cur x.ty fr) := h1
    rw [h1''] at h8; cases h8; cases h9
theorem Moves.grown {X : Cx} {W W' : World} {ob : List Ob} {be : List (Option (Nat × Nat))} {C : Nat → Nat → Prop} {row : Option Nat} (h : Moves X ⟨W, ob, be, C⟩) (hg : W.grownBy W' row) (hr : ∀ r, row = some r → X.w.heap.size ≤ r ∧ ∃ o : Obj, W.heap[r]? = some o ∧ o.isCells = false) : Moves X ⟨W', ob, be, C⟩ := by
  have hc := h.toC.trans (MovesC.grown hg fun r e => (hr r e).2)
  refine ⟨hc.cell, hc.ob, fun b hb hf => ?_⟩
  obtain ⟨h1, h2⟩ := h.blk b hb hf
  refine ⟨(hg.block b ?_ fun e => ?_).trans h1, h2⟩
  · have := Array.getElem?_eq_getElem hb
    rw [← h1] at this
    exact (Array.getElem?_eq_some_iff.1 this).1
  · have := (hr b e.symm).1
    omega

theorem Moves.kp {B : Nat} {X Y : Cx} (h : Moves X Y) (g : Held B X) {Ts : List Nat} (hT : ∀ x ∈ X.ob, x.ty ∉ Ts) {D : Nat → Nat → Prop} (hat : ∀ b k, ¬ D b k → ¬ X.av b k) : KpB Ts D X.w Y.w := by
  refine ⟨fun b cur ty fr hb ht => ?_, fun b k v hv hc => (h.cell _ _ _ hc (hat b k hv)).1⟩
  refine (h.blk b (Array.getElem?_eq_some_iff.1 hb).1 fun o' c he => ?_).1
  have hlt : o' < X.ob.length := by rw [← g.len]; exact (List.getElem?_eq_some_iff.1 he).1
  obtain ⟨cur', ⟨fr', h1, _⟩, _⟩ := g.ok o' _ _ (List.getElem?_eq_getElem hlt) he
  rw [hb] at h1
  cases h1
  exact hT _ (List.getElem_mem hlt) ht
end Go.Am

/- The abstract machine: a range over a function, the caller's rule. -/
namespace Go.Am
open Go.RowKit

def Asn (asn : Code) (d p : Nat) : Prop := ∀ (lp n : Nat) (P : Program) (Q : Exit → Act → World → Prop) (a : Act) (w : World), Q .normal (a.put (some d) (a.tmps.getD p undef)) w → asn.wpIn (RF lp) n P Q a w

end Go.Am

/- The abstract machine: a body with a range over a function. -/
namespace Go.Am
open Go.RowKit

def RSpine (P : Program) (N t p d : Nat) (aR ab aT : AC) : List AC → Code → Prop
  | [], c => ∃ (cR asn body cT : Code) (id : Nat), c = .seq (.seq cR (.block id (.rangeFunc (.tmp t) #[p] asn body))) cT ∧ cCode P N cR = some aR ∧ Asn asn d p ∧ cCode P N body = some ab ∧ cCode P N cT = some aT
  | a :: as, c => ∃ x y, c = .seq x y ∧ cCode P N x = some a ∧ RSpine P N t p d aR ab aT as y

def BodyR (P : Prg) (f : FuncId) (N : Nat) (rl : List ResultVar) (pres : List AC) (t p d : Nat) (aR ab aT : AC) : Prop :=
  ∃ fn c, P.prog.funcs[f]? = some fn ∧ (fn.name == "runtime.NumGoroutine") = false ∧ fn.ntmps = N ∧ fn.results.toList = rl ∧ fn.body = some c ∧ RSpine P.prog N t p d aR ab aT pres c

end Go.Am

/- The abstract machine: an iterator's side. -/
namespace Go.Am
open Go.RowKit

section
variable {P : Prg} {N : Nat} {Γ : Ctx} {n : Nat}
end

end Go.Am

/- The abstract machine: a call of yield. -/
namespace Go.Am
open Go.RowKit

end Go.Am

/- The abstract machine: the assignment to a loop's variable, checked. -/
namespace Go.Am
open Go.RowKit

def asnB (d p : Nat) : Code → Bool
  | .region _ ops false => match ops.toList with
    | [o] => (match o.op with | .move (.tmp q) | .assign (.tmp q) => q == p | _ => false) && o.dst == some d && o.guard == none
    | _ => false
  | _ => false
theorem asn_ok {d p : Nat} : ∀ {asn : Code}, asnB d p asn = true → Asn asn d p := by
  intro asn h lp n P Q a w hQ
  unfold asnB at h
  split at h
  case h_2 => cases h
  rename_i id ops
  split at h
  case h_2 => cases h
  rename_i o ho
  simp only [Bool.and_eq_true, beq_iff_eq] at h
  obtain ⟨⟨h1, h2⟩, h3⟩ := h
  refine wpIn_region_list ?_
  rw [ho]
  unfold wpListIn
  rw [show Region.wanted o (yielded ops a.tmps) = true by simp [Region.wanted, h3]]
  simp only [if_true]
  unfold Oper.wpIn
  refine ⟨fun _ _ => trivial, ?_⟩
  split at h1
  · rename_i q hq
    simp only [beq_iff_eq] at h1
    subst h1
    rw [semI (fun c e => by rw [hq] at e; cases e)]
    rw [← h2] at hQ
    simp only [execOp, hq, Sem.run_pure]
    exact hQ
  · rename_i q hq
    simp only [beq_iff_eq] at h1
    subst h1
    rw [semI (fun c e => by rw [hq] at e; cases e)]
    rw [← h2] at hQ
    simp only [execOp, hq, Sem.run_pure]
    exact hQ
  · cases h1
end Go.Am

/- The abstract machine: code that is told by its abstract form, taken apart; slots that stay; bodies with a range over a function, checked. -/
namespace Go.Am
open Go.RowKit

/-! ### Code, taken apart -/

/-! ### Bodies with a range over a function, checked -/

structure RC where
  pres : List AC
  t : Nat
  p : Nat
  d : Nat
  aR : AC
  ab : AC
  aT : AC

def asnD : Code → Option (Nat × Nat)
  | .region _ ops false => match ops.toList with
    | [o] => match o.op, o.dst with
      | .move (.tmp q), some d | .assign (.tmp q), some d => some (d, q)
      | _, _ => none
    | _ => none
  | _ => none

def rCode1 (P : Program) (N : Nat) (c : Code) : Option RC :=
  match c with
  | .seq (.seq cR (.block _ (.rangeFunc (.tmp t) ps asn body))) cT =>
    match ps.toList, asnD asn, cCode P N cR, cCode P N body, cCode P N cT with
    | [p], some (d, q), some aR, some ab, some aT => if asnB d p asn && p == q && p < N && d < N && noLoop ab then some ⟨[], t, p, d, aR, ab, aT⟩ else none
    | _, _, _, _, _ => none
  | _ => none
def rCode (P : Program) (N : Nat) : Code → Option RC
  | .seq x y =>
    match rCode1 P N (.seq x y) with
    | some r => some r
    | none =>
      match cCode P N x, rCode P N y with
      | some a, some r => some { r with pres := a :: r.pres }
      | _, _ => none
  | _ => none

theorem rCode1_ok {P : Program} {N : Nat} {c : Code} {r : RC} (h : rCode1 P N c = some r) : r.pres = [] ∧ RSpine P N r.t r.p r.d r.aR r.ab r.aT [] c ∧ r.p < N ∧ r.d < N ∧ noLoop r.ab = true := by
  unfold rCode1 at h
  split at h
  case h_2 => cases h
  split at h
  case h_2 => cases h
  rename_i hps _ hR hB hT
  split at h <;> cases h
  rename_i hok
  simp only [Bool.and_eq_true, decide_eq_true_eq] at hok
  obtain ⟨⟨⟨⟨h1, _⟩, h3⟩, h4⟩, h5⟩ := hok
  have hps' := Array.ext' (ys := #[_]) hps
  subst hps'
  exact ⟨rfl, ⟨_, _, _, _, _, rfl, hR, asn_ok h1, hB, hT⟩, h3, h4, h5⟩
theorem rCode_ok {P : Program} {N : Nat} : ∀ {c : Code} {r : RC}, rCode P N c = some r → RSpine P N r.t r.p r.d r.aR r.ab r.aT r.pres c ∧ r.p < N ∧ r.d < N ∧ noLoop r.ab = true
  | .seq x y, r, h => by
    unfold rCode at h
    split at h
    · rename_i h1
      cases h
      obtain ⟨e, h2, h3⟩ := rCode1_ok h1
      rw [e]
      exact ⟨h2, h3⟩
    · split at h
      · rename_i h2 h3
        cases h
        obtain ⟨h4, h5⟩ := rCode_ok h3
        exact ⟨⟨x, y, rfl, h2, h4⟩, h5⟩
      · cases h

def BodyC (P : Prg) (f : FuncId) (N : Nat) (rl : List ResultVar) (rc : RC) : Prop :=
  ∃ fn, P.prog.funcs[f]? = some fn ∧ (fn.name == "runtime.NumGoroutine") = false ∧ fn.ntmps = N ∧ fn.results.toList = rl ∧ fn.body.bind (rCode P N) = some rc

theorem BodyC.ok {P : Prg} {f : FuncId} {N : Nat} {rl : List ResultVar} {rc : RC} (h : BodyC P f N rl rc) : BodyR P f N rl rc.pres rc.t rc.p rc.d rc.aR rc.ab rc.aT ∧ rc.p < N ∧ rc.d < N ∧ noLoop rc.ab = true := by
  obtain ⟨fn, h1, h2, h3, h4, h5⟩ := h
  obtain ⟨c, hb, hc⟩ := Option.bind_eq_some_iff.1 h5
  obtain ⟨h6, h7⟩ := rCode_ok hc
  exact ⟨⟨fn, c, h1, h2, h3, h4, hb, h6⟩, h7⟩

section
variable {P : Prg} {N M : Nat} {rc : RC} {Q : Exit → St → Prop} {st : St} {a : AC} {as : List AC}
end

/-! ### Slots that stay -/

end Go.Am

/- The abstract machine: statements of an iterator, one at a time, with slots that stay. -/
namespace Go.Am
open Go.RowKit

section
variable {P : Prg} {N : Nat} {Γ : Ctx}

end

/-! ### A slice cut, exactly -/

end Go.Am

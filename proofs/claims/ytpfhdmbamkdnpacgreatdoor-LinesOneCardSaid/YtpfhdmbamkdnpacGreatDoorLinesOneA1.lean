/- An abstract machine for pure Go code, part 1: sound for the given semantics; no conditions. -/
import Derived.WalkKit
import Derived.Still
import Derived.Laws.StructEq
import Derived.ProofKit
import Derived.OpenShut
import Derived.JoinedCond
import Derived.Deep.Slices
import Derived.LaidLaws
import Derived.RangeFuncWrites
import Derived.RangeFuncCalls
import Derived.OrdersIn
import Derived.LoopNIn
import Derived.RangeFuncLeaves
import Derived.Handed
import Derived.Shelf.Vars
set_option linter.unusedSectionVars false
set_option linter.unusedSimpArgs false
set_option linter.unusedVariables false
/- An abstract machine for pure Go code: abstract values, what they say of a world, and how that is kept. -/
namespace Go.Am
open Go.RowKit
set_option linter.defProp false
def qa := @Option.map_eq_some_iff
def qb := @List.getElem?_eq_some_iff
def qc := @Option.some.injEq
def qd := @List.getElem?_eq_getElem
def qe := @Option.bind_eq_some_iff
def qf := @Bool.and_eq_true
def qg := @Nat.le_refl
def qh := @List.getD_eq_getElem?_getD
def qi := @Array.getElem?_eq_some_iff
def qj := @List.getElem?_append_left
def qk := @Option.bind_eq_bind
def ql := @decide_eq_true_eq
def qm := @List.length_append
def qn := @List.length_cons
def qo := @List.mem_cons
def qp := @List.mem_append
def qq := @List.getElem?_set
def qr := @Array.getD_eq_getD_getElem?
def qt := @Int.toNat_natCast
def qu := @Nat.mul_le_mul_right
def qv := @List.getElem?_map
def qw := @List.eq_nil_of_length_eq_zero
def qx := @Option.pure_def
def qy := @List.take_succ_eq_append_getElem
def qz := @if_neg
def qA := @List.getElem?_set_ne
def qC := @List.map_cons
def qE := @if_pos
def qF := @Array.getElem?_eq_getElem
def qG := @List.mem_of_mem_take
def qH := @Nat.le_trans
def qI := @List.getElem?_append_right
def qJ := @List.length_nil
def qK := @List.mem_of_getElem?
def qM := @List.append_assoc
def qN := @List.mem_cons_of_mem
def qO := @List.getElem?_eq_none
def qP := @List.mapM_cons
def qQ := @List.not_mem_nil
def qR := @List.all_eq_true
def qS := @Option.map_some
def qT := @Bool.not_true
def qU := @List.take_of_length_le
def qV := @List.mem_map
def qW := @List.cons_append
def qX := @List.length_take
def qY := @Nat.zero_add
def qZ := @List.mem_singleton
def q8 := @Nat.min_eq_left
def q9 := @Array.ext'
def ya := @Bool.false_eq_true
def yb := @Nat.add_mul
def yc := @Prod.mk.injEq
def yd := @Nat.zero_le
def ye := @List.map_congr_left
def yf := @List.getElem_mem
def yg := @Array.getElem?_append_left
def yh := @Int.tdiv_eq_ediv_of_nonneg
def yi := @Bool.not_false
def yj := @List.length_drop
def yk := @List.getElem?_take_of_lt
def yl := @List.ext_getElem?
def ym := @List.getElem?_take
def yn := @List.take_length
def yo := @List.getD_cons_succ
def yp := @List.drop_eq_getElem_cons
def yq := @List.length_replicate
def yr := @List.take_append_drop
def yt := @List.map_append
def yu := @List.getElem?_cons_zero
def yw := @List.mem_filter
def yx := @beq_eq_false_iff_ne
def yy := @Option.getD_some
def yz := @List.getElem?_toArray
def yA := @Nat.add_zero
def yB := @Nat.lt_of_lt_of_le
def yC := @List.mem_range
def yD := @List.mem_iff_getElem
def yE := @List.getElem?_append
def yF := @Bool.or_eq_true
def yG := @Bool.not_eq_true'
def yH := @Array.getElem?_setIfInBounds_ne
def yI := @if_true
def yJ := @Nat.sub_zero
def yK := @List.filter_eq_self
def yL := @List.pairwise_cons
def yM := @List.getElem?_drop
def yN := @List.append_nil
def yO := @List.length_map
def yP := @Nat.lt_or_ge
def yQ := @Nat.one_mul
def yR := @List.map_nil
def yS := @if_false
def yT := @List.pairwise_append
def yU := @List.mem_of_mem_drop
def yV := @Array.toArray_toList
def yW := @Option.bind_some
def yX := @Int.ediv_le_self
def yY := @Int.natCast_ediv
def yZ := @List.getElem?_range
def y0 := @List.map_map
def y7 := @Option.isSome_iff_exists
def y8 := @Nat.eq_zero_or_pos
def y9 := @Nat.add_sub_cancel_left
def ja := @Nat.le_mul_of_pos_right
def jb := @Nat.add_div_right
def jc := @List.size_toArray
def jd := @List.take_take
def je := @List.take_append
def jf := @Nat.min_le_left
def jg := @Int.ediv_nonneg
def jh := @Nat.min_zero
inductive AV where
 | any
 | int (k : IntKind) (n : Int)
 | bool (b : Bool)
 | ubool
 | str (s : List UInt8)
 | lit (v : Value)
 | emp (z : Bool)
 | list (n : Nat) (cs : List AV)
 | cell (cs : List AV)
 | own (o n : Nat)
 | ownc (o n c : Nat)
 | view (o ver k n : Nat)
 | ref (o ver k : Nat)
 | agg (cs : List AV)
 | tup (cs : List AV)
 | fn (f : Fn) (fs cs : List AV)
structure Ob where
 ty : TypeId
 sz : Nat
 n : Nat
 cs : List AV
 fz : Nat
structure Cx where
 w : World
 ob : List Ob
 be : List (Option (Nat × Nat))
 C : Nat → Nat → Prop
def Cx.av (X : Cx) (b off : Nat) : Prop :=
 X.C b off ∨ ∃ (o : Nat) (x : Ob) (cap : Nat), X.ob[o]? = some x ∧ X.be[o]? = some (some (b, cap)) ∧ x.fz ≤ off
def AtC (X : Cx) (b k : Nat) (vs : List Value) : Prop :=
 ∀ i v, vs[i]? = some v → (X.w.cell? ⟨b, k + i, none⟩ = some v ∧ ¬ X.av b (k + i)) ∧ v.oneCell' = true
def OwnV (e : Option (Option (Nat × Nat))) (n : Nat) (v : Value) : Prop :=
 match e with
 | some (some (b, cap)) => v = .slice (some ⟨b, 0, none⟩) n cap
 | some none => ∃ a, v = .slice a 0 0
 | none => False
def QiC : Option (Option (Nat × Nat)) → Nat
 | some (some (_, cap)) => cap
 | _ => 0
def Qp6 (e : Option (Option (Nat × Nat))) (k n : Nat) (v : Value) : Prop :=
 ∃ a cap, v = .slice a n cap ∧ n ≤ cap ∧ (n = 0 ∨ ∃ b c, e = some (some (b, c)) ∧ a = some ⟨b, k, none⟩)
def QqC (e : Option (Option (Nat × Nat))) (k : Nat) (v : Value) : Prop :=
 ∃ b c, e = some (some (b, c)) ∧ v = .pointer (some ⟨b, k, none⟩)
def Cur (X : Cx) (o ver : Nat) (p : Option (Option (Nat × Nat)) → Prop) : Prop :=
 ∃ x, X.ob[o]? = some x ∧ x.sz ≠ 0 ∧ ver ≤ x.n ∧ (x.n = ver → p X.be[o]?)
mutual
def Rep (X : Cx) : AV → Value → Prop
 | .any, _ => True
 | .int k n, v => v = .int k n
 | .bool b, v => v = .bool b
 | .ubool, v => ∃ b, v = .bool b
 | .str s, v => v = .string ⟨s.toArray⟩
 | .lit u, v => v = u
 | .emp z, v => ∃ a, v = .slice a 0 0 ∧ (z = true → a = none)
 | .list n cs, v => ∃ a cap vs, v = .slice a n cap ∧ n ≤ cap ∧ (vs = [] ∨ ∃ b k, a = some ⟨b, k, none⟩ ∧ AtC X b k vs) ∧ RepL X cs vs
 | .cell cs, v => ∃ b k vs, v = .pointer (some ⟨b, k, none⟩) ∧ AtC X b k vs ∧ RepL X cs vs
 | .own o n, v => (Cur X o n fun e => OwnV e n v) ∧ v.oneCell' = true
 | .ownc o n c, v => (Cur X o n fun e => OwnV e n v ∧ QiC e = c) ∧ v.oneCell' = true
 | .view o ver k n, v => (Cur X o ver fun e => Qp6 e k n v) ∧ v.oneCell' = true
 | .ref o ver k, v => (Cur X o ver fun e => QqC e k v) ∧ v.oneCell' = true
 | .agg cs, v => ∃ vs, v = .agg vs.toArray ∧ RepL X cs vs
 | .tup cs, v => ∃ vs, v = .tuple vs.toArray ∧ RepL X cs vs
 | .fn f fs cs, v => ∃ va vb, v = .func f va.toArray vb.toArray ∧ RepL X fs va ∧ RepL X cs vb
def RepL (X : Cx) : List AV → List Value → Prop
 | [], vs => vs = []
 | c :: cs, vs => ∃ v rest, vs = v :: rest ∧ Rep X c v ∧ RepL X cs rest
end
def Cx.free (X : Cx) (b : Nat) : Prop := ∀ o c : Nat, X.be[o]? ≠ some (some (b, c))
structure Moves (X Y : Cx) : Prop where
 cell : ∀ (b k : Nat) (v : Value), X.w.cell? ⟨b, k, none⟩ = some v → ¬ X.av b k → Y.w.cell? ⟨b, k, none⟩ = some v ∧ ¬ Y.av b k
 ob : ∀ (o : Nat) (x : Ob), X.ob[o]? = some x → ∃ y : Ob, Y.ob[o]? = some y ∧ x.n ≤ y.n ∧ (x.sz ≠ 0 → y.sz ≠ 0 ∧ (y.n = x.n → Y.be[o]? = X.be[o]?))
 blk : ∀ b : Nat, b < X.w.heap.size → X.free b → Y.w.heap[b]? = X.w.heap[b]? ∧ Y.free b
theorem Moves.refl (X : Cx) : Moves X X := ⟨fun _ _ _ h g => ⟨h, g⟩, fun _ x h => ⟨x, h, qg _, fun h => ⟨h, fun _ => rfl⟩⟩, fun _ _ h => ⟨rfl, h⟩⟩
theorem Moves.trans {X Y Z : Cx} (h : Moves X Y) (g : Moves Y Z) : Moves X Z := by
 refine ⟨fun b k v hc ha => ?_, fun o x hx => ?_, fun b hb hf => ?_⟩
 ·obtain ⟨h1, h2⟩ := h.cell b k v hc ha
  exact g.cell b k v h1 h2
 ·obtain ⟨y, hy, hn, he⟩ := h.ob o x hx
  obtain ⟨z, hz, hm, hf⟩ := g.ob o y hy
  exact ⟨z, hz, qH hn hm, fun h0 => ⟨(hf (he h0).1).1, fun e => by rw [(hf (he h0).1).2 (by omega), (he h0).2 (by omega)]⟩⟩
 ·obtain ⟨h1, h2⟩ := h.blk b hb hf
  have hb' : b < Y.w.heap.size := by
   have := qF hb
   rw [← h1] at this
   exact (qi.1 this).1
  obtain ⟨h3, h4⟩ := g.blk b hb' h2
  exact ⟨h3.trans h1, h4⟩
theorem AtC.move {X Y : Cx} (h : Moves X Y) {b k : Nat} {vs : List Value} (g : AtC X b k vs) : AtC Y b k vs :=
 fun i v hv => ⟨h.cell _ _ _ (g i v hv).1.1 (g i v hv).1.2, (g i v hv).2⟩
theorem Cur.move {X Y : Cx} (h : Moves X Y) {o ver : Nat} {p : Option (Option (Nat × Nat)) → Prop} (g : Cur X o ver p) : Cur Y o ver p := by
 obtain ⟨x, hx, h0, hn, hp⟩ := g
 obtain ⟨y, hy, hm, he⟩ := h.ob o x hx
 exact ⟨y, hy, (he h0).1, qH hn hm, fun e => by rw [(he h0).2 (by omega)]; exact hp (by omega)⟩
mutual
theorem Rep.move {X Y : Cx} (h : Moves X Y) : ∀ (c : AV) (v : Value), Rep X c v → Rep Y c v
 | .any, _, g => g
 | .int _ _, _, g => g
 | .bool _, _, g => g
 | .ubool, _, g => g
 | .str _, _, g => g
 | .lit _, _, g => g
 | .emp _, _, g => g
 | .list _ cs, _, g => by
  simp only [Rep] at g ⊢
  obtain ⟨a, cap, vs, e, gc, g1, g2⟩ := g
  refine ⟨a, cap, vs, e, gc, ?_, RepL.move h cs vs g2⟩
  rcases g1 with g1 | ⟨b, k, e1, g1⟩
  ·exact .inl g1
  ·exact .inr ⟨b, k, e1, g1.move h⟩
 | .cell cs, _, g => by
  simp only [Rep] at g ⊢
  obtain ⟨b, k, vs, e, g1, g2⟩ := g
  exact ⟨b, k, vs, e, g1.move h, RepL.move h cs vs g2⟩
 | .own _ _, _, g => by simp only [Rep] at g ⊢; exact ⟨g.1.move h, g.2⟩
 | .ownc _ _ _, _, g => by simp only [Rep] at g ⊢; exact ⟨g.1.move h, g.2⟩
 | .view _ _ _ _, _, g => by simp only [Rep] at g ⊢; exact ⟨g.1.move h, g.2⟩
 | .ref _ _ _, _, g => by simp only [Rep] at g ⊢; exact ⟨g.1.move h, g.2⟩
 | .agg cs, _, g => by
  simp only [Rep] at g ⊢
  obtain ⟨vs, e, g2⟩ := g
  exact ⟨vs, e, RepL.move h cs vs g2⟩
 | .tup cs, _, g => by
  simp only [Rep] at g ⊢
  obtain ⟨vs, e, g2⟩ := g
  exact ⟨vs, e, RepL.move h cs vs g2⟩
 | .fn _ fs cs, _, g => by
  simp only [Rep] at g ⊢
  obtain ⟨va, vb, e, g1, g2⟩ := g
  exact ⟨va, vb, e, RepL.move h fs va g1, RepL.move h cs vb g2⟩
theorem RepL.move {X Y : Cx} (h : Moves X Y) : ∀ (cs : List AV) (vs : List Value), RepL X cs vs → RepL Y cs vs
 | [], _, g => by simp only [RepL] at g ⊢; exact g
 | c :: cs, _, g => by
  simp only [RepL] at g ⊢
  obtain ⟨v, rest, e, g1, g2⟩ := g
  exact ⟨v, rest, e, Rep.move h c v g1, RepL.move h cs rest g2⟩
end
theorem RepL.length {X : Cx} : ∀ {cs : List AV} {vs : List Value}, RepL X cs vs → vs.length = cs.length
 | [], _, g => by simp only [RepL] at g; subst g; rfl
 | c :: cs, _, g => by
  simp only [RepL] at g
  obtain ⟨v, rest, rfl, _, g2⟩ := g
  simp [RepL.length g2]
theorem RepL.get {X : Cx} : ∀ {cs : List AV} {vs : List Value}, RepL X cs vs → ∀ (i : Nat) (c : AV), cs[i]? = some c → ∃ v, vs[i]? = some v ∧ Rep X c v
 | [], _, _, _, _, h => by simp at h
 | c :: cs, _, g, i, d, h => by
  simp only [RepL] at g
  obtain ⟨v, rest, rfl, g1, g2⟩ := g
  cases i with
  | zero => simp at h; subst h; exact ⟨v, by simp, g1⟩
  | succ i => simp at h; simpa using RepL.get g2 i d h
theorem RepL.of_get {X : Cx} : ∀ (cs : List AV) (vs : List Value), vs.length = cs.length → (∀ (i : Nat) (c : AV) (v : Value), cs[i]? = some c → vs[i]? = some v → Rep X c v) → RepL X cs vs
 | [], vs, hl, _ => by simp only [RepL]; exact qw (by simpa using hl)
 | c :: cs, [], hl, _ => by simp at hl
 | c :: cs, v :: vs, hl, h => by
  simp only [RepL]
  exact ⟨v, vs, rfl, h 0 c v (by simp) (by simp), RepL.of_get cs vs (by simpa using hl) fun i d u hd hu => h (i + 1) d u (by simpa using hd) (by simpa using hu)⟩
theorem RepL.append {X : Cx} : ∀ {as : List AV} {us : List Value} {bs : List AV} {vs : List Value}, RepL X as us → RepL X bs vs → RepL X (as ++ bs) (us ++ vs)
 | [], _, _, _, g, h => by simp only [RepL] at g; subst g; exact h
 | a :: as, _, bs, vs, g, h => by
  simp only [RepL] at g
  obtain ⟨v, rest, rfl, g1, g2⟩ := g
  simp only [qW, RepL]
  exact ⟨v, rest ++ vs, rfl, g1, RepL.append g2 h⟩
theorem RepL.take {X : Cx} : ∀ (n : Nat) {cs : List AV} {vs : List Value}, RepL X cs vs → RepL X (cs.take n) (vs.take n)
 | 0, _, _, _ => by simp [RepL]
 | n + 1, [], _, g => by simp only [RepL] at g; subst g; simp [RepL]
 | n + 1, c :: cs, _, g => by
  simp only [RepL] at g
  obtain ⟨v, rest, rfl, g1, g2⟩ := g
  simp only [List.take_succ_cons, RepL]
  exact ⟨v, rest.take n, rfl, g1, RepL.take n g2⟩
theorem RepL.drop {X : Cx} : ∀ (n : Nat) {cs : List AV} {vs : List Value}, RepL X cs vs → RepL X (cs.drop n) (vs.drop n)
 | 0, _, _, g => g
 | n + 1, [], _, g => by simp only [RepL] at g; subst g; simp [RepL]
 | n + 1, c :: cs, _, g => by
  simp only [RepL] at g
  obtain ⟨v, rest, rfl, g1, g2⟩ := g
  simpa using RepL.drop n g2
theorem RepL.set {X : Cx} {cs : List AV} {vs : List Value} (g : RepL X cs vs) (i : Nat) {c : AV} {v : Value} (h : Rep X c v) : RepL X (cs.set i c) (vs.set i v) := by
 refine RepL.of_get _ _ (by simp [g.length]) fun j d u hd hu => ?_
 rw [qq] at hd hu
 by_cases hij : i = j
 ·subst hij
  have hl : i < cs.length := by
   rcases yP i cs.length with h' | h'
   ·exact h'
   ·simp at hd; omega
  have hl' : i < vs.length := by rw [g.length]; exact hl
  simp [hl] at hd
  simp [hl'] at hu
  subst hd; subst hu
  exact h
 ·simp [hij] at hd hu
  obtain ⟨u', hu', hr⟩ := g.get j d hd
  rw [hu] at hu'
  cases hu'
  exact hr
def fzAll : Nat := 1152921504606846976
def FrOk (fr : Nat × Nat) (s fz : Nat) : Prop := fr = (0, 0) ∨ (fr = (s, s + 1) ∧ 0 < fz) ∨ (fr.1 = 0 ∧ fr.2 ≤ fz ∧ fzAll ≤ fz)
theorem FrOk.zero {fr : Nat × Nat} {s : Nat} (h : FrOk fr s 0) : fr = (0, 0) := by
 rcases h with h | h | h
 ·exact h
 ·exact absurd h.2 (Nat.lt_irrefl 0)
 ·exact Prod.ext h.1 (Nat.le_zero.1 h.2.1)
def Qpn (X : Cx) (x : Ob) : Option (Nat × Nat) → Prop
 | none => x.n = 0 ∧ x.cs = []
 | some (b, cap) => ∃ cur : Array Value, (∃ fr, X.w.heap[b]? = some (.cells cur x.ty fr) ∧ FrOk fr cur.size x.fz) ∧ cur.size = cap * x.sz ∧ x.n ≤ cap ∧ cap ≤ maxLen ∧ x.cs.length = x.n * x.sz ∧
   RepL X x.cs (cur.toList.take x.cs.length) ∧ ∀ v ∈ cur.toList, v.oneCell' = true
structure Held (B : Nat) (X : Cx) : Prop where
 len : X.be.length = X.ob.length
 ok : ∀ (o : Nat) (x : Ob) (e : Option (Nat × Nat)), X.ob[o]? = some x → X.be[o]? = some e → Qpn X x e
 inj : ∀ (o o' b c c' : Nat), X.be[o]? = some (some (b, c)) → X.be[o']? = some (some (b, c')) → o = o'
 base : ∀ (o b c : Nat), X.be[o]? = some (some (b, c)) → B ≤ b
 bnd : ∀ (b k : Nat), X.C b k → b < B
 size : B ≤ X.w.heap.size
theorem Qpn.move {X Y : Cx} (h : Moves X Y) {x : Ob} {e : Option (Nat × Nat)} (hw : ∀ b c, e = some (b, c) → Y.w.heap[b]? = X.w.heap[b]?) (g : Qpn X x e) : Qpn Y x e := by
 cases e with
 | none => exact g
 | some p =>
  obtain ⟨b, cap⟩ := p
  obtain ⟨cur, h1, h2, h3, h4, h5, h6, h7⟩ := g
  obtain ⟨fr, h1, h1'⟩ := h1
  exact ⟨cur, ⟨fr, by rw [hw b cap rfl]; exact h1, h1'⟩, h2, h3, h4, h5, RepL.move h _ _ h6, h7⟩
theorem Held.get {B : Nat} {X : Cx} (g : Held B X) {o : Nat} {x : Ob} (hx : X.ob[o]? = some x) : ∃ e, X.be[o]? = some e ∧ Qpn X x e := by
 have hlt : o < X.be.length := by rw [g.len]; exact (qb.1 hx).1
 exact ⟨X.be[o], qd hlt, g.ok o x _ hx (qd hlt)⟩
theorem Moves.below {X : Cx} {w' : World} (hb : Below X.w.heap.size X.w w') : Moves X { X with w := w' } := by
 refine ⟨fun b k v hc ha => ⟨?_, ha⟩, fun o x hx => ⟨x, hx, qg _, fun h => ⟨h, fun _ => rfl⟩⟩, fun b h1 h2 => ⟨hb.block b h1, h2⟩⟩
 have := hb.cell (p := ⟨b, k, none⟩) (World.block_lt_of_cell? X.w _ hc)
 rw [this]; exact hc
theorem Held.below {B : Nat} {X : Cx} (g : Held B X) {w' : World} (hb : Below X.w.heap.size X.w w') : Held B { X with w := w' } := by
 refine ⟨g.len, fun o x e hx he => ?_, g.inj, g.base, g.bnd, qH g.size hb.size⟩
 refine (g.ok o x e hx he).move (Moves.below hb) fun b c hbc => ?_
 subst hbc
 obtain ⟨cur, ⟨fr, h1, _⟩, _⟩ := g.ok o x _ hx he
 exact hb.block b (qi.1 h1).1
end Go.Am
/- The abstract machine: the few ways in which a world and the store move on. -/
namespace Go.Am
open Go.RowKit
theorem QfG {B g : Nat} (w : World) (hg : B ≤ g) (cs : Array Value) : Below B w (w.setRow g cs) :=
 ⟨rfl, rfl, rfl, by simp, fun k hk => setRow_other w g k cs (by omega)⟩
theorem JN {B : Nat} (w : World) (hB : B ≤ w.heap.size) (o : Obj) : Below B w (w.alloc o) := (Below.refl B w).alloc hB o
theorem Held.block_lt {B : Nat} {X : Cx} (g : Held B X) {o b cap : Nat} {x : Ob} (hx : X.ob[o]? = some x) (he : X.be[o]? = some (some (b, cap))) : b < X.w.heap.size := by
 obtain ⟨cur, ⟨fr, h1, _⟩, _⟩ := g.ok o x _ hx he
 exact (qi.1 h1).1
theorem Qpg {X : Cx} {B : Nat} (g : Held B X) {o b cap k : Nat} {x : Ob} (hx : X.ob[o]? = some x) (he : X.be[o]? = some (some (b, cap))) : X.av b k ↔ x.fz ≤ k := by
 constructor
 ·rintro (h | ⟨o', x', c', h1, h2, h3⟩)
  ·have := g.bnd b k h; have := g.base o b cap he; omega
  ·have := g.inj o o' b cap c' he h2
   subst this
   rw [hx] at h1
   cases h1
   exact h3
 ·intro h
  exact .inr ⟨o, x, cap, hx, he, h⟩
theorem Held.rewrite {B : Nat} {X : Cx} (g : Held B X) {o b cap : Nat} {x : Ob} {cur : Array Value} (hx : X.ob[o]? = some x) (he : X.be[o]? = some (some (b, cap)))
  {fr : Nat × Nat} (hh : X.w.heap[b]? = some (.cells cur x.ty fr)) (hfo : FrOk fr cur.size x.fz) (cur' : Array Value) (x' : Ob) (hty : x'.ty = x.ty) (hsz : x'.sz = x.sz) (hfz : x.fz ≤ x'.fz) (hn : x.n ≤ x'.n) (hcap : x'.n ≤ cap)
  (hs : cur'.size = cur.size) (hpre : ∀ k, k < x.fz → cur'[k]? = cur[k]?) (hl : x'.cs.length = x'.n * x'.sz) (hr : RepL X x'.cs (cur'.toList.take x'.cs.length)) (h1c : ∀ v ∈ cur'.toList, v.oneCell' = true) :
  let Y : Cx := ⟨X.w.setRow b cur', X.ob.set o x', X.be, X.C⟩
  Held B Y ∧ Moves X Y ∧ Below B X.w Y.w := by
 intro Y
 have hol : o < X.ob.length := (qb.1 hx).1
 have hob : ∀ (o2 : Nat) (x2 : Ob), Y.ob[o2]? = some x2 → (o2 = o ∧ x2 = x') ∨ (o2 ≠ o ∧ X.ob[o2]? = some x2) := by
  intro o2 x2 h2
  simp only [Y, qq] at h2
  by_cases e : o = o2
  ·subst e; simp [hol] at h2; exact .inl ⟨rfl, h2.symm⟩
  ·simp [e] at h2; exact .inr ⟨fun h => e h.symm, h2⟩
 have hav : ∀ b' k, Y.av b' k → X.av b' k := by
  rintro b' k (h | ⟨o2, x2, c2, h1, h2, h3⟩)
  ·exact .inl h
  ·rcases hob o2 x2 h1 with ⟨rfl, rfl⟩ | ⟨_, h4⟩
   ·exact .inr ⟨o2, x, c2, hx, h2, by omega⟩
   ·exact .inr ⟨o2, x2, c2, h4, h2, h3⟩
 have hmv : Moves X Y := by
  refine ⟨fun b' k v hc ha => ⟨?_, fun h => ha (hav b' k h)⟩, fun o2 x2 h2 => ?_, fun b' _ hf => ⟨setRow_other X.w b b' cur' fun e => hf o cap (by rw [e]; exact he), hf⟩⟩
  ·by_cases e : b' = b
   ·subst e
    have hk : k < x.fz := by
     rcases yP k x.fz with h' | h'
     ·exact h'
     ·exact absurd ((Qpg g hx he).2 h') ha
    rw [cell_of_row _ _ _ _ _ _ hh] at hc
    show (X.w.setRow b' cur').cell? ⟨b', k, none⟩ = some v
    rw [cell_setRow_same _ _ _ _ _ _ _ hh, hpre k hk]
    exact hc
   ·show (X.w.setRow b cur').cell? ⟨b', k, none⟩ = some v
    rw [World.cell?_of_block (w := X.w) (setRow_other X.w b b' cur' e)]
    exact hc
  ·by_cases e : o2 = o
   ·subst e
    rw [hx] at h2; cases h2
    exact ⟨x', by simp [Y, hol], hn, fun h => ⟨by rw [hsz]; exact h, fun _ => rfl⟩⟩
   ·exact ⟨x2, by simp only [Y]; rw [qA (fun h => e h.symm)]; exact h2, qg _, fun h => ⟨h, fun _ => rfl⟩⟩
 refine ⟨⟨by simp [Y, g.len], fun o2 x2 e2 h2 h3 => ?_, g.inj, g.base, g.bnd, by simp only [Y, setRow_size]; exact g.size⟩, hmv, QfG _ (g.base o b cap he) _⟩
 rcases hob o2 x2 h2 with ⟨rfl, rfl⟩ | ⟨hne, h4⟩
 ·have : e2 = some (b, cap) := by
   have h3' : X.be[o2]? = some e2 := h3
   rw [he] at h3'; cases h3'; rfl
  subst this
  obtain ⟨cur0, ⟨fr0, q1, _⟩, q2, q3, q4, q5, q6, _⟩ := g.ok o2 x _ hx he
  rw [hh] at q1
  cases q1
  exact ⟨cur', ⟨fr, by rw [hty]; exact setRow_heap _ _ _ _ _ _ hh, by rw [hs]; rcases hfo with h | h | h; exact .inl h; exact .inr (.inl ⟨h.1, by omega⟩); exact .inr (.inr ⟨h.1, by omega, by omega⟩)⟩, by rw [hs, hsz]; exact q2, hcap, q4, hl, RepL.move hmv _ _ hr, h1c⟩
 ·refine (g.ok o2 x2 e2 h4 h3).move hmv fun b2 c2 hbc => ?_
  subst hbc
  refine setRow_other _ _ _ _ fun e => hne ?_
  subst e
  exact g.inj o2 o b2 c2 cap h3 he
theorem Held.alloc {B : Nat} {X : Cx} (g : Held B X) (cur : Array Value) (x : Ob) (cap : Nat) (hs : cur.size = cap * x.sz) (hn : x.n ≤ cap) (hc : cap ≤ maxLen)
  (hl : x.cs.length = x.n * x.sz) (hr : RepL X x.cs (cur.toList.take x.cs.length)) (h1c : ∀ v ∈ cur.toList, v.oneCell' = true) :
  let Y : Cx := ⟨X.w.alloc (.cells cur x.ty), X.ob ++ [x], X.be ++ [some (X.w.heap.size, cap)], X.C⟩
  Held B Y ∧ Moves X Y ∧ Below B X.w Y.w := by
 intro Y
 have hlen := g.len
 have hob : ∀ (o2 : Nat) (x2 : Ob), Y.ob[o2]? = some x2 → (o2 = X.ob.length ∧ x2 = x) ∨ (o2 < X.ob.length ∧ X.ob[o2]? = some x2) := by
  intro o2 x2 h2
  simp only [Y, yE] at h2
  split at h2
  ·exact .inr ⟨by assumption, h2⟩
  ·rename_i hge
   have h3 := (qb.1 h2).1
   simp at h3
   have : o2 = X.ob.length := by omega
   subst this
   simp at h2
   exact .inl ⟨rfl, h2.symm⟩
 have hbe : ∀ (o2 : Nat) (e2 : Option (Nat × Nat)), Y.be[o2]? = some e2 → (o2 = X.ob.length ∧ e2 = some (X.w.heap.size, cap)) ∨ (o2 < X.ob.length ∧ X.be[o2]? = some e2) := by
  intro o2 e2 h2
  simp only [Y, yE] at h2
  split at h2
  ·exact .inr ⟨by omega, h2⟩
  ·rename_i hge
   have h3 := (qb.1 h2).1
   simp at h3
   have : o2 = X.be.length := by omega
   subst this
   simp at h2
   exact .inl ⟨hlen, h2.symm⟩
 have hav : ∀ b' k, b' < X.w.heap.size → Y.av b' k → X.av b' k := by
  rintro b' k hb (h | ⟨o2, x2, c2, h1, h2, h3⟩)
  ·exact .inl h
  ·rcases hbe o2 _ h2 with ⟨_, e⟩ | ⟨hlt, h4⟩
   ·cases e; omega
   ·rcases hob o2 x2 h1 with ⟨e, _⟩ | ⟨_, h5⟩
    ·omega
    ·exact .inr ⟨o2, x2, c2, h5, h4, h3⟩
 have hmv : Moves X Y := by
  refine ⟨fun b' k v hc ha => ?_, fun o2 x2 h2 => ?_, fun b' hb' hf => ⟨heap_alloc_old X.w _ hb', fun o2 c2 h2 => ?_⟩⟩
  rotate_left 2
  ·rcases hbe o2 _ h2 with ⟨_, q⟩ | ⟨_, q⟩
   ·cases q; omega
   ·exact hf o2 c2 q
  ·have hlt := World.block_lt_of_cell? X.w _ hc
   exact ⟨by show (X.w.alloc _).cell? _ = _; rw [World.cell?_alloc_lt _ _ _ hlt]; exact hc, fun h => ha (hav b' k hlt h)⟩
  ·have hlt := (qb.1 h2).1
   refine ⟨x2, by simp only [Y]; rw [qj hlt]; exact h2, qg _, fun h => ⟨h, fun _ => ?_⟩⟩
   simp only [Y]
   rw [qj (by omega)]
 refine ⟨⟨by simp [Y, hlen], fun o2 x2 e2 h2 h3 => ?_, ?_, ?_, g.bnd, by simp only [Y, World.size_alloc]; have := g.size; omega⟩, hmv, JN _ g.size _⟩
 ·rcases hob o2 x2 h2 with ⟨rfl, rfl⟩ | ⟨hlt, h4⟩
  ·rcases hbe _ e2 h3 with ⟨_, rfl⟩ | ⟨hlt, _⟩
   ·exact ⟨cur, ⟨_, heap_alloc_new X.w _, .inl rfl⟩, hs, hn, hc, hl, RepL.move hmv _ _ hr, h1c⟩
   ·omega
  ·rcases hbe o2 e2 h3 with ⟨e, _⟩ | ⟨_, h5⟩
   ·omega
   ·refine (g.ok o2 x2 e2 h4 h5).move hmv fun b2 c2 hbc => ?_
    subst hbc
    exact heap_alloc_old X.w _ (g.block_lt h4 h5)
 ·intro o1 o2 b c c' h1 h2
  rcases hbe o1 _ h1 with ⟨e1, q1⟩ | ⟨l1, q1⟩ <;> rcases hbe o2 _ h2 with ⟨e2, q2⟩ | ⟨l2, q2⟩
  ·omega
  ·cases q1
   have hx2 : X.ob[o2]? = some X.ob[o2] := qd l2
   have := g.block_lt hx2 q2
   omega
  ·cases q2
   have hx1 : X.ob[o1]? = some X.ob[o1] := qd l1
   have := g.block_lt hx1 q1
   omega
  ·exact g.inj o1 o2 b c c' q1 q2
 ·intro o1 b c h1
  rcases hbe o1 _ h1 with ⟨_, q1⟩ | ⟨_, q1⟩
  ·cases q1; exact g.size
  ·exact g.base o1 b c q1
theorem Held.regrow {B : Nat} {X : Cx} (g : Held B X) {o : Nat} {x : Ob} (hx : X.ob[o]? = some x) (cur : Array Value) (x' : Ob) (cap : Nat)
  (h0 : x.n < x'.n → x'.sz ≠ 0) (hgr : x.n < x'.n ∨ (x.sz = 0 ∧ x.n = 0)) (hs : cur.size = cap * x'.sz) (hn : x'.n ≤ cap) (hc : cap ≤ maxLen)
  (hl : x'.cs.length = x'.n * x'.sz) (hr : RepL X x'.cs (cur.toList.take x'.cs.length)) (h1c : ∀ v ∈ cur.toList, v.oneCell' = true) :
  let Y : Cx := ⟨X.w.alloc (.cells cur x'.ty), X.ob.set o x', X.be.set o (some (X.w.heap.size, cap)), X.C⟩
  Held B Y ∧ Moves X Y ∧ Below B X.w Y.w := by
 intro Y
 have hlen := g.len
 have hol : o < X.ob.length := (qb.1 hx).1
 have hob : ∀ (o2 : Nat) (x2 : Ob), Y.ob[o2]? = some x2 → (o2 = o ∧ x2 = x') ∨ (o2 ≠ o ∧ X.ob[o2]? = some x2) := by
  intro o2 x2 h2
  simp only [Y, qq] at h2
  by_cases e : o = o2
  ·subst e; simp [hol] at h2; exact .inl ⟨rfl, h2.symm⟩
  ·simp [e] at h2; exact .inr ⟨fun h => e h.symm, h2⟩
 have hbe : ∀ (o2 : Nat) (e2 : Option (Nat × Nat)), Y.be[o2]? = some e2 → (o2 = o ∧ e2 = some (X.w.heap.size, cap)) ∨ (o2 ≠ o ∧ X.be[o2]? = some e2) := by
  intro o2 e2 h2
  simp only [Y, qq] at h2
  by_cases e : o = o2
  ·subst e; simp [hlen, hol] at h2; exact .inl ⟨rfl, h2.symm⟩
  ·simp [e] at h2; exact .inr ⟨fun h => e h.symm, h2⟩
 have hav : ∀ b' k, b' < X.w.heap.size → Y.av b' k → X.av b' k := by
  rintro b' k hb (h | ⟨o2, x2, c2, h1, h2, h3⟩)
  ·exact .inl h
  ·rcases hbe o2 _ h2 with ⟨_, e⟩ | ⟨hne, h4⟩
   ·cases e; omega
   ·rcases hob o2 x2 h1 with ⟨e, _⟩ | ⟨_, h5⟩
    ·exact absurd e hne
    ·exact .inr ⟨o2, x2, c2, h5, h4, h3⟩
 have hmv : Moves X Y := by
  refine ⟨fun b' k v hc ha => ?_, fun o2 x2 h2 => ?_, fun b' hb' hf => ⟨heap_alloc_old X.w _ hb', fun o2 c2 h2 => ?_⟩⟩
  rotate_left 2
  ·rcases hbe o2 _ h2 with ⟨_, q⟩ | ⟨_, q⟩
   ·cases q; omega
   ·exact hf o2 c2 q
  ·have hlt := World.block_lt_of_cell? X.w _ hc
   exact ⟨by show (X.w.alloc _).cell? _ = _; rw [World.cell?_alloc_lt _ _ _ hlt]; exact hc, fun h => ha (hav b' k hlt h)⟩
  ·by_cases e : o2 = o
   ·subst e
    rw [hx] at h2; cases h2
    exact ⟨x', by simp [Y, hol], by omega, fun h => ⟨by rcases hgr with h1 | h1; exact h0 h1; exact absurd h1.1 h, fun e => by rcases hgr with h1 | h1; omega; exact absurd h1.1 h⟩⟩
   ·exact ⟨x2, by simp only [Y]; rw [qA (fun h => e h.symm)]; exact h2, qg _, fun h => ⟨h, fun _ => by simp only [Y]; rw [qA (fun h => e h.symm)]⟩⟩
 refine ⟨⟨by simp [Y, hlen], fun o2 x2 e2 h2 h3 => ?_, ?_, ?_, g.bnd, by simp only [Y, World.size_alloc]; have := g.size; omega⟩, hmv, JN _ g.size _⟩
 ·rcases hob o2 x2 h2 with ⟨rfl, rfl⟩ | ⟨hne, h4⟩
  ·rcases hbe _ e2 h3 with ⟨_, rfl⟩ | ⟨hne, _⟩
   ·exact ⟨cur, ⟨_, heap_alloc_new X.w _, .inl rfl⟩, hs, hn, hc, hl, RepL.move hmv _ _ hr, h1c⟩
   ·exact absurd rfl hne
  ·rcases hbe o2 e2 h3 with ⟨e, _⟩ | ⟨_, h5⟩
   ·exact absurd e hne
   ·refine (g.ok o2 x2 e2 h4 h5).move hmv fun b2 c2 hbc => ?_
    subst hbc
    exact heap_alloc_old X.w _ (g.block_lt h4 h5)
 ·have blk : ∀ (o1 b c : Nat), X.be[o1]? = some (some (b, c)) → b < X.w.heap.size := fun o1 b c h1 => by
   have hlt : o1 < X.ob.length := by rw [← hlen]; exact (qb.1 h1).1
   exact g.block_lt (qd hlt) h1
  intro o1 o2 b c c' h1 h2
  rcases hbe o1 _ h1 with ⟨e1, q1⟩ | ⟨l1, q1⟩ <;> rcases hbe o2 _ h2 with ⟨e2, q2⟩ | ⟨l2, q2⟩
  ·omega
  ·cases q1; have := blk _ _ _ q2; omega
  ·cases q2; have := blk _ _ _ q1; omega
  ·exact g.inj o1 o2 b c c' q1 q2
 ·intro o1 b c h1
  rcases hbe o1 _ h1 with ⟨_, q1⟩ | ⟨_, q1⟩
  ·cases q1; exact g.size
  ·exact g.base o1 b c q1
theorem Held.sealed {B : Nat} {X : Cx} (g : Held B X) {o : Nat} {x : Ob} (hx : X.ob[o]? = some x) (m : Nat) (hm : x.fz ≤ m) :
  let Y : Cx := ⟨X.w, X.ob.set o { x with fz := m }, X.be, X.C⟩
  Held B Y ∧ Moves X Y := by
 intro Y
 have hol : o < X.ob.length := (qb.1 hx).1
 have hob : ∀ (o2 : Nat) (x2 : Ob), Y.ob[o2]? = some x2 → (o2 = o ∧ x2 = { x with fz := m }) ∨ (o2 ≠ o ∧ X.ob[o2]? = some x2) := by
  intro o2 x2 h2
  simp only [Y, qq] at h2
  by_cases e : o = o2
  ·subst e; simp [hol] at h2; exact .inl ⟨rfl, h2.symm⟩
  ·simp [e] at h2; exact .inr ⟨fun h => e h.symm, h2⟩
 have hav : ∀ b' k, Y.av b' k → X.av b' k := by
  rintro b' k (h | ⟨o2, x2, c2, h1, h2, h3⟩)
  ·exact .inl h
  ·rcases hob o2 x2 h1 with ⟨rfl, rfl⟩ | ⟨_, h4⟩
   ·exact .inr ⟨o2, x, c2, hx, h2, qH hm h3⟩
   ·exact .inr ⟨o2, x2, c2, h4, h2, h3⟩
 have hmv : Moves X Y := by
  refine ⟨fun b' k v hc ha => ⟨hc, fun h => ha (hav b' k h)⟩, fun o2 x2 h2 => ?_, fun b' _ hf => ⟨rfl, hf⟩⟩
  by_cases e : o2 = o
  ·subst e
   rw [hx] at h2; cases h2
   exact ⟨{ x with fz := m }, by simp [Y, hol], qg _, fun h => ⟨h, fun _ => rfl⟩⟩
  ·exact ⟨x2, by simp only [Y]; rw [qA (fun h => e h.symm)]; exact h2, qg _, fun h => ⟨h, fun _ => rfl⟩⟩
 refine ⟨⟨by simp [Y, g.len], fun o2 x2 e2 h2 h3 => ?_, g.inj, g.base, g.bnd, g.size⟩, hmv⟩
 rcases hob o2 x2 h2 with ⟨rfl, rfl⟩ | ⟨hne, h4⟩
 ·have := (g.ok o2 x e2 hx h3).move hmv fun _ _ _ => rfl
  cases e2 with
  | none => exact this
  | some p =>
   obtain ⟨b, c⟩ := p
   obtain ⟨cur, ⟨fr, e, hfr⟩, rest⟩ := this
   exact ⟨cur, ⟨fr, e, by rcases hfr with h | h | h; exact .inl h; exact .inr (.inl ⟨h.1, yB h.2 hm⟩); exact .inr (.inr ⟨h.1, qH h.2.1 hm, qH h.2.2 hm⟩)⟩, rest⟩
 ·exact (g.ok o2 x2 e2 h4 h3).move hmv fun _ _ _ => rfl
theorem Held.empty {B : Nat} {X : Cx} (g : Held B X) (ty sz : Nat) :
  let Y : Cx := ⟨X.w, X.ob ++ [⟨ty, sz, 0, [], 0⟩], X.be ++ [none], X.C⟩
  Held B Y ∧ Moves X Y := by
 intro Y
 have hlen := g.len
 have hob : ∀ (o2 : Nat) (x2 : Ob), Y.ob[o2]? = some x2 → (o2 = X.ob.length ∧ x2 = ⟨ty, sz, 0, [], 0⟩) ∨ (o2 < X.ob.length ∧ X.ob[o2]? = some x2) := by
  intro o2 x2 h2
  simp only [Y, yE] at h2
  split at h2
  ·exact .inr ⟨by assumption, h2⟩
  ·rename_i hge
   have h3 := (qb.1 h2).1
   simp at h3
   have : o2 = X.ob.length := by omega
   subst this
   simp at h2
   exact .inl ⟨rfl, h2.symm⟩
 have hbe : ∀ (o2 : Nat) (e2 : Option (Nat × Nat)), Y.be[o2]? = some e2 → (o2 = X.ob.length ∧ e2 = none) ∨ (o2 < X.ob.length ∧ X.be[o2]? = some e2) := by
  intro o2 e2 h2
  simp only [Y, yE] at h2
  split at h2
  ·exact .inr ⟨by omega, h2⟩
  ·rename_i hge
   have h3 := (qb.1 h2).1
   simp at h3
   have : o2 = X.be.length := by omega
   subst this
   simp at h2
   exact .inl ⟨hlen, h2.symm⟩
 have hav : ∀ b' k, Y.av b' k → X.av b' k := by
  rintro b' k (h | ⟨o2, x2, c2, h1, h2, h3⟩)
  ·exact .inl h
  ·rcases hbe o2 _ h2 with ⟨_, e⟩ | ⟨hlt, h4⟩
   ·cases e
   ·rcases hob o2 x2 h1 with ⟨e, _⟩ | ⟨_, h5⟩
    ·omega
    ·exact .inr ⟨o2, x2, c2, h5, h4, h3⟩
 have hmv : Moves X Y := by
  refine ⟨fun b' k v hc ha => ⟨hc, fun h => ha (hav b' k h)⟩, fun o2 x2 h2 => ?_, fun b' _ hf => ⟨rfl, fun o2 c2 h2 => ?_⟩⟩
  rotate_left 1
  ·rcases hbe o2 _ h2 with ⟨_, q⟩ | ⟨_, q⟩
   ·cases q
   ·exact hf o2 c2 q
  have hlt := (qb.1 h2).1
  refine ⟨x2, by simp only [Y]; rw [qj hlt]; exact h2, qg _, fun h => ⟨h, fun _ => ?_⟩⟩
  simp only [Y]
  rw [qj (by omega)]
 refine ⟨⟨by simp [Y, hlen], fun o2 x2 e2 h2 h3 => ?_, ?_, ?_, g.bnd, g.size⟩, hmv⟩
 ·rcases hob o2 x2 h2 with ⟨rfl, rfl⟩ | ⟨hlt, h4⟩
  ·rcases hbe _ e2 h3 with ⟨_, rfl⟩ | ⟨hlt, _⟩
   ·exact ⟨rfl, rfl⟩
   ·omega
  ·rcases hbe o2 e2 h3 with ⟨e, _⟩ | ⟨_, h5⟩
   ·omega
   ·exact (g.ok o2 x2 e2 h4 h5).move hmv fun _ _ _ => rfl
 ·intro o1 o2 b c c' h1 h2
  rcases hbe o1 _ h1 with ⟨_, q1⟩ | ⟨_, q1⟩ <;> rcases hbe o2 _ h2 with ⟨_, q2⟩ | ⟨_, q2⟩ <;> first | (cases q1; done) | (cases q2; done) | exact g.inj o1 o2 b c c' q1 q2
 ·intro o1 b c h1
  rcases hbe o1 _ h1 with ⟨_, q1⟩ | ⟨_, q1⟩
  ·cases q1
  ·exact g.base o1 b c q1
def ph : Ob := ⟨0, 0, 0, [], 0⟩
def QhS (ob : List Ob) (id : Nat) : Prop := id = ob.length ∨ ob[id]? = some ph
def XD (ob : List Ob) (id : Nat) (x : Ob) : List Ob := if id < ob.length then ob.set id x else ob ++ [x]
theorem Held.place {B : Nat} {X : Cx} (g : Held B X) {id : Nat} (hid : QhS X.ob id) (cur : Array Value) (x : Ob) (cap : Nat) (h0 : x.sz ≠ 0) (hs : cur.size = cap * x.sz) (hn : x.n ≤ cap) (hc : cap ≤ maxLen)
  (hl : x.cs.length = x.n * x.sz) (hr : RepL X x.cs (cur.toList.take x.cs.length)) (h1c : ∀ v ∈ cur.toList, v.oneCell' = true) :
  ∃ be', Held B ⟨X.w.alloc (.cells cur x.ty), XD X.ob id x, be', X.C⟩ ∧ Moves X ⟨X.w.alloc (.cells cur x.ty), XD X.ob id x, be', X.C⟩ ∧ Below B X.w (X.w.alloc (.cells cur x.ty)) ∧
   be'[id]? = some (some (X.w.heap.size, cap)) ∧ (XD X.ob id x)[id]? = some x := by
 rcases hid with rfl | hid
 ·obtain ⟨w1, w2, w3⟩ := g.alloc cur x cap hs hn hc hl hr h1c
  have e : XD X.ob X.ob.length x = X.ob ++ [x] := by simp [XD]
  rw [e]
  exact ⟨_, w1, w2, w3, by simp [← g.len], by simp⟩
 ·have hlt := (qb.1 hid).1
  obtain ⟨w1, w2, w3⟩ := g.regrow hid cur x cap (fun _ => h0) (.inr ⟨rfl, rfl⟩) hs hn hc hl hr h1c
  have e : XD X.ob id x = X.ob.set id x := by simp [XD, hlt]
  rw [e]
  exact ⟨_, w1, w2, w3, by simp [g.len, hlt], by simp [hlt]⟩
theorem Held.placeNil {B : Nat} {X : Cx} (g : Held B X) {id : Nat} (hid : QhS X.ob id) (ty sz : Nat) :
  ∃ be', Held B ⟨X.w, XD X.ob id ⟨ty, sz, 0, [], 0⟩, be', X.C⟩ ∧ Moves X ⟨X.w, XD X.ob id ⟨ty, sz, 0, [], 0⟩, be', X.C⟩ ∧
   be'[id]? = some none ∧ (XD X.ob id ⟨ty, sz, 0, [], 0⟩)[id]? = some ⟨ty, sz, 0, [], 0⟩ := by
 rcases hid with rfl | hid
 ·obtain ⟨w1, w2⟩ := g.empty ty sz
  have e : XD X.ob X.ob.length ⟨ty, sz, 0, [], 0⟩ = X.ob ++ [⟨ty, sz, 0, [], 0⟩] := by simp [XD]
  rw [e]
  exact ⟨_, w1, w2, by simp [← g.len], by simp⟩
 ·have hol := (qb.1 hid).1
  have e : XD X.ob id ⟨ty, sz, 0, [], 0⟩ = X.ob.set id ⟨ty, sz, 0, [], 0⟩ := by simp [XD, hol]
  rw [e]
  have hlen := g.len
  let Y : Cx := ⟨X.w, X.ob.set id ⟨ty, sz, 0, [], 0⟩, X.be.set id none, X.C⟩
  have hob : ∀ (o2 : Nat) (x2 : Ob), Y.ob[o2]? = some x2 → (o2 = id ∧ x2 = ⟨ty, sz, 0, [], 0⟩) ∨ (o2 ≠ id ∧ X.ob[o2]? = some x2) := by
   intro o2 x2 h2
   simp only [Y, qq] at h2
   by_cases e : id = o2
   ·subst e; simp [hol] at h2; exact .inl ⟨rfl, h2.symm⟩
   ·simp [e] at h2; exact .inr ⟨fun h => e h.symm, h2⟩
  have hbe : ∀ (o2 : Nat) (e2 : Option (Nat × Nat)), Y.be[o2]? = some e2 → (o2 = id ∧ e2 = none) ∨ (o2 ≠ id ∧ X.be[o2]? = some e2) := by
   intro o2 e2 h2
   simp only [Y, qq] at h2
   by_cases e : id = o2
   ·subst e; simp [hlen, hol] at h2; exact .inl ⟨rfl, h2.symm⟩
   ·simp [e] at h2; exact .inr ⟨fun h => e h.symm, h2⟩
  have hav : ∀ b' k, Y.av b' k → X.av b' k := by
   rintro b' k (h | ⟨o2, x2, c2, h1, h2, h3⟩)
   ·exact .inl h
   ·rcases hbe o2 _ h2 with ⟨_, e⟩ | ⟨hne, h4⟩
    ·cases e
    ·rcases hob o2 x2 h1 with ⟨e, _⟩ | ⟨_, h5⟩
     ·exact absurd e hne
     ·exact .inr ⟨o2, x2, c2, h5, h4, h3⟩
  have hmv : Moves X Y := by
   refine ⟨fun b' k v hc ha => ⟨hc, fun h => ha (hav b' k h)⟩, fun o2 x2 h2 => ?_, fun b' _ hf => ⟨rfl, fun o2 c2 h2 => ?_⟩⟩
   rotate_left 1
   ·rcases hbe o2 _ h2 with ⟨_, q⟩ | ⟨_, q⟩
    ·cases q
    ·exact hf o2 c2 q
   by_cases e : o2 = id
   ·subst e
    rw [hid] at h2; cases h2
    exact ⟨⟨ty, sz, 0, [], 0⟩, by simp [Y, hol], qg _, fun h => absurd rfl h⟩
   ·exact ⟨x2, by simp only [Y]; rw [qA (fun h => e h.symm)]; exact h2, qg _, fun h => ⟨h, fun _ => by simp only [Y]; rw [qA (fun h => e h.symm)]⟩⟩
  refine ⟨X.be.set id none, ⟨by simp [hlen], fun o2 x2 e2 h2 h3 => ?_, ?_, ?_, g.bnd, g.size⟩, hmv, by simp [hlen, hol], by simp [hol]⟩
  ·rcases hob o2 x2 h2 with ⟨rfl, rfl⟩ | ⟨hne, h4⟩
   ·rcases hbe _ e2 h3 with ⟨_, rfl⟩ | ⟨hne, _⟩
    ·exact ⟨rfl, rfl⟩
    ·exact absurd rfl hne
   ·rcases hbe o2 e2 h3 with ⟨e, _⟩ | ⟨_, h5⟩
    ·exact absurd e hne
    ·exact (g.ok o2 x2 e2 h4 h5).move hmv fun _ _ _ => rfl
  ·intro o1 o2 b c c' h1 h2
   rcases hbe o1 _ h1 with ⟨_, q1⟩ | ⟨_, q1⟩
   ·cases q1
   ·rcases hbe o2 _ h2 with ⟨_, q2⟩ | ⟨_, q2⟩
    ·cases q2
    ·exact g.inj o1 o2 b c c' q1 q2
  ·intro o1 b c h1
   rcases hbe o1 _ h1 with ⟨_, q1⟩ | ⟨_, q1⟩
   ·cases q1
   ·exact g.base o1 b c q1
end Go.Am
/- The abstract machine: operations. What each does on abstract values ('aop'), and what of Go's operations it stands for ('cOp'). -/
namespace Go.Am
open Go.RowKit
def cV1 : Value → AV
 | .int k n => .int k n
 | .bool b => .bool b
 | .string s => .str s.data.toList
 | .slice none 0 0 => .emp true
 | v => .lit v
def cV : Value → AV
 | .agg cs => .agg (cs.toList.map cV1)
 | v => cV1 v
def AV.one : AV → Bool
 | .any | .agg _ | .tup _ => false
 | .lit v => v.oneCell'
 | _ => true
def look : List (Nat × AV) → Nat → AV
 | [], _ => .any
 | (j, v) :: r, i => if i = j then v else look r i
def QpV (G : List (Nat × List AV)) (g : Nat) : AV :=
 match G.lookup g with
 | some cs => .cell cs
 | none => .lit (.pointer (some ⟨g, 0, none⟩))
def opd (G : List (Nat × List AV)) (fr : List (Nat × AV)) : Operand → AV
 | .tmp t => look fr t
 | .const v => cV v
 | .func f => .fn (.func f) [] []
 | .global g => QpV G g
def GOk (G : List (Nat × List AV)) (X : Cx) : Prop := ∀ (g : Nat) (cs : List AV), G.lookup g = some cs → Rep X (.cell cs) (.pointer (some ⟨g, 0, none⟩))
theorem GOk.move {G : List (Nat × List AV)} {X Y : Cx} (h : GOk G X) (m : Moves X Y) : GOk G Y := fun g cs hg => Rep.move m _ _ (h g cs hg)
def Qpy (op : BinOp) (k : IntKind) (a b : Int) : Option AV :=
 match op with
 | .add => some (.int k (k.wrap (a + b)))
 | .sub => some (.int k (k.wrap (a - b)))
 | .mul => some (.int k (k.wrap (a * b)))
 | .quo => if b = 0 then none else some (.int k (k.wrap (a.tdiv b)))
 | .rem => if b = 0 then none else some (.int k (a.tmod b))
 | .and => some (.int k (k.wrap (BitVec.ofInt k.bits a &&& BitVec.ofInt k.bits b).toNat))
 | .or => some (.int k (k.wrap (BitVec.ofInt k.bits a ||| BitVec.ofInt k.bits b).toNat))
 | .xor => some (.int k (k.wrap (BitVec.ofInt k.bits a ^^^ BitVec.ofInt k.bits b).toNat))
 | .andNot => some (.int k (k.wrap (BitVec.ofInt k.bits a &&& ~~~ BitVec.ofInt k.bits b).toNat))
 | .eql => some (.bool (a == b))
 | .neq => some (.bool (a != b))
 | .lss => some (.bool (decide (a < b)))
 | .leq => some (.bool (decide (a ≤ b)))
 | .gtr => some (.bool (decide (b < a)))
 | .geq => some (.bool (decide (b ≤ a)))
 | _ => none
def Qan (l : Bool) (k : IntKind) (a b : Int) : Option AV :=
 if b < 0 then none
 else if l then some (.int k (k.wrap (a * 2 ^ min b.toNat k.bits)))
 else some (.int k (a.fdiv (2 ^ min b.toNat k.bits)))
def Qgy (op : BinOp) (a b : List UInt8) : Option AV :=
 match op with
 | .add => if a.length + b.length ≤ 9223372036854775807 then some (.str (a ++ b)) else none
 | .eql => some (.bool (a == b))
 | .neq => some (.bool (!(a == b)))
 | .lss => some (.bool (Op.bytesLess a b))
 | .leq => some (.bool (Op.bytesLess a b || a == b))
 | .gtr => some (.bool (!(Op.bytesLess a b || a == b)))
 | .geq => some (.bool (!Op.bytesLess a b))
 | _ => none
def Qei (op : BinOp) (x y : AV) : Option AV :=
 match x, y with
 | .int k a, .int k' b =>
  match op with
  | .shl => Qan true k a b
  | .shr => Qan false k a b
  | _ => if k = k' then Qpy op k a b else none
 | .str a, .str b => Qgy op a b
 | _, _ => none
def unA (op : UnOp) (x : AV) : Option AV :=
 match op, x with
 | .neg, .int k n => some (.int k (k.wrap (0 - n)))
 | .xor, .int k n => some (.int k (k.wrap (BitVec.ofInt k.bits (if k.signed then -1 else k.max) ^^^ BitVec.ofInt k.bits n).toNat))
 | .not, .bool b => some (.bool !b)
 | _, _ => none
def ZJ (ob : List Ob) : AV → Option (List AV)
 | .cell cs => some cs
 | .ref o ver k =>
  match ob[o]? with
  | some x => if x.n = ver then some (x.cs.drop k) else none
  | none => none
 | _ => none
def Qc (ob : List Ob) (sz : Nat) : AV → Option (Nat × List AV)
 | .emp _ => some (0, [])
 | .list n cs => some (n, cs)
 | .own o n =>
  match ob[o]? with
  | some x => if x.n = n then some (n, x.cs) else none
  | none => none
 | .ownc o n _ =>
  match ob[o]? with
  | some x => if x.n = n then some (n, x.cs) else none
  | none => none
 | .view o ver k n =>
  match ob[o]? with
  | some x => if x.n = ver ∧ k + n * sz ≤ x.cs.length then some (n, (x.cs.drop k).take (n * sz)) else none
  | none => none
 | _ => none
def QmL (ob : List Ob) : AV → Option (Option Bool)
 | .emp true => some (some true)
 | .emp false => some none
 | .list _ cs => if cs.length = 0 then some none else some (some false)
 | .own o n =>
  match ob[o]? with
  | some x => if x.n = n then (if n = 0 then some none else some (some false)) else none
  | none => none
 | .ownc o n c =>
  match ob[o]? with
  | some x => if x.n = n then (if c = 0 then some none else some (some false)) else none
  | none => none
 | _ => none
def u8 (l : List UInt8) : List AV := l.map fun b => .int .u8 b.toNat
def QfE : List AV → Option (List UInt8)
 | [] => some []
 | .int .u8 n :: r => (QfE r).map fun l => UInt8.ofNat n.toNat :: l
 | _ :: _ => none
def QhP (ob : List Ob) (sz : Nat) (st : Bool) (v : AV) : Option (Nat × List AV) :=
 if st then (match v with | .str s => some (s.length, u8 s) | _ => none) else Qc ob sz v
theorem Qjs : ∀ l : List UInt8, QfE (u8 l) = some l
 | [] => rfl
 | b :: l => by
  have := Qjs l
  simp only [u8, qC, QfE] at this ⊢
  rw [this]
  simp
inductive CK where
 | int (k : IntKind)
 | same
 | toBytes
 | toStr
inductive IK where
 | slice (sz : Nat)
 | arr (len sz : Nat)
inductive XK where
 | str
 | arr (len sz : Nat) (agg : Option Nat)
inductive AOp where
 | mv (x : Operand)
 | pick (c a b : Operand)
 | alloc (ty : TypeId) (z : List AV)
 | box (ty sz : Nat) (x : Operand)
 | build (z : List AV) (ps : List (Nat × Nat × Operand))
 | bslice (ty sz len : Nat) (z : List AV) (ps : List (Nat × Nat × Operand))
 | load (sz : Option Nat) (x : Operand)
 | store (sz : Nat) (x v : Operand)
 | nilck (x : Operand)
 | bin (op : BinOp) (x y : Operand)
 | beq (neg : Bool) (x y : Operand)
 | nileq (neg : Bool) (x : Operand)
 | un (op : UnOp) (x : Operand)
 | conv (k : CK) (x : Operand)
 | mkfn (f : Fn) (fs cs : List Operand)
 | mkslice (ty sz by_ : Nat) (z : List AV) (len cap : Operand)
 | slices (x : Operand) (lo hi : Option Operand)
 | slice (sz : Nat) (x : Operand) (lo hi mx : Option Operand)
 | slicea (len sz : Nat) (x : Operand) (lo hi : Option Operand)
 | faddr (off : Nat) (x : Operand)
 | field (off : Nat) (sz : Option Nat) (x : Operand)
 | iaddr (k : IK) (x i : Operand)
 | index (k : XK) (x i : Operand)
 | extract (x : Operand) (i : Nat)
 | len (k : Option (Option Nat)) (x : Operand)
 | append (ty sz by_ : Nat) (st : Bool) (x y : Operand)
 | copy (sz : Nat) (st : Bool) (x y : Operand)
 | min (xs : List Operand)
 | max (xs : List Operand)
 | aggeq (neg : Bool) (fs : List (Nat × Nat)) (x y : Operand)
 | cap (x : Operand)
 | strsh (x : Operand)
 | ifeq (neg : Bool) (x : Operand)
 | bad
inductive AK where
 | op (p : AOp)
 | call (f : FuncId) (args : List Operand)
 | callv (f : Nat) (args : List Operand)
structure AO where
 dst : Option Nat
 guard : Option (Nat × Bool)
 op : AK
def loA (x : Option AV) : Option Int :=
 match x with
 | none => some 0
 | some (.int _ n) => some n
 | _ => none
def hiA (len : Nat) (x : Option AV) : Option Int :=
 match x with
 | none => some len
 | some (.int _ n) => some n
 | _ => none
def Qml : AV → List AV → Option AV
 | x, [] => some x
 | .int k x, .int _ y :: r => Qml (.int k (if y < x then y else x)) r
 | _, _ => none
def Qmm : AV → List AV → Option AV
 | x, [] => some x
 | .int k x, .int _ y :: r => Qmm (.int k (if x < y then y else x)) r
 | _, _ => none
def Qh (v : AV) : List AV := match v with | .agg cs => cs | v => [v]
def X3 : List AV → List (Nat × Nat × AV) → Option (List AV)
 | z, [] => some z
 | z, (off, sz, v) :: r =>
  let cs := Qh v
  if cs.all AV.one && cs.length == sz && decide (off + sz ≤ z.length) then
   X3 (z.take off ++ cs ++ z.drop (off + sz)) r
  else none
def Qp (z : List AV) : Nat → List AV
 | 0 => []
 | n + 1 => z ++ Qp z n
def Qd3 (ob : List Ob) (sz : Nat) (x : AV) (l h : Int) : Option AV :=
 if 0 ≤ l ∧ l ≤ h then
  match x with
  | .emp z => if h ≤ 0 then some (.emp z) else none
  | .list n cs => if h ≤ n ∧ n * sz = cs.length then some (.list (h - l).toNat ((cs.drop (l.toNat * sz)).take ((h - l).toNat * sz))) else none
  | .own o n =>
   match ob[o]? with
   | some x => if x.n = n ∧ h ≤ n ∧ n ≠ 0 then some (.view o n (l.toNat * sz) (h - l).toNat) else none
   | none => none
  | .ownc o n _ =>
   match ob[o]? with
   | some x => if x.n = n ∧ h ≤ n then some (.view o n (l.toNat * sz) (h - l).toNat) else none
   | none => none
  | .view o ver k n => if h ≤ n then some (.view o ver (k + l.toNat * sz) (h - l).toNat) else none
  | _ => none
 else none
def Qk2 (ob : List Ob) (sz : Nat) (o n c : Nat) (l h : Int) : Option (AV × Option (Nat × Ob)) :=
 if l = 0 ∧ n ≤ h then
  match ob[o]? with
  | some x => if x.n = n ∧ x.sz = sz ∧ h ≤ c ∧ x.fz ≤ x.cs.length then some (.ownc o h.toNat c, if h.toNat = n then none else some (o, { x with n := h.toNat, cs := x.cs ++ List.replicate ((h.toNat - n) * sz) .any })) else none
  | none => none
 else (Qd3 ob sz (.ownc o n c) l h).map fun r => (r, none)
def app (ob : List Ob) : Option (Nat × Ob) → List Ob
 | none => ob
 | some (o, x) => if o < ob.length then ob.set o x else ob ++ [x]
def QlG : Nat → AV → AV → Option Bool
 | 0, .int k a, .int k' b => if k = k' then some (a == b) else none
 | 1, .bool a, .bool b => some (a == b)
 | 2, .str a, .str b => some (a == b)
 | _, _, _ => none
def Qnq : List (Nat × Nat) → List AV → List AV → Option Bool
 | [], _, _ => some true
 | (o, c) :: r, as, bs =>
  match as[o]?, bs[o]? with
  | some a, some b =>
   match QlG c a b, Qnq r as bs with
   | some x, some y => some (x && y)
   | _, _ => none
  | _, _ => none
def aop (η : Operand → AV) (ob : List Ob) (id : Nat) : AOp → Option (AV × Option (Nat × Ob))
 | .mv x => some (η x, none)
 | .pick c a b =>
  match η c with
  | .bool t => some (if t then η a else η b, none)
  | _ => none
 | .alloc ty z => if z.all AV.one && decide (0 < z.length) then some (.ref id 1 0, some (id, ⟨ty, z.length, 1, z, 0⟩)) else none
 | .box ty sz x =>
  let cs := Qh (η x)
  if cs.all AV.one && cs.length == sz && decide (0 < sz) then some (.ref id 1 0, some (id, ⟨ty, sz, 1, cs, 0⟩)) else none
 | .build z ps =>
  if z.all AV.one = false then none else
  match X3 z (ps.map fun p => (p.1, p.2.1, η p.2.2)) with
  | some cs => some (.agg cs, none)
  | none => none
 | .bslice ty sz len z ps =>
  if z.all AV.one && z.length == sz && decide (0 < sz) then
   match X3 (Qp z len) (ps.map fun p => (p.1, p.2.1, η p.2.2)) with
   | some cs => some (.own id len, some (id, ⟨ty, sz, len, cs, 0⟩))
   | none => none
  else none
 | .load sz x =>
  match ZJ ob (η x) with
  | some cs =>
   match sz with
   | none => match cs with | c :: _ => some (c, none) | [] => none
   | some n => if n ≤ cs.length then some (.agg (cs.take n), none) else none
  | none => none
 | .store sz x v =>
  match η x with
  | .ref o ver k =>
   match ob[o]? with
   | some b =>
    let cs := Qh (η v)
    if b.n = ver ∧ b.fz ≤ k ∧ cs.length = sz ∧ k + sz ≤ b.cs.length ∧ cs.all AV.one = true then
     some (.tup [], some (o, { b with cs := b.cs.take k ++ cs ++ b.cs.drop (k + sz) }))
    else none
   | none => none
  | _ => none
 | .nilck x =>
  match η x with
  | .ref o ver k => match ob[o]? with | some b => if b.n = ver then some (.ref o ver k, none) else none | none => none
  | .cell cs => some (.cell cs, none)
  | .fn (.func f) fs cs => some (.fn (.func f) fs cs, none)
  | _ => none
 | .bin op x y => (Qei op (η x) (η y)).map fun v => (v, none)
 | .beq neg x y =>
  match η x, η y with
  | .bool a, .bool b => some (.bool (neg != (a == b)), none)
  | _, _ => none
 | .nileq neg x =>
  match QmL ob (η x) with
  | some (some b) => some (.bool (neg != b), none)
  | some none => some (.ubool, none)
  | none => none
 | .un op x => (unA op (η x)).map fun v => (v, none)
 | .ifeq neg x =>
  match η x with
  | .lit .nilIface => some (.bool (neg != true), none)
  | .lit (.iface _ _) => some (.bool (neg != false), none)
  | _ => none
 | .conv k x =>
  match k with
  | .int k => match η x with | .int _ n => some (.int k (k.wrap n), none) | _ => none
  | .same => match η x with | .str s => some (.str s, none) | _ => none
  | .toBytes => match η x with | .str s => some (.list s.length (u8 s), none) | _ => none
  | .toStr =>
   match Qc ob 1 (η x) with
   | some (n, cs) => if n = cs.length then (QfE cs).map fun l => (.str l, none) else none
   | none => none
 | .mkfn f fs cs => some (.fn f (fs.map (η)) (cs.map (η)), none)
 | .mkslice ty sz by_ z len cap =>
  match η len, η cap with
  | .int k l, .int k' c =>
   if l = c ∧ 0 ≤ l ∧ l * by_ ≤ 281474976710656 ∧ l ≤ 9223372036854775807 ∧ z.all AV.one = true ∧ z.length = sz ∧ 0 < sz then
    some (.own id l.toNat, some (id, ⟨ty, sz, l.toNat, Qp z l.toNat, 0⟩))
   else if l < c ∧ 0 ≤ l ∧ c * by_ ≤ 281474976710656 ∧ c ≤ 9223372036854775807 ∧ z.all AV.one = true ∧ z.length = sz ∧ 0 < sz then
    some (.own id l.toNat, some (id, ⟨ty, sz, l.toNat, Qp z l.toNat, 0⟩))
   else none
  | _, _ => none
 | .slices x lo hi =>
  match η x, loA (lo.map (η)) with
  | .str s, some l =>
   match hiA s.length (hi.map (η)) with
   | some h => if 0 ≤ l ∧ l ≤ h ∧ h ≤ s.length then some (.str ((s.take h.toNat).drop l.toNat), none) else none
   | none => none
  | _, _ => none
 | .slice sz x lo hi mx =>
  let v := η x
  match mx with
  | none =>
   match v with
   | .ownc o n c =>
    match loA (lo.map (η)), hiA n (hi.map (η)) with
    | some l, some h => Qk2 ob sz o n c l h
    | _, _ => none
   | _ =>
    match Qc ob sz v, loA (lo.map (η)) with
    | some (n, _), some l =>
     match hiA n (hi.map (η)) with
     | some h => (Qd3 ob sz v l h).map fun r => (r, none)
     | none => none
    | _, _ => none
  | some m =>
   match Qc ob sz v, loA (lo.map (η)), hi.map (η), η m with
   | some (n, _), some l, some (.int _ h), .int _ m =>
    if h = m then
     (if l = h then (if 0 ≤ l ∧ h ≤ n then some (.emp false, none) else none) else (Qd3 ob sz v l h).map fun r => (r, none))
    else none
   | _, _, _, _ => none
 | .slicea len sz x lo hi =>
  match η x, loA (lo.map (η)), hiA len (hi.map (η)) with
  | .ref o ver k, some l, some h =>
   match ob[o]? with
   | some b => if b.n = ver ∧ 0 ≤ l ∧ l ≤ h ∧ h ≤ len ∧ k + len * sz ≤ b.cs.length then some (.view o ver (k + l.toNat * sz) (h - l).toNat, none) else none
   | none => none
  | .cell cs, some l, some h => if l = 0 ∧ h = len ∧ len ≠ 0 then some (.list len (cs.take (len * sz)), none) else none
  | _, _, _ => none
 | .faddr off x =>
  match η x with
  | .ref o ver k => match ob[o]? with | some b => if b.n = ver then some (.ref o ver (k + off), none) else none | none => none
  | .cell cs => some (.cell (cs.drop off), none)
  | _ => none
 | .field off sz x =>
  match η x with
  | .agg cs =>
   match sz with
   | none => match cs[off]? with | some c => some (c, none) | none => none
   | some n => if off + n ≤ cs.length then some (.agg ((cs.drop off).take n), none) else none
  | _ => none
 | .iaddr k x i =>
  match η i with
  | .int _ i =>
   match k with
   | .slice sz =>
    match η x with
    | .list n cs => if 0 ≤ i ∧ i < n ∧ i.toNat * sz < cs.length then some (.cell (cs.drop (i.toNat * sz)), none) else none
    | .own o n => match ob[o]? with | some b => if b.n = n ∧ 0 ≤ i ∧ i < n then some (.ref o n (i.toNat * sz), none) else none | none => none
    | .view o ver k n => match ob[o]? with | some b => if b.n = ver ∧ 0 ≤ i ∧ i < n then some (.ref o ver (k + i.toNat * sz), none) else none | none => none
    | _ => none
   | .arr len sz =>
    match η x with
    | .cell cs => if 0 ≤ i ∧ i < len then some (.cell (cs.drop (i.toNat * sz)), none) else none
    | .ref o ver k => match ob[o]? with | some b => if b.n = ver ∧ 0 ≤ i ∧ i < len then some (.ref o ver (k + i.toNat * sz), none) else none | none => none
    | _ => none
  | _ => none
 | .index k x i =>
  match η i with
  | .int _ i =>
   match k, η x with
   | .str, .str s => match (if 0 ≤ i then s[i.toNat]? else none) with | some b => some (.int .u8 b.toNat, none) | none => none
   | .arr len sz agg, .agg cs =>
    if 0 ≤ i ∧ i < len then
     (match agg with
      | some m => if i.toNat * sz + m ≤ cs.length then some (.agg ((cs.drop (i.toNat * sz)).take m), none) else none
      | none => match cs[i.toNat * sz]? with | some c => some (c, none) | none => none)
    else none
   | _, _ => none
  | _ => none
 | .extract x i =>
  match η x with
  | .tup vs => match vs[i]? with | some v => some (v, none) | none => none
  | _ => none
 | .len k x =>
  match k with
  | some (some n) => some (.int .i64 n, none)
  | some none => match η x with | .str s => some (.int .i64 s.length, none) | _ => none
  | none =>
   match η x with
   | .view o ver _ n => match ob[o]? with | some b => if b.n = ver then some (.int .i64 n, none) else none | none => none
   | v => match Qc ob 1 v with | some (n, _) => some (.int .i64 n, none) | none => none
 | .append ty sz by_ st x y =>
  match QhP ob sz st (η y) with
  | some (m, cs) =>
   if cs.length = m * sz ∧ 0 < sz then
    match η x with
    | .emp _ => if m * by_ ≤ 140737488355328 ∧ m ≤ 9223372036854775807 then some (.own id m, some (id, ⟨ty, sz, m, cs, 0⟩)) else none
    | .own o n =>
     match ob[o]? with
     | some b =>
      if b.n = n ∧ b.ty = ty ∧ b.sz = sz ∧ (n + m) * by_ ≤ 140737488355328 ∧ n + m ≤ 9223372036854775807 ∧ b.fz ≤ b.cs.length then
       some (.own o (n + m), some (o, { b with n := n + m, cs := b.cs ++ cs }))
      else none
     | none => none
    | _ => none
   else none
  | none => none
 | .copy sz st x y =>
  match QhP ob sz st (η y) with
  | some (m, cs) =>
   if cs.length = m * sz ∧ 0 < sz then
    match η x with
    | .emp _ => some (.int .i64 0, none)
    | .view o ver k n =>
     match ob[o]? with
     | some b =>
      if b.n = ver ∧ b.fz ≤ k ∧ k + n * sz ≤ b.cs.length ∧ cs.all AV.one = true then
       some (.int .i64 (Nat.min m n), some (o, { b with cs := b.cs.take k ++ cs.take (Nat.min m n * sz) ++ b.cs.drop (k + Nat.min m n * sz) }))
      else none
     | none => none
    | .own o n =>
     match ob[o]? with
     | some b =>
      if b.n = n ∧ b.fz = 0 ∧ n * sz ≤ b.cs.length ∧ cs.all AV.one = true then
       some (.int .i64 (Nat.min m n), some (o, { b with cs := cs.take (Nat.min m n * sz) ++ b.cs.drop (Nat.min m n * sz) }))
      else none
     | none => none
    | _ => none
   else none
  | none => none
 | .min xs => match xs.map (η) with | x :: r => (Qml x r).map fun v => (v, none) | [] => none
 | .max xs => match xs.map (η) with | x :: r => (Qmm x r).map fun v => (v, none) | [] => none
 | .aggeq neg fs x y =>
  match η x, η y with
  | .agg as, .agg bs => (Qnq fs as bs).map fun b => (.bool (neg != b), none)
  | _, _ => none
 | .cap x =>
  match η x with
  | .emp _ => some (.int .i64 0, none)
  | .ownc o n c => match ob[o]? with | some b => if b.n = n then some (.int .i64 c, none) else none | none => none
  | _ => none
 | .strsh x =>
  match η x with
  | .own o n => match ob[o]? with | some b => if b.n = n ∧ n ≠ 0 ∧ b.fz < 1152921504606846976 then some (.own o n, some (o, { b with fz := b.fz + 1 })) else none | none => none
  | _ => none
 | .bad => none
def szO (P : Program) (t : TypeId) : Option Nat := (P.info? t).map (·.size)
def byO (P : Program) (t : TypeId) : Option Nat := (P.info? t).map (·.bytes)
def XR (P : Program) (t : TypeId) : Option Value := (P.info? t).bind (·.zero)
def Xp (P : Program) (t : TypeId) : Option (Option Nat) :=
 match P.underlying t with
 | some (.struct _) | some (.array _ _) => (szO P t).map some
 | some _ => some none
 | none => none
def Qj8 (P : Program) (t : TypeId) : Option TypeId :=
 match P.underlying t with
 | some (.slice e) => some e
 | _ => none
def Qju (P : Program) (fields : Array Field) (parts : Array (Nat × Operand)) : Option (List (Nat × Nat × Operand)) :=
 parts.toList.mapM fun p => do
  let f ← fields[p.1]?
  let s ← szO P f.type
  pure (f.offset, s, p.2)
def Qno : Operand → Bool
 | .const (.slice none 0 0) => true
 | _ => false
def Qnn : Operand → Bool
 | .const .nilIface => true
 | _ => false
def Qho (P : Program) (t : TypeId) (parts : Array (Nat × Operand)) : Option AOp :=
 match P.underlying t with
 | some (.struct fields) => do
  let z ← XR P t
  if fields.toList.all fun f => (szO P f.type).isSome then
   let ps ← Qju P fields parts
   pure (.build (z.cells.toList.map cV1) ps)
  else none
 | some (.array _ e) => do
  let z ← XR P t
  let s ← szO P e
  pure (.build (z.cells.toList.map cV1) (parts.toList.map fun p => (p.1 * s, s, p.2)))
 | _ => none
def Qcf (P : Program) (t : TypeId) (len : Nat) (parts : Array (Nat × Operand)) : Option AOp := do
 let e ← Qj8 P t
 let s ← szO P e
 let z ← XR P e
 if len * s ≤ 16777216 then
  pure (.bslice e s len (z.cells.toList.map cV1) (parts.toList.map fun p => (p.1 * s, s, p.2)))
 else none
def QlF (P : Program) (t : TypeId) : Option Nat :=
 match P.underlying t with
 | some (.int _) => some 0
 | some .bool => some 1
 | some .string => some 2
 | _ => none
def QiD (P : Program) : List Field → Option (List (Nat × Nat))
 | [] => some []
 | f :: r =>
  match QlF P f.type, QiD P r with
  | some k, some l => if f.name ≠ "_" then some ((f.offset, k) :: l) else none
  | _, _ => none
def Qpf (P : Program) (op : BinOp) (t : TypeId) (x y : Operand) : Option AOp :=
 match P.underlying t with
 | some (.int _) | some .string => some (.bin op x y)
 | some .bool =>
  match op with
  | .eql => some (.beq false x y)
  | .neq => some (.beq true x y)
  | _ => none
 | some (.slice _) =>
  if Qno y then
   match op with
   | .eql => some (.nileq false x)
   | .neq => some (.nileq true x)
   | _ => none
  else none
 | some (.interface _) =>
  if Qnn y then
   match op with
   | .eql => some (.ifeq false x)
   | .neq => some (.ifeq true x)
   | _ => none
  else none
 | some (.struct fs) =>
  if P.stoodInHeld t = false ∧ P.eqGuardType P.depth t = false then
   match op with
   | .eql => (QiD P fs.toList).map fun l => .aggeq false l x y
   | .neq => (QiD P fs.toList).map fun l => .aggeq true l x y
   | _ => none
  else none
 | _ => none
def QlZ (P : Program) (s d : TypeId) (x : Operand) : Option AOp :=
 match P.underlying s, P.underlying d with
 | some (.int _), some (.int k) => some (.conv (.int k) x)
 | some .string, some .string => some (.conv .same x)
 | some .string, some (.slice e) => match P.underlying e with | some (.int .u8) => some (.conv .toBytes x) | _ => none
 | some (.slice e), some .string => match P.underlying e with | some (.int .u8) => some (.conv .toStr x) | _ => none
 | some (.slice _), some (.slice e) => if s = d then (match P.underlying e with | some (.int .u8) => some (.strsh x) | _ => none) else none
 | _, _ => none
def Jo (P : Program) (t : TypeId) (l c : Operand) : Option AOp := do
 let e ← Qj8 P t
 let s ← szO P e
 let b ← byO P e
 let z ← XR P e
 pure (.mkslice e s b (z.cells.toList.map cV1) l c)
def Qhi (P : Program) (t : TypeId) (x : Operand) (lo hi mx : Option Operand) : Option AOp :=
 match P.underlying t with
 | some .string => if mx.isSome then none else some (.slices x lo hi)
 | some (.slice e) => (szO P e).map fun s => .slice s x lo hi mx
 | some (.array n e) => if mx.isSome then none else (szO P e).map fun s => .slicea n s x lo hi
 | _ => none
def Qhm (P : Program) (t : TypeId) (x : Operand) (f : Nat) : Option AOp :=
 match P.underlying t with
 | some (.struct fields) => do
  let g ← fields[f]?
  let s ← szO P g.type
  if s = 0 then none else pure (.faddr g.offset x)
 | _ => none
def Qhl (P : Program) (t : TypeId) (x : Operand) (f : Nat) : Option AOp :=
 match P.underlying t with
 | some (.struct fields) => do
  let g ← fields[f]?
  let a ← Xp P g.type
  pure (.field g.offset a x)
 | _ => none
def Qhk (P : Program) (t : TypeId) (x i : Operand) : Option AOp :=
 match P.underlying t with
 | some (.slice e) => (szO P e).map fun s => .iaddr (.slice s) x i
 | some (.array n e) => (szO P e).map fun s => .iaddr (.arr n s) x i
 | _ => none
def Qhj (P : Program) (t : TypeId) (x i : Operand) : Option AOp :=
 match P.underlying t with
 | some .string => some (.index .str x i)
 | some (.array n e) => do
  let s ← szO P e
  let a ← Xp P e
  pure (.index (.arr n s a) x i)
 | _ => none
def Qpd (P : Program) (c : Call) : Option AOp :=
 match (c.argTypes[0]?).bind P.underlying, c.args.toList with
 | some .string, [x] => some (.len (some none) x)
 | some (.slice _), [x] => some (.len none x)
 | some (.array n _), [x] => some (.len (some (some n)) x)
 | _, _ => none
def QdE (P : Program) (c : Call) : Option AOp :=
 match c.argTypes.toList, c.args.toList with
 | [t, u], [x, y] => do
  let e ← Qj8 P t
  let s ← szO P e
  let b ← byO P e
  let z ← XR P e
  if z.cells.size = s ∧ z.cells.toList.all (fun v => v.oneCell') = true then
   match P.underlying u with
   | some (.slice _) => pure (.append e s b false x y)
   | some .string => if s = 1 then pure (.append e s b true x y) else none
   | _ => none
  else none
 | _, _ => none
def QlY (P : Program) (c : Call) : Option AOp :=
 match c.argTypes.toList, c.args.toList with
 | [t, u], [x, y] => do
  let e ← Qj8 P t
  let s ← szO P e
  match P.underlying u with
  | some (.slice _) => pure (.copy s false x y)
  | some .string => if s = 1 then pure (.copy s true x y) else none
  | _ => none
 | _, _ => none
def QpA (P : Program) (c : Call) : Option AOp :=
 match (c.argTypes[0]?).bind P.underlying, c.args.toList with
 | some (.slice _), [x] => some (.cap x)
 | _, _ => none
def Qnb (P : Program) (c : Call) : Option AOp :=
 match c.callee with
 | .builtin .cap => QpA P c
 | .builtin .len => Qpd P c
 | .builtin .append => QdE P c
 | .builtin .copy => QlY P c
 | .builtin .min => some (.min c.args.toList)
 | .builtin .max => some (.max c.args.toList)
 | _ => none
def cOp (P : Program) (op : Op) : Option AOp :=
 match op with
 | .move x | .assign x => some (.mv x)
 | .pick c a b => some (.pick c a b)
 | .alloc t => (XR P t).map fun z => .alloc t (z.cells.toList.map cV1)
 | .box t x => (szO P t).map fun s => .box t s x
 | .build t parts => Qho P t parts
 | .buildSlice t len parts => Qcf P t len parts
 | .load t x => (Xp P t).map fun s => .load s x
 | .store t x v => (szO P t).map fun s => .store s x v
 | .nilCheck x => some (.nilck x)
 | .binOp op t x y _ => Qpf P op t x y
 | .unOp op _ x => some (.un op x)
 | .convert s d x => QlZ P s d x
 | .makeFunc f fs cs => some (.mkfn f fs.toList cs.toList)
 | .makeSlice t l c => Jo P t l c
 | .slice t x lo hi mx => Qhi P t x lo hi mx
 | .fieldAddr t x f => Qhm P t x f
 | .field t x f => Qhl P t x f
 | .indexAddr t x i => Qhk P t x i
 | .index t x i => Qhj P t x i
 | .extract x i => some (.extract x i)
 | .call c => Qnb P c
 | _ => none
def Qo8 (N : Nat) : Option Nat → Bool
 | some d => decide (d < N)
 | none => true
def cFn : Op → Option AK
 | .call c =>
  match c.callee with
  | .value (.func f) => some (.call f c.args.toList)
  | .value (.tmp t) => some (.callv t c.args.toList)
  | _ => none
 | _ => none
def cAK (P : Program) (op : Op) : Option AK :=
 match cFn op with
 | some k => some k
 | none => some (.op ((cOp P op).getD .bad))
def Xj (P : Program) (N : Nat) (ops : Array Oper) (o : Oper) : Option AO :=
 match cAK P o.op with
 | none => none
 | some p =>
  if Qo8 N o.dst = true then
   match o.guard with
   | none => some ⟨o.dst, none, p⟩
   | some (j, b) =>
    match (ops[j]?).bind (·.dst) with
    | some d => some ⟨o.dst, some (d, b), p⟩
    | none => none
  else none
end Go.Am
/- The abstract machine: the operations that touch no memory are as 'aop' says. -/
namespace Go.Am
open Go.RowKit
def Eff (B : Nat) (X : Cx) (r : Result Next) (av : AV) (ob' : List Ob) : Prop :=
 ∃ (v : Value) (w' : World) (be' : List (Option (Nat × Nat))), (r = .ok (.value v) w' ∨ (r = .ok .skip w' ∧ v = undef)) ∧ Below B X.w w' ∧
  Held B ⟨w', ob', be', X.C⟩ ∧ Moves X ⟨w', ob', be', X.C⟩ ∧ Rep ⟨w', ob', be', X.C⟩ av v
theorem Eff.pure {B : Nat} {X : Cx} (g : Held B X) {r : Result Next} {av : AV} {v : Value} (hr : r = .ok (.value v) X.w) (h : Rep X av v) : Eff B X r av X.ob :=
 ⟨v, X.w, X.be, .inl hr, Below.refl _ _, g, Moves.refl X, h⟩
theorem Rep.cV1 (X : Cx) (v : Value) : Rep X (cV1 v) v := by
 unfold Go.Am.cV1
 split
 case h_4 => simp only [Rep]; exact ⟨none, rfl, fun _ => rfl⟩
 all_goals (simp only [Rep])
theorem RepL.map_cV1 (X : Cx) : ∀ l : List Value, RepL X (l.map Go.Am.cV1) l
 | [] => by simp [RepL]
 | v :: l => by simp only [qC, RepL]; exact ⟨v, l, rfl, Rep.cV1 X v, RepL.map_cV1 X l⟩
theorem Rep.cV (X : Cx) (v : Value) : Rep X (cV v) v := by
 unfold Go.Am.cV
 split
 case h_1 cs => simp only [Rep]; exact ⟨cs.toList, rfl, RepL.map_cV1 X _⟩
 case h_2 => exact Rep.cV1 X _
theorem QnP {G : List (Nat × List AV)} {X : Cx} (hG : GOk G X) {fr : List (Nat × AV)} {a : Act} (h : ∀ i, Rep X (look fr i) (a.tmps.getD i undef)) (x : Operand) : Rep X (opd G fr x) (a.eval x) := by
 cases x with
 | tmp t => exact h t
 | const v => exact Rep.cV X v
 | global g =>
  simp only [opd, Act.eval, QpV]
  split
  ·exact hG _ _ (by assumption)
  ·simp only [Rep]
 | func f => simp only [opd, Act.eval, Rep]; exact ⟨[], [], rfl, by simp [RepL], by simp [RepL]⟩
section
variable {P : Program} {B : Nat} {X : Cx} (g : Held B X) {ρ : Operand → Value} {η : Operand → AV} (hρ : ∀ x, Rep X (η x) (ρ x)) {o : Oper}
include g hρ
theorem Qnr {x : Operand} (ho : o.op = .move x ∨ o.op = .assign x) : Eff B X ((execOp ρ o).run P X.w) (η x) X.ob := by
 refine Eff.pure g ?_ (hρ x)
 rcases ho with ho | ho <;> simp [execOp, ho]
theorem Qff {x : Operand} {t : Bool} (h : η x = .bool t) : ρ x = .bool t := by
 have := hρ x
 rw [h] at this
 simpa only [Rep] using this
theorem Q2 {x : Operand} {k : IntKind} {n : Int} (h : η x = .int k n) : ρ x = .int k n := by
 have := hρ x
 rw [h] at this
 simpa only [Rep] using this
theorem QaU {x : Operand} {s : List UInt8} (h : η x = .str s) : ρ x = .string ⟨s.toArray⟩ := by
 have := hρ x
 rw [h] at this
 simpa only [Rep] using this
theorem Qm4 {c x y : Operand} {t : Bool} (ho : o.op = .pick c x y) (ht : η c = .bool t) : Eff B X ((execOp ρ o).run P X.w) (if t then η x else η y) X.ob := by
 have hc := Qff g hρ ht
 cases t
 ·exact Eff.pure g (by simp [execOp, ho, hc, asBool]) (hρ y)
 ·exact Eff.pure g (by simp [execOp, ho, hc, asBool]) (hρ x)
end
theorem QmC {P : Program} {w : World} {op : BinOp} {k : IntKind} {a b : Int} {av : AV} (hs : op ≠ .shl ∧ op ≠ .shr) (h : Qpy op k a b = some av) :
  ∃ v, (∀ t, (binOp op t (.int k a) (.int k b)).run P w = .ok v w) ∧ ∀ X, Rep X av v := by
 obtain ⟨h1, h2⟩ := hs
 cases op <;> simp [Qpy] at h <;> first
  | exact absurd rfl h1
  | exact absurd rfl h2
  | (obtain ⟨h0, h⟩ := h
     subst h
     exact ⟨_, fun t => by simp [binOp, Op.intArith, Op.intDiv, Op.intBits, Op.intCmp, h0]; rfl, fun X => by simp [Rep]⟩)
  | (subst h
     exact ⟨_, fun t => by simp [binOp, Op.intArith, Op.intDiv, Op.intBits, Op.intCmp]; rfl, fun X => by simp [Rep]⟩)
theorem Qev {P : Program} {w : World} {l : Bool} {k k' : IntKind} {a b : Int} {av : AV} (h : Qan l k a b = some av) :
  ∃ v, (∀ t, (binOp (if l then .shl else .shr) t (.int k a) (.int k' b)).run P w = .ok v w) ∧ ∀ X, Rep X av v := by
 unfold Qan at h
 split at h
 ·cases h
 rename_i hb
 cases l <;> simp at h <;> subst h <;> exact ⟨_, fun t => by simp [binOp, Op.shift, hb]; rfl, fun X => by simp [Rep]⟩
theorem Qb6 (s : List UInt8) : (ByteArray.mk s.toArray).size = s.length := by
 simp [ByteArray.size]
theorem Ql8 (a b : List UInt8) : ByteArray.mk a.toArray ++ ByteArray.mk b.toArray = ByteArray.mk (a ++ b).toArray := by
 apply ByteArray.ext
 simp
theorem QmB {P : Program} {w : World} {op : BinOp} {a b : List UInt8} {av : AV} (h : Qgy op a b = some av) :
  ∃ v, (∀ t, (binOp op t (.string ⟨a.toArray⟩) (.string ⟨b.toArray⟩)).run P w = .ok v w) ∧ ∀ X, Rep X av v := by
 cases op <;> simp [Qgy] at h
 case add =>
  obtain ⟨h0, h⟩ := h
  subst h
  refine ⟨.string ⟨(a ++ b).toArray⟩, fun t => ?_, fun X => by simp only [Rep]⟩
  have h0' : ¬ ((a.length : Int) + (b.length : Int) > IntKind.i64.max) := by
   simp [IntKind.max, IntKind.signed, IntKind.bits]; omega
  have h1' : (a.length : Int) + (b.length : Int) ≤ 9223372036854775807 := by omega
  simp [binOp, Op.stringOp, Qb6, Ql8, IntKind.max, IntKind.signed, IntKind.bits, h1']
 all_goals
  subst h
  exact ⟨_, fun t => by simp [binOp, Op.stringOp]; rfl, fun X => by simp [Rep]⟩
theorem QjP {P : Program} {w : World} {t : TypeId} (ht : P.underlying t = some .bool) (a b : Bool) : (Op.equal t (.bool a) (.bool b)).run P w = .ok (a == b) w := by
 have : ∀ d, (Op.equalIn (d + 1) t (.bool a) (.bool b)).run P w = .ok (a == b) w := fun d => by simp [Op.equalIn, run_underlying ht]
 exact this 9999
theorem QmD {P : Program} {w : World} {t : TypeId} {ms : Array (String × TypeId)} (ht : P.underlying t = some (.interface ms)) {v : Value} {r : Bool} (hv : (v = .nilIface ∧ r = true) ∨ (∃ a b, v = .iface a b) ∧ r = false) : (Op.equal t v .nilIface).run P w = .ok r w := by
 rcases hv with ⟨rfl, rfl⟩ | ⟨⟨a, b, rfl⟩, rfl⟩
 ·have : ∀ d, (Op.equalIn (d + 1) t .nilIface .nilIface).run P w = .ok true w := fun d => by simp [Op.equalIn, run_underlying ht]
  exact this 9999
 ·have : ∀ d, (Op.equalIn (d + 1) t (.iface a b) .nilIface).run P w = .ok false w := fun d => by simp [Op.equalIn, run_underlying ht]
  exact this 9999
theorem Qk0 {P : Program} {w : World} {t e : TypeId} (ht : P.underlying t = some (.slice e)) (a : Option Addr) (n c : Nat) : (Op.equal t (.slice a n c) (.slice none 0 0)).run P w = .ok a.isNone w := by
 have : ∀ d, (Op.equalIn (d + 1) t (.slice a n c) (.slice none 0 0)).run P w = .ok a.isNone w := fun d => by cases a <;> simp [Op.equalIn, run_underlying ht]
 exact this 9999
theorem QgG {P : Program} {t : TypeId} {sz : Option Nat} (h : Xp P t = some sz) (w : World) :
  (isAgg t).run P w = .ok sz.isSome w ∧ ∀ n, sz = some n → (sizeOf t).run P w = .ok n w := by
 unfold Xp szO at h
 cases hu : P.underlying t with
 | none => simp [hu] at h
 | some d =>
  simp only [hu] at h
  cases hi : P.info? t with
  | none => cases d <;> simp [hi] at h <;> subst h <;> simp [isAgg, run_underlying hu]
  | some i => cases d <;> simp [hi] at h <;> subst h <;> simp [isAgg, run_underlying hu, sizeOf, typeInfo, hi]
theorem Qc0 {P : Program} {X : Cx} {t : TypeId} {sz : Option Nat} (h : Xp P t = some sz) (w : World) {cs : List AV} {vs : List Value} (hr : RepL X cs vs) (off : Nat) {c : AV}
  (hc : (sz = none ∧ cs[off]? = some c) ∨ ∃ n, sz = some n ∧ off + n ≤ cs.length ∧ c = .agg ((cs.drop off).take n)) :
  ∃ v, (part t vs.toArray off).run P w = .ok v w ∧ Rep X c v := by
 obtain ⟨h1, h2⟩ := QgG h w
 rcases hc with ⟨rfl, hc⟩ | ⟨n, rfl, hle, rfl⟩
 ·obtain ⟨v, hv1, hv2⟩ := hr.get _ c hc
  exact ⟨v, by simp [part, h1, hv1], hv2⟩
 ·refine ⟨.agg (vs.toArray.extract off (off + n)), by simp [part, h1, h2 n rfl], ?_⟩
  simp only [Rep]
  exact ⟨(vs.drop off).take n, by simp [List.drop_take], (hr.drop _).take _⟩
theorem Qcp {P : Program} {X : Cx} {as bs : List AV} {us vs : List Value} (gx : RepL X as us) (gy : RepL X bs vs) (d : Nat) : ∀ (fs : List Field) (l : List (Nat × Nat)) (r : Bool), QiD P fs = some l → Qnq l as bs = some r →
  (Op.eqFields (d + 1) us.toArray vs.toArray fs).run P X.w = .ok r X.w
 | [], l, r, hl, hr => by
  simp only [QiD, qc] at hl
  subst hl
  simp only [Qnq, qc] at hr
  subst hr
  simp [Op.eqFields]
 | f :: fs, l, r, hl, hr => by
  simp only [QiD] at hl
  split at hl
  case h_2 => cases hl
  rename_i k l' hk hl'
  split at hl
  case isFalse => cases hl
  rename_i hname
  cases hl
  simp only [Qnq] at hr
  split at hr
  case h_2 => cases hr
  rename_i a b ha hb
  split at hr
  case h_2 => cases hr
  rename_i p q hp hq
  cases hr
  have ih := Qcp gx gy d fs l' q hl' hq
  have hag : Xp P f.type = some none := by
   unfold QlF at hk
   unfold Xp
   split at hk <;> simp_all
  obtain ⟨u, hu1, hu2⟩ := Qc0 (P := P) hag X.w gx f.offset (.inl ⟨rfl, ha⟩)
  obtain ⟨v, hv1, hv2⟩ := Qc0 (P := P) hag X.w gy f.offset (.inl ⟨rfl, hb⟩)
  have he : (Op.equalIn (d + 1) f.type u v).run P X.w = .ok p X.w := by
   unfold QlG at hp
   unfold QlF at hk
   split at hp
   ·simp only [Rep] at hu2 hv2
    subst hu2 hv2
    split at hp <;> cases hp
    rename_i hkk
    subst hkk
    split at hk <;> cases hk
    rename_i hu
    exact run_equalIn_int X.w d f.type _ _ _ _ hu
   ·simp only [Rep] at hu2 hv2
    subst hu2 hv2
    cases hp
    split at hk <;> cases hk
    rename_i hu
    exact run_equalIn_bool X.w d f.type _ _ hu
   ·simp only [Rep] at hu2 hv2
    subst hu2 hv2
    cases hp
    split at hk <;> cases hk
    rename_i a b _ _ hu
    rw [run_equalIn_string X.w d f.type _ _ hu]
    simp [ByteArray.toList_eq]
   ·cases hp
  simp only [Op.eqFields, hname, ne_eq, not_false_eq_true, yI, Sem.run_bind, hu1, hv1, Result.andThen_ok, he]
  cases p
  ·simp
  ·simp [ih]
theorem QnM {P : Program} {w : World} {op : UnOp} {x av : AV} {v : Value} {X : Cx} (hx : Rep X x v) (h : unA op x = some av) :
  ∃ u, (Op.unary op v).run P w = .ok u w ∧ Rep X av u := by
 cases op <;> cases x <;> simp [unA] at h <;> simp only [Rep] at hx <;> subst hx <;> subst h <;>
  first
   | exact ⟨_, by simp [Op.unary, Op.intArith, Op.intBits]; rfl, by simp [Rep]⟩
section
variable {P : Program} {B : Nat} {X : Cx} (g : Held B X) {ρ : Operand → Value} {η : Operand → AV} (hρ : ∀ x, Rep X (η x) (ρ x)) {o : Oper}
include g hρ
theorem Qo3 {op : UnOp} {t : TypeId} {x : Operand} {av : AV} (ho : o.op = .unOp op t x) (h : unA op (η x) = some av) : Eff B X ((execOp ρ o).run P X.w) av X.ob := by
 obtain ⟨u, h1, h2⟩ := QnM (P := P) (w := X.w) (hρ x) h
 exact Eff.pure g (by simp [execOp, ho, h1]) h2
theorem QlL {op : BinOp} {t u : TypeId} {x y : Operand} {av : AV} (ho : o.op = .binOp op t x y u) (h : Qei op (η x) (η y) = some av) : Eff B X ((execOp ρ o).run P X.w) av X.ob := by
 unfold Qei at h
 split at h
 case h_1 k a k' b hx hy =>
  have ex := Q2 g hρ hx
  have ey := Q2 g hρ hy
  have key : ∃ v, (∀ t, (binOp op t (.int k a) (.int k' b)).run P X.w = .ok v X.w) ∧ Rep X av v := by
   split at h
   ·obtain ⟨v, h1, h2⟩ := Qev (P := P) (w := X.w) (k' := k') h
    exact ⟨v, h1, h2 X⟩
   ·obtain ⟨v, h1, h2⟩ := Qev (P := P) (w := X.w) (k' := k') h
    exact ⟨v, h1, h2 X⟩
   ·rename_i n1 n2
    split at h
    ·rename_i hk
     subst hk
     obtain ⟨v, h1, h2⟩ := QmC (P := P) (w := X.w) ⟨fun e => n1 e, fun e => n2 e⟩ h
     exact ⟨v, h1, h2 X⟩
    ·cases h
  obtain ⟨v, h1, h2⟩ := key
  refine Eff.pure g ?_ h2
  cases op <;> simp [execOp, ho, ex, ey, eqGuard, h1]
 case h_2 a b hx hy =>
  have ex := QaU g hρ hx
  have ey := QaU g hρ hy
  obtain ⟨v, h1, h2⟩ := QmB (P := P) (w := X.w) h
  refine Eff.pure g ?_ (h2 X)
  cases op <;> simp [execOp, ho, ex, ey, eqGuard, h1]
 case h_3 => cases h
theorem QlM {neg : Bool} {t u : TypeId} {x y : Operand} {a b : Bool} (ho : o.op = .binOp (if neg then .neq else .eql) t x y u) (ht : P.underlying t = some .bool) (hx : η x = .bool a) (hy : η y = .bool b) : Eff B X ((execOp ρ o).run P X.w) (.bool (neg != (a == b))) X.ob := by
 have ex := Qff g hρ hx
 have ey := Qff g hρ hy
 have he := QjP (P := P) (w := X.w) ht a b
 cases neg
 ·exact Eff.pure g (v := .bool (a == b)) (by simp [execOp, ho, ex, ey, eqGuard, binOp, he]) (by simp [Rep])
 ·exact Eff.pure g (v := .bool (!(a == b))) (by simp [execOp, ho, ex, ey, eqGuard, binOp, he]) (by simp [Rep])
theorem Qc4 {neg : Bool} {t u : TypeId} {x : Operand} {ms : Array (String × TypeId)} {v : Value} {r : Bool} (ho : o.op = .binOp (if neg then .neq else .eql) t x (.const .nilIface) u) (hc : ρ (.const .nilIface) = .nilIface) (ht : P.underlying t = some (.interface ms)) (hx : η x = .lit v)
  (hv : (v = .nilIface ∧ r = true) ∨ (∃ a b, v = .iface a b) ∧ r = false) : Eff B X ((execOp ρ o).run P X.w) (.bool (neg != r)) X.ob := by
 have ex := hρ x
 rw [hx] at ex
 simp only [Rep] at ex
 have he := QmD (P := P) (w := X.w) ht hv
 have hg : ∀ op, (eqGuard op t x (.const .nilIface) v .nilIface).run P X.w = .ok () X.w := fun op => by
  rcases hv with ⟨rfl, _⟩ | ⟨⟨a, b, rfl⟩, _⟩
  ·cases op <;> simp [eqGuard]
  ·cases op <;> simp [eqGuard]
 have hb : ∀ op, (op = .eql ∨ op = .neq) → (binOp op t v .nilIface).run P X.w = .ok (.bool ((op == .neq) != r)) X.w := fun op ho => by
  rcases hv with ⟨rfl, rfl⟩ | ⟨⟨a, b, rfl⟩, rfl⟩ <;> rcases ho with rfl | rfl <;> simp [binOp, he] <;> rfl
 cases neg
 ·have h1 := hb .eql (.inl rfl)
  exact Eff.pure g (v := .bool (false != r)) (by simp only [execOp, ho, ex, hc, hg, h1, ya, yS, Sem.run_bind, Result.andThen_ok, Sem.run_pure]; cases r <;> rfl) (by simp [Rep])
 ·have h1 := hb .neq (.inr rfl)
  exact Eff.pure g (v := .bool (true != r)) (by simp only [execOp, ho, ex, hc, hg, h1, yI, Sem.run_bind, Result.andThen_ok, Sem.run_pure]; cases r <;> rfl) (by simp [Rep])
theorem Qhc {neg : Bool} {t u : TypeId} {x y : Operand} {fs : Array Field} {l : List (Nat × Nat)} {as bs : List AV} {r : Bool} (ho : o.op = .binOp (if neg then .neq else .eql) t x y u) (ht : P.underlying t = some (.struct fs))
  (h1 : P.stoodInHeld t = false) (h2 : P.eqGuardType P.depth t = false) (hl : QiD P fs.toList = some l) (hx : η x = .agg as) (hy : η y = .agg bs) (hr : Qnq l as bs = some r) : Eff B X ((execOp ρ o).run P X.w) (.bool (neg != r)) X.ob := by
 have ex := hρ x
 have ey := hρ y
 rw [hx] at ex
 rw [hy] at ey
 simp only [Rep] at ex ey
 obtain ⟨us, ex, gx⟩ := ex
 obtain ⟨vs, ey, gy⟩ := ey
 have ht' : P.fieldsOf t = fs := by simp [Program.fieldsOf, ht]
 have key : ∀ (d : Nat), (Op.equalIn (d + 2) t (.agg us.toArray) (.agg vs.toArray)).run P X.w = .ok r X.w := fun d => by
  rw [run_equalIn_struct X.w (d + 1) t _ _ (by rw [ht']; exact ht) h1, ht']
  exact Qcp gx gy d fs.toList l r hl hr
 have hg : ∀ op, (eqGuard op t x y (.agg us.toArray) (.agg vs.toArray)).run P X.w = .ok () X.w := fun op => run_eqGuard_agg X.w op t x y _ _ h2
 cases neg
 ·exact Eff.pure g (v := .bool r) (by simp [execOp, ho, ex, ey, hg, run_eql_struct, key 9998]) (by simp [Rep])
 ·exact Eff.pure g (v := .bool (!r)) (by simp [execOp, ho, ex, ey, hg, run_neq_struct, key 9998]) (by simp [Rep])
theorem Qoa {x : Operand} {c : Call} {t : TypeId} {z : Bool} (ho : o.op = .call c) (hc : c.callee = .builtin .cap) (ha : c.args.toList = [x]) (ht : (c.argTypes[0]?).bind P.underlying = some (.slice t)) (hx : η x = .emp z) :
  Eff B X ((execOp ρ o).run P X.w) (.int .i64 0) X.ob := by
 have ex := hρ x
 rw [hx] at ex
 simp only [Rep] at ex
 obtain ⟨a, ex, _⟩ := ex
 have ha' : c.args = #[x] := by apply q9; simpa using ha
 obtain ⟨t0, ht0, ht1⟩ := qe.1 ht
 exact Eff.pure g (v := .int .i64 0) (by simp [execOp, ho, resolve, hc, ha', invoke, builtin, Builtin.cap_, ht0, run_underlying ht1, ex, goInt]) (by simp only [Rep])
theorem QfC {x : Operand} {c : Call} {t : TypeId} {oo n cp : Nat} {b : Ob} (ho : o.op = .call c) (hc : c.callee = .builtin .cap) (ha : c.args.toList = [x]) (ht : (c.argTypes[0]?).bind P.underlying = some (.slice t)) (hx : η x = .ownc oo n cp)
  (hob : X.ob[oo]? = some b) (hv : b.n = n) : Eff B X ((execOp ρ o).run P X.w) (.int .i64 cp) X.ob := by
 have ex := hρ x
 rw [hx] at ex
 simp only [Rep] at ex
 obtain ⟨⟨y, hy, _, _, hp⟩, _⟩ := ex
 rw [hob] at hy
 cases hy
 obtain ⟨h1, h2⟩ := hp hv
 obtain ⟨e2, he, _⟩ := g.get hob
 have ha' : c.args = #[x] := by apply q9; simpa using ha
 obtain ⟨t0, ht0, ht1⟩ := qe.1 ht
 have ex : ∃ a, ρ x = .slice a n cp := by
  cases e2 with
  | none =>
   simp only [he, OwnV] at h1
   simp only [he, QiC] at h2
   obtain ⟨a, h1⟩ := h1
   subst h2
   have h3 := (g.ok oo b none hob he).1
   exact ⟨a, by rw [h1]; congr 1; omega⟩
  | some p =>
   obtain ⟨bb, cap⟩ := p
   simp only [he, OwnV] at h1
   simp only [he, QiC] at h2
   subst h2
   exact ⟨_, h1⟩
 obtain ⟨a, ex⟩ := ex
 exact Eff.pure g (v := .int .i64 cp) (by simp [execOp, ho, resolve, hc, ha', invoke, builtin, Builtin.cap_, ht0, run_underlying ht1, ex, goInt]) (by simp only [Rep])
theorem QP (xs : List Operand) : RepL X (xs.map (η)) (xs.map ρ) :=
 RepL.of_get _ _ (by simp) fun i c v hc hv => by
  simp only [qv, qa] at hc hv
  obtain ⟨x, hx, rfl⟩ := hc
  obtain ⟨y, hy, rfl⟩ := hv
  rw [hx] at hy
  cases hy
  exact hρ x
theorem Qm5 {f : Fn} {fs cs : Array Operand} (ho : o.op = .makeFunc f fs cs) : Eff B X ((execOp ρ o).run P X.w) (.fn f (fs.toList.map (η)) (cs.toList.map (η))) X.ob := by
 refine Eff.pure g (v := .func f (fs.map ρ) (cs.map ρ)) (by simp [execOp, ho, Instr.makeFunc]) ?_
 simp only [Rep]
 refine ⟨fs.toList.map ρ, cs.toList.map ρ, ?_, QP g hρ _, QP g hρ _⟩
 congr 1 <;> (apply q9; simp)
theorem Qiv {x : Operand} {i : Nat} {cs : List AV} {c : AV} (ho : o.op = .extract x i) (hx : η x = .tup cs) (hc : cs[i]? = some c) : Eff B X ((execOp ρ o).run P X.w) c X.ob := by
 have h := hρ x
 rw [hx] at h
 simp only [Rep] at h
 obtain ⟨vs, hv, hr⟩ := h
 obtain ⟨v, hv1, hv2⟩ := hr.get i c hc
 exact Eff.pure g (by simp [execOp, ho, hv, Instr.extract, hv1]) hv2
theorem Qix {x : Operand} {s d : TypeId} {k k' : IntKind} {n : Int} (ho : o.op = .convert s d x) (hd : P.underlying d = some (.int k)) (hs : ∃ y, P.underlying s = some (.int y)) (hx : η x = .int k' n) :
  Eff B X ((execOp ρ o).run P X.w) (.int k (k.wrap n)) X.ob := by
 have ex := Q2 g hρ hx
 obtain ⟨y, hs⟩ := hs
 exact Eff.pure g (v := .int k (k.wrap n)) (by simp [execOp, ho, ex, convert, run_underlying hs, run_underlying hd, Conv.intToInt]) (by simp [Rep])
theorem Qiw {x : Operand} {s d : TypeId} {l : List UInt8} (ho : o.op = .convert s d x) (hd : P.underlying d = some .string) (hs : P.underlying s = some .string) (hx : η x = .str l) :
  Eff B X ((execOp ρ o).run P X.w) (.str l) X.ob := by
 have ex := QaU g hρ hx
 exact Eff.pure g (v := .string ⟨l.toArray⟩) (by simp [execOp, ho, ex, convert, run_underlying hs, run_underlying hd]) (by simp [Rep])
theorem Qhb {x : Operand} {t : TypeId} {f : Nat} {fields : Array Field} {fd : Field} {cs : List AV} {c : AV} {sz : Option Nat} (ho : o.op = .field t x f) (ht : P.underlying t = some (.struct fields)) (hf : fields[f]? = some fd)
  (hs : Xp P fd.type = some sz) (hx : η x = .agg cs)
  (hc : (sz = none ∧ cs[fd.offset]? = some c) ∨ ∃ n, sz = some n ∧ fd.offset + n ≤ cs.length ∧ c = .agg ((cs.drop fd.offset).take n)) : Eff B X ((execOp ρ o).run P X.w) c X.ob := by
 have h := hρ x
 rw [hx] at h
 simp only [Rep] at h
 obtain ⟨vs, hv, hr⟩ := h
 obtain ⟨v, h1, h2⟩ := Qc0 (P := P) hs X.w hr fd.offset hc
 exact Eff.pure g (v := v) (by simp [execOp, ho, hv, Instr.field, run_underlying ht, hf, asAgg, h1]) h2
theorem Qha {x i : Operand} {t : TypeId} {l : List UInt8} {k : IntKind} {n : Int} {b : UInt8} (ho : o.op = .index t x i) (ht : P.underlying t = some .string) (hx : η x = .str l) (hi : η i = .int k n)
  (h0 : 0 ≤ n) (hb : l[n.toNat]? = some b) : Eff B X ((execOp ρ o).run P X.w) (.int .u8 b.toNat) X.ob := by
 have ex := QaU g hρ hx
 have ei := Q2 g hρ hi
 have hlt := (qb.1 hb).1
 have hget : (⟨l.toArray⟩ : ByteArray)[n.toNat]? = some b := by
  have h2 : n.toNat < (⟨l.toArray⟩ : ByteArray).size := by rw [Qb6]; exact hlt
  rw [getElem?_pos (⟨l.toArray⟩ : ByteArray) n.toNat h2]
  have := (qb.1 hb).2
  simp only [qc]
  rw [← this]
  rfl
 exact Eff.pure g (v := .int .u8 b.toNat) (by simp [execOp, ho, ex, ei, Instr.index, asIntOf, run_underlying ht, h0, hget]) (by simp only [Rep])
theorem Qcv {x i : Operand} {t e : TypeId} {len sz : Nat} {ag : Option Nat} {cs : List AV} {c : AV} {k : IntKind} {n : Int} (ho : o.op = .index t x i) (ht : P.underlying t = some (.array len e)) (hz : szO P e = some sz) (hs : Xp P e = some ag)
  (hx : η x = .agg cs) (hi : η i = .int k n) (h0 : 0 ≤ n) (h1 : n < len)
  (hc : (ag = none ∧ cs[n.toNat * sz]? = some c) ∨ ∃ m, ag = some m ∧ n.toNat * sz + m ≤ cs.length ∧ c = .agg ((cs.drop (n.toNat * sz)).take m)) : Eff B X ((execOp ρ o).run P X.w) c X.ob := by
 have h := hρ x
 rw [hx] at h
 simp only [Rep] at h
 obtain ⟨vs, hv, hr⟩ := h
 have ei := Q2 g hρ hi
 obtain ⟨v, h2, h3⟩ := Qc0 (P := P) hs X.w hr (n.toNat * sz) hc
 unfold szO at hz
 obtain ⟨i, hi1, rfl⟩ := qa.1 hz
 exact Eff.pure g (v := v) (by simp [execOp, ho, hv, ei, Instr.index, asIntOf, run_underlying ht, h0, h1, sizeOf, typeInfo, hi1, h2]) h3
end
end Go.Am
/- The abstract machine: loads, stores, addresses, lengths. -/
namespace Go.Am
open Go.RowKit
theorem Q9 (b k j : Nat) : (⟨b, k, none⟩ : Addr).add j = ⟨b, k + j, none⟩ := by
 unfold Addr.add; split <;> simp_all
def QiY (w : World) (b k : Nat) (vs : List Value) : Prop := ∀ i u, vs[i]? = some u → w.cell? ⟨b, k + i, none⟩ = some u ∧ u.oneCell' = true
theorem AtC.lies {X : Cx} {b k : Nat} {vs : List Value} (h : AtC X b k vs) : QiY X.w b k vs := fun i u hu => ⟨(h i u hu).1.1, (h i u hu).2⟩
theorem QiY.drop {w : World} {b k : Nat} {vs : List Value} (h : QiY w b k vs) (n : Nat) : QiY w b (k + n) (vs.drop n) := fun i u hu => by
 rw [yM] at hu
 have := h (n + i) u hu
 rwa [show k + n + i = k + (n + i) by omega]
theorem QiY.take {w : World} {b k : Nat} {vs : List Value} (h : QiY w b k vs) (n : Nat) : QiY w b k (vs.take n) := fun i u hu => by
 rw [ym] at hu
 split at hu
 ·exact h i u hu
 ·cases hu
theorem QiY.heap {w w' : World} (hw : w'.heap = w.heap) {b k : Nat} {vs : List Value} (h : QiY w b k vs) : QiY w' b k vs := fun i u hu => by
 have := h i u hu
 refine ⟨?_, this.2⟩
 have e : w'.cell? ⟨b, k + i, none⟩ = w.cell? ⟨b, k + i, none⟩ := by simp [World.cell?, hw]
 rw [e]; exact this.1
theorem Qly {w : World} {b k : Nat} {cur : Array Value} {t : TypeId} {fr : Nat × Nat} {fz : Nat} (hg : w.heap[b]? = some (.cells cur t fr)) (hf : FrOk fr cur.size fz) (hk : k < cur.size) (hz : fz ≤ k) : w.frozen? ⟨b, k, none⟩ = false := by
 obtain ⟨lo, hi⟩ := fr
 simp only [World.frozen?, hg]
 rcases hf with h | ⟨h, _⟩ | ⟨h1, h2, _⟩
 ·cases h; simp
 ·cases h
  simp
  omega
 ·simp only at h1 h2
  simp
  omega
theorem Xf (P : Program) (g o : Nat) (t : TypeId) {fr : Nat × Nat} {fz : Nat} : ∀ (vs : List Value) (i : Nat) (cur : Array Value) (w : World), w.heap[g]? = some (.cells cur t fr) → FrOk fr cur.size fz ∧ fz ≤ o → o + i + vs.length ≤ cur.size → (∀ v ∈ vs, v.oneCell' = true) →
  (storeCells ⟨g, o, none⟩ vs i).run P w = .ok () (w.setRow g (cur.toList.take (o + i) ++ vs ++ cur.toList.drop (o + i + vs.length)).toArray)
 | [], i, cur, w, hg, _, _, _ => by
  simp only [storeCells, yN, qJ, yA, yr, yV]
  rw [setRow_self w g cur t fr hg]
  rfl
 | v :: rest, i, cur, w, hg, hf, hl, h1 => by
  have hi : o + i < cur.size := by simp at hl; omega
  have hadd : (⟨g, o, none⟩ : Addr).add i = ⟨g, o + i, none⟩ := by unfold Addr.add; split <;> simp_all
  have hcell : w.cell? ⟨g, o + i, none⟩ = some cur[o + i] := by simp [World.cell?, hg, hi]
  have hfro : w.frozen? ⟨g, o + i, none⟩ = false := Qly hg hf.1 hi (by have := hf.2; omega)
  have hst : (store ((⟨g, o, none⟩ : Addr).add i) v).run P w = .ok () (w.setRow g (cur.setIfInBounds (o + i) v)) := by
   rw [hadd, run_store P w _ v _ (h1 v (by simp)), hcell]
   simp [hfro, setCell_eq_setRow w g (o + i) cur t fr v hg]
  have ih := Xf P g o t rest (i + 1) (cur.setIfInBounds (o + i) v) (w.setRow g (cur.setIfInBounds (o + i) v)) (setRow_heap w g cur _ t _ hg) (by simpa using hf) (by simp at hl ⊢; omega) (fun x hx => h1 x (by simp [hx]))
  simp only [storeCells, Sem.run_bind, hst, Result.andThen_ok, ih, setRow_setRow]
  congr 3
  have e := list_seg_step cur.toList (o + i) v rest (by simp at hl ⊢; omega)
  simpa [Array.toList_setIfInBounds, Nat.add_assoc] using e
theorem J3 {w : World} {b : Nat} {cur : Array Value} {t : TypeId} {fr : Nat × Nat} (hh : w.heap[b]? = some (.cells cur t fr)) {m : Nat} (h1 : ∀ v ∈ cur.toList.take m, v.oneCell' = true) : QiY w b 0 (cur.toList.take m) := fun i u hu => by
 refine ⟨?_, h1 u (qK hu)⟩
 rw [cell_of_row _ _ _ _ _ _ hh]
 rw [ym] at hu
 split at hu
 ·simpa using hu
 ·cases hu
theorem Jn {B : Nat} {X : Cx} (g : Held B X) {av : AV} {v : Value} {cs : List AV} (h : ZJ X.ob av = some cs) (hr : Rep X av v) :
  ∃ b k vs, v = .pointer (some ⟨b, k, none⟩) ∧ QiY X.w b k vs ∧ RepL X cs vs := by
 cases av <;> simp [ZJ] at h
 case cell cs' =>
  subst h
  simp only [Rep] at hr
  obtain ⟨b, k, vs, e, h1, h2⟩ := hr
  exact ⟨b, k, vs, e, h1.lies, h2⟩
 case ref o ver k =>
  simp only [Rep] at hr
  obtain ⟨⟨x, hx, _, hn, hp⟩, _⟩ := hr
  simp [hx] at h
  obtain ⟨hv, rfl⟩ := h
  obtain ⟨b, c, he, rfl⟩ := hp hv
  obtain ⟨cur, ⟨fr, q1, _⟩, q2, q3, q4, q5, q6, q7⟩ := g.ok o x _ hx he
  have := (J3 (m := x.cs.length) q1 (fun v hv => q7 v (qG hv))).drop k
  rw [qY] at this
  exact ⟨b, k, _, rfl, this, q6.drop k⟩
theorem Za {B : Nat} {X : Cx} (g : Held B X) {av : AV} {v : Value} {sz n : Nat} {cs : List AV} (h : Qc X.ob sz av = some (n, cs)) (hr : Rep X av v) :
  ∃ a cap vs, v = .slice a n cap ∧ n ≤ cap ∧ (vs = [] ∨ ∃ b k, a = some ⟨b, k, none⟩ ∧ QiY X.w b k vs) ∧ RepL X cs vs := by
 cases av <;> simp [Qc] at h
 case emp z =>
  obtain ⟨rfl, rfl⟩ := h
  simp only [Rep] at hr
  obtain ⟨a, e, _⟩ := hr
  exact ⟨a, 0, [], e, qg _, .inl rfl, by simp [RepL]⟩
 case list m cs' =>
  obtain ⟨rfl, rfl⟩ := h
  simp only [Rep] at hr
  obtain ⟨a, cap, vs, e, hc, h1, h2⟩ := hr
  refine ⟨a, cap, vs, e, hc, ?_, h2⟩
  rcases h1 with h1 | ⟨b, k, e1, h1⟩
  ·exact .inl h1
  ·exact .inr ⟨b, k, e1, h1.lies⟩
 case own o m =>
  simp only [Rep] at hr
  obtain ⟨⟨x, hx, _, hn, hp⟩, _⟩ := hr
  simp [hx] at h
  obtain ⟨hv, rfl, rfl⟩ := h
  obtain ⟨e, he, ho⟩ := g.get hx
  have h2 := hp hv
  simp only [he, OwnV] at h2
  cases e with
  | none =>
   obtain ⟨h3, h4⟩ := ho
   obtain ⟨a, rfl⟩ := h2
   have : m = 0 := by omega
   subst this
   exact ⟨a, 0, [], rfl, qg _, .inl rfl, by rw [h4]; simp [RepL]⟩
  | some p =>
   obtain ⟨b, cap⟩ := p
   obtain ⟨cur, ⟨fr, q1, _⟩, q2, q3, q4, q5, q6, q7⟩ := ho
   exact ⟨_, cap, _, h2, by omega, .inr ⟨b, 0, rfl, J3 (m := x.cs.length) q1 (fun v hv => q7 v (qG hv))⟩, q6⟩
 case ownc o m c =>
  simp only [Rep] at hr
  obtain ⟨⟨x, hx, _, hn, hp⟩, _⟩ := hr
  simp [hx] at h
  obtain ⟨hv, rfl, rfl⟩ := h
  obtain ⟨e, he, ho⟩ := g.get hx
  have h2 := (hp hv).1
  simp only [he, OwnV] at h2
  cases e with
  | none =>
   obtain ⟨h3, h4⟩ := ho
   obtain ⟨a, rfl⟩ := h2
   have : m = 0 := by omega
   subst this
   exact ⟨a, 0, [], rfl, qg _, .inl rfl, by rw [h4]; simp [RepL]⟩
  | some p =>
   obtain ⟨b, cap⟩ := p
   obtain ⟨cur, ⟨fr, q1, _⟩, q2, q3, q4, q5, q6, q7⟩ := ho
   exact ⟨_, cap, _, h2, by omega, .inr ⟨b, 0, rfl, J3 (m := x.cs.length) q1 (fun v hv => q7 v (qG hv))⟩, q6⟩
 case view o ver k m =>
  simp only [Rep] at hr
  obtain ⟨⟨x, hx, _, hn, hp⟩, _⟩ := hr
  simp [hx] at h
  obtain ⟨⟨hv, hle⟩, rfl, rfl⟩ := h
  obtain ⟨a, cap, rfl, hc, h2⟩ := hp hv
  by_cases hm : m = 0
  ·subst hm
   exact ⟨a, cap, [], rfl, hc, .inl rfl, by simp [RepL]⟩
  ·rcases h2 with h2 | ⟨b, c, he, rfl⟩
   ·exact absurd h2 hm
   ·obtain ⟨cur, ⟨fr, q1, _⟩, q2, q3, q4, q5, q6, q7⟩ := g.ok o x _ hx he
    have := ((J3 (m := x.cs.length) q1 (fun v hv => q7 v (qG hv))).drop k).take (m * sz)
    rw [qY] at this
    exact ⟨_, cap, _, rfl, hc, .inr ⟨b, k, rfl, this⟩, (q6.drop k).take _⟩
theorem Zy {P : Program} {w : World} {b k : Nat} {vs : List Value} (h : QiY w b k vs) : (loadCells ⟨b, k, none⟩ vs.length).run P w = .ok vs.toArray w :=
 run_loadCells_list (P := P) w _ vs fun j v hv => by rw [Q9]; exact (h j v hv).1
theorem XL {P : Program} {X : Cx} {w : World} {t : TypeId} {sz : Option Nat} (ha : Xp P t = some sz) {b k : Nat} {cs : List AV} {vs : List Value} (hl : QiY w b k vs) (hr : RepL X cs vs) {c : AV}
  (hc : (sz = none ∧ cs.head? = some c) ∨ ∃ n, sz = some n ∧ n ≤ cs.length ∧ c = .agg (cs.take n)) : ∃ v, (loadVar t ⟨b, k, none⟩).run P w = .ok v w ∧ Rep X c v := by
 obtain ⟨h1, h2⟩ := QgG ha w
 rcases hc with ⟨rfl, hc⟩ | ⟨n, rfl, hle, rfl⟩
 ·obtain ⟨v, hv1, hv2⟩ := hr.get 0 c (by simpa [List.head?_eq_getElem?] using hc)
  have h3 : w.cell? ⟨b, k, none⟩ = some v := (hl 0 v hv1).1
  exact ⟨v, by simp [loadVar, h1, h3], hv2⟩
 ·have hlen := hr.length
  have h3 := Zy (P := P) (hl.take n)
  rw [qX, q8 (by omega)] at h3
  refine ⟨.agg (vs.take n).toArray, by simp [loadVar, h1, h2 n rfl, h3], ?_⟩
  simp only [Rep]
  exact ⟨vs.take n, rfl, hr.take n⟩
theorem QgM {X : Cx} {c : AV} {v : Value} (h : c.one = true) (hr : Rep X c v) : v.oneCell' = true := by
 cases c <;> simp [AV.one] at h <;> simp only [Rep] at hr
 case int => subst hr; rfl
 case bool => subst hr; rfl
 case ubool => obtain ⟨b, rfl⟩ := hr; rfl
 case str => subst hr; rfl
 case lit => subst hr; exact h
 case emp => obtain ⟨a, rfl, _⟩ := hr; rfl
 case list => obtain ⟨a, cap, vs, rfl, _⟩ := hr; rfl
 case cell => obtain ⟨b, k, vs, rfl, _⟩ := hr; rfl
 case own => exact hr.2
 case ownc => exact hr.2
 case view => exact hr.2
 case ref => exact hr.2
 case fn => obtain ⟨va, vb, rfl, _⟩ := hr; rfl
theorem QlS {v : Value} (h : v.oneCell' = true) : v.cells = #[v] := by
 cases v <;> first | rfl | (simp [Value.oneCell'] at h)
theorem QaV {X : Cx} : ∀ {cs : List AV} {vs : List Value}, cs.all AV.one = true → RepL X cs vs → ∀ v ∈ vs, v.oneCell' = true
 | [], _, _, g => by simp only [RepL] at g; subst g; simp
 | c :: cs, _, h, g => by
  simp only [RepL] at g
  obtain ⟨v, rest, rfl, g1, g2⟩ := g
  simp only [List.all_cons, qf] at h
  intro u hu
  rcases qo.1 hu with rfl | hu
  ·exact QgM h.1 g1
  ·exact QaV h.2 g2 u hu
theorem Xs {X : Cx} {av : AV} {v : Value} (hr : Rep X av v) (h : (Qh av).all AV.one = true) :
  ∃ vs, v.cells = vs.toArray ∧ RepL X (Qh av) vs ∧ ∀ u ∈ vs, u.oneCell' = true := by
 by_cases ha : ∃ cs, av = .agg cs
 ·obtain ⟨cs, rfl⟩ := ha
  simp only [Rep] at hr
  obtain ⟨vs, rfl, h2⟩ := hr
  exact ⟨vs, rfl, h2, QaV h h2⟩
 ·have hp : Qh av = [av] := by
   cases av <;> first | rfl | exact absurd ⟨_, rfl⟩ ha
  rw [hp] at h ⊢
  have h1 : av.one = true := by simpa using h
  have h2 := QgM h1 hr
  exact ⟨[v], QlS h2, by simp [RepL, hr], by simpa using h2⟩
section
variable {P : Program} {B : Nat} {X : Cx} (g : Held B X) {ρ : Operand → Value} {η : Operand → AV} (hρ : ∀ x, Rep X (η x) (ρ x)) {o : Oper}
include g hρ
theorem Qjq {t : TypeId} {x : Operand} {sz : Option Nat} {cs : List AV} {c : AV} (ho : o.op = .load t x) (ha : Xp P t = some sz) (hx : ZJ X.ob (η x) = some cs)
  (hc : (sz = none ∧ cs.head? = some c) ∨ ∃ n, sz = some n ∧ n ≤ cs.length ∧ c = .agg (cs.take n)) : Eff B X ((execOp ρ o).run P X.w) c X.ob := by
 obtain ⟨b, k, vs, hv, hl, hr⟩ := Jn g hx (hρ x)
 obtain ⟨v, h1, h2⟩ := XL (P := P) ha hl hr hc
 exact Eff.pure g (v := v) (by simp [execOp, ho, hv, Instr.loadAt, Instr.sureAddr, h1]) h2
theorem QlK {t : TypeId} {x v : Operand} {sz oo ver k : Nat} {b : Ob} (ho : o.op = .store t x v) (ha : szO P t = some sz) (hx : η x = .ref oo ver k) (hb : X.ob[oo]? = some b) (hv : b.n = ver) (hz : b.fz ≤ k)
  (hl : (Qh (η v)).length = sz) (hle : k + sz ≤ b.cs.length) (h1 : (Qh (η v)).all AV.one = true) :
  Eff B X ((execOp ρ o).run P X.w) (.tup []) (X.ob.set oo { b with cs := b.cs.take k ++ Qh (η v) ++ b.cs.drop (k + sz) }) := by
 have hr := hρ x
 rw [hx] at hr
 simp only [Rep] at hr
 obtain ⟨⟨y, hy, _, _, hp⟩, _⟩ := hr
 rw [hb] at hy
 cases hy
 obtain ⟨bb, cap, he, hpx⟩ := hp hv
 obtain ⟨cur, ⟨fr, q1, hfr⟩, q2, q3, q4, q5, q6, q7⟩ := g.ok oo b _ hb he
 obtain ⟨vs, hvc, hvr, hvo⟩ := Xs (hρ v) h1
 have hvl := hvr.length
 have hcs : b.cs.length ≤ cur.size := by rw [q5, q2]; exact qu _ q3
 have hrun := Xf P bb k b.ty vs 0 cur X.w q1 ⟨hfr, by omega⟩ (by omega) hvo
 unfold szO at ha
 obtain ⟨i, hi, rfl⟩ := qa.1 ha
 simp only [yA] at hrun
 have hnew : (cur.toList.take k ++ vs ++ cur.toList.drop (k + vs.length)).length = cur.size := by
  simp; omega
 have htk : (cur.toList.take k ++ vs ++ cur.toList.drop (k + vs.length)).take b.cs.length =
   (cur.toList.take b.cs.length).take k ++ vs ++ (cur.toList.take b.cs.length).drop (k + vs.length) := by
  rw [qM, je, je, jd, qX, q8 (by simp; omega : k ≤ cur.toList.length), Nat.min_eq_right (by omega : k ≤ b.cs.length), qU (by omega : vs.length ≤ b.cs.length - k)]
  rw [qM, List.drop_take, jd, q8 (by omega : k ≤ b.cs.length)]
  congr 3
  omega
 have hlen : (b.cs.take k ++ Qh (η v) ++ b.cs.drop (k + i.size)).length = b.cs.length := by simp; omega
 obtain ⟨w1, w2, w3⟩ := g.rewrite hb he q1 hfr (cur.toList.take k ++ vs ++ cur.toList.drop (k + vs.length)).toArray { b with cs := b.cs.take k ++ Qh (η v) ++ b.cs.drop (k + i.size) } rfl rfl (qg _) (qg _) q3
  (by rw [jc]; exact hnew)
  (fun j hj => by
   simp only [yz]
   rw [qM, qj (by simp; omega), yk (by omega)]
   simp)
  (by rw [hlen]; exact q5)
  (by rw [hlen, htk, ← hl, ← hvl]; exact ((q6.take k).append hvr).append (q6.drop _))
  (by
   intro u hu
   simp only [qp] at hu
   rcases hu with (hu | hu) | hu
   ·exact q7 u (qG hu)
   ·exact hvo u hu
   ·exact q7 u (yU hu))
 refine ⟨undef, _, X.be, .inr ⟨?_, rfl⟩, w3, w1, w2, by simp [Rep, undef, RepL]⟩
 simp [execOp, ho, hpx, Instr.storeAt, Instr.sureAddr, storeVar, hvc, hvl, hl, sizeOf, typeInfo, hi, hrun]
end
end Go.Am
/- The abstract machine: addresses, slices, lengths. -/
namespace Go.Am
open Go.RowKit
theorem Qj6 (s : List UInt8) (l h : Nat) : (ByteArray.mk s.toArray).extract l h = ByteArray.mk ((s.take h).drop l).toArray := by
 apply ByteArray.ext
 simp [List.drop_take]
section
variable {P : Program} {B : Nat} {X : Cx} (g : Held B X) {ρ : Operand → Value} {η : Operand → AV} (hρ : ∀ x, Rep X (η x) (ρ x)) {o : Oper}
include g hρ
theorem Qfg {x : Operand} {oo ver k : Nat} {b : Ob} (hx : η x = .ref oo ver k) (hb : X.ob[oo]? = some b) (hv : b.n = ver) :
  b.sz ≠ 0 ∧ ∃ bb cap, X.be[oo]? = some (some (bb, cap)) ∧ ρ x = .pointer (some ⟨bb, k, none⟩) := by
 have hr := hρ x
 rw [hx] at hr
 simp only [Rep] at hr
 obtain ⟨⟨y, hy, hy0, _, hp⟩, _⟩ := hr
 rw [hb] at hy
 cases hy
 obtain ⟨bb, cap, he, hpx⟩ := hp hv
 exact ⟨hy0, bb, cap, he, hpx⟩
theorem Qdn {oo ver k : Nat} {b : Ob} {bb cap : Nat} (hb : X.ob[oo]? = some b) (hb0 : b.sz ≠ 0) (hv : b.n = ver) (he : X.be[oo]? = some (some (bb, cap))) : Rep X (.ref oo ver k) (.pointer (some ⟨bb, k, none⟩)) := by
 simp only [Rep]
 exact ⟨⟨b, hb, hb0, by omega, fun _ => ⟨bb, cap, he, rfl⟩⟩, rfl⟩
theorem Qbm {oo ver k n : Nat} {b : Ob} (hb : X.ob[oo]? = some b) (hb0 : b.sz ≠ 0) (hv : b.n = ver) {a : Option Addr} {cap : Nat} (hc : n ≤ cap) (h : n = 0 ∨ ∃ bb c, X.be[oo]? = some (some (bb, c)) ∧ a = some ⟨bb, k, none⟩) :
  Rep X (.view oo ver k n) (.slice a n cap) := by
 simp only [Rep]
 exact ⟨⟨b, hb, hb0, by omega, fun _ => ⟨a, cap, rfl, hc, h⟩⟩, rfl⟩
theorem Qi8 {X : Cx} {x : Operand} {ρ : Operand → Value} {cs : List AV} (hr : Rep X (.cell cs) (ρ x)) (n : Nat) : ∃ b k, ρ x = .pointer (some ⟨b, k, none⟩) ∧ Rep X (.cell (cs.drop n)) (.pointer (some ⟨b, k + n, none⟩)) := by
 simp only [Rep] at hr ⊢
 obtain ⟨b, k, vs, e, h1, h2⟩ := hr
 refine ⟨b, k, e, b, k + n, vs.drop n, rfl, fun i v hv => ?_, h2.drop n⟩
 rw [yM] at hv
 have := h1 (n + i) v hv
 rwa [show k + n + i = k + (n + i) by omega]
theorem Qfy {x : Operand} {oo ver k : Nat} {b : Ob} (ho : o.op = .nilCheck x) (hx : η x = .ref oo ver k) (hb : X.ob[oo]? = some b) (hv : b.n = ver) : Eff B X ((execOp ρ o).run P X.w) (.ref oo ver k) X.ob := by
 obtain ⟨hy0, bb, cap, he, hp⟩ := Qfg g hρ hx hb hv
 exact Eff.pure g (v := ρ x) (by simp [execOp, ho, hp]) (by rw [hp]; exact Qdn g hρ hb hy0 hv he)
theorem Qed {x : Operand} {cs : List AV} (ho : o.op = .nilCheck x) (hx : η x = .cell cs) : Eff B X ((execOp ρ o).run P X.w) (.cell cs) X.ob := by
 have hr := hρ x
 rw [hx] at hr
 have hr2 := hr
 simp only [Rep] at hr2
 obtain ⟨b, k, vs, e, _, _⟩ := hr2
 exact Eff.pure g (v := ρ x) (by simp [execOp, ho, e]) hr
theorem Qg8 {x : Operand} {f : FuncId} {fs cs : List AV} (ho : o.op = .nilCheck x) (hx : η x = .fn (.func f) fs cs) : Eff B X ((execOp ρ o).run P X.w) (.fn (.func f) fs cs) X.ob := by
 have hr := hρ x
 rw [hx] at hr
 have hr2 := hr
 simp only [Rep] at hr2
 obtain ⟨va, vb, e, _, _⟩ := hr2
 exact Eff.pure g (v := ρ x) (by simp [execOp, ho, e]) hr
theorem Qao {w : World} {b k : Nat} {fd : Field} {sz : Nat} (hs : szO P fd.type = some sz) (h0 : sz ≠ 0) : (fieldPlace ⟨b, k, none⟩ fd).run P w = .ok ⟨b, k + fd.offset, none⟩ w := by
 unfold szO at hs
 obtain ⟨i, hi, rfl⟩ := qa.1 hs
 simp [fieldPlace, sizeOf, typeInfo, hi, h0, Q9]
theorem QfB {x : Operand} {t : TypeId} {f : Nat} {fields : Array Field} {fd : Field} {sz oo ver k : Nat} {b : Ob} (ho : o.op = .fieldAddr t x f) (ht : P.underlying t = some (.struct fields)) (hf : fields[f]? = some fd)
  (hs : szO P fd.type = some sz) (h0 : sz ≠ 0) (hx : η x = .ref oo ver k) (hb : X.ob[oo]? = some b) (hv : b.n = ver) : Eff B X ((execOp ρ o).run P X.w) (.ref oo ver (k + fd.offset)) X.ob := by
 obtain ⟨hy0, bb, cap, he, hp⟩ := Qfg g hρ hx hb hv
 have := Qao g hρ (P := P) (w := X.w) (b := bb) (k := k) hs h0
 exact Eff.pure g (v := .pointer (some ⟨bb, k + fd.offset, none⟩)) (by simp [execOp, ho, hp, Instr.fieldAt, run_underlying ht, hf, Instr.sureAddr, this]) (Qdn g hρ hb hy0 hv he)
theorem Qef {x : Operand} {t : TypeId} {f : Nat} {fields : Array Field} {fd : Field} {sz : Nat} {cs : List AV} (ho : o.op = .fieldAddr t x f) (ht : P.underlying t = some (.struct fields)) (hf : fields[f]? = some fd)
  (hs : szO P fd.type = some sz) (h0 : sz ≠ 0) (hx : η x = .cell cs) : Eff B X ((execOp ρ o).run P X.w) (.cell (cs.drop fd.offset)) X.ob := by
 have hr := hρ x
 rw [hx] at hr
 obtain ⟨bb, k, hp, hr2⟩ := Qi8 g hρ hr fd.offset
 have := Qao g hρ (P := P) (w := X.w) (b := bb) (k := k) hs h0
 exact Eff.pure g (v := .pointer (some ⟨bb, k + fd.offset, none⟩)) (by simp [execOp, ho, hp, Instr.fieldAt, run_underlying ht, hf, Instr.sureAddr, this]) hr2
theorem QcR {x i : Operand} {t e : TypeId} {sz n : Nat} {k : IntKind} {j : Int} {cs : List AV} (ho : o.op = .indexAddr t x i) (ht : P.underlying t = some (.slice e)) (hs : szO P e = some sz)
  (hi : η i = .int k j) (hx : η x = .list n cs) (h0 : 0 ≤ j) (h1 : j < n) (h2 : j.toNat * sz < cs.length) : Eff B X ((execOp ρ o).run P X.w) (.cell (cs.drop (j.toNat * sz))) X.ob := by
 have ei := Q2 g hρ hi
 have hr := hρ x
 rw [hx] at hr
 simp only [Rep] at hr
 obtain ⟨a, cap, vs, e1, _, h3, h4⟩ := hr
 have hl := h4.length
 unfold szO at hs
 obtain ⟨ii, hii, rfl⟩ := qa.1 hs
 rcases h3 with rfl | ⟨b, kk, rfl, h3⟩
 ·simp at hl; omega
 ·refine Eff.pure g (v := .pointer (some ⟨b, kk + j.toNat * ii.size, none⟩)) (by simp [execOp, ho, ei, e1, Instr.indexAt, asIntOf, run_underlying ht, h0, h1, sizeOf, typeInfo, hii, Q9]) ?_
  simp only [Rep]
  refine ⟨b, _, vs.drop (j.toNat * ii.size), rfl, fun m v hv => ?_, h4.drop _⟩
  rw [yM] at hv
  have := h3 _ v hv
  rwa [show kk + j.toNat * ii.size + m = kk + (j.toNat * ii.size + m) by omega]
theorem QfA {x i : Operand} {t e : TypeId} {sz n oo : Nat} {k : IntKind} {j : Int} {b : Ob} (ho : o.op = .indexAddr t x i) (ht : P.underlying t = some (.slice e)) (hs : szO P e = some sz)
  (hi : η i = .int k j) (hx : η x = .own oo n) (hb : X.ob[oo]? = some b) (hv : b.n = n) (h0 : 0 ≤ j) (h1 : j < n) : Eff B X ((execOp ρ o).run P X.w) (.ref oo n (j.toNat * sz)) X.ob := by
 have ei := Q2 g hρ hi
 have hr := hρ x
 rw [hx] at hr
 simp only [Rep] at hr
 obtain ⟨⟨y, hy, hy0, _, hp⟩, _⟩ := hr
 rw [hb] at hy
 cases hy
 have h2 := hp hv
 obtain ⟨e2, he, hob⟩ := g.get hb
 unfold szO at hs
 obtain ⟨ii, hii, rfl⟩ := qa.1 hs
 cases e2 with
 | none => have := hob.1; omega
 | some p =>
  obtain ⟨bb, cap⟩ := p
  simp only [he, OwnV] at h2
  exact Eff.pure g (v := .pointer (some ⟨bb, 0 + j.toNat * ii.size, none⟩)) (by simp [execOp, ho, ei, h2, Instr.indexAt, asIntOf, run_underlying ht, h0, h1, sizeOf, typeInfo, hii, Q9])
   (by rw [qY]; exact Qdn g hρ hb hy0 hv he)
theorem Qee {x i : Operand} {t e : TypeId} {sz n oo ver kk : Nat} {k : IntKind} {j : Int} {b : Ob} (ho : o.op = .indexAddr t x i) (ht : P.underlying t = some (.slice e)) (hs : szO P e = some sz)
  (hi : η i = .int k j) (hx : η x = .view oo ver kk n) (hb : X.ob[oo]? = some b) (hv : b.n = ver) (h0 : 0 ≤ j) (h1 : j < n) : Eff B X ((execOp ρ o).run P X.w) (.ref oo ver (kk + j.toNat * sz)) X.ob := by
 have ei := Q2 g hρ hi
 have hr := hρ x
 rw [hx] at hr
 simp only [Rep] at hr
 obtain ⟨⟨y, hy, hy0, _, hp⟩, _⟩ := hr
 rw [hb] at hy
 cases hy
 obtain ⟨a, cap, h2, _, h3⟩ := hp hv
 unfold szO at hs
 obtain ⟨ii, hii, rfl⟩ := qa.1 hs
 rcases h3 with h3 | ⟨bb, c, he, rfl⟩
 ·omega
 ·exact Eff.pure g (v := .pointer (some ⟨bb, kk + j.toNat * ii.size, none⟩)) (by simp [execOp, ho, ei, h2, Instr.indexAt, asIntOf, run_underlying ht, h0, h1, sizeOf, typeInfo, hii, Q9]) (Qdn g hρ hb hy0 hv he)
theorem Qcc {x i : Operand} {t e : TypeId} {len sz oo ver kk : Nat} {k : IntKind} {j : Int} {b : Ob} (ho : o.op = .indexAddr t x i) (ht : P.underlying t = some (.array len e)) (hs : szO P e = some sz)
  (hi : η i = .int k j) (hx : η x = .ref oo ver kk) (hb : X.ob[oo]? = some b) (hv : b.n = ver) (h0 : 0 ≤ j) (h1 : j < len) : Eff B X ((execOp ρ o).run P X.w) (.ref oo ver (kk + j.toNat * sz)) X.ob := by
 have ei := Q2 g hρ hi
 obtain ⟨hy0, bb, cap, he, hp⟩ := Qfg g hρ hx hb hv
 unfold szO at hs
 obtain ⟨ii, hii, rfl⟩ := qa.1 hs
 exact Eff.pure g (v := .pointer (some ⟨bb, kk + j.toNat * ii.size, none⟩)) (by simp [execOp, ho, ei, hp, Instr.indexAt, asIntOf, run_underlying ht, h0, h1, sizeOf, typeInfo, hii, Q9, Instr.sureAddr]) (Qdn g hρ hb hy0 hv he)
theorem Qbv {x i : Operand} {t e : TypeId} {len sz : Nat} {k : IntKind} {j : Int} {cs : List AV} (ho : o.op = .indexAddr t x i) (ht : P.underlying t = some (.array len e)) (hs : szO P e = some sz)
  (hi : η i = .int k j) (hx : η x = .cell cs) (h0 : 0 ≤ j) (h1 : j < len) : Eff B X ((execOp ρ o).run P X.w) (.cell (cs.drop (j.toNat * sz))) X.ob := by
 have ei := Q2 g hρ hi
 have hr := hρ x
 rw [hx] at hr
 obtain ⟨bb, kk, hp, hr2⟩ := Qi8 g hρ hr (j.toNat * sz)
 unfold szO at hs
 obtain ⟨ii, hii, rfl⟩ := qa.1 hs
 exact Eff.pure g (v := .pointer (some ⟨bb, kk + j.toNat * ii.size, none⟩)) (by simp [execOp, ho, ei, hp, Instr.indexAt, asIntOf, run_underlying ht, h0, h1, sizeOf, typeInfo, hii, Q9, Instr.sureAddr]) hr2
theorem Qbu {neg : Bool} {t u e : TypeId} {x : Operand} {r : Option Bool} (ho : o.op = .binOp (if neg then .neq else .eql) t x (.const (.slice none 0 0)) u) (hc : ρ (.const (.slice none 0 0)) = .slice none 0 0) (ht : P.underlying t = some (.slice e)) (hx : QmL X.ob (η x) = some r) :
  Eff B X ((execOp ρ o).run P X.w) (match r with | some b => .bool (neg != b) | none => .ubool) X.ob := by
 have key : ∃ a n c, ρ x = .slice a n c ∧ (∀ b, r = some b → a.isNone = b) := by
  have hr := hρ x
  cases hv : η x <;> rw [hv] at hr hx <;> simp [QmL] at hx
  case emp z =>
   simp only [Rep] at hr
   obtain ⟨a, e1, e2⟩ := hr
   refine ⟨a, 0, 0, e1, fun b hb => ?_⟩
   cases z <;> simp at hx <;> subst hx
   ·cases hb
   ·cases hb; simp [e2 rfl]
  case list n cs =>
   simp only [Rep] at hr
   obtain ⟨a, cap, vs, e1, _, h3, h4⟩ := hr
   refine ⟨a, n, cap, e1, fun b hb => ?_⟩
   subst hb
   split at hx
   ·cases hx
   ·rename_i hne
    cases hx
    rcases h3 with rfl | ⟨bb, k, rfl, _⟩
    ·have := h4.length; simp at this; exact absurd this.symm (by simpa using hne)
    ·rfl
  case own oo n =>
   simp only [Rep] at hr
   obtain ⟨⟨y, hy, hy0, _, hp⟩, _⟩ := hr
   simp [hy] at hx
   obtain ⟨hv, hx⟩ := hx
   have h2 := hp hv
   obtain ⟨e2, he, hob⟩ := g.get hy
   cases e2 with
   | none =>
    simp only [he, OwnV] at h2
    obtain ⟨a, h2⟩ := h2
    refine ⟨a, 0, 0, h2, fun b hb => ?_⟩
    subst hb
    have := hob.1
    split at hx
    ·cases hx
    ·omega
   | some p =>
    obtain ⟨bb, cap⟩ := p
    simp only [he, OwnV] at h2
    refine ⟨_, _, _, h2, fun b hb => ?_⟩
    subst hb
    split at hx
    ·cases hx
    ·cases hx; rfl
  case ownc oo n c =>
   simp only [Rep] at hr
   obtain ⟨⟨y, hy, hy0, _, hp⟩, _⟩ := hr
   simp [hy] at hx
   obtain ⟨hv, hx⟩ := hx
   obtain ⟨h2, hcap⟩ := hp hv
   obtain ⟨e2, he, hob⟩ := g.get hy
   cases e2 with
   | none =>
    simp only [he, OwnV] at h2
    obtain ⟨a, h2⟩ := h2
    refine ⟨a, 0, 0, h2, fun b hb => ?_⟩
    subst hb
    simp only [he, QiC] at hcap
    rw [qE hcap.symm] at hx
    cases hx
   | some p =>
    obtain ⟨bb, cap⟩ := p
    simp only [he, OwnV] at h2
    refine ⟨_, _, _, h2, fun b hb => ?_⟩
    subst hb
    split at hx
    ·cases hx
    ·cases hx; rfl
 obtain ⟨a, n, c, e1, e2⟩ := key
 have he := Qk0 (P := P) (w := X.w) ht a n c
 refine Eff.pure g (v := .bool (neg != a.isNone)) ?_ ?_
 ·cases neg <;> simp [execOp, ho, e1, hc, eqGuard, binOp, he]
 ·cases r with
  | none => simp [Rep]
  | some b => simp [Rep, e2 b rfl]
theorem Qit {x : Operand} {c : Call} {t : TypeId} {s : List UInt8} (ho : o.op = .call c) (hc : c.callee = .builtin .len) (ha : c.args = #[x]) (hat : c.argTypes[0]? = some t) (ht : P.underlying t = some .string) (hx : η x = .str s) :
  Eff B X ((execOp ρ o).run P X.w) (.int .i64 s.length) X.ob := by
 have ex := QaU g hρ hx
 exact Eff.pure g (v := .int .i64 s.length) (by simp [execOp, ho, resolve, hc, ha, invoke, builtin, Builtin.len_, hat, run_underlying ht, ex, goInt, Qb6]) (by simp only [Rep])
theorem Qfz {x : Operand} {c : Call} {t e : TypeId} {n sz : Nat} {cs : List AV} (ho : o.op = .call c) (hc : c.callee = .builtin .len) (ha : c.args = #[x]) (hat : c.argTypes[0]? = some t) (ht : P.underlying t = some (.slice e))
  (hx : Qc X.ob sz (η x) = some (n, cs)) : Eff B X ((execOp ρ o).run P X.w) (.int .i64 n) X.ob := by
 obtain ⟨a, cap, vs, ex, _, _, _⟩ := Za g hx (hρ x)
 exact Eff.pure g (v := .int .i64 n) (by simp [execOp, ho, resolve, hc, ha, invoke, builtin, Builtin.len_, hat, run_underlying ht, ex, goInt]) (by simp only [Rep])
theorem Qg9 {x : Operand} {c : Call} {t e : TypeId} {oo ver k n : Nat} {b : Ob} (ho : o.op = .call c) (hc : c.callee = .builtin .len) (ha : c.args = #[x]) (hat : c.argTypes[0]? = some t) (ht : P.underlying t = some (.slice e))
  (hx : η x = .view oo ver k n) (hb : X.ob[oo]? = some b) (hv : b.n = ver) : Eff B X ((execOp ρ o).run P X.w) (.int .i64 n) X.ob := by
 have hr := hρ x
 rw [hx] at hr
 simp only [Rep] at hr
 obtain ⟨⟨y, hy, hy0, _, hp⟩, _⟩ := hr
 rw [hb] at hy
 cases hy
 obtain ⟨a, cap, ex, _, h3⟩ := hp hv
 exact Eff.pure g (v := .int .i64 n) (by simp [execOp, ho, resolve, hc, ha, invoke, builtin, Builtin.len_, hat, run_underlying ht, ex, goInt]) (by simp only [Rep])
theorem Qiu {x : Operand} {c : Call} {t e : TypeId} {n : Nat} (ho : o.op = .call c) (hc : c.callee = .builtin .len) (ha : c.args = #[x]) (hat : c.argTypes[0]? = some t) (ht : P.underlying t = some (.array n e)) :
  Eff B X ((execOp ρ o).run P X.w) (.int .i64 n) X.ob :=
 Eff.pure g (v := .int .i64 n) (by simp [execOp, ho, resolve, hc, ha, invoke, builtin, Builtin.len_, hat, run_underlying ht, goInt]) (by simp only [Rep])
theorem Qdl {x : Option Operand} {l : Int} {y : Nat} (h : loA (x.map (η)) = some l) (h0 : 0 ≤ l) (h1 : l ≤ y) (code : BoundsCode) {w : World} :
  ((match x.map ρ with | some v => Instr.sliceBound v y code | none => pure 0 : Sem Nat)).run P w = .ok l.toNat w := by
 cases x with
 | none => simp [loA] at h; subst h; simp
 | some x =>
  simp only [qS] at h ⊢
  cases hx : η x <;> simp [loA, hx] at h
  subst h
  have := Q2 g hρ hx
  simp [this, Instr.sliceBound, asIntOf, h0, h1]
theorem Qh8 {x : Option Operand} {h : Int} {y len : Nat} (hh : hiA len (x.map (η)) = some h) (h0 : 0 ≤ h) (h1 : h ≤ y) (code : BoundsCode) {w : World} :
  ((match x.map ρ with | some v => Instr.sliceBound v y code | none => pure len : Sem Nat)).run P w = .ok h.toNat w := by
 cases x with
 | none => simp [hiA] at hh; subst hh; simp
 | some x =>
  simp only [qS] at hh ⊢
  cases hx : η x <;> simp [hiA, hx] at hh
  subst hh
  have := Q2 g hρ hx
  simp [this, Instr.sliceBound, asIntOf, h0, h1]
theorem ZU {lo hi : Option Operand} {l h : Int} {len cap : Nat} (isS : Bool) (hl : loA (lo.map (η)) = some l) (hh : hiA len (hi.map (η)) = some h) (h0 : 0 ≤ l) (h1 : l ≤ h) (h2 : h ≤ cap) {w : World} :
  (Instr.sliceBounds isS len cap (lo.map ρ) (hi.map ρ) none).run P w = .ok (l.toNat, h.toNat, cap) w := by
 have a1 := Qh8 g hρ (P := P) (w := w) hh (by omega) h2 (if isS then .sliceAcap else .sliceAlen)
 have a2 := Qdl g hρ (P := P) (w := w) (y := h.toNat) hl h0 (by omega) .sliceB
 cases hi with
 | none =>
  cases lo with
  | none => simp [hiA] at hh; simp [loA] at hl; subst hh; subst hl; simp [Instr.sliceBounds]
  | some x =>
   simp only [qS, Option.map_none] at a1 a2 ⊢
   simp at a1
   simp [Instr.sliceBounds]
   rw [a1]
   simp [a2]
 | some y =>
  simp only [qS] at a1
  cases lo with
  | none => simp [loA] at hl; subst hl; simp [Instr.sliceBounds, a1]
  | some x =>
   simp only [qS] at a2
   simp [Instr.sliceBounds, a1, a2]
theorem Qj9 {x : Operand} {t : TypeId} {lo hi : Option Operand} {s : List UInt8} {l h : Int} (ho : o.op = .slice t x lo hi none) (ht : P.underlying t = some .string) (hx : η x = .str s)
  (hl : loA (lo.map (η)) = some l) (hh : hiA s.length (hi.map (η)) = some h) (h0 : 0 ≤ l) (h1 : l ≤ h) (h2 : h ≤ s.length) :
  Eff B X ((execOp ρ o).run P X.w) (.str ((s.take h.toNat).drop l.toNat)) X.ob := by
 have ex := QaU g hρ hx
 have hb := ZU g hρ (P := P) (w := X.w) false hl hh h0 h1 h2
 refine Eff.pure g (v := .string ⟨((s.take h.toNat).drop l.toNat).toArray⟩) ?_ (by simp only [Rep])
 simp [execOp, ho, ex, Instr.sliceAt, Instr.slice, run_underlying ht, Qb6, hb, Qj6]
end
end Go.Am
/- The abstract machine: slices cut, new blocks. -/
namespace Go.Am
open Go.RowKit
theorem Qh6 {w : World} {b : Nat} {cur : Array Value} {ty : TypeId} {fr : Nat × Nat} (h : w.heap[b]? = some (.cells cur ty fr)) : w.setRow b cur = w := by
 have hlt : b < w.heap.size := (qi.1 h).1
 have he : w.heap[b] = .cells cur ty fr := (qi.1 h).2
 unfold World.setRow
 congr 1
 apply Array.ext
 ·simp
 ·intro i h1 h2
  by_cases hi : b = i
  ·subst hi
   rw [Array.getElem_modify]
   simp [he]
  ·rw [Array.getElem_modify]
   simp [hi]
theorem sub_le {ob : List Ob} {sz n : Nat} {av r : AV} {cs : List AV} {l h : Int} (hs : Qd3 ob sz av l h = some r) (hn : Qc ob sz av = some (n, cs)) : 0 ≤ l ∧ l ≤ h ∧ h ≤ n := by
 unfold Qd3 at hs
 split at hs
 case isFalse => cases hs
 rename_i hlh
 refine ⟨hlh.1, hlh.2, ?_⟩
 cases av <;> simp [Qc] at hn <;> simp only [] at hs
 case emp z => split at hs <;> cases hs; omega
 case list => split at hs <;> cases hs; rename_i hz; omega
 case own oo m =>
  split at hs
  case h_2 => cases hs
  rename_i x hx
  simp [hx] at hn
  split at hs <;> cases hs
  rename_i hz
  omega
 case ownc oo m c =>
  split at hs
  case h_2 => cases hs
  rename_i x hx
  simp [hx] at hn
  split at hs <;> cases hs
  rename_i hz
  omega
 case view oo ver k m =>
  split at hs <;> cases hs
  rename_i hz
  split at hn
  case h_2 => cases hn
  split at hn
  case isFalse => cases hn
  simp at hn
  omega
section
variable {P : Program} {B : Nat} {X : Cx} (g : Held B X) {ρ : Operand → Value} {η : Operand → AV} (hρ : ∀ x, Rep X (η x) (ρ x)) {o : Oper}
include g hρ
theorem Qh9 {sz n : Nat} {av r : AV} {cs : List AV} {a : Option Addr} {cap m : Nat} {l h : Int} (hr : Rep X av (.slice a n cap)) (hn : Qc X.ob sz av = some (n, cs)) (hs : Qd3 X.ob sz av l h = some r) (hle : h ≤ m) (hcap : m ≤ cap ∨ (m : Int) = h) :
  0 ≤ l ∧ l ≤ h ∧ h ≤ n ∧ Rep X r (.slice (if m = l.toNat then a else a.map (·.add (l.toNat * sz))) (h.toNat - l.toNat) (m - l.toNat)) := by
 unfold Qd3 at hs
 split at hs
 case isFalse => cases hs
 rename_i hlh
 obtain ⟨h0, h1⟩ := hlh
 refine ⟨h0, h1, ?_⟩
 have e : (h - l).toNat = h.toNat - l.toNat := by omega
 cases av <;> simp [Qc] at hn <;> simp only [] at hs
 case emp z =>
  split at hs <;> cases hs
  rename_i hz
  obtain ⟨rfl, rfl⟩ := hn
  have : h = 0 := by omega
  subst this
  have : l = 0 := by omega
  subst this
  simp only [Rep] at hr ⊢
  obtain ⟨a', e1, e2⟩ := hr
  cases e1
  have hm : m = 0 := by
   rcases hcap with hc | hc
   ·omega
   ·omega
  subst hm
  refine ⟨by simp, a, ?_, e2⟩
  simp
 case list n' cs' =>
  obtain ⟨rfl, rfl⟩ := hn
  split at hs <;> cases hs
  rename_i hz
  refine ⟨hz.1, ?_⟩
  simp only [Rep] at hr ⊢
  obtain ⟨a', cap', vs, e1, hcc, h3, h4⟩ := hr
  cases e1
  have hvl := h4.length
  rw [e]
  refine ⟨_, _, (vs.drop (l.toNat * sz)).take ((h.toNat - l.toNat) * sz), rfl, by omega, ?_, (h4.drop _).take _⟩
  by_cases hml : m = l.toNat
  ·have : h.toNat - l.toNat = 0 := by omega
   rw [this]; simp
  ·rw [qz hml]
   rcases h3 with rfl | ⟨b, k, rfl, h3⟩
   ·simp
   ·refine .inr ⟨b, k + l.toNat * sz, by simp [Q9], fun i v hv => ?_⟩
    rw [ym] at hv
    split at hv
    ·rw [yM] at hv
     have := h3 _ v hv
     rwa [show k + l.toNat * sz + i = k + (l.toNat * sz + i) by omega]
    ·cases hv
 case own oo n' =>
  split at hs
  case h_2 => cases hs
  rename_i x hx
  simp [hx] at hn
  obtain ⟨hv, rfl, rfl⟩ := hn
  split at hs <;> cases hs
  rename_i hz
  refine ⟨hz.2.1, ?_⟩
  simp only [Rep] at hr
  obtain ⟨⟨y, hy, hy0, _, hp⟩, _⟩ := hr
  rw [hx] at hy
  cases hy
  have h2 := hp hv
  obtain ⟨e2, he, hob⟩ := g.get hx
  cases e2 with
  | none => have := hob.1; omega
  | some p =>
   obtain ⟨bb, c⟩ := p
   simp only [he, OwnV] at h2
   cases h2
   rw [e]
   refine Qbm g hρ hx hy0 hv (by omega) ?_
   by_cases hml : m = l.toNat
   ·exact .inl (by omega)
   ·exact .inr ⟨bb, _, he, by simp [hml, Q9]⟩
 case ownc oo n' c =>
  split at hs
  case h_2 => cases hs
  rename_i x hx
  simp [hx] at hn
  obtain ⟨hv, rfl, rfl⟩ := hn
  split at hs <;> cases hs
  rename_i hz
  refine ⟨hz.2, ?_⟩
  simp only [Rep] at hr
  obtain ⟨⟨y, hy, hy0, _, hp⟩, _⟩ := hr
  rw [hx] at hy
  cases hy
  obtain ⟨h2, _⟩ := hp hv
  obtain ⟨e2, he, hob⟩ := g.get hx
  cases e2 with
  | none =>
   simp only [he, OwnV] at h2
   obtain ⟨a', h2⟩ := h2
   cases h2
   rw [e]
   exact Qbm g hρ hx hy0 hv (by omega) (.inl (by omega))
  | some p =>
   obtain ⟨bb, c'⟩ := p
   simp only [he, OwnV] at h2
   cases h2
   rw [e]
   refine Qbm g hρ hx hy0 hv (by omega) ?_
   by_cases hml : m = l.toNat
   ·exact .inl (by omega)
   ·exact .inr ⟨bb, _, he, by simp [hml, Q9]⟩
 case view oo ver k n' =>
  split at hs <;> cases hs
  rename_i hz
  split at hn
  case h_2 => cases hn
  rename_i x hx
  split at hn
  case isFalse => cases hn
  rename_i hv
  simp at hn
  obtain ⟨rfl, _⟩ := hn
  refine ⟨hz, ?_⟩
  simp only [Rep] at hr
  obtain ⟨⟨y, hy, hy0, _, hp⟩, _⟩ := hr
  rw [hx] at hy
  cases hy
  obtain ⟨a', cap', e1, hcc, h3⟩ := hp hv.1
  cases e1
  rw [e]
  refine Qbm g hρ hx hy0 hv.1 (by omega) ?_
  by_cases hml : m = l.toNat
  ·exact .inl (by omega)
  ·rcases h3 with rfl | ⟨bb, c, he, rfl⟩
   ·exact .inl (by omega)
   ·exact .inr ⟨bb, c, he, by simp [hml, Q9]⟩
theorem Qg7 {x : Operand} {t e : TypeId} {lo hi : Option Operand} {sz n : Nat} {cs : List AV} {l h : Int} {r : AV} (ho : o.op = .slice t x lo hi none) (ht : P.underlying t = some (.slice e)) (hz : szO P e = some sz)
  (hn : Qc X.ob sz (η x) = some (n, cs)) (hl : loA (lo.map (η)) = some l) (hh : hiA n (hi.map (η)) = some h) (hs : Qd3 X.ob sz (η x) l h = some r) : Eff B X ((execOp ρ o).run P X.w) r X.ob := by
 obtain ⟨a, cap, vs, ex, hnc, _, _⟩ := Za g hn (hρ x)
 have hr := hρ x
 rw [ex] at hr
 have hle : h ≤ n := (sub_le hs hn).2.2
 have hc : h ≤ cap := by omega
 obtain ⟨h0, h1, h2, h3⟩ := Qh9 g hρ (m := cap) hr hn hs hc (.inl (qg _))
 have hb := ZU g hρ (P := P) (w := X.w) true hl hh h0 h1 hc
 unfold szO at hz
 obtain ⟨ii, hii, rfl⟩ := qa.1 hz
 exact Eff.pure g (by simp [execOp, ho, ex, Instr.sliceAt, Instr.slice, run_underlying ht, hb, sizeOf, typeInfo, hii]) h3
theorem Qm3 {x : Operand} {t e : TypeId} {lo hi : Option Operand} {sz oo n c : Nat} {l h : Int} {r : AV} {u : Option (Nat × Ob)} (ho : o.op = .slice t x lo hi none) (ht : P.underlying t = some (.slice e)) (hz : szO P e = some sz)
  (hx : η x = .ownc oo n c) (hl : loA (lo.map (η)) = some l) (hh : hiA n (hi.map (η)) = some h) (hs : Qk2 X.ob sz oo n c l h = some (r, u)) : Eff B X ((execOp ρ o).run P X.w) r (app X.ob u) := by
 unfold Qk2 at hs
 split at hs
 ·rename_i hc0
  obtain ⟨rfl, hnh⟩ := hc0
  split at hs
  case h_2 => cases hs
  rename_i x' hob
  split at hs
  case isFalse => cases hs
  rename_i hcond
  obtain ⟨hv, hxs, hhc, hfz⟩ := hcond
  cases hs
  have hr := hρ x
  rw [hx] at hr
  simp only [Rep] at hr
  obtain ⟨⟨y, hy, hy0, _, hp⟩, _⟩ := hr
  rw [hob] at hy
  cases hy
  obtain ⟨h2, hcap⟩ := hp hv
  obtain ⟨e2, he, hok⟩ := g.get hob
  have hol : oo < X.ob.length := (qb.1 hob).1
  have happ : ∀ z : Ob, app X.ob (some (oo, z)) = X.ob.set oo z := fun z => by simp [app, hol]
  have hu : app X.ob (if h.toNat = n then none else some (oo, { x' with n := h.toNat, cs := x'.cs ++ List.replicate ((h.toNat - n) * sz) .any })) = X.ob.set oo { x' with n := h.toNat, cs := x'.cs ++ List.replicate ((h.toNat - n) * sz) .any } := by
   split
   ·rename_i e'
    have h7 : ({ x' with n := h.toNat, cs := x'.cs ++ List.replicate ((h.toNat - n) * sz) .any } : Ob) = x' := by
     rw [e', ← hv, Nat.sub_self, Nat.zero_mul]
     cases x'; simp
    rw [h7]
    apply yl
    intro j
    rw [qq]
    simp only [app]
    split
    ·rename_i e'; subst e'; first | rw [hob] | (rw [qE hol, hob])
    ·rfl
   ·exact happ _
  rw [hu]
  have hz' := hz
  unfold szO at hz'
  obtain ⟨ii, hii, hie⟩ := qa.1 hz'
  cases e2 with
  | none =>
   simp only [he, OwnV] at h2
   obtain ⟨a, h2⟩ := h2
   simp only [he, QiC] at hcap
   have hn0 := hok.1
   have hh0 : h = 0 := by omega
   subst hh0
   have hn' : n = 0 := by omega
   have hsame : X.ob.set oo { x' with n := (0 : Int).toNat, cs := x'.cs ++ List.replicate (((0 : Int).toNat - n) * sz) .any } = X.ob := by
    have : ({ x' with n := (0 : Int).toNat, cs := x'.cs ++ List.replicate (((0 : Int).toNat - n) * sz) .any } : Ob) = x' := by
     cases x'; simp at hn0 ⊢; omega
    rw [this]
    apply yl
    intro j
    rw [qq]
    split
    ·rename_i e'; subst e'; first | rw [hob] | (rw [qE hol, hob])
    ·rfl
   rw [hsame]
   have hb := ZU g hρ (P := P) (w := X.w) (len := n) (cap := 0) true hl hh (by omega) (by omega) (by omega)
   refine Eff.pure g (v := .slice a 0 0) (by simp [execOp, ho, h2, Instr.sliceAt, Instr.slice, run_underlying ht, hn'] at hb ⊢; simp [hb, sizeOf, typeInfo, hii]) ?_
   simp only [Rep]
   exact ⟨⟨x', hob, hy0, by omega, fun _ => ⟨by simp only [he, OwnV]; exact ⟨a, rfl⟩, by simp only [he, QiC]; omega⟩⟩, rfl⟩
  | some p =>
   obtain ⟨bb, cap⟩ := p
   obtain ⟨cur, ⟨fr, q1, hfr⟩, q2, q3, q4, q5, q6, q7⟩ := hok
   simp only [he, OwnV] at h2
   simp only [he, QiC] at hcap
   subst hcap
   have hb := ZU g hρ (P := P) (w := X.w) (len := n) (cap := cap) true hl hh (by omega) (by omega) hhc
   have hcl := q6.length
   have hlen : (x'.cs ++ List.replicate ((h.toNat - n) * sz) AV.any).length = h.toNat * x'.sz := by
    rw [qm, yq, q5, hv, hxs, ← yb]
    congr 1; omega
   have hsz : h.toNat * x'.sz ≤ cur.size := by rw [q2]; exact qu _ (by omega)
   have hpre : x'.cs.length ≤ h.toNat * x'.sz := by rw [q5]; exact qu _ (by omega)
   obtain ⟨w1, w2, w3⟩ := g.rewrite hob he q1 hfr cur { x' with n := h.toNat, cs := x'.cs ++ List.replicate ((h.toNat - n) * sz) .any } rfl rfl (qg _) (by show x'.n ≤ h.toNat; omega) (by show h.toNat ≤ cap; omega) rfl (fun _ _ => rfl) hlen
    (by
     show RepL X (x'.cs ++ List.replicate ((h.toNat - n) * sz) AV.any) (cur.toList.take (x'.cs ++ List.replicate ((h.toNat - n) * sz) AV.any).length)
     rw [hlen]
     have e1 : cur.toList.take (h.toNat * x'.sz) = cur.toList.take x'.cs.length ++ (cur.toList.take (h.toNat * x'.sz)).drop x'.cs.length := by
      have := (yr x'.cs.length (cur.toList.take (h.toNat * x'.sz))).symm
      rwa [jd, q8 hpre] at this
     rw [e1]
     refine q6.append (RepL.of_get _ _ ?_ fun i c v hc _ => ?_)
     ·simp only [yj, qX, Array.length_toList, yq]
      rw [q8 hsz]
      have := hlen
      rw [qm, yq] at this
      omega
     ·have : c = .any := by
       rw [List.getElem?_replicate] at hc
       split at hc <;> cases hc
       rfl
      subst this
      simp only [Rep])
    (fun v hv => q7 v hv)
   refine ⟨.slice (some ⟨bb, 0, none⟩) h.toNat cap, _, X.be, .inl ?_, w3, w1, w2, ?_⟩
   ·have hsw : X.w.setRow bb cur = X.w := Qh6 q1
    show _ = Result.ok _ (X.w.setRow bb cur)
    rw [hsw]
    by_cases hc0 : cap = 0
    ·subst hc0
     have : h = 0 := by omega
     subst this
     simp [execOp, ho, h2, Instr.sliceAt, Instr.slice, run_underlying ht, hb, sizeOf, typeInfo, hii]
    ·simp [execOp, ho, h2, Instr.sliceAt, Instr.slice, run_underlying ht, hb, sizeOf, typeInfo, hii, Q9]
   ·simp only [Rep]
    exact ⟨⟨{ x' with n := h.toNat, cs := x'.cs ++ List.replicate ((h.toNat - n) * sz) .any }, by simp [hol], hy0, qg _, fun _ => ⟨by simp only [he, OwnV], by simp only [he, QiC]⟩⟩, rfl⟩
 ·simp only [qa, yc] at hs
  obtain ⟨r', hs, rfl, rfl⟩ := hs
  cases hq : Qc X.ob sz (AV.ownc oo n c) with
  | some p =>
   obtain ⟨n', cs⟩ := p
   have hn' : n' = n := by
    simp only [Qc] at hq
    split at hq
    ·split at hq <;> cases hq
     rfl
    ·cases hq
   subst hn'
   rw [← hx] at hq hs
   exact Qg7 g hρ ho ht hz hq hl hh hs
  | none =>
   simp only [Qd3] at hs
   simp only [Qc] at hq
   split at hs
   case isFalse => cases hs
   cases hob : X.ob[oo]? with
   | none => rw [hob] at hs; cases hs
   | some x' =>
    rw [hob] at hs hq
    simp only at hs hq
    split at hs
    case isFalse => cases hs
    rename_i hcc
    rw [qE hcc.1] at hq
    cases hq
theorem Qdm {lo : Option Operand} {hi mx : Operand} {k k' : IntKind} {l h : Int} {len cap : Nat} (hl : loA (lo.map (η)) = some l) (hh : η hi = .int k h) (hm : η mx = .int k' h) (h0 : 0 ≤ l) (h1 : l ≤ h) (h2 : h ≤ cap) {w : World} :
  (Instr.sliceBounds true len cap (lo.map ρ) (some (ρ hi)) (some (ρ mx))).run P w = .ok (l.toNat, h.toNat, h.toNat) w := by
 have a2 := Qdl g hρ (P := P) (w := w) (y := h.toNat) hl h0 (by omega) .slice3C
 have eh := Q2 g hρ hh
 have em := Q2 g hρ hm
 have h3 : 0 ≤ h := by omega
 have b1 : (Instr.sliceBound (.int k' h) cap .slice3Acap).run P w = .ok h.toNat w := by simp [Instr.sliceBound, asIntOf, h2, h3]
 have b2 : (Instr.sliceBound (.int k h) h.toNat .slice3B).run P w = .ok h.toNat w := by
  have : h ≤ (h.toNat : Int) := by omega
  simp only [Instr.sliceBound, asIntOf, Sem.run_bind, Sem.run_pure, Result.andThen_ok]
  rw [qE ⟨h3, this⟩]
  rfl
 cases lo with
 | none => simp [loA] at hl; subst hl; simp only [Instr.sliceBounds, eh, em, Option.map_none, Sem.run_bind, b1, b2, Result.andThen_ok, Sem.run_pure, yI]; rfl
 | some x =>
  simp only [qS] at a2
  simp only [Instr.sliceBounds, eh, em, qS, Sem.run_bind, b1, b2, Result.andThen_ok, Sem.run_pure, yI, Option.isSome_some, a2]
theorem QeJ {x hi mx : Operand} {t e : TypeId} {lo : Option Operand} {sz n : Nat} {cs : List AV} {k k' : IntKind} {l h : Int} {r : AV} (ho : o.op = .slice t x lo (some hi) (some mx)) (ht : P.underlying t = some (.slice e)) (hz : szO P e = some sz)
  (hn : Qc X.ob sz (η x) = some (n, cs)) (hl : loA (lo.map (η)) = some l) (hh : η hi = .int k h) (hm : η mx = .int k' h)
  (hs : (l = h ∧ 0 ≤ l ∧ h ≤ n ∧ r = .emp false) ∨ (l ≠ h ∧ Qd3 X.ob sz (η x) l h = some r)) : Eff B X ((execOp ρ o).run P X.w) r X.ob := by
 obtain ⟨a, cap, vs, ex, hnc, _, _⟩ := Za g hn (hρ x)
 have hr := hρ x
 rw [ex] at hr
 unfold szO at hz
 obtain ⟨ii, hii, rfl⟩ := qa.1 hz
 rcases hs with ⟨rfl, h0, h1, rfl⟩ | ⟨hne, hs⟩
 ·have hb := Qdm g hρ (P := P) (w := X.w) (len := n) (cap := cap) hl hh hm h0 (Int.le_refl _) (by omega)
  refine Eff.pure g (v := .slice a 0 0) (by simp [execOp, ho, ex, Instr.sliceAt, Instr.slice, run_underlying ht, hb, sizeOf, typeInfo, hii]) ?_
  simp only [Rep]
  exact ⟨a, rfl, fun h => by cases h⟩
 ·have hle := sub_le hs hn
  have hb := Qdm g hρ (P := P) (w := X.w) (len := n) (cap := cap) hl hh hm hle.1 hle.2.1 (by omega)
  obtain ⟨h0, h1, h2, h3⟩ := Qh9 g hρ (m := h.toNat) hr hn hs (by omega) (.inl (by omega))
  exact Eff.pure g (by simp [execOp, ho, ex, Instr.sliceAt, Instr.slice, run_underlying ht, hb, sizeOf, typeInfo, hii]) h3
theorem Qka {x : Operand} {t e : TypeId} {lo hi : Option Operand} {len sz oo ver k : Nat} {b : Ob} {l h : Int} (ho : o.op = .slice t x lo hi none) (ht : P.underlying t = some (.array len e)) (hz : szO P e = some sz)
  (hx : η x = .ref oo ver k) (hb : X.ob[oo]? = some b) (hv : b.n = ver) (hl : loA (lo.map (η)) = some l) (hh : hiA len (hi.map (η)) = some h) (h0 : 0 ≤ l) (h1 : l ≤ h) (h2 : h ≤ len) :
  Eff B X ((execOp ρ o).run P X.w) (.view oo ver (k + l.toNat * sz) (h - l).toNat) X.ob := by
 obtain ⟨hy0, bb, cap, he, hp⟩ := Qfg g hρ hx hb hv
 have hbd := ZU g hρ (P := P) (w := X.w) false hl hh h0 h1 h2
 unfold szO at hz
 obtain ⟨ii, hii, rfl⟩ := qa.1 hz
 have e1 : (h - l).toNat = h.toNat - l.toNat := by omega
 refine Eff.pure g (v := .slice (some (if len = l.toNat then ⟨bb, k, none⟩ else (⟨bb, k, none⟩ : Addr).add (l.toNat * ii.size))) (h.toNat - l.toNat) (len - l.toNat))
  (by simp [execOp, ho, hp, Instr.sliceAt, run_underlying ht, Instr.sureAddr, hbd, sizeOf, typeInfo, hii]) ?_
 rw [e1]
 refine Qbm g hρ hb hy0 hv (by omega) ?_
 by_cases hml : len = l.toNat
 ·exact .inl (by omega)
 ·exact .inr ⟨bb, cap, he, by simp [hml, Q9]⟩
theorem QdA {x : Operand} {t e : TypeId} {lo hi : Option Operand} {len sz : Nat} {cs : List AV} {l h : Int} (ho : o.op = .slice t x lo hi none) (ht : P.underlying t = some (.array len e)) (hz : szO P e = some sz)
  (hx : η x = .cell cs) (hl : loA (lo.map (η)) = some l) (hh : hiA len (hi.map (η)) = some h) (h0 : l = 0) (h1 : h = len) (h2 : len ≠ 0) :
  Eff B X ((execOp ρ o).run P X.w) (.list len (cs.take (len * sz))) X.ob := by
 have hr := hρ x
 rw [hx] at hr
 simp only [Rep] at hr
 obtain ⟨bb, k, vs, hp, h3, h4⟩ := hr
 have h5 : h ≤ len := by omega
 have hbd := ZU g hρ (P := P) (w := X.w) false hl hh (by omega) (by omega) h5
 unfold szO at hz
 obtain ⟨ii, hii, rfl⟩ := qa.1 hz
 refine Eff.pure g (v := .slice (some (if len = l.toNat then ⟨bb, k, none⟩ else (⟨bb, k, none⟩ : Addr).add (l.toNat * ii.size))) (h.toNat - l.toNat) (len - l.toNat))
  (by simp [execOp, ho, hp, Instr.sliceAt, run_underlying ht, Instr.sureAddr, hbd, sizeOf, typeInfo, hii]) ?_
 subst h0; subst h1
 have e1 : (if len = (0 : Int).toNat then (⟨bb, k, none⟩ : Addr) else (⟨bb, k, none⟩ : Addr).add ((0 : Int).toNat * ii.size)) = ⟨bb, k, none⟩ := by simp [h2, Q9]
 rw [e1]
 simp only [Rep]
 exact ⟨_, len, vs.take (len * ii.size), rfl, qg _, .inr ⟨bb, k, rfl, fun i v hv => h3 i v (by
  rw [ym] at hv
  split at hv
  ·exact hv
  ·cases hv)⟩, h4.take _⟩
end
end Go.Am
/- The abstract machine: new memory: variables, literals, make, append, copy. -/
namespace Go.Am
open Go.RowKit
theorem Z1 {P : Program} {t : TypeId} {z : Value} (h : XR P t = some z) (w : World) : (zeroValue t).run P w = .ok z w := by
 unfold XR at h
 cases hi : P.info? t with
 | none => simp [hi] at h
 | some i =>
  simp [hi] at h
  simp [zeroValue, typeInfo, hi, h]
theorem ZT {P : Program} {t : TypeId} {s : Nat} (h : szO P t = some s) (w : World) : (sizeOf t).run P w = .ok s w := by
 unfold szO at h
 obtain ⟨i, hi, rfl⟩ := qa.1 h
 simp [sizeOf, typeInfo, hi]
section
variable {P : Program} {B : Nat} {X : Cx} (g : Held B X) {ρ : Operand → Value} {η : Operand → AV} (hρ : ∀ x, Rep X (η x) (ρ x)) {o : Oper}
include g hρ
theorem QeK {id : Nat} (hid : QhS X.ob id) {t : TypeId} {u : Value} {vs : List Value} {cs : List AV} (h0 : cs.length ≠ 0) (hv : u.cells = vs.toArray) (hr : RepL X cs vs) (h1 : ∀ v ∈ vs, v.oneCell' = true) (hrun : (execOp ρ o).run P X.w = .ok (.value (.pointer (some ⟨X.w.heap.size, 0, none⟩))) (X.w.alloc (.cells u.cells t))) :
  Eff B X ((execOp ρ o).run P X.w) (.ref id 1 0) (XD X.ob id ⟨t, cs.length, 1, cs, 0⟩) := by
 have hl := hr.length
 have htk : (vs.toArray.toList.take cs.length) = vs := by simp [← hl]
 obtain ⟨be', w1, w2, w3, w4, w5⟩ := g.place hid vs.toArray ⟨t, cs.length, 1, cs, 0⟩ 1 h0 (by simp [hl]) (qg _) (by simp [maxLen]) (by simp) (by rw [htk]; exact hr) (by simpa using h1)
 refine ⟨_, _, be', .inl hrun, by rw [hv]; exact w3, by rw [hv]; exact w1, by rw [hv]; exact w2, ?_⟩
 simp only [Rep]
 exact ⟨⟨⟨t, cs.length, 1, cs, 0⟩, w5, h0, qg _, fun _ => ⟨X.w.heap.size, 1, w4, rfl⟩⟩, rfl⟩
theorem QlN {id : Nat} (hid : QhS X.ob id) {t : TypeId} {z : Value} (ho : o.op = .alloc t) (hz : XR P t = some z) (h0 : (z.cells.toList.map cV1).length ≠ 0) (h1 : (z.cells.toList.map cV1).all AV.one = true) :
  Eff B X ((execOp ρ o).run P X.w) (.ref id 1 0) (XD X.ob id ⟨t, (z.cells.toList.map cV1).length, 1, z.cells.toList.map cV1, 0⟩) := by
 refine QeK g hρ hid (u := z) (vs := z.cells.toList) h0 (by simp) (RepL.map_cV1 X _) (QaV h1 (RepL.map_cV1 X _)) ?_
 simp [execOp, ho, Instr.alloc, Z1 hz, newVar, newRow]
theorem Qob {id : Nat} (hid : QhS X.ob id) {t : TypeId} {x : Operand} (ho : o.op = .box t x) (h0 : (Qh (η x)).length ≠ 0) (h1 : (Qh (η x)).all AV.one = true) :
  Eff B X ((execOp ρ o).run P X.w) (.ref id 1 0) (XD X.ob id ⟨t, (Qh (η x)).length, 1, Qh (η x), 0⟩) := by
 obtain ⟨vs, hv, hr, h2⟩ := Xs (hρ x) h1
 refine QeK g hρ hid h0 hv hr h2 ?_
 simp [execOp, ho, Instr.box, newVar, newRow]
end
theorem Qlz (vs : List Value) : ∀ (off k : Nat) (cells : Array Value), off + k + vs.length ≤ cells.size →
  ((vs.toArray.zipIdx k).foldl (fun cs p => cs.setIfInBounds (off + p.2) p.1) cells) = (cells.toList.take (off + k) ++ vs ++ cells.toList.drop (off + k + vs.length)).toArray := by
 induction vs with
 | nil => intro off k cells _; rw [← Array.foldl_toList]; simp
 | cons v vs ih =>
  intro off k cells h
  simp only [qn] at h
  rw [← Array.foldl_toList]
  have e : ((v :: vs).toArray.zipIdx k).toList = (v, k) :: (vs.toArray.zipIdx (k + 1)).toList := by simp
  rw [e, List.foldl_cons]
  have := ih off (k + 1) (cells.setIfInBounds (off + k) v) (by simp; omega)
  rw [← Array.foldl_toList] at this
  rw [this]
  apply congrArg List.toArray
  have e2 := list_seg_step cells.toList (off + k) v vs (by simp; omega)
  simpa [Array.toList_setIfInBounds, Nat.add_assoc] using e2
theorem Xu {X : Cx} {place : Nat → Option (Nat × Nat)} : ∀ (ps : List (Nat × Nat × AV)) (qs : List (Nat × Value)) (z : List AV) (zv : List Value) (cs : List AV), RepL X z zv → z.all AV.one = true →
  ps.length = qs.length → (∀ (i : Nat) (p : Nat × Nat × AV) (q : Nat × Value), ps[i]? = some p → qs[i]? = some q → place q.1 = some (p.1, p.2.1) ∧ Rep X p.2.2 q.2) → X3 z ps = some cs →
  ∃ cv, Instr.fill place zv.toArray qs = some cv.toArray ∧ RepL X cs cv ∧ ∀ u ∈ cv, u.oneCell' = true
 | [], qs, z, zv, cs, hr, h1, hl, _, h => by
  have : qs = [] := qw (by simpa using hl.symm)
  subst this
  simp [X3] at h
  subst h
  exact ⟨zv, by simp [Instr.fill], hr, QaV h1 hr⟩
 | (off, sz, v) :: ps, [], _, _, _, _, _, hl, _, _ => by simp at hl
 | (off, sz, v) :: ps, (i, u) :: qs, z, zv, cs, hr, h1, hl, hp, h => by
  obtain ⟨p1, p2⟩ := hp 0 (off, sz, v) (i, u) (by simp) (by simp)
  simp only at p1 p2
  simp only [X3] at h
  split at h
  case isFalse => cases h
  rename_i hcond
  simp only [qf, beq_iff_eq, ql] at hcond
  obtain ⟨⟨h2, h3⟩, h4⟩ := hcond
  obtain ⟨vs, e1, e2, e3⟩ := Xs p2 h2
  have hvl := e2.length
  have hzl := hr.length
  have hfold := Qlz vs off 0 zv.toArray (by simp; omega)
  simp only [yA] at hfold
  obtain ⟨cv, r1, r2, r3⟩ := Xu (place := place) ps qs (z.take off ++ Qh v ++ z.drop (off + sz)) (zv.take off ++ vs ++ zv.drop (off + vs.length)) cs
   (((hr.take off).append e2).append (by rw [hvl, h3]; exact hr.drop _))
   (by
    rw [qR]
    intro c hc
    simp only [qp] at hc
    rcases hc with (hc | hc) | hc
    ·exact qR.1 h1 c (qG hc)
    ·exact qR.1 h2 c hc
    ·exact qR.1 h1 c (yU hc))
   (by simpa using hl) (fun j p q hj hq => hp (j + 1) p q (by simpa using hj) (by simpa using hq)) h
  refine ⟨cv, ?_, r2, r3⟩
  simp only [Instr.fill, p1]
  have c1 : ¬ (u.cells.size ≠ sz ∨ off + u.cells.size > zv.toArray.size) := by
   rw [e1]; simp; omega
  have c1' : (decide (u.cells.size ≠ sz) || decide (off + u.cells.size > zv.toArray.size)) = false := by simpa using c1
  simp only [c1', ya, yS]
  rw [← r1, e1]
  congr 1
end Go.Am
/- The abstract machine: literals, make, conversions of bytes, append, copy. -/
namespace Go.Am
open Go.RowKit
theorem Qki {P : Program} {fields : Array Field} {parts : Array (Nat × Operand)} {ps : List (Nat × Nat × Operand)} (h : Qju P fields parts = some ps) :
  ps.length = parts.toList.length ∧ ∀ (i : Nat) (p : Nat × Operand) (q : Nat × Nat × Operand), parts.toList[i]? = some p → ps[i]? = some q →
   ∃ f s, fields[p.1]? = some f ∧ szO P f.type = some s ∧ q = (f.offset, s, p.2) := by
 unfold Qju at h
 generalize parts.toList = l at h ⊢
 induction l generalizing ps with
 | nil => simp at h; subst h; simp
 | cons p l ih =>
  simp only [qP, qx, qk, qe] at h
  obtain ⟨q, hq, qs, hqs, h⟩ := h
  cases h
  obtain ⟨h1, h2⟩ := ih hqs
  obtain ⟨f, hf, s, hs, e⟩ := hq
  cases e
  refine ⟨by simp [h1], fun i p' q' hp hq => ?_⟩
  cases i with
  | zero => simp at hp hq; subst hp; subst hq; exact ⟨f, s, hf, hs, rfl⟩
  | succ i => exact h2 i p' q' (by simpa using hp) (by simpa using hq)
theorem Qds {P : Program} {w : World} : ∀ {l : List Field}, (∀ f ∈ l, ∃ s, szO P f.type = some s) →
  ∃ r : List (Nat × Nat), (l.mapM fun f => (do pure (f.offset, ← sizeOf f.type) : Sem (Nat × Nat))).run P w = .ok r w ∧
   r.length = l.length ∧ ∀ (i : Nat) (f : Field) (s : Nat), l[i]? = some f → szO P f.type = some s → r[i]? = some (f.offset, s)
 | [], _ => ⟨[], by simp, rfl, by simp⟩
 | f :: l, h => by
  obtain ⟨s, hs⟩ := h f (by simp)
  obtain ⟨r, h1, h2, h3⟩ := Qds (P := P) (w := w) (l := l) fun f hf => h f (by simp [hf])
  refine ⟨(f.offset, s) :: r, ?_, by simp [h2], fun i f' s' hf hs' => ?_⟩
  ·simp only [qP, Sem.run_bind, ZT hs, Result.andThen_ok, Sem.run_pure, h1]
  ·cases i with
   | zero => simp at hf; subst hf; rw [hs] at hs'; cases hs'; simp
   | succ i => simpa using h3 i f' s' (by simpa using hf) hs'
section
variable {P : Program} {B : Nat} {X : Cx} (g : Held B X) {ρ : Operand → Value} {η : Operand → AV} (hρ : ∀ x, Rep X (η x) (ρ x)) {o : Oper}
include g hρ
theorem QcS {t : TypeId} {parts : Array (Nat × Operand)} {fields : Array Field} {z : Value} {ps : List (Nat × Nat × Operand)} {cs : List AV} (ho : o.op = .build t parts) (ht : P.underlying t = some (.struct fields)) (hz : XR P t = some z)
  (hf : ∀ f ∈ fields.toList, ∃ s, szO P f.type = some s) (hps : Qju P fields parts = some ps) (h1 : (z.cells.toList.map cV1).all AV.one = true)
  (h : X3 (z.cells.toList.map cV1) (ps.map fun p => (p.1, p.2.1, η p.2.2)) = some cs) : Eff B X ((execOp ρ o).run P X.w) (.agg cs) X.ob := by
 obtain ⟨r, q1, q2, q3⟩ := Qds (P := P) (w := X.w) hf
 obtain ⟨c1, c2⟩ := Qki hps
 obtain ⟨cv, e1, e2, e3⟩ := Xu (X := X) (place := (r.toArray[·]?)) (ps.map fun p => (p.1, p.2.1, η p.2.2)) (parts.toList.map fun p => (p.1, ρ p.2)) _ z.cells.toList cs (RepL.map_cV1 X _) h1 (by simp [c1])
  (fun i p q hp hq => by
   simp only [qv, qa] at hp hq
   obtain ⟨p', hp, rfl⟩ := hp
   obtain ⟨q', hq, rfl⟩ := hq
   obtain ⟨f, s, hf1, hf2, rfl⟩ := c2 i q' p' hq hp
   refine ⟨?_, hρ _⟩
   simp only [yz]
   exact q3 _ f s (by simpa using hf1) hf2) h
 have hm : (fields.mapM fun f => (do pure (f.offset, ← sizeOf f.type) : Sem (Nat × Nat))).run P X.w = .ok r.toArray X.w := by
  rw [Array.mapM_eq_mapM_toList]
  simp only [Sem.run_map, q1, Result.andThen_ok]
 refine Eff.pure g (v := .agg cv.toArray) ?_ (by simp only [Rep]; exact ⟨cv, rfl, e2⟩)
 have e0 : z.cells.toList.toArray = z.cells := by simp
 rw [e0] at e1
 have e4 : (parts.map fun x => (x.1, ρ x.2)).toList = parts.toList.map fun p => (p.1, ρ p.2) := by simp
 simp [execOp, ho, Instr.build, Z1 hz, run_underlying ht]
 simp at hm
 simp only [yz] at e1
 rw [hm]
 simp [e1]
theorem QfD {t e : TypeId} {len s : Nat} {parts : Array (Nat × Operand)} {z : Value} {cs : List AV} (ho : o.op = .build t parts) (ht : P.underlying t = some (.array len e)) (hz : XR P t = some z) (hs : szO P e = some s)
  (h1 : (z.cells.toList.map cV1).all AV.one = true) (h : X3 (z.cells.toList.map cV1) (parts.toList.map fun p => (p.1 * s, s, η p.2)) = some cs) : Eff B X ((execOp ρ o).run P X.w) (.agg cs) X.ob := by
 obtain ⟨cv, e1, e2, e3⟩ := Xu (X := X) (place := fun i => some (i * s, s)) (parts.toList.map fun p => (p.1 * s, s, η p.2)) (parts.toList.map fun p => (p.1, ρ p.2)) _ z.cells.toList cs (RepL.map_cV1 X _) h1 (by simp)
  (fun i p q hp hq => by
   simp only [qv, qa] at hp hq
   obtain ⟨p', hp, rfl⟩ := hp
   obtain ⟨q', hq, rfl⟩ := hq
   rw [hp] at hq
   cases hq
   exact ⟨rfl, hρ _⟩) h
 have e0 : z.cells.toList.toArray = z.cells := by simp
 rw [e0] at e1
 exact Eff.pure g (v := .agg cv.toArray) (by simp [execOp, ho, Instr.build, Z1 hz, run_underlying ht, ZT hs, e1]) (by simp only [Rep]; exact ⟨cv, rfl, e2⟩)
theorem QeL {id : Nat} (hid : QhS X.ob id) {e : TypeId} {n sz : Nat} (h0 : sz ≠ 0) {cs : List AV} {vs : List Value} (hn : n ≤ maxLen) (hr : RepL X cs vs) (h1 : ∀ v ∈ vs, v.oneCell' = true) (hl : cs.length = n * sz) {r : Result Next}
  (hrun : r = .ok (.value (.slice (some ⟨X.w.heap.size, 0, none⟩) n n)) (X.w.alloc (.cells vs.toArray e))) :
  Eff B X r (.own id n) (XD X.ob id ⟨e, sz, n, cs, 0⟩) := by
 have hvl := hr.length
 have htk : (vs.toArray.toList.take cs.length) = vs := by simp [← hvl]
 obtain ⟨be', w1, w2, w3, w4, w5⟩ := g.place hid vs.toArray ⟨e, sz, n, cs, 0⟩ n h0 (by simp [hvl, hl]) (qg _) hn hl (by rw [htk]; exact hr) (by simpa using h1)
 refine ⟨_, _, be', .inl hrun, w3, w1, w2, ?_⟩
 simp only [Rep]
 exact ⟨⟨⟨e, sz, n, cs, 0⟩, w5, h0, qg _, fun _ => by simp [w4, OwnV]⟩, rfl⟩
end
theorem QC (z : List AV) : ∀ n, (Qp z n).length = n * z.length
 | 0 => by simp [Qp]
 | n + 1 => by simp [Qp, QC z n, yb, Nat.add_comm]
theorem XE (z : List AV) (hz : 0 < z.length) : ∀ (n i : Nat), i < n * z.length → (Qp z n)[i]? = z[i % z.length]?
 | 0, i, h => by simp at h
 | n + 1, i, h => by
  simp only [Qp]
  rw [yE]
  split
  ·rename_i hi
   rw [Nat.mod_eq_of_lt hi]
  ·rename_i hi
   rw [XE z hz n (i - z.length) (by rw [yb] at h; omega)]
   congr 1
   conv => rhs; rw [show i = (i - z.length) + z.length by omega]
   simp
theorem Q8 {X : Cx} {z : Value} {n sz : Nat} (hs : z.cells.size = sz) (h0 : 0 < sz) :
  RepL X (Qp (z.cells.toList.map cV1) n) (((Array.range (n * sz)).map (z.cells[· % z.cells.size]!)).toList) := by
 subst hs
 refine RepL.of_get _ _ (by simp [QC]) fun i c v hc hv => ?_
 have hi : i < n * z.cells.size := by
  have := (qb.1 hv).1
  simpa using this
 rw [XE _ (by simpa using h0) n i (by simpa using hi)] at hc
 simp only [yO, Array.length_toList, qv, qa] at hc
 obtain ⟨u, hu, rfl⟩ := hc
 have hm : i % z.cells.size < z.cells.size := Nat.mod_lt _ h0
 simp [hi, hm] at hv hu
 rw [← hv, ← hu]
 exact Rep.cV1 X _
theorem ZF {z : List AV} (h : z.all AV.one = true) : ∀ n, (Qp z n).all AV.one = true
 | 0 => rfl
 | n + 1 => by simp only [Qp, List.all_append, h, ZF h n, Bool.and_self]
section
variable {P : Program} {B : Nat} {X : Cx} (g : Held B X) {ρ : Operand → Value} {η : Operand → AV} (hρ : ∀ x, Rep X (η x) (ρ x)) {o : Oper}
include g hρ
theorem Qkb {id : Nat} (hid : QhS X.ob id) {t e : TypeId} {len s : Nat} {parts : Array (Nat × Operand)} {z : Value} {cs : List AV} (ho : o.op = .buildSlice t len parts) (ht : P.underlying t = some (.slice e)) (hs : szO P e = some s) (hz : XR P e = some z)
  (hle : len * s ≤ 16777216) (h1 : (z.cells.toList.map cV1).all AV.one = true) (hzs : (z.cells.toList.map cV1).length = s) (h0 : 0 < s)
  (h : X3 (Qp (z.cells.toList.map cV1) len) (parts.toList.map fun p => (p.1 * s, s, η p.2)) = some cs) : Eff B X ((execOp ρ o).run P X.w) (.own id len) (XD X.ob id ⟨e, s, len, cs, 0⟩) := by
 have hzs' : z.cells.size = s := by simpa using hzs
 obtain ⟨cv, e1, e2, e3⟩ := Xu (X := X) (place := fun i => some (i * s, s)) (parts.toList.map fun p => (p.1 * s, s, η p.2)) (parts.toList.map fun p => (p.1, ρ p.2)) _ _ cs (Q8 (X := X) (n := len) hzs' h0) (ZF h1 len) (by simp)
  (fun i p q hp hq => by
   simp only [qv, qa] at hp hq
   obtain ⟨p', hp, rfl⟩ := hp
   obtain ⟨q', hq, rfl⟩ := hq
   rw [hp] at hq
   cases hq
   exact ⟨rfl, hρ _⟩) h
 have hlen : cs.length = len * s := by
  have : ∀ (ps : List (Nat × Nat × AV)) (z cs : List AV), X3 z ps = some cs → cs.length = z.length := by
   intro ps
   induction ps with
   | nil => intro z cs h; simp [X3] at h; rw [h]
   | cons p ps ih =>
    obtain ⟨off, sz, v⟩ := p
    intro z cs h
    simp only [X3] at h
    split at h
    ·rename_i hc
     simp only [qf, beq_iff_eq, ql] at hc
     rw [ih _ _ h]
     simp; omega
    ·cases h
  rw [this _ _ _ h, QC, hzs]
 have hmul : len ≤ len * s := ja _ h0
 refine QeL g hρ hid (by omega) (vs := cv) (by simp [maxLen]; omega) e2 e3 hlen ?_
 simp only [yV] at e1
 have e4 : (parts.map fun x => (x.1, ρ x.2)).toList = parts.toList.map fun p => (p.1, ρ p.2) := by simp
 have hle' : ¬ (16777216 < len * s) := by omega
 by_cases hl0 : len = 0
 ·subst hl0
  simp at e1
  have r0 : Array.range 0 = #[] := rfl
  simp [r0] at e1
  simp [execOp, ho, Instr.buildSlice, run_underlying ht, ZT hs, e1, newRow, r0]
 ·have hne : ¬ (len * s = 0) := by
   have : 0 < len * s := Nat.mul_pos (by omega) h0
   omega
  simp [execOp, ho, Instr.buildSlice, run_underlying ht, ZT hs, Z1 hz, hle', hne, e1, newRow]
theorem Qis {id : Nat} (hid : QhS X.ob id) {t e : TypeId} {l c : Operand} {s b : Nat} {z : Value} {k k' : IntKind} {n : Int} (ho : o.op = .makeSlice t l c) (ht : P.underlying t = some (.slice e)) (hs : szO P e = some s) (hb : byO P e = some b) (hz : XR P e = some z)
  (hl : η l = .int k n) (hc : η c = .int k' n) (h0 : 0 ≤ n) (hby : n * b ≤ 281474976710656) (hm : n ≤ 9223372036854775807) (h1 : (z.cells.toList.map cV1).all AV.one = true) (hzs : (z.cells.toList.map cV1).length = s) (hs0 : 0 < s) :
  Eff B X ((execOp ρ o).run P X.w) (.own id n.toNat) (XD X.ob id ⟨e, s, n.toNat, Qp (z.cells.toList.map cV1) n.toNat, 0⟩) := by
 have el := Q2 g hρ hl
 have ec := Q2 g hρ hc
 have hzs' : z.cells.size = s := by simpa using hzs
 have hw : IntKind.i64.wrap n = n := by
  simp [IntKind.wrap, IntKind.bits, IntKind.signed]
  omega
 unfold byO at hb
 obtain ⟨i, hi, rfl⟩ := qa.1 hb
 have hs2 : i.size = s := by
  unfold szO at hs
  rw [hi] at hs
  simpa using hs
 refine QeL g hρ hid (by omega) (vs := ((Array.range (n.toNat * s)).map (z.cells[· % z.cells.size]!)).toList) (by simp [maxLen]; omega) (Q8 hzs' hs0) (QaV (ZF h1 _) (Q8 (X := X) hzs' hs0)) (by rw [QC, hzs]) ?_
 have hby' : ¬ (281474976710656 < (i.bytes : Int) * n) := by rw [Int.mul_comm]; omega
 have hneg : ¬ (n < 0) := by omega
 by_cases hn0 : n.toNat = 0
 ·have : n = 0 := by omega
  subst this
  have r0 : Array.range 0 = #[] := rfl
  simp [execOp, ho, Instr.makeSlice, run_underlying ht, el, ec, asInt, asIntOf, typeInfo, hi, hw, ZT hs, newRow, r0]
 ·have hne : ¬ (n.toNat * s = 0) := by
   have : 0 < n.toNat * s := Nat.mul_pos (by omega) hs0
   omega
  simp only [execOp, ho, Instr.makeSlice]
  simp [run_underlying ht, el, ec, asInt, asIntOf, typeInfo, hi, hw, ZT hs, Z1 hz, newRow, hby', hneg, hne]
  congr 2
  apply q9
  simp [Array.toList_range]
theorem QdC {id : Nat} (hid : QhS X.ob id) {t e : TypeId} {l c : Operand} {s b : Nat} {z : Value} {k k' : IntKind} {n m : Int} (ho : o.op = .makeSlice t l c) (ht : P.underlying t = some (.slice e)) (hs : szO P e = some s) (hb : byO P e = some b) (hz : XR P e = some z)
  (hl : η l = .int k n) (hc : η c = .int k' m) (hnm : n < m) (h0 : 0 ≤ n) (hby : m * b ≤ 281474976710656) (hm : m ≤ 9223372036854775807) (h1 : (z.cells.toList.map cV1).all AV.one = true) (hzs : (z.cells.toList.map cV1).length = s) (hs0 : 0 < s) :
  Eff B X ((execOp ρ o).run P X.w) (.own id n.toNat) (XD X.ob id ⟨e, s, n.toNat, Qp (z.cells.toList.map cV1) n.toNat, 0⟩) := by
 have el := Q2 g hρ hl
 have ec := Q2 g hρ hc
 have hzs' : z.cells.size = s := by simpa using hzs
 have hw : IntKind.i64.wrap n = n := by
  simp [IntKind.wrap, IntKind.bits, IntKind.signed]
  omega
 have hwm : IntKind.i64.wrap m = m := by
  simp [IntKind.wrap, IntKind.bits, IntKind.signed]
  omega
 unfold byO at hb
 obtain ⟨i, hi, rfl⟩ := qa.1 hb
 have hle : (Qp (z.cells.toList.map cV1) n.toNat).length ≤ m.toNat * s := by rw [QC, hzs]; exact qu _ (by omega)
 obtain ⟨be', w1, w2, w3, w4, w5⟩ := g.place hid ((Array.range (m.toNat * s)).map (z.cells[· % z.cells.size]!)) ⟨e, s, n.toNat, Qp (z.cells.toList.map cV1) n.toNat, 0⟩ m.toNat (by show s ≠ 0; omega) (by simp) (by show n.toNat ≤ m.toNat; omega) (by simp [maxLen]; omega)
  (by show _ = n.toNat * s; rw [QC, hzs])
  (by
   show RepL X (Qp (z.cells.toList.map cV1) n.toNat) (List.take (Qp (z.cells.toList.map cV1) n.toNat).length _)
   have h2 := (Q8 (X := X) (n := m.toNat) hzs' hs0).take (Qp (z.cells.toList.map cV1) n.toNat).length
   have h3 : (Qp (z.cells.toList.map cV1) m.toNat).take (Qp (z.cells.toList.map cV1) n.toNat).length = Qp (z.cells.toList.map cV1) n.toNat := by
    have hzl : 0 < (z.cells.toList.map cV1).length := by omega
    apply yl
    intro j
    rw [ym]
    split
    ·rename_i hj
     rw [QC] at hj
     rw [XE _ hzl _ _ hj, XE _ hzl _ _ (yB hj (qu _ (by omega)))]
    ·rename_i hj
     rw [qO (by omega)]
   rw [h3] at h2
   exact h2)
  (QaV (ZF h1 _) (Q8 (X := X) hzs' hs0))
 have hby' : ¬ (281474976710656 < (i.bytes : Int) * m) := by rw [Int.mul_comm]; omega
 have hby2 : ¬ (281474976710656 < (i.bytes : Int) * n) := by
  have : (i.bytes : Int) * n ≤ (i.bytes : Int) * m := Int.mul_le_mul_of_nonneg_left (by omega) (by omega)
  omega
 have hneg : ¬ (n < 0) := by omega
 have hnegm : ¬ (m < 0) := by omega
 have hmn : ¬ (m < n) := by omega
 have hne : ¬ (m.toNat * s = 0) := by
  have : 0 < m.toNat * s := Nat.mul_pos (by omega) hs0
  omega
 refine ⟨.slice (some ⟨X.w.heap.size, 0, none⟩) n.toNat m.toNat, _, be', .inl ?_, w3, w1, w2, ?_⟩
 ·simp only [execOp, ho, Instr.makeSlice]
  simp [run_underlying ht, el, ec, asInt, asIntOf, typeInfo, hi, hw, hwm, ZT hs, Z1 hz, newRow, hby', hby2, hneg, hnegm, hmn, hne]
 ·simp only [Rep]
  exact ⟨⟨⟨e, s, n.toNat, _, 0⟩, w5, by show s ≠ 0; omega, qg _, fun _ => by simp [w4, OwnV]⟩, rfl⟩
end
end Go.Am
/- The abstract machine: bytes and strings, append, copy, min, max. -/
namespace Go.Am
open Go.RowKit
theorem RepL.u8_of {X : Cx} : ∀ {cs : List AV} {vs : List Value} {l : List UInt8}, RepL X cs vs → QfE cs = some l → ∃ ns : List Int, vs = ns.map (Value.int .u8) ∧ l = ns.map fun n => UInt8.ofNat n.toNat
 | [], _, l, hr, h => by
  simp only [RepL] at hr
  subst hr
  simp [QfE] at h
  subst h
  exact ⟨[], rfl, rfl⟩
 | c :: cs, _, l, hr, h => by
  simp only [RepL] at hr
  obtain ⟨v, rest, rfl, h1, h2⟩ := hr
  unfold QfE at h
  split at h
  case h_1 e => cases e
  case h_3 => cases h
  rename_i e
  cases e
  simp only [qa] at h
  obtain ⟨l', hl', rfl⟩ := h
  obtain ⟨ns, e1, e2⟩ := RepL.u8_of h2 hl'
  simp only [Rep] at h1
  exact ⟨_ :: ns, by rw [h1, e1]; rfl, by rw [e2]; rfl⟩
theorem Qj5 (ns : List Int) : ∀ s : ByteArray, ns.foldl (fun r n => r.push (UInt8.ofNat n.toNat)) s = s ++ ⟨(ns.map fun n => UInt8.ofNat n.toNat).toArray⟩ := by
 induction ns with
 | nil => intro s; apply ByteArray.ext; simp
 | cons n ns ih =>
  intro s
  rw [List.foldl_cons, ih]
  apply ByteArray.ext
  simp
theorem Qni (X : Cx) (s : List UInt8) : RepL X (u8 s) (s.map fun b => Value.int .u8 b.toNat) := by
 induction s with
 | nil => simp [u8, RepL]
 | cons b s ih => simp only [u8, qC, RepL] at ih ⊢; exact ⟨_, _, rfl, by simp only [Rep], ih⟩
section
variable {P : Program} {B : Nat} {X : Cx} (g : Held B X) {ρ : Operand → Value} {η : Operand → AV} (hρ : ∀ x, Rep X (η x) (ρ x)) {o : Oper}
include g hρ
theorem QlI {x : Operand} {s d e : TypeId} {n : Nat} {cs : List AV} {l : List UInt8} (ho : o.op = .convert s d x) (hs : P.underlying s = some (.slice e)) (he : P.underlying e = some (.int .u8)) (hd : P.underlying d = some .string)
  (hx : Qc X.ob 1 (η x) = some (n, cs)) (hn : n = cs.length) (hl : QfE cs = some l) : Eff B X ((execOp ρ o).run P X.w) (.str l) X.ob := by
 obtain ⟨a, cap, vs, ex, hc, h1, h2⟩ := Za g hx (hρ x)
 obtain ⟨ns, e1, e2⟩ := RepL.u8_of h2 hl
 have hvl := h2.length
 refine Eff.pure g (v := .string ⟨l.toArray⟩) ?_ (by simp only [Rep])
 simp only [execOp, ho, ex, Sem.run_bind, run_convert_bytes_string X.w s d e a n cap hs he hd]
 cases a with
 | none =>
  have : vs = [] := by
   rcases h1 with h1 | ⟨b, k, e, _⟩
   ·exact h1
   ·cases e
  subst this
  have hns : ns = [] := by simpa using e1.symm
  subst hns
  simp at e2
  subst e2
  simp [Conv.bytesToString]
  rfl
 | some a =>
  have hld : (loadCells a n).run P X.w = .ok (ns.map (Value.int .u8)).toArray X.w := by
   rw [← e1]
   rcases h1 with rfl | ⟨b, k, e, h1⟩
   ·simp at hvl
    have : n = 0 := by omega
    subst this
    simp [loadCells, loadCellsFrom]
   ·cases e
    have := Zy (P := P) h1
    rwa [hvl, ← hn] at this
  rw [run_bytesToString X.w a n cap ns hld, Qj5, e2]
  simp
theorem QgI {w' : World} {b n cap : Nat} {cs : List AV} {vs : List Value} (hb : b = X.w.heap.size) (hnc : n ≤ cap) (hr : RepL ⟨w', X.ob, X.be, X.C⟩ cs vs) (h1 : ∀ v ∈ vs, v.oneCell' = true)
  (hc : ∀ i v, vs[i]? = some v → w'.cell? ⟨b, i, none⟩ = some v) : Rep ⟨w', X.ob, X.be, X.C⟩ (.list n cs) (.slice (some ⟨b, 0, none⟩) n cap) := by
 simp only [Rep]
 refine ⟨_, cap, vs, rfl, hnc, .inr ⟨b, 0, rfl, fun i v hv => ?_⟩, hr⟩
 rw [qY]
 refine ⟨⟨hc i v hv, ?_⟩, h1 v (qK hv)⟩
 rintro (h | ⟨o2, x2, c2, q1, q2, q3⟩)
 ·have h2 := g.bnd b i h
  have := g.size
  omega
 ·have := g.block_lt q1 q2
  omega
theorem Qir {x : Operand} {s d e : TypeId} {l : List UInt8} (ho : o.op = .convert s d x) (hs : P.underlying s = some .string) (he : P.underlying e = some (.int .u8)) (hd : P.underlying d = some (.slice e))
  (hx : η x = .str l) : Eff B X ((execOp ρ o).run P X.w) (.list l.length (u8 l)) X.ob := by
 have ex := QaU g hρ hx
 have hrun0 := run_bytes_of_string (P := P) X.w s d e ⟨l.toArray⟩ hs hd he
 rw [Qb6] at hrun0
 generalize hcap : grownCap X.w l.length 0 e = cap at hrun0
 have hge : l.length ≤ cap := by rw [← hcap]; exact grownCap_ge X.w l.length 0 e
 generalize hC : bytesRow ⟨l.toArray⟩ cap = C at hrun0
 have hrun : (execOp ρ o).run P X.w = .ok (.value (.slice (some ⟨X.w.heap.size, 0, none⟩) l.length cap)) (X.w.drew.alloc (.cells C e (C.size, C.size + 1))) := by
  simp only [execOp, ho, ex, Sem.run_bind, hrun0, Result.andThen_ok, Sem.run_pure]
 have hbel : Below X.w.heap.size X.w (X.w.drew.alloc (.cells C e (C.size, C.size + 1))) := ((Below.refl _ _).drew).alloc (qg _) _
 refine ⟨_, _, X.be, .inl hrun, hbel.mono g.size, g.below hbel, Moves.below hbel, ?_⟩
 refine QgI g hρ (vs := l.map fun b => Value.int .u8 b.toNat) rfl hge (Qni _ l) (by intro v hv; simp at hv; obtain ⟨b, _, rfl⟩ := hv; rfl) fun i v hv => ?_
 have hh : (X.w.drew.alloc (.cells C e (C.size, C.size + 1))).heap[X.w.heap.size]? = some (.cells C e (C.size, C.size + 1)) := heap_alloc_new X.w.drew _
 rw [cell_of_row _ _ _ _ _ _ hh, ← hC, bytesRow]
 have hi := (qb.1 hv).1
 simp at hi
 rw [yg (by simpa using hi)]
 simpa using hv
end
end Go.Am
/- The abstract machine: append and copy. -/
namespace Go.Am
open Go.RowKit
theorem zc_one {cells : Array Value} {n : Nat} (h : ∀ v ∈ cells, v.oneCell' = true) (v : Value) (hv : v ∈ (Builtin.zeroCells cells n).toList) : v.oneCell' = true := by
 simp only [Builtin.zeroCells] at hv
 simp only [Array.toList_map, Array.toList_range, qV, yC] at hv
 obtain ⟨i, hi, rfl⟩ := hv
 have h0 : 0 < cells.size := by
  rcases y8 cells.size with h0 | h0
  ·rw [h0] at hi; omega
  ·exact h0
 have hm : i % cells.size < cells.size := Nat.mod_lt _ h0
 rw [getElem!_pos cells _ hm]
 exact h _ (Array.getElem_mem hm)
theorem Qbj {P : Program} {B : Nat} {X : Cx} (g : Held B X) {av : AV} {v : Value} {sz m : Nat} {st : Bool} {cs : List AV} (h : QhP X.ob sz st av = some (m, cs)) (hr : Rep X av v) (hl : cs.length = m * sz) (h0 : 0 < sz) (hstr : st = true → sz = 1) :
  ∃ vs, RepL X cs vs ∧ (∀ u ∈ vs, u.oneCell' = true) ∧ (∀ w, (Builtin.lenOf v).run P w = .ok m w) ∧
   ∀ w', w'.heap = X.w.heap → ∀ k, k ≤ m → (Builtin.firstCells sz k v).run P w' = .ok (vs.take (k * sz)).toArray w' := by
 cases st with
 | true =>
  have h1 : sz = 1 := hstr rfl
  subst h1
  simp only [QhP, yI] at h
  split at h
  case h_2 => cases h
  simp at h
  obtain ⟨rfl, rfl⟩ := h
  simp only [Rep] at hr
  subst hr
  rename_i s
  refine ⟨_, Qni X s, by intro u hu; simp at hu; obtain ⟨b, _, rfl⟩ := hu; rfl, fun w => by simp [Builtin.lenOf, Qb6], fun w' _ k hk => ?_⟩
  simp [Builtin.firstCells, List.map_take]
 | false =>
  have h' : Qc X.ob sz av = some (m, cs) := by simpa [QhP] using h
  obtain ⟨a, cap, vs, rfl, hc, h1, h2⟩ := Za g h' hr
  have hvl := h2.length
  refine ⟨vs, h2, ?_, fun w => by simp [Builtin.lenOf], fun w' hw k hk => ?_⟩
  ·intro u hu
   rcases h1 with rfl | ⟨b, kk, _, h1⟩
   ·cases hu
   ·obtain ⟨i, hi⟩ := List.mem_iff_getElem?.1 hu
    exact (h1 i u hi).2
  ·rcases h1 with rfl | ⟨b, kk, rfl, h1⟩
   ·simp at hvl
    have hm : m * sz = 0 := by omega
    have hm0 : m = 0 := by
     rcases Nat.mul_eq_zero.1 hm with h | h <;> omega
    have hk0 : k = 0 := by omega
    subst hk0
    cases a with
    | none => simp [Builtin.firstCells]
    | some a => simp [Builtin.firstCells, loadCells, loadCellsFrom]
   ·have h3 := Zy (P := P) ((h1.take (k * sz)).heap hw)
    have hkm : k * sz ≤ vs.length := by rw [hvl, hl]; exact qu _ hk
    rw [qX, q8 hkm] at h3
    simpa [Builtin.firstCells] using h3
theorem Qjv {P : Program} {t : TypeId} {b s : Nat} {z : Value} (hb : byO P t = some b) (hs : szO P t = some s) (hz : XR P t = some z) : ∃ i, P.info? t = some i ∧ i.bytes = b ∧ i.size = s ∧ i.zero = some z := by
 unfold byO at hb
 unfold szO at hs
 unfold XR at hz
 cases hi : P.info? t with
 | none => simp [hi] at hb
 | some i => simp [hi] at hb hs hz; exact ⟨i, rfl, hb, hs, hz⟩
theorem Jj {P : Program} {w w' : World} {t u ty e : TypeId} {i : TypeInfo} (ht : P.underlying t = some (.slice e)) {d : TypeDesc} (hu : P.underlying u = some d) (hd : ∀ k, d ≠ .int k) (hi : P.info? e = some i)
  {base : Option Addr} {sLen sCap m : Nat} {y : Value} {vs : List Value} (hlen : (Builtin.lenOf y).run P w = .ok m w) (hnew : (Builtin.firstCells i.size m y).run P w = .ok vs.toArray w) (hle : sLen + m ≤ sCap)
  (hst : ∀ a, base = some a → (storeCells (a.add (sLen * i.size)) vs).run P w = .ok () w') (hnone : base = none → w' = w) :
  (Builtin.append_ #[t, u] ty #[.slice base sLen sCap, y]).run P w = .ok (.slice base (sLen + m) sCap) w' := by
 have hz : (match d with | .int _ => true | _ => false) = false := by cases d <;> first | rfl | exact absurd rfl (hd _)
 cases base with
 | none =>
  have := hnone rfl
  subst this
  simp [Builtin.append_, run_underlying ht, run_underlying hu, sizeOf, typeInfo, hi, hz, hlen, hle, hnew]
 | some a =>
  have := hst a rfl
  simp [Builtin.append_, run_underlying ht, run_underlying hu, sizeOf, typeInfo, hi, hz, hlen, hle, hnew, this]
theorem Qap {P : Program} {w : World} {t u ty e : TypeId} {i : TypeInfo} {z : Value} (ht : P.underlying t = some (.slice e)) {d : TypeDesc} (hu : P.underlying u = some d) (hd : ∀ k, d ≠ .int k) (hi : P.info? e = some i) (hz0 : i.zero = some z)
  {base : Option Addr} {sLen sCap m : Nat} {y : Value} {vs olds : List Value} (hlen : (Builtin.lenOf y).run P w = .ok m w) (hnew : ∀ w', w'.heap = w.heap → (Builtin.firstCells i.size m y).run P w' = .ok vs.toArray w')
  (hold : ∀ w', w'.heap = w.heap → (Builtin.firstCells i.size sLen (.slice base sLen sCap)).run P w' = .ok olds.toArray w') (hgt : sCap < sLen + m) (h63 : sLen + m ≤ 9223372036854775807) (hby : (sLen + m) * i.bytes ≤ 140737488355328) :
  (Builtin.append_ #[t, u] ty #[.slice base sLen sCap, y]).run P w =
   .ok (.slice (some ⟨w.heap.size, 0, none⟩) (sLen + m) (grownCap w (sLen + m) sCap e)) (w.drew.alloc (.cells (olds.toArray ++ vs.toArray ++ Builtin.zeroCells z.cells (grownCap w (sLen + m) sCap e - (sLen + m))) e)) := by
 have hz : (match d with | .int _ => true | _ => false) = false := by cases d <;> first | rfl | exact absurd rfl (hd _)
 have hn : ¬ (sLen + m ≤ sCap) := by omega
 have h63' : ¬ (9223372036854775807 < ((sLen : Int) + (m : Int))) := by omega
 have hfit := growslice_fits hgt hby
 have h48' : ¬ (281474976710656 < Builtin.nextslicecap (sLen + m) sCap * i.bytes) := by omega
 have h1 := hold w.drew rfl
 have h2 := hnew w.drew rfl
 simp [Builtin.append_, run_underlying ht, run_underlying hu, sizeOf, typeInfo, zeroValue, hi, hz0, hz, hlen, hn, h63', h48', Question.forced, h1, h2, newRow, grownCap]
 congr 2
 apply q9
 simp [qM]
section
variable {P : Program} {B : Nat} {X : Cx} (g : Held B X) {ρ : Operand → Value} {η : Operand → AV} (hρ : ∀ x, Rep X (η x) (ρ x)) {o : Oper}
include g hρ
theorem Qg0 : Held B { X with w := X.w.drew } ∧ Moves X { X with w := X.w.drew } :=
 ⟨g.below ((Below.refl _ _).drew), Moves.below ((Below.refl _ _).drew)⟩
theorem Qkz (z : Value) (n : Nat) : (Builtin.zeroCells z.cells n).size = n * z.cells.size := by simp [Builtin.zeroCells]
theorem Qeh {id : Nat} (hid : QhS X.ob id) {st : Bool} {x y : Operand} {c : Call} {t u e : TypeId} {s b m : Nat} {z : Value} {zb : Bool} {cs : List AV} (ho : o.op = .call c) (hc : c.callee = .builtin .append) (ha : c.args = #[x, y]) (hat : c.argTypes = #[t, u])
  (ht : P.underlying t = some (.slice e)) {d : TypeDesc} (hu : P.underlying u = some d) (hd : ∀ k, d ≠ .int k) (hs : szO P e = some s) (hb : byO P e = some b) (hz : XR P e = some z) (hzs : z.cells.size = s) (hz1 : ∀ v ∈ z.cells, v.oneCell' = true)
  (hx : η x = .emp zb) (hy : QhP X.ob s st (η y) = some (m, cs)) (hl : cs.length = m * s) (h0 : 0 < s) (hstr : st = true → s = 1) (hby : m * b ≤ 140737488355328) (hm : m ≤ 9223372036854775807) :
  Eff B X ((execOp ρ o).run P X.w) (.own id m) (XD X.ob id ⟨e, s, m, cs, 0⟩) := by
 obtain ⟨i, hi, rfl, rfl, hz0⟩ := Qjv hb hs hz
 obtain ⟨vs, h1, h2, h3, h4⟩ := Qbj (P := P) g hy (hρ y) hl h0 hstr
 have hvl := h1.length
 have hfull : vs.take (m * i.size) = vs := qU (by omega)
 have h5 : ∀ w', w'.heap = X.w.heap → (Builtin.firstCells i.size m (ρ y)).run P w' = .ok vs.toArray w' := fun w' hw => by
  have := h4 w' hw m (qg _)
  rwa [hfull] at this
 have hr := hρ x
 rw [hx] at hr
 simp only [Rep] at hr
 obtain ⟨a, ex, _⟩ := hr
 have hexec : ∀ v w', (Builtin.append_ #[t, u] o.type #[.slice a 0 0, ρ y]).run P X.w = .ok v w' → (execOp ρ o).run P X.w = .ok (.value v) w' := fun v w' h => by
  simp [execOp, ho, resolve, hc, ha, hat, invoke, builtin, ex, h]
 by_cases hm0 : m = 0
 ·subst hm0
  have hvs : vs = [] := qw (by rw [hvl, hl]; simp)
  subst hvs
  have hcs : cs = [] := qw (by rw [hl]; simp)
  subst hcs
  have hrun := Jj (P := P) (w := X.w) (w' := X.w) (ty := o.type) (sLen := 0) (sCap := 0) (base := a) ht hu hd hi (h3 X.w) (h5 X.w rfl) (qg _) (fun a _ => by simp [storeCells]) (fun _ => rfl)
  obtain ⟨be', w1, w2, w4, w5⟩ := g.placeNil hid e i.size
  refine ⟨_, _, be', .inl (hexec _ _ hrun), Below.refl _ _, w1, w2, ?_⟩
  simp only [Rep]
  exact ⟨⟨⟨e, i.size, 0, [], 0⟩, w5, by show i.size ≠ 0; omega, qg _, fun _ => by simp [w4, OwnV]⟩, rfl⟩
 ·have hrun := Qap (P := P) (w := X.w) (ty := o.type) (sLen := 0) (sCap := 0) (base := a) (olds := []) ht hu hd hi hz0 (h3 X.w) h5
   (fun w' _ => by cases a <;> simp [Builtin.firstCells, loadCells, loadCellsFrom]) (by omega) (by omega) (by simpa using hby)
  simp only [qY] at hrun
  have hge := grownCap_ge X.w m 0 e
  have hcm := grownCap_le_maxLen X.w m 0 e (by simp [maxLen]; omega)
  obtain ⟨g1, m1⟩ := Qg0 g hρ
  have htk : ((([] : List Value).toArray ++ vs.toArray ++ Builtin.zeroCells z.cells (grownCap X.w m 0 e - m)).toList.take cs.length) = vs := by
   simp [← hvl]
  obtain ⟨be', w1, w2, w3, w4, w5⟩ := g1.place (X := { X with w := X.w.drew }) hid (([] : List Value).toArray ++ vs.toArray ++ Builtin.zeroCells z.cells (grownCap X.w m 0 e - m)) ⟨e, i.size, m, cs, 0⟩ (grownCap X.w m 0 e) (by show i.size ≠ 0; omega)
   (by
    simp only [Array.size_append, Qkz g hρ, hzs]
    simp only [jc, qJ, hvl, hl, qY, ← yb]
    congr 1; omega) hge hcm hl (by rw [htk]; exact RepL.move m1 _ _ h1) (by
    intro v hv
    simp only [Array.toList_append, qp] at hv
    rcases hv with (hv | hv) | hv
    ·simp at hv
    ·exact h2 v hv
    ·exact zc_one hz1 v hv)
  refine ⟨_, _, be', .inl (hexec _ _ hrun), ?_, w1, m1.trans w2, ?_⟩
  ·exact ((Below.refl _ _).drew).trans w3
  ·simp only [Rep]
   exact ⟨⟨⟨e, i.size, m, cs, 0⟩, w5, by show i.size ≠ 0; omega, qg _, fun _ => by rw [w4]; simp [OwnV]⟩, rfl⟩
end
end Go.Am
/- The abstract machine: append to a slice of the call's own; copy. -/
namespace Go.Am
open Go.RowKit
theorem Qfe {α : Type} {l : List α} {i : Nat} {x : α} (h : l[i]? = some x) : l.set i x = l := by
 apply yl
 intro j
 rw [qq]
 split
 ·rename_i e
  subst e
  have := (qb.1 h).1
  rw [qE this, h]
 ·rfl
section
variable {P : Program} {B : Nat} {X : Cx} (g : Held B X) {ρ : Operand → Value} {η : Operand → AV} (hρ : ∀ x, Rep X (η x) (ρ x)) {o : Oper}
include g hρ
theorem Qeg {st : Bool} {x y : Operand} {c : Call} {t u e : TypeId} {s b m n oo : Nat} {z : Value} {bb : Ob} {cs : List AV} (ho : o.op = .call c) (hc : c.callee = .builtin .append) (ha : c.args = #[x, y]) (hat : c.argTypes = #[t, u])
  (ht : P.underlying t = some (.slice e)) {d : TypeDesc} (hu : P.underlying u = some d) (hd : ∀ k, d ≠ .int k) (hs : szO P e = some s) (hb : byO P e = some b) (hz : XR P e = some z) (hzs : z.cells.size = s) (hz1 : ∀ v ∈ z.cells, v.oneCell' = true)
  (hx : η x = .own oo n) (hob : X.ob[oo]? = some bb) (hv : bb.n = n) (hty : bb.ty = e) (hsz : bb.sz = s) (hfz : bb.fz ≤ bb.cs.length)
  (hy : QhP X.ob s st (η y) = some (m, cs)) (hl : cs.length = m * s) (h0 : 0 < s) (hstr : st = true → s = 1) (hby : (n + m) * b ≤ 140737488355328) (hm : n + m ≤ 9223372036854775807) :
  Eff B X ((execOp ρ o).run P X.w) (.own oo (n + m)) (X.ob.set oo { bb with n := n + m, cs := bb.cs ++ cs }) := by
 obtain ⟨i, hi, rfl, rfl, hz0⟩ := Qjv hb hs hz
 obtain ⟨vs, h1, h2, h3, h4⟩ := Qbj (P := P) g hy (hρ y) hl h0 hstr
 have hvl := h1.length
 have hfull : vs.take (m * i.size) = vs := qU (by omega)
 have h5 : ∀ w', w'.heap = X.w.heap → (Builtin.firstCells i.size m (ρ y)).run P w' = .ok vs.toArray w' := fun w' hw => by
  have := h4 w' hw m (qg _)
  rwa [hfull] at this
 have hol : oo < X.ob.length := (qb.1 hob).1
 have hr := hρ x
 rw [hx] at hr
 simp only [Rep] at hr
 obtain ⟨⟨b', hb', hb0, _, hp⟩, _⟩ := hr
 rw [hob] at hb'
 cases hb'
 have h6 := hp hv
 obtain ⟨ee, he, hoo⟩ := g.get hob
 subst hv
 subst hty
 have said : ∀ (Y : Cx) (pl : Option (Nat × Nat)) (v : Value), Y.ob = X.ob.set oo { bb with n := bb.n + m, cs := bb.cs ++ cs } → Y.be[oo]? = some pl → OwnV (some pl) (bb.n + m) v → v.oneCell' = true → Rep Y (.own oo (bb.n + m)) v := fun Y pl v hY hpl hv h1 => by
  simp only [Rep]
  exact ⟨⟨{ bb with n := bb.n + m, cs := bb.cs ++ cs }, by rw [hY]; simp [hol], hb0, qg _, fun _ => by rw [hpl]; exact hv⟩, h1⟩
 have grown : ∀ (base : Option Addr) (cap : Nat) (olds : List Value), ρ x = .slice base bb.n cap → RepL X bb.cs olds → olds.length = bb.n * i.size → (∀ v ∈ olds, v.oneCell' = true) →
   (∀ w', w'.heap = X.w.heap → (Builtin.firstCells i.size bb.n (.slice base bb.n cap)).run P w' = .ok olds.toArray w') → cap < bb.n + m → 0 < m →
   Eff B X ((execOp ρ o).run P X.w) (.own oo (bb.n + m)) (X.ob.set oo { bb with n := bb.n + m, cs := bb.cs ++ cs }) := by
  intro base cap olds ex hro hlo hoo1 hold hgt hm0
  have hrun := Qap (P := P) (w := X.w) (ty := o.type) (sLen := bb.n) (sCap := cap) (base := base) (olds := olds) ht hu hd hi hz0 (h3 X.w) h5 hold hgt hm hby
  have hge := grownCap_ge X.w (bb.n + m) cap bb.ty
  have hcm := grownCap_le_maxLen X.w (bb.n + m) cap bb.ty (by simp [maxLen]; omega)
  obtain ⟨g1, m1⟩ := Qg0 g hρ
  have hcl : (bb.cs ++ cs).length = olds.length + vs.length := by rw [qm, hro.length, hvl]
  have htk : ((olds.toArray ++ vs.toArray ++ Builtin.zeroCells z.cells (grownCap X.w (bb.n + m) cap bb.ty - (bb.n + m))).toList.take (bb.cs ++ cs).length) = olds ++ vs := by
   rw [hcl]
   simp only [Array.toList_append]
   rw [List.take_left' (by simp)]
  obtain ⟨w1, w2, w3⟩ := g1.regrow (o := oo) (x := bb) hob (olds.toArray ++ vs.toArray ++ Builtin.zeroCells z.cells (grownCap X.w (bb.n + m) cap bb.ty - (bb.n + m))) { bb with n := bb.n + m, cs := bb.cs ++ cs } (grownCap X.w (bb.n + m) cap bb.ty)
   (fun _ => hb0) (.inl (by show bb.n < bb.n + m; omega))
   (by
    show _ = _ * bb.sz
    rw [hsz]
    simp only [Array.size_append, Qkz g hρ, hzs]
    simp only [jc, hvl, hl, hlo, ← yb]
    congr 1; omega) hge hcm
   (by show (bb.cs ++ cs).length = (bb.n + m) * bb.sz; rw [hsz, qm, hl, hro.length.symm, hlo, yb])
   (by
    show RepL _ (bb.cs ++ cs) (_ : List Value)
    rw [htk]
    exact RepL.move m1 _ _ (hro.append h1))
   (by
    intro v hv
    simp only [Array.toList_append, qp] at hv
    rcases hv with (hv | hv) | hv
    ·exact hoo1 v hv
    ·exact h2 v hv
    ·exact zc_one hz1 v hv)
  have hex : (execOp ρ o).run P X.w = .ok (.value (.slice (some ⟨X.w.heap.size, 0, none⟩) (bb.n + m) (grownCap X.w (bb.n + m) cap bb.ty))) (X.w.drew.alloc (.cells (olds.toArray ++ vs.toArray ++ Builtin.zeroCells z.cells (grownCap X.w (bb.n + m) cap bb.ty - (bb.n + m))) bb.ty)) := by
   simp [execOp, ho, resolve, hc, ha, hat, invoke, builtin, ex, hrun]
  refine ⟨_, _, X.be.set oo (some (X.w.heap.size, grownCap X.w (bb.n + m) cap bb.ty)), .inl hex, ?_, ?_, ?_, ?_⟩
  ·exact ((Below.refl _ _).drew).trans w3
  ·exact w1
  ·exact m1.trans w2
  ·exact said _ (some (X.w.heap.size, grownCap X.w (bb.n + m) cap bb.ty)) _ rfl (by simp [g.len, hol]) rfl rfl
 cases ee with
 | none =>
  simp only [he, OwnV] at h6
  obtain ⟨a, ex⟩ := h6
  obtain ⟨hn0, hc0⟩ := hoo
  by_cases hm0 : m = 0
  ·subst hm0
   have hvs : vs = [] := qw (by rw [hvl, hl]; simp)
   subst hvs
   have hcs : cs = [] := qw (by rw [hl]; simp)
   subst hcs
   have hrun := Jj (P := P) (w := X.w) (w' := X.w) (ty := o.type) (sLen := 0) (sCap := 0) (base := a) ht hu hd hi (h3 X.w) (h5 X.w rfl) (qg _) (fun a _ => by simp [storeCells]) (fun _ => rfl)
   have hsame : X.ob.set oo { bb with n := bb.n + 0, cs := bb.cs ++ [] } = X.ob := by
    simp only [yA, yN]
    exact Qfe hob
   refine ⟨_, X.w, X.be, .inl (by simp [execOp, ho, resolve, hc, ha, hat, invoke, builtin, ex, hrun]; rfl), Below.refl _ _, ?_, ?_, ?_⟩
   ·rw [hsame]; exact g
   ·rw [hsame]; exact Moves.refl X
   ·exact said _ none _ rfl he ⟨a, rfl⟩ rfl
  ·refine grown a 0 [] (by rw [ex, hn0]) (by rw [hc0]; simp [RepL]) (by rw [hn0]; simp) (by simp) (fun w' _ => ?_) (by omega) (by omega)
   rw [hn0]
   cases a <;> simp [Builtin.firstCells, loadCells, loadCellsFrom]
 | some p =>
  obtain ⟨blk, cap⟩ := p
  obtain ⟨cur, ⟨fr, q1, hfr⟩, q2, q3, q4, q5, q6, q7⟩ := hoo
  simp only [he, OwnV] at h6
  have hcl := q6.length
  have q7' : ∀ v ∈ cur.toList.take bb.cs.length, v.oneCell' = true := fun v hv => q7 v (qG hv)
  have hlies := J3 q1 q7'
  have hlen0 : (cur.toList.take bb.cs.length).length = bb.n * i.size := by rw [hcl, q5, hsz]
  by_cases hroom : bb.n + m ≤ cap
  · -- in place
   have hfit : bb.n * i.size + vs.length ≤ cur.size := by rw [hvl, hl, q2, hsz, ← yb]; exact qu _ hroom
   have hst := Xf P blk (bb.n * i.size) bb.ty vs 0 cur X.w q1 ⟨hfr, by omega⟩ (by simpa using hfit) h2
   simp only [yA] at hst
   have hrun := Jj (P := P) (w := X.w) (ty := o.type) (sLen := bb.n) (sCap := cap) (base := some ⟨blk, 0, none⟩) ht hu hd hi (h3 X.w) (h5 X.w rfl) hroom
    (fun a ha => by cases ha; rw [Q9, qY]; exact hst) (fun h => by cases h)
   have hbl : bb.cs.length = bb.n * i.size := by rw [q5, hsz]
   have hcl2 : (bb.cs ++ cs).length = bb.n * i.size + vs.length := by rw [qm, hbl, hvl]
   have htk : (cur.toList.take (bb.n * i.size) ++ vs ++ cur.toList.drop (bb.n * i.size + vs.length)).take (bb.cs ++ cs).length = cur.toList.take bb.cs.length ++ vs := by
    rw [hcl2, hbl]
    rw [List.take_left' (by simp; omega)]
   obtain ⟨w1, w2, w3⟩ := g.rewrite hob he q1 hfr (cur.toList.take (bb.n * i.size) ++ vs ++ cur.toList.drop (bb.n * i.size + vs.length)).toArray { bb with n := bb.n + m, cs := bb.cs ++ cs } rfl rfl (qg _) (Nat.le_add_right _ _) hroom
    (by simp; omega)
    (fun j hj => by
     simp only [yz]
     rw [qM, qj (by simp; omega), yk (by omega)]
     simp)
    (by show (bb.cs ++ cs).length = (bb.n + m) * bb.sz; rw [hcl2, hvl, hl, hsz, yb])
    (by
     show RepL _ (bb.cs ++ cs) (List.take (bb.cs ++ cs).length _)
     rw [htk]
     exact q6.append h1)
    (by
     intro v hv
     simp only [qp] at hv
     rcases hv with (hv | hv) | hv
     ·exact q7 v (qG hv)
     ·exact h2 v hv
     ·exact q7 v (yU hv))
   refine ⟨_, _, X.be, .inl (by simp [execOp, ho, resolve, hc, ha, hat, invoke, builtin, h6, hrun]; first | rfl | exact ⟨rfl, rfl⟩), w3, w1, w2, ?_⟩
   exact said _ (some (blk, cap)) _ rfl he rfl rfl
  ·by_cases hm0 : m = 0
   ·omega
   ·refine grown _ cap _ h6 q6 hlen0 q7' (fun w' hw => ?_) (by omega) (by omega)
    have := Zy (P := P) (hlies.heap hw)
    rw [hlen0] at this
    simpa [Builtin.firstCells] using this
end
end Go.Am
/- The abstract machine: copy, min, max. -/
namespace Go.Am
open Go.RowKit
theorem QkY {P : Program} {X : Cx} {w : World} : ∀ (r : List AV) (x av : AV) (v : Value) (vs : List Value), Rep X x v → RepL X r vs → Qml x r = some av → ∃ u, (vs.foldlM Builtin.min2 v).run P w = .ok u w ∧ Rep X av u
 | [], x, av, v, vs, hx, hr, h => by
  simp only [RepL] at hr
  subst hr
  simp [Qml] at h
  subst h
  exact ⟨v, by simp, hx⟩
 | y :: r, x, av, v, vs, hx, hr, h => by
  simp only [RepL] at hr
  obtain ⟨u, rest, rfl, hy, hr⟩ := hr
  unfold Qml at h
  split at h
  case h_1 e => cases e
  case h_3 => cases h
  rename_i k a k' b r' e
  cases e
  simp only [Rep] at hx hy
  subst hx; subst hy
  obtain ⟨u, h1, h2⟩ := QkY (P := P) (w := w) r _ av (.int k (if b < a then b else a)) rest (by simp only [Rep]) hr h
  exact ⟨u, by simp only [List.foldlM_cons, Builtin.min2, Sem.run_bind, Sem.run_pure, Result.andThen_ok]; exact h1, h2⟩
theorem QkZ {P : Program} {X : Cx} {w : World} : ∀ (r : List AV) (x av : AV) (v : Value) (vs : List Value), Rep X x v → RepL X r vs → Qmm x r = some av → ∃ u, (vs.foldlM Builtin.max2 v).run P w = .ok u w ∧ Rep X av u
 | [], x, av, v, vs, hx, hr, h => by
  simp only [RepL] at hr
  subst hr
  simp [Qmm] at h
  subst h
  exact ⟨v, by simp, hx⟩
 | y :: r, x, av, v, vs, hx, hr, h => by
  simp only [RepL] at hr
  obtain ⟨u, rest, rfl, hy, hr⟩ := hr
  unfold Qmm at h
  split at h
  case h_1 e => cases e
  case h_3 => cases h
  rename_i k a k' b r' e
  cases e
  simp only [Rep] at hx hy
  subst hx; subst hy
  obtain ⟨u, h1, h2⟩ := QkZ (P := P) (w := w) r _ av (.int k (if a < b then b else a)) rest (by simp only [Rep]) hr h
  exact ⟨u, by simp only [List.foldlM_cons, Builtin.max2, Sem.run_bind, Sem.run_pure, Result.andThen_ok]; exact h1, h2⟩
section
variable {P : Program} {B : Nat} {X : Cx} (g : Held B X) {ρ : Operand → Value} {η : Operand → AV} (hρ : ∀ x, Rep X (η x) (ρ x)) {o : Oper}
include g hρ
theorem Qn8 {c : Call} {x av : AV} {r : List AV} (ho : o.op = .call c) (hc : c.callee = .builtin .min) (hx : c.args.toList.map (η) = x :: r) (h : Qml x r = some av) : Eff B X ((execOp ρ o).run P X.w) av X.ob := by
 have hr := QP g hρ c.args.toList
 rw [hx] at hr
 simp only [RepL] at hr
 obtain ⟨v, vs, e, h1, h2⟩ := hr
 obtain ⟨u, h3, h4⟩ := QkY (P := P) (w := X.w) r x av v vs h1 h2 h
 refine Eff.pure g (v := u) ?_ h4
 have e2 : (c.args.map ρ).toList = v :: vs := by rw [← e]; simp
 simp only [execOp, ho, resolve, hc, invoke, builtin, Sem.run_bind, Sem.run_pure, Result.andThen_ok, Builtin.min_, e2, h3]
theorem Qn9 {c : Call} {x av : AV} {r : List AV} (ho : o.op = .call c) (hc : c.callee = .builtin .max) (hx : c.args.toList.map (η) = x :: r) (h : Qmm x r = some av) : Eff B X ((execOp ρ o).run P X.w) av X.ob := by
 have hr := QP g hρ c.args.toList
 rw [hx] at hr
 simp only [RepL] at hr
 obtain ⟨v, vs, e, h1, h2⟩ := hr
 obtain ⟨u, h3, h4⟩ := QkZ (P := P) (w := X.w) r x av v vs h1 h2 h
 refine Eff.pure g (v := u) ?_ h4
 have e2 : (c.args.map ρ).toList = v :: vs := by rw [← e]; simp
 simp only [execOp, ho, resolve, hc, invoke, builtin, Sem.run_bind, Sem.run_pure, Result.andThen_ok, Builtin.max_, e2, h3]
theorem QgH {w w' : World} {t u ty e : TypeId} {s : Nat} (ht : P.underlying t = some (.slice e)) (hs : szO P e = some s) {base : Option Addr} {dLen dCap m : Nat} {y : Value} {vs : List Value} (hlen : (Builtin.lenOf y).run P w = .ok m w)
  (hnew : (Builtin.firstCells s (Nat.min m dLen) y).run P w = .ok vs.toArray w) (hst : ∀ a, base = some a → (storeCells a vs).run P w = .ok () w') (hnone : base = none → w' = w) :
  (Builtin.copy_ #[t, u] ty #[.slice base dLen dCap, y]).run P w = .ok (.int .i64 (Nat.min m dLen)) w' := by
 cases base with
 | none => have := hnone rfl; subst this; simp [Builtin.copy_, run_underlying ht, ZT hs, hlen, hnew, goInt]
 | some a => have := hst a rfl; simp [Builtin.copy_, run_underlying ht, ZT hs, hlen, hnew, this, goInt]
theorem Xb {st : Bool} {x y : Operand} {c : Call} {t u e : TypeId} {s m dLen dCap : Nat} {base : Option Addr} {cs : List AV} (ho : o.op = .call c) (hc : c.callee = .builtin .copy) (ha : c.args = #[x, y]) (hat : c.argTypes = #[t, u])
  (ht : P.underlying t = some (.slice e)) (hs : szO P e = some s) (hx : ρ x = .slice base dLen dCap) (hy : QhP X.ob s st (η y) = some (m, cs)) (hl : cs.length = m * s) (h0 : 0 < s) (hstr : st = true → s = 1) (hz : Nat.min m dLen = 0) :
  Eff B X ((execOp ρ o).run P X.w) (.int .i64 0) X.ob := by
 obtain ⟨vs, h1, h2, h3, h4⟩ := Qbj (P := P) g hy (hρ y) hl h0 hstr
 have h5 := h4 X.w rfl (Nat.min m dLen) (jf _ _)
 rw [hz] at h5
 simp only [Nat.zero_mul, List.take_zero] at h5
 have hrun := QgH g hρ (P := P) (w := X.w) (w' := X.w) (u := u) (ty := o.type) (dLen := dLen) (dCap := dCap) (base := base) (vs := []) ht hs (h3 X.w) (by rw [hz]; exact h5) (fun a _ => by simp [storeCells]) (fun _ => rfl)
 rw [hz] at hrun
 exact Eff.pure g (v := .int .i64 0) (by simp [execOp, ho, resolve, hc, ha, hat, invoke, builtin, hx, hrun]) (by simp only [Rep])
theorem Qjr {st : Bool} {x y : Operand} {c : Call} {t u e : TypeId} {s m n oo k blk cap dCap : Nat} {bb : Ob} {cs : List AV} (ho : o.op = .call c) (hc : c.callee = .builtin .copy) (ha : c.args = #[x, y]) (hat : c.argTypes = #[t, u])
  (ht : P.underlying t = some (.slice e)) (hs : szO P e = some s) (hx : ρ x = .slice (some ⟨blk, k, none⟩) n dCap) (hob : X.ob[oo]? = some bb) (he : X.be[oo]? = some (some (blk, cap))) (hfz : bb.fz ≤ k) (hfit : k + n * s ≤ bb.cs.length)
  (hy : QhP X.ob s st (η y) = some (m, cs)) (hl : cs.length = m * s) (h0 : 0 < s) (hstr : st = true → s = 1) :
  Eff B X ((execOp ρ o).run P X.w) (.int .i64 (Nat.min m n)) (X.ob.set oo { bb with cs := bb.cs.take k ++ cs.take (Nat.min m n * s) ++ bb.cs.drop (k + Nat.min m n * s) }) := by
 obtain ⟨vs0, h1, h2, h3, h4⟩ := Qbj (P := P) g hy (hρ y) hl h0 hstr
 have h5 := h4 X.w rfl (Nat.min m n) (jf _ _)
 obtain ⟨cur, ⟨fr, q1, hfr⟩, q2, q3, q4, q5, q6, q7⟩ := g.ok oo bb _ hob he
 have hmn : Nat.min m n ≤ n := Nat.min_le_right _ _
 have hmm : Nat.min m n ≤ m := jf _ _
 obtain ⟨r, hr⟩ : ∃ r, r = Nat.min m n := ⟨_, rfl⟩
 rw [← hr] at h5 hmn hmm ⊢
 have hvl0 := h1.length
 have hrs : r * s ≤ m * s := qu _ hmm
 have hrn : r * s ≤ n * s := qu _ hmn
 obtain ⟨vs, hvs⟩ : ∃ vs, vs = vs0.take (r * s) := ⟨_, rfl⟩
 have hvl : vs.length = r * s := by rw [hvs, qX]; omega
 have hvr : RepL X (cs.take (r * s)) vs := by rw [hvs]; exact h1.take _
 have hvo : ∀ v ∈ vs, v.oneCell' = true := fun v hv => h2 v (by rw [hvs] at hv; exact qG hv)
 rw [← hvs] at h5
 have hcs : bb.cs.length ≤ cur.size := by rw [q5, q2]; exact qu _ q3
 have hst := Xf P blk k bb.ty vs 0 cur X.w q1 ⟨hfr, by omega⟩ (by omega) hvo
 simp only [yA] at hst
 have htk : (cur.toList.take k ++ vs ++ cur.toList.drop (k + vs.length)).take bb.cs.length =
   (cur.toList.take bb.cs.length).take k ++ vs ++ (cur.toList.take bb.cs.length).drop (k + vs.length) := by
  rw [qM, je, je, jd, qX, q8 (by simp; omega : k ≤ cur.toList.length), Nat.min_eq_right (by omega : k ≤ bb.cs.length), qU (by omega : vs.length ≤ bb.cs.length - k)]
  rw [qM, List.drop_take, jd, q8 (by omega : k ≤ bb.cs.length)]
  congr 3
  omega
 have hlen : (bb.cs.take k ++ cs.take (r * s) ++ bb.cs.drop (k + r * s)).length = bb.cs.length := by simp; omega
 obtain ⟨w1, w2, w3⟩ := g.rewrite hob he q1 hfr (cur.toList.take k ++ vs ++ cur.toList.drop (k + vs.length)).toArray { bb with cs := bb.cs.take k ++ cs.take (r * s) ++ bb.cs.drop (k + r * s) } rfl rfl (qg _) (qg _) q3
  (by simp; omega)
  (fun j hj => by
   simp only [yz]
   rw [qM, qj (by simp; omega), yk (by omega)]
   simp)
  (by rw [hlen]; exact q5)
  (by rw [hlen, htk, ← hvl]; exact ((q6.take k).append (by rw [hvl]; exact hvr)).append (q6.drop _))
  (by
   intro u hu
   simp only [qp] at hu
   rcases hu with (hu | hu) | hu
   ·exact q7 u (qG hu)
   ·exact hvo u hu
   ·exact q7 u (yU hu))
 have hrun := QgH g hρ (P := P) (w := X.w) (u := u) (ty := o.type) (dLen := n) (dCap := dCap) (base := some ⟨blk, k, none⟩) (vs := vs) ht hs (h3 X.w) (by rw [← hr]; exact h5) (fun a ha => by cases ha; exact hst) (fun h => by cases h)
 rw [← hr] at hrun
 exact ⟨.int .i64 r, _, X.be, .inl (by simp [execOp, ho, resolve, hc, ha, hat, invoke, builtin, hx, hrun]), w3, w1, w2, by simp only [Rep]⟩
theorem QlJ {x : Operand} {s e : TypeId} {oo n : Nat} {bb : Ob} (ho : o.op = .convert s s x) (hs : P.underlying s = some (.slice e)) (he : P.underlying e = some (.int .u8)) (hx : η x = .own oo n) (hob : X.ob[oo]? = some bb) (hv : bb.n = n) (hn : n ≠ 0) (hz : bb.fz < fzAll) :
  Eff B X ((execOp ρ o).run P X.w) (.own oo n) (X.ob.set oo { bb with fz := bb.fz + 1 }) := by
 have hr := hρ x
 rw [hx] at hr
 simp only [Rep] at hr
 obtain ⟨⟨y, hy, hy0, _, hp⟩, _⟩ := hr
 rw [hob] at hy
 cases hy
 have h2 := hp hv
 obtain ⟨e2, hbe, hok⟩ := g.get hob
 cases e2 with
 | none => have := hok.1; omega
 | some q =>
  obtain ⟨b, cap⟩ := q
  obtain ⟨cur, ⟨fr, q1, hfr⟩, q2, q3, q4, q5, q6, q7⟩ := hok
  simp only [hbe, OwnV] at h2
  have hol : oo < X.ob.length := (qb.1 hob).1
  have hbs := g.block_lt hob hbe
  let w' : World := X.w.freeze ⟨b, cur.size, none⟩ 1
  have hsz : w'.heap.size = X.w.heap.size := by simp [w', World.freeze]
  have hblk : ∀ k, k ≠ b → w'.heap[k]? = X.w.heap[k]? := fun k hk => by
   simp only [w', World.freeze]
   simp [Array.getElem?_modify, Ne.symm hk]
  have hbb : w'.heap[b]? = some (.cells cur bb.ty (cur.size, cur.size + 1)) := by
   have hq := (qi.1 q1).2
   simp only [w', World.freeze]
   rw [qz (by omega), qF (by simpa using hbs), Array.getElem_modify]
   rcases hfr with rfl | ⟨rfl, _⟩ | ⟨_, _, h⟩
   ·simp [hq]
   ·simp [hq]
   ·omega
  have hcell : ∀ b' k, w'.cell? ⟨b', k, none⟩ = X.w.cell? ⟨b', k, none⟩ := fun b' k => by
   by_cases e1 : b' = b
   ·subst e1
    rw [cell_of_row _ _ _ _ _ _ hbb, cell_of_row _ _ _ _ _ _ q1]
   ·exact World.cell?_of_block (w := X.w) (hblk b' e1)
  have hbel : Below B X.w w' := ⟨rfl, rfl, rfl, by rw [hsz]; exact qg _, fun k hk => hblk k (by have := g.base oo b cap hbe; omega)⟩
  let x' : Ob := { bb with fz := bb.fz + 1 }
  let Y : Cx := ⟨w', X.ob.set oo x', X.be, X.C⟩
  have hobY : ∀ (o2 : Nat) (x2 : Ob), Y.ob[o2]? = some x2 → (o2 = oo ∧ x2 = x') ∨ (o2 ≠ oo ∧ X.ob[o2]? = some x2) := by
   intro o2 x2 h2
   simp only [Y, qq] at h2
   by_cases e : oo = o2
   ·subst e; simp [hol] at h2; exact .inl ⟨rfl, h2.symm⟩
   ·simp [e] at h2; exact .inr ⟨fun h => e h.symm, h2⟩
  have hav : ∀ b' k, Y.av b' k → X.av b' k := by
   rintro b' k (h | ⟨o2, x2, c2, h1, h2, h3⟩)
   ·exact .inl h
   ·rcases hobY o2 x2 h1 with ⟨rfl, rfl⟩ | ⟨_, h4⟩
    ·exact .inr ⟨o2, bb, c2, hob, h2, by simp only [x'] at h3; omega⟩
    ·exact .inr ⟨o2, x2, c2, h4, h2, h3⟩
  have hmv : Moves X Y := by
   refine ⟨fun b' k v hc ha => ⟨by show w'.cell? _ = _; rw [hcell]; exact hc, fun h => ha (hav b' k h)⟩, fun o2 x2 h2 => ?_, fun b' _ hf => ⟨hblk b' fun e => hf oo cap (by rw [e]; exact hbe), hf⟩⟩
   by_cases e : o2 = oo
   ·subst e
    rw [hob] at h2; cases h2
    exact ⟨x', by simp [Y, hol], qg _, fun h => ⟨h, fun _ => rfl⟩⟩
   ·exact ⟨x2, by simp only [Y]; rw [qA (fun h => e h.symm)]; exact h2, qg _, fun h => ⟨h, fun _ => rfl⟩⟩
  have hheld : Held B Y := by
   refine ⟨by simp [Y, g.len], fun o2 x2 e2 h2 h3 => ?_, g.inj, g.base, g.bnd, by show B ≤ w'.heap.size; rw [hsz]; exact g.size⟩
   rcases hobY o2 x2 h2 with ⟨rfl, rfl⟩ | ⟨hne, h4⟩
   ·have h3' : X.be[o2]? = some e2 := h3
    rw [hbe] at h3'
    cases h3'
    exact ⟨cur, ⟨_, hbb, .inr (.inl ⟨rfl, by simp [x']⟩)⟩, q2, q3, q4, q5, RepL.move hmv _ _ q6, q7⟩
   ·refine (g.ok o2 x2 e2 h4 h3).move hmv fun b2 c2 hbc => ?_
    subst hbc
    exact hblk b2 fun e => hne (by subst e; exact g.inj o2 oo b2 c2 cap h3 hbe)
  refine ⟨.slice (some ⟨b, 0, none⟩) n cap, w', X.be, .inl ?_, hbel, hheld, hmv, ?_⟩
  ·have hm : (markStringish ⟨b, 0, none⟩).run P X.w = .ok () w' := by
    simp [markStringish, shape, freeze, Sem.run, World.shape?, q1, w', Sem.run_bind]
   simp [execOp, ho, h2, convert, run_underlying hs, run_underlying he, hm]
  ·simp only [Rep]
   exact ⟨⟨x', by simp [hol, x'], hy0, by simp [x', hv], fun _ => by simp only [hbe, OwnV]⟩, rfl⟩
end
end Go.Am
/- The abstract machine: an operation is what 'aop' says of it. -/
namespace Go.Am
open Go.RowKit
theorem Qf6 {ob : List Ob} {o : Nat} {y : Ob} (h : ob[o]? = some y) (x : Ob) : app ob (some (o, x)) = ob.set o x := by
 have := (qb.1 h).1
 simp [app, this]
theorem ZA {P : Program} {t e : TypeId} (h : Qj8 P t = some e) : P.underlying t = some (.slice e) := by
 unfold Qj8 at h
 split at h
 ·cases h; assumption
 ·cases h
theorem Qs {α : Type} {a : Array α} {l : List α} (h : a.toList = l) : a = l.toArray := by rw [← h]
section
variable {P : Program} {B : Nat} {X : Cx} (g : Held B X) {ρ : Operand → Value} {η : Operand → AV} (hρ : ∀ x, Rep X (η x) (ρ x)) {o : Oper} {id : Nat} (hid : QhS X.ob id)
include g hρ hid
theorem QkV {t : TypeId} {p : AOp} {av : AV} {u : Option (Nat × Ob)} (ho : o.op = .alloc t) (hc : cOp P (.alloc t) = some p) (h : aop η X.ob id p = some (av, u)) : Eff B X ((execOp ρ o).run P X.w) av (app X.ob u) := by
 simp only [cOp, qa] at hc
 obtain ⟨z, hz, rfl⟩ := hc
 simp only [aop] at h
 split at h <;> cases h
 rename_i h1
 simp only [qf, ql] at h1
 exact QlN g hρ hid ho hz (by omega) h1.1
theorem QnF {t : TypeId} {x : Operand} {p : AOp} {av : AV} {u : Option (Nat × Ob)} (ho : o.op = .box t x) (hc : cOp P (.box t x) = some p) (h : aop η X.ob id p = some (av, u)) : Eff B X ((execOp ρ o).run P X.w) av (app X.ob u) := by
 simp only [cOp, qa] at hc
 obtain ⟨z, hz, rfl⟩ := hc
 simp only [aop] at h
 split at h <;> cases h
 rename_i h1
 simp only [qf, beq_iff_eq, ql] at h1
 rw [← h1.1.2]
 exact Qob g hρ hid ho (by omega) h1.1.1
theorem QkU {t : TypeId} {ps : Array (Nat × Operand)} {p : AOp} {av : AV} {u : Option (Nat × Ob)} (ho : o.op = .build t ps) (hc : Qho P t ps = some p) (h : aop η X.ob id p = some (av, u)) :
  Eff B X ((execOp ρ o).run P X.w) av (app X.ob u) := by
 unfold Qho at hc
 split at hc
 case h_3 => cases hc
 case h_1 fields ht =>
  simp only [qk, qe] at hc
  obtain ⟨z, hz, hc⟩ := hc
  split at hc
  case isFalse => cases hc
  rename_i hf
  simp only [qe, qx, qc] at hc
  obtain ⟨qs, hq, rfl⟩ := hc
  simp only [aop] at h
  split at h
  ·cases h
  rename_i h1
  split at h <;> cases h
  rename_i cs hcs
  refine QcS g hρ ho ht hz (fun f hf' => ?_) hq (by simpa using h1) hcs
  have := qR.1 hf f hf'
  exact y7.1 this
 case h_2 len e ht =>
  simp only [qk, qe, qx, qc] at hc
  obtain ⟨z, hz, s, hs, rfl⟩ := hc
  simp only [aop, y0] at h
  split at h
  ·cases h
  rename_i h1
  split at h <;> cases h
  rename_i cs hcs
  exact QfD g hρ ho ht hz hs (by simpa using h1) (by simpa [Function.comp_def] using hcs)
theorem QjK {t : TypeId} {len : Nat} {ps : Array (Nat × Operand)} {p : AOp} {av : AV} {u : Option (Nat × Ob)} (ho : o.op = .buildSlice t len ps) (hc : Qcf P t len ps = some p) (h : aop η X.ob id p = some (av, u)) :
  Eff B X ((execOp ρ o).run P X.w) av (app X.ob u) := by
 unfold Qcf at hc
 simp only [qk, qe] at hc
 obtain ⟨e, he, s, hs, z, hz, hc⟩ := hc
 split at hc <;> cases hc
 rename_i hle
 simp only [aop, y0] at h
 split at h
 case isFalse => cases h
 rename_i h1
 simp only [qf, beq_iff_eq, ql] at h1
 split at h <;> cases h
 rename_i cs hcs
 exact Qkb g hρ hid ho (ZA he) hs hz hle h1.1.1 h1.1.2 h1.2 (by simpa [Function.comp_def] using hcs)
theorem Qh3 {t : TypeId} {l c : Operand} {p : AOp} {av : AV} {u : Option (Nat × Ob)} (ho : o.op = .makeSlice t l c) (hc : Jo P t l c = some p) (h : aop η X.ob id p = some (av, u)) :
  Eff B X ((execOp ρ o).run P X.w) av (app X.ob u) := by
 unfold Jo at hc
 simp only [qk, qe, qx, qc] at hc
 obtain ⟨e, he, s, hs, b, hb, z, hz, rfl⟩ := hc
 simp only [aop] at h
 split at h
 case h_2 => cases h
 rename_i k n k' n' hl hcap
 split at h
 ·cases h
  rename_i hh
  obtain ⟨rfl, h0, h1, h2, h3, h4, h5⟩ := hh
  exact Qis g hρ hid ho (ZA he) hs hb hz hl hcap h0 h1 h2 h3 h4 h5
 ·split at h <;> cases h
  rename_i hh
  obtain ⟨hlt, h0, h1, h2, h3, h4, h5⟩ := hh
  exact QdC g hρ hid ho (ZA he) hs hb hz hl hcap hlt h0 h1 h2 h3 h4 h5
theorem Qmw {t : TypeId} {x : Operand} {p : AOp} {av : AV} {u : Option (Nat × Ob)} (ho : o.op = .load t x) (hc : cOp P (.load t x) = some p) (h : aop η X.ob id p = some (av, u)) : Eff B X ((execOp ρ o).run P X.w) av (app X.ob u) := by
 simp only [cOp, qa] at hc
 obtain ⟨sz, hz, rfl⟩ := hc
 simp only [aop] at h
 split at h
 case h_2 => cases h
 rename_i cs hcs
 split at h
 ·split at h <;> cases h
  exact Qjq g hρ ho hz hcs (.inl ⟨rfl, rfl⟩)
 ·split at h <;> cases h
  rename_i hle
  exact Qjq g hρ ho hz hcs (.inr ⟨_, rfl, hle, rfl⟩)
theorem QkN {t : TypeId} {x v : Operand} {p : AOp} {av : AV} {u : Option (Nat × Ob)} (ho : o.op = .store t x v) (hc : cOp P (.store t x v) = some p) (h : aop η X.ob id p = some (av, u)) : Eff B X ((execOp ρ o).run P X.w) av (app X.ob u) := by
 simp only [cOp, qa] at hc
 obtain ⟨sz, hz, rfl⟩ := hc
 simp only [aop] at h
 split at h
 case h_2 => cases h
 rename_i oo ver k hx
 split at h
 case h_2 => cases h
 rename_i b hb
 split at h <;> cases h
 rename_i hh
 obtain ⟨h1, h2, h3, h4, h5⟩ := hh
 rw [Qf6 hb]
 exact QlK g hρ ho hz hx hb h1 h2 h3 h4 h5
theorem QkP {x : Operand} {p : AOp} {av : AV} {u : Option (Nat × Ob)} (ho : o.op = .nilCheck x) (hc : cOp P (.nilCheck x) = some p) (h : aop η X.ob id p = some (av, u)) : Eff B X ((execOp ρ o).run P X.w) av (app X.ob u) := by
 simp only [cOp, qc] at hc
 subst hc
 simp only [aop] at h
 split at h
 ·rename_i oo ver k hx
  split at h
  case h_2 => cases h
  rename_i b hb
  split at h <;> cases h
  exact Qfy g hρ ho hx hb (by assumption)
 ·cases h
  exact Qed g hρ ho (by assumption)
 ·cases h
  exact Qg8 g hρ ho (by assumption)
 ·cases h
theorem QnG {op : BinOp} {t t' : TypeId} {x y : Operand} {p : AOp} {av : AV} {u : Option (Nat × Ob)} (hk : ∀ v, ρ (.const v) = v) (ho : o.op = .binOp op t x y t') (hc : Qpf P op t x y = some p) (h : aop η X.ob id p = some (av, u)) : Eff B X ((execOp ρ o).run P X.w) av (app X.ob u) := by
 unfold Qpf at hc
 split at hc
 case h_7 => cases hc
 case h_5 =>
  rename_i ms ht
  split at hc
  case isFalse => cases hc
  rename_i hn
  have hy : y = .const .nilIface := by
   unfold Qnn at hn
   split at hn
   ·rfl
   ·cases hn
  subst hy
  split at hc
  case h_3 => cases hc
  all_goals
   cases hc
   simp only [aop] at h
   split at h
   case h_3 => cases h
   all_goals
    cases h
    rename_i hq
  ·exact Qc4 g hρ (neg := false) ho (hk _) ht hq (.inl ⟨rfl, rfl⟩)
  ·exact Qc4 g hρ (neg := false) ho (hk _) ht hq (.inr ⟨⟨_, _, rfl⟩, rfl⟩)
  ·exact Qc4 g hρ (neg := true) ho (hk _) ht hq (.inl ⟨rfl, rfl⟩)
  ·exact Qc4 g hρ (neg := true) ho (hk _) ht hq (.inr ⟨⟨_, _, rfl⟩, rfl⟩)
 case h_6 =>
  rename_i ht
  split at hc
  case isFalse => cases hc
  rename_i hq
  split at hc
  case h_3 => cases hc
  all_goals
   rw [qa] at hc
   obtain ⟨l, hl, rfl⟩ := hc
   simp only [aop] at h
   split at h
   case h_2 => cases h
   rw [qa] at h
   obtain ⟨r, hr, e⟩ := h
   cases e
  ·exact Qhc g hρ (neg := false) ho ht hq.1 hq.2 hl (by assumption) (by assumption) hr
  ·exact Qhc g hρ (neg := true) ho ht hq.1 hq.2 hl (by assumption) (by assumption) hr
 ·cases hc
  simp only [aop, qa] at h
  obtain ⟨v, hv, e⟩ := h
  cases e
  exact QlL g hρ ho hv
 ·cases hc
  simp only [aop, qa] at h
  obtain ⟨v, hv, e⟩ := h
  cases e
  exact QlL g hρ ho hv
 ·rename_i ht
  split at hc
  case h_3 => cases hc
  all_goals
   cases hc
   simp only [aop] at h
   split at h <;> cases h
  ·exact QlM g hρ (neg := false) ho ht (by assumption) (by assumption)
  ·exact QlM g hρ (neg := true) ho ht (by assumption) (by assumption)
 ·rename_i e ht
  split at hc
  case isFalse => cases hc
  rename_i hn
  have hy : y = .const (.slice none 0 0) := by
   unfold Qno at hn
   split at hn
   ·rfl
   ·cases hn
  subst hy
  split at hc
  case h_3 => cases hc
  all_goals
   cases hc
   simp only [aop] at h
   split at h
   case h_3 => cases h
   all_goals
    cases h
    rename_i hq
  ·exact Qbu g hρ (neg := false) ho (hk _) ht hq
  ·exact Qbu g hρ (neg := false) ho (hk _) ht hq
  ·exact Qbu g hρ (neg := true) ho (hk _) ht hq
  ·exact Qbu g hρ (neg := true) ho (hk _) ht hq
theorem Qmy {s d : TypeId} {x : Operand} {p : AOp} {av : AV} {u : Option (Nat × Ob)} (ho : o.op = .convert s d x) (hc : QlZ P s d x = some p) (h : aop η X.ob id p = some (av, u)) : Eff B X ((execOp ρ o).run P X.w) av (app X.ob u) := by
 unfold QlZ at hc
 split at hc
 case h_6 => cases hc
 ·rename_i y k hs hd
  cases hc
  simp only [aop] at h
  split at h <;> cases h
  exact Qix g hρ ho hd ⟨y, hs⟩ (by assumption)
 ·rename_i hs hd
  cases hc
  simp only [aop] at h
  split at h <;> cases h
  exact Qiw g hρ ho hd hs (by assumption)
 ·rename_i e hs hd
  split at hc <;> cases hc
  rename_i he
  simp only [aop] at h
  split at h <;> cases h
  exact Qir g hρ ho hs he hd (by assumption)
 ·rename_i e hs hd
  split at hc <;> cases hc
  rename_i he
  simp only [aop] at h
  split at h
  case h_2 => cases h
  rename_i n cs hcs
  split at h
  case isFalse => cases h
  rename_i hn
  simp only [qa] at h
  obtain ⟨l, hl, e⟩ := h
  cases e
  exact QlI g hρ ho hs he hd hcs hn hl
 ·rename_i e' e hs hd
  split at hc
  case isFalse => cases hc
  rename_i hsd
  subst hsd
  split at hc <;> cases hc
  rename_i he
  simp only [aop] at h
  split at h
  case h_2 => cases h
  rename_i oo n hx
  split at h
  case h_2 => cases h
  rename_i bb hob
  split at h <;> cases h
  rename_i hq
  have hol : oo < X.ob.length := (qb.1 hob).1
  simp only [app, hol, yI]
  exact QlJ g hρ ho hd he hx hob hq.1 hq.2.1 hq.2.2
theorem QkO {t : TypeId} {x : Operand} {lo hi mx : Option Operand} {p : AOp} {av : AV} {u : Option (Nat × Ob)} (ho : o.op = .slice t x lo hi mx) (hc : Qhi P t x lo hi mx = some p) (h : aop η X.ob id p = some (av, u)) : Eff B X ((execOp ρ o).run P X.w) av (app X.ob u) := by
 unfold Qhi at hc
 split at hc
 case h_4 => cases hc
 ·rename_i ht
  split at hc <;> cases hc
  rename_i hm
  have hm' : mx = none := by simpa using hm
  subst hm'
  simp only [aop] at h
  split at h
  case h_2 => cases h
  rename_i s l hx hl
  split at h
  case h_2 => cases h
  rename_i hh hhi
  split at h <;> cases h
  rename_i hb
  exact Qj9 g hρ ho ht hx hl hhi hb.1 hb.2.1 hb.2.2
 ·rename_i e ht
  simp only [qa] at hc
  obtain ⟨s, hs, rfl⟩ := hc
  simp only [aop] at h
  split at h
  ·split at h
   ·rename_i oo n c hx
    split at h
    case h_2 => cases h
    rename_i l hh hl hhi
    exact Qm3 g hρ ho ht hs hx hl hhi h
   ·split at h
    case h_2 => cases h
    rename_i n cs l hn hl
    split at h
    case h_2 => cases h
    rename_i hh hhi
    simp only [qa] at h
    obtain ⟨r, hr, e⟩ := h
    cases e
    exact Qg7 g hρ ho ht hs hn hl hhi hr
  ·rename_i m
   split at h
   case h_2 => cases h
   rename_i n cs l k hh k' m' hn hl hhi hm
   split at h
   case isFalse => cases h
   rename_i e
   subst e
   cases hi with
   | none => simp at hhi
   | some hi =>
    simp at hhi
    split at h
    ·rename_i e
     split at h <;> cases h
     rename_i hb
     exact QeJ g hρ ho ht hs hn hl hhi hm (.inl ⟨e, hb.1, hb.2, rfl⟩)
    ·rename_i e
     simp only [qa] at h
     obtain ⟨r, hr, e2⟩ := h
     cases e2
     exact QeJ g hρ ho ht hs hn hl hhi hm (.inr ⟨e, hr⟩)
 ·rename_i len e ht
  split at hc
  case isTrue => cases hc
  rename_i hm
  have hm' : mx = none := by simpa using hm
  subst hm'
  simp only [qa] at hc
  obtain ⟨s, hs, rfl⟩ := hc
  simp only [aop] at h
  split at h
  case h_3 => cases h
  ·rename_i oo ver k l hh hx hl hhi
   split at h
   case h_2 => cases h
   rename_i b hb
   split at h <;> cases h
   rename_i hq
   exact Qka g hρ ho ht hs hx hb hq.1 hl hhi hq.2.1 hq.2.2.1 hq.2.2.2.1
  ·rename_i cs l hh hx hl hhi
   split at h <;> cases h
   rename_i hq
   exact QdA g hρ ho ht hs hx hl hhi hq.1 hq.2.1 hq.2.2
theorem QkT {t : TypeId} {x : Operand} {f : Nat} {p : AOp} {av : AV} {u : Option (Nat × Ob)} (ho : o.op = .fieldAddr t x f) (hc : Qhm P t x f = some p) (h : aop η X.ob id p = some (av, u)) : Eff B X ((execOp ρ o).run P X.w) av (app X.ob u) := by
 unfold Qhm at hc
 split at hc
 case h_2 => cases hc
 rename_i fields ht
 simp only [qk, qe] at hc
 obtain ⟨fd, hf, s, hs, hc⟩ := hc
 split at hc <;> cases hc
 rename_i h0
 simp only [aop] at h
 split at h
 ·split at h
  case h_2 => cases h
  split at h <;> cases h
  exact QfB g hρ ho ht hf hs h0 (by assumption) (by assumption) (by assumption)
 ·cases h
  exact Qef g hρ ho ht hf hs h0 (by assumption)
 ·cases h
theorem QkS {t : TypeId} {x : Operand} {f : Nat} {p : AOp} {av : AV} {u : Option (Nat × Ob)} (ho : o.op = .field t x f) (hc : Qhl P t x f = some p) (h : aop η X.ob id p = some (av, u)) : Eff B X ((execOp ρ o).run P X.w) av (app X.ob u) := by
 unfold Qhl at hc
 split at hc
 case h_2 => cases hc
 rename_i fields ht
 simp only [qk, qe, qx, qc] at hc
 obtain ⟨fd, hf, a, ha, rfl⟩ := hc
 simp only [aop] at h
 split at h
 case h_2 => cases h
 rename_i cs hx
 split at h
 ·split at h <;> cases h
  exact Qhb g hρ ho ht hf ha hx (.inl ⟨rfl, by assumption⟩)
 ·split at h <;> cases h
  exact Qhb g hρ ho ht hf ha hx (.inr ⟨_, rfl, by assumption, rfl⟩)
theorem QkR {t : TypeId} {x i : Operand} {p : AOp} {av : AV} {u : Option (Nat × Ob)} (ho : o.op = .indexAddr t x i) (hc : Qhk P t x i = some p) (h : aop η X.ob id p = some (av, u)) : Eff B X ((execOp ρ o).run P X.w) av (app X.ob u) := by
 unfold Qhk at hc
 split at hc
 case h_3 => cases hc
 ·rename_i e ht
  simp only [qa] at hc
  obtain ⟨s, hs, rfl⟩ := hc
  simp only [aop] at h
  split at h
  case h_2 => cases h
  rename_i k j hi
  split at h
  ·split at h <;> cases h
   rename_i hq
   exact QcR g hρ ho ht hs hi (by assumption) hq.1 hq.2.1 hq.2.2
  ·split at h
   case h_2 => cases h
   split at h <;> cases h
   rename_i hq
   exact QfA g hρ ho ht hs hi (by assumption) (by assumption) hq.1 hq.2.1 hq.2.2
  ·split at h
   case h_2 => cases h
   split at h <;> cases h
   rename_i hq
   exact Qee g hρ ho ht hs hi (by assumption) (by assumption) hq.1 hq.2.1 hq.2.2
  ·cases h
 ·rename_i len e ht
  simp only [qa] at hc
  obtain ⟨s, hs, rfl⟩ := hc
  simp only [aop] at h
  split at h
  case h_2 => cases h
  rename_i k j hi
  split at h
  ·split at h <;> cases h
   rename_i hq
   exact Qbv g hρ ho ht hs hi (by assumption) hq.1 hq.2
  ·split at h
   case h_2 => cases h
   split at h <;> cases h
   rename_i hq
   exact Qcc g hρ ho ht hs hi (by assumption) (by assumption) hq.1 hq.2.1 hq.2.2
  ·cases h
theorem QkQ {t : TypeId} {x i : Operand} {p : AOp} {av : AV} {u : Option (Nat × Ob)} (ho : o.op = .index t x i) (hc : Qhj P t x i = some p) (h : aop η X.ob id p = some (av, u)) : Eff B X ((execOp ρ o).run P X.w) av (app X.ob u) := by
 unfold Qhj at hc
 split at hc
 case h_3 => cases hc
 ·rename_i ht
  cases hc
  simp only [aop] at h
  split at h
  case h_2 => cases h
  rename_i k j hi
  split at h
  ·rename_i e hx
   split at h <;> cases h
   rename_i hb
   split at hb
   ·exact Qha g hρ ho ht hx hi (by assumption) hb
   ·cases hb
  ·rename_i e _; cases e
  ·cases h
 ·rename_i len e ht
  simp only [qk, qe, qx, qc] at hc
  obtain ⟨s, hs, a, ha, rfl⟩ := hc
  simp only [aop] at h
  split at h
  case h_2 => cases h
  rename_i k j hi
  split at h
  ·rename_i e _; cases e
  ·rename_i e hx
   cases e
   split at h
   case isFalse => cases h
   rename_i hb
   split at h
   ·split at h <;> cases h
    exact Qcv g hρ ho ht hs ha hx hi hb.1 hb.2 (.inr ⟨_, rfl, by assumption, rfl⟩)
   ·split at h <;> cases h
    exact Qcv g hρ ho ht hs ha hx hi hb.1 hb.2 (.inl ⟨rfl, by assumption⟩)
  ·cases h
theorem Qh4 {x : Operand} {i : Nat} {p : AOp} {av : AV} {u : Option (Nat × Ob)} (ho : o.op = .extract x i) (hc : cOp P (.extract x i) = some p) (h : aop η X.ob id p = some (av, u)) : Eff B X ((execOp ρ o).run P X.w) av (app X.ob u) := by
 simp only [cOp, qc] at hc
 subst hc
 simp only [aop] at h
 split at h
 case h_2 => cases h
 split at h <;> cases h
 exact Qiv g hρ ho (by assumption) (by assumption)
theorem QnE {c : Call} {p : AOp} {av : AV} {u : Option (Nat × Ob)} (ho : o.op = .call c) (hcal : c.callee = .builtin .len) (hc : Qpd P c = some p) (h : aop η X.ob id p = some (av, u)) : Eff B X ((execOp ρ o).run P X.w) av (app X.ob u) := by
 unfold Qpd at hc
 split at hc
 case h_4 => cases hc
 ·rename_i x ht ha
  cases hc
  simp only [qe] at ht
  obtain ⟨t, hat, ht⟩ := ht
  simp only [aop] at h
  split at h <;> cases h
  exact Qit g hρ ho hcal (Qs ha) hat ht (by assumption)
 ·rename_i e x ht ha
  cases hc
  simp only [qe] at ht
  obtain ⟨t, hat, ht⟩ := ht
  simp only [aop] at h
  split at h
  ·split at h
   case h_2 => cases h
   split at h <;> cases h
   exact Qg9 g hρ ho hcal (Qs ha) hat ht (by assumption) (by assumption) (by assumption)
  ·split at h <;> cases h
   exact Qfz g hρ ho hcal (Qs ha) hat ht (by assumption)
 ·rename_i n e x ht ha
  cases hc
  simp only [qe] at ht
  obtain ⟨t, hat, ht⟩ := ht
  simp only [aop] at h
  cases h
  exact Qiu g hρ ho hcal (Qs ha) hat ht
theorem QjL {c : Call} {p : AOp} {av : AV} {u : Option (Nat × Ob)} (ho : o.op = .call c) (hcal : c.callee = .builtin .append) (hc : QdE P c = some p) (h : aop η X.ob id p = some (av, u)) : Eff B X ((execOp ρ o).run P X.w) av (app X.ob u) := by
 unfold QdE at hc
 split at hc
 case h_2 => cases hc
 rename_i t t2 x y hat ha
 simp only [qk, qe] at hc
 obtain ⟨e, he, s, hs, b, hb, z, hz, hc⟩ := hc
 split at hc
 case isFalse => cases hc
 rename_i hzs
 have key : ∀ (st : Bool) (d : TypeDesc), P.underlying t2 = some d → (∀ k, d ≠ .int k) → (st = true → s = 1) → aop η X.ob id (.append e s b st x y) = some (av, u) → Eff B X ((execOp ρ o).run P X.w) av (app X.ob u) := by
  intro st d hu hd hst h
  simp only [aop] at h
  split at h
  case h_2 => cases h
  rename_i m cs hy
  split at h
  case isFalse => cases h
  rename_i hl
  split at h
  ·split at h <;> cases h
   rename_i hq
   exact Qeh g hρ hid ho hcal (Qs ha) (Qs hat) (ZA he) hu hd hs hb hz hzs.1 (fun v hv => qR.1 hzs.2 v (by simpa using hv)) (by assumption) hy hl.1 hl.2 hst hq.1 hq.2
  ·split at h
   case h_2 => cases h
   rename_i bb hbb
   split at h <;> cases h
   rename_i hq
   rw [Qf6 hbb]
   exact Qeg g hρ ho hcal (Qs ha) (Qs hat) (ZA he) hu hd hs hb hz hzs.1 (fun v hv => qR.1 hzs.2 v (by simpa using hv)) (by assumption) hbb hq.1 hq.2.1 hq.2.2.1 hq.2.2.2.2.2 hy hl.1 hl.2 hst hq.2.2.2.1 hq.2.2.2.2.1
  ·cases h
 split at hc
 case h_3 => cases hc
 ·rename_i hu
  cases hc
  exact key false _ hu (fun k h => by cases h) (fun h => by cases h) h
 ·rename_i hu
  split at hc <;> cases hc
  exact key true _ hu (fun k h => by cases h) (fun _ => by assumption) h
theorem Qmx {c : Call} {p : AOp} {av : AV} {u : Option (Nat × Ob)} (ho : o.op = .call c) (hcal : c.callee = .builtin .copy) (hc : QlY P c = some p) (h : aop η X.ob id p = some (av, u)) : Eff B X ((execOp ρ o).run P X.w) av (app X.ob u) := by
 unfold QlY at hc
 split at hc
 case h_2 => cases hc
 rename_i t t2 x y hat ha
 simp only [qk, qe] at hc
 obtain ⟨e, he, s, hs, hc⟩ := hc
 have key : ∀ (st : Bool), (st = true → s = 1) → aop η X.ob id (.copy s st x y) = some (av, u) → Eff B X ((execOp ρ o).run P X.w) av (app X.ob u) := by
  intro st hst h
  simp only [aop] at h
  split at h
  case h_2 => cases h
  rename_i m cs hy
  split at h
  case isFalse => cases h
  rename_i hl
  obtain ⟨hl, h0⟩ := hl
  have hr := hρ x
  split at h
  ·rename_i z hx
   cases h
   rw [hx] at hr
   simp only [Rep] at hr
   obtain ⟨a, ex, _⟩ := hr
   exact Xb g hρ ho hcal (Qs ha) (Qs hat) (ZA he) hs ex hy hl h0 hst (jh _)
  ·rename_i oo ver k n hx
   split at h
   case h_2 => cases h
   rename_i bb hbb
   split at h <;> cases h
   rename_i hq
   rw [Qf6 hbb]
   rw [hx] at hr
   simp only [Rep] at hr
   obtain ⟨⟨b', hb', hb0, _, hp⟩, _⟩ := hr
   rw [hbb] at hb'
   cases hb'
   obtain ⟨a, cap, ex, _, h2⟩ := hp hq.1
   rcases h2 with rfl | ⟨blk, cc, he2, rfl⟩
   ·have hmin : Nat.min m 0 = 0 := jh _
    rw [hmin]
    have hsame : bb.cs.take k ++ cs.take (0 * s) ++ bb.cs.drop (k + 0 * s) = bb.cs := by simp
    rw [hsame]
    have : X.ob.set oo { bb with cs := bb.cs } = X.ob := Qfe hbb
    rw [this]
    exact Xb g hρ ho hcal (Qs ha) (Qs hat) (ZA he) hs ex hy hl h0 hst (jh _)
   ·exact Qjr g hρ ho hcal (Qs ha) (Qs hat) (ZA he) hs ex hbb he2 hq.2.1 hq.2.2.1 hy hl h0 hst
  ·rename_i oo n hx
   split at h
   case h_2 => cases h
   rename_i bb hbb
   split at h <;> cases h
   rename_i hq
   rw [Qf6 hbb]
   rw [hx] at hr
   simp only [Rep] at hr
   obtain ⟨⟨b', hb', hb0, _, hp⟩, _⟩ := hr
   rw [hbb] at hb'
   cases hb'
   have h2 := hp hq.1
   obtain ⟨ee, he2, hoo⟩ := g.get hbb
   cases ee with
   | none =>
    simp only [he2, OwnV] at h2
    obtain ⟨a, ex⟩ := h2
    have hn0 : n = 0 := by rw [← hq.1]; exact hoo.1
    subst hn0
    have hmin : Nat.min m 0 = 0 := jh _
    rw [hmin]
    have hsame : cs.take (0 * s) ++ bb.cs.drop (0 * s) = bb.cs := by simp
    rw [hsame]
    have : X.ob.set oo { bb with cs := bb.cs } = X.ob := Qfe hbb
    rw [this]
    exact Xb g hρ ho hcal (Qs ha) (Qs hat) (ZA he) hs ex hy hl h0 hst (jh _)
   | some pp =>
    obtain ⟨blk, cap⟩ := pp
    simp only [he2, OwnV] at h2
    have := Qjr g hρ (P := P) (o := o) (k := 0) (n := n) ho hcal (Qs ha) (Qs hat) (ZA he) hs h2 hbb he2 (by omega) (by simpa using hq.2.2.1) hy hl h0 hst
    simpa using this
  ·cases h
 split at hc
 case h_3 => cases hc
 ·cases hc
  exact key false (fun h => by cases h) h
 ·split at hc <;> cases hc
  exact key true (fun _ => by assumption) h
theorem QbE (hk : ∀ v, ρ (.const v) = v) {p : AOp} (hc : cOp P o.op = some p) {av : AV} {u : Option (Nat × Ob)} (h : aop η X.ob id p = some (av, u)) : Eff B X ((execOp ρ o).run P X.w) av (app X.ob u) := by
 cases ho : o.op <;> rw [ho] at hc <;> first | (simp only [cOp] at hc; cases hc; done) | skip
 case move x => simp only [cOp, qc] at hc; subst hc; simp only [aop] at h; cases h; exact Qnr g hρ (.inl ho)
 case assign x => simp only [cOp, qc] at hc; subst hc; simp only [aop] at h; cases h; exact Qnr g hρ (.inr ho)
 case pick c a b =>
  simp only [cOp, qc] at hc; subst hc; simp only [aop] at h
  split at h <;> cases h
  exact Qm4 g hρ ho (by assumption)
 case alloc => exact QkV g hρ hid ho hc h
 case box => exact QnF g hρ hid ho hc h
 case build => exact QkU g hρ hid ho hc h
 case buildSlice => exact QjK g hρ hid ho hc h
 case load => exact Qmw g hρ hid ho hc h
 case store => exact QkN g hρ hid ho hc h
 case nilCheck => exact QkP g hρ hid ho hc h
 case binOp => exact QnG g hρ hid hk ho hc h
 case unOp op t x =>
  simp only [cOp, qc] at hc; subst hc; simp only [aop, qa] at h
  obtain ⟨v, hv, e⟩ := h
  cases e
  exact Qo3 g hρ ho hv
 case convert => exact Qmy g hρ hid ho hc h
 case makeFunc f fs cs =>
  simp only [cOp, qc] at hc; subst hc; simp only [aop] at h
  cases h
  exact Qm5 g hρ ho
 case makeSlice => exact Qh3 g hρ hid ho hc h
 case slice => exact QkO g hρ hid ho hc h
 case fieldAddr => exact QkT g hρ hid ho hc h
 case field => exact QkS g hρ hid ho hc h
 case indexAddr => exact QkR g hρ hid ho hc h
 case index => exact QkQ g hρ hid ho hc h
 case extract => exact Qh4 g hρ hid ho hc h
 case call c =>
  simp only [cOp] at hc
  unfold Qnb at hc
  split at hc
  ·unfold QpA at hc
   split at hc <;> cases hc
   simp only [aop] at h
   split at h
   ·cases h
    exact Qoa g hρ ho (by assumption) (by assumption) (by assumption) (by assumption)
   ·split at h
    ·split at h <;> cases h
     exact QfC g hρ ho (by assumption) (by assumption) (by assumption) (by assumption) (by assumption) (by assumption)
    ·cases h
   ·cases h
  ·exact QnE g hρ hid ho (by assumption) hc h
  ·exact QjL g hρ hid ho (by assumption) hc h
  ·exact Qmx g hρ hid ho (by assumption) hc h
  ·cases hc
   simp only [aop] at h
   split at h
   ·rename_i x r hx
    simp only [qa] at h
    obtain ⟨v, hv, e⟩ := h
    cases e
    exact Qn8 g hρ ho (by assumption) hx hv
   ·cases h
  ·cases hc
   simp only [aop] at h
   split at h
   ·rename_i x r hx
    simp only [qa] at h
    obtain ⟨v, hv, e⟩ := h
    cases e
    exact Qn9 g hρ ho (by assumption) hx hv
   ·cases h
  ·cases hc
end
end Go.Am

/- An abstract machine for pure Go code, part 4: sound for the given semantics; no conditions. -/
import Derived.Test.YtnkkbheggkaopaaDoorLinesReadsA3
set_option linter.unusedSectionVars false
set_option linter.unusedSimpArgs false
set_option linter.unusedVariables false
/- A range over a function whose state lies in a cell: the law (the kit's, turned), and the machine's rule. -/
namespace Go.Am
open Go.RowKit
def QkI {α : Type} (F : Fence) (n : Nat) (P : Program) (g : Nat) (lb : Array Value) (encs : α → Array Value) (Kp Rel : World → World → Prop) (S Sp : List α → Prop) (N : Nat) (w : World) : Prop :=
 ∀ (l : Nat) (J Jx : List α → World → Prop) (W : World), Below w.heap.size w W → (∀ s A B, J s A → Rel A B → J s B) → (∀ s A B, Jx s A → Rel A B → Jx s B) →
  (∀ pre x W1, J pre W1 → pre.length < N → YieldAt F (n - 1) P l (encs x) W1 fun e W' => (e = .returned (.bool true) ∧ J (pre ++ [x]) W' ∧ Kp W1 W') ∨ (e = .returned (.bool false) ∧ Jx (pre ++ [x]) W')) →
  J [] W → CallsIn F n P g (#[.func (.yield l) #[] #[]] ++ lb) W fun e W' => (∃ v, e = .returned v) ∧ ((∃ xs, S xs ∧ J xs W') ∨ (∃ pre, Sp pre ∧ Jx pre W'))
section
variable {F : Fence} {n : Nat} {P : Program}
theorem JP {α : Type} {g : Operand} {ps : Array Tmp} {assign body : Code} {Q : Exit → Act → World → Prop} {a : Act} {w : World}
  (hro : F.round = none) (h1 : 1 ≤ n) {gf : Nat} {lb : Array Value} (hg : a.eval g = .func (.func gf) #[] lb) (hFg : F.fn gf) (eg : ∀ args w, (callFunc gf args).run P w = .ok (.enter gf args) w)
  {encs : α → Array Value} {Kp Rel : World → World → Prop} {S Sp : List α → Prop} {N : Nat} {w0 : World} (hseq : QkI F (n - 1) P gf lb encs Kp Rel S Sp N w0)
  (hRel : ∀ (A B : World), Rel A B → ∀ (k : Nat) (o : Obj), w.heap.size ≤ k → A.heap[k]? = some o → o.isCells = false → B.heap[k]? = some o)
  (hKt : ∀ {A B C : World}, Kp A B → Kp B C → Kp A C) (hKb : ∀ (W : World) (l : Nat) (o o' : Obj), w.heap.size ≤ l → W.heap[l]? = some o → o.isCells = false → o.isWalk = false → Kp W (W.putObj l o')) (hb0 : Below w0.heap.size w0 w) (hps : ∀ x, (encs x).size = ps.size)
  (I : List α → World → Prop) (Ix : Code → List α → World → Prop) (hI : OwnFrom w.heap.size I) (hIx : ∀ c, OwnFrom w.heap.size (Ix c)) (hIR : ∀ s A B, I s A → Rel A B → I s B) (hIxR : ∀ c s A B, Ix c s A → Rel A B → Ix c s B) (h0 : I [] w) (a₁ : α → Act)
  (hassign : ∀ (l : Nat) (x : α) (W : World) (K : Act → World → Prop), K (a₁ x) W →
   assign.wpIn (F.inRound l) (n - 1 - 1) P (Exit.then K (fun _ _ _ => False)) { tmps := (ps.zip (encs x)).foldl (fun t (p, v) => t.setIfInBounds p v) a.tmps, defers := [] } W)
  (hbody : ∀ (l : Nat) (pre : List α) (x : α) (W : World), I pre W → pre.length < N → body.wpIn (F.inRound l) (n - 1 - 1) P (ownPostG w.heap.size Kp I Ix (pre ++ [x]) W) (a₁ x) W)
  (hdone : ∀ (D : Nat) (xs : List α) (W : World), w.heap.size ≤ D → S xs → I xs W → W.heap[D]? = some (.deferred (some [])) → Q .normal { a with defers := { target := .collected D, args := #[] } :: a.defers } W)
  (hstop : ∀ (D : Nat) (c : Code) (pre : List α) (W : World), w.heap.size ≤ D → Sp pre → Ix c pre W → W.heap[D]? = some (.deferred (some [])) → c.wpIn F n P Q { a with defers := { target := .collected D, args := #[] } :: a.defers } W) :
  (Code.rangeFunc g ps assign body).wpIn F n P Q a w := by
 refine wpIn_rangeFunc ?_
 intro fn hfn
 rw [hro]
 obtain ⟨rec, hrec⟩ : ∃ rec : LoopState → Option Code → Loop, rec = fun st pe => { state := st, pending := pe, fn, tmps := a.tmps, params := ps, assign, body, defers := w.heap.size } := ⟨_, rfl⟩
 obtain ⟨W1, hW1⟩ : ∃ W1, (w.alloc (.deferred (some []))).alloc (.loop (rec .ready none)) = W1 := ⟨_, rfl⟩
 have hL1 : W1.heap[w.heap.size + 1]? = some (.loop (rec .ready none)) := by
  rw [← hW1]; have := World.alloc_heap_new (w.alloc (.deferred (some []))) (.loop (rec .ready none)); rwa [World.size_alloc] at this
 have hK1 : W1.heap[w.heap.size]? = some (.deferred (some [])) := by
  rw [← hW1]; exact (Below.heap_alloc _ _ _ (by simp)).trans (World.alloc_heap_new w _)
 have hI1 : I [] W1 := by rw [← hW1]; exact hI.alloc _ (hI.alloc _ h0)
 have hb1 : Below w0.heap.size w0 W1 := by
  rw [← hW1]; exact hb0.trans ((((Below.refl _ w).alloc (qh _) _).alloc (by simp) _).mono hb0.size)
 refine ⟨w.heap.size + 1, [{ target := .collected w.heap.size, args := #[] }], W1, { target := .fn (.func gf) lb, args := #[.func (.yield (w.heap.size + 1)) #[] #[]] }, W1, gf,
  #[.func (.yield (w.heap.size + 1)) #[] #[]] ++ lb, W1, ?_, ?_, ?_, ?_, fun _ => h1, ?_⟩
 ·rw [← hW1, hrec]; exact run_enterLoop_outer _ _ _ _ _
 ·simp only [resolve, hg]
  simp [go_sem]
 ·intro f' hf'; simp [Target.leads] at hf'; subst hf'; exact hFg
 ·simp [invoke, go_sem, eg]
 ·refine (hseq (w.heap.size + 1)
   (fun pre W => I pre W ∧ W.heap[w.heap.size + 1]? = some (.loop (rec .ready none)) ∧ W.heap[w.heap.size]? = some (.deferred (some [])))
   (fun pre W => ∃ c, Ix c pre W ∧ W.heap[w.heap.size + 1]? = some (.loop (rec .done (some c))) ∧ W.heap[w.heap.size]? = some (.deferred (some [])))
   W1 hb1
   (fun s A B hs hr => ⟨hIR s A B hs.1 hr, hRel A B hr _ _ (by omega) hs.2.1 rfl, hRel A B hr _ _ (qh _) hs.2.2 rfl⟩)
   (fun s A B hs hr => by
    obtain ⟨c, hc, hl, hk⟩ := hs
    exact ⟨c, hIxR c s A B hc hr, hRel A B hr _ _ (by omega) hl rfl, hRel A B hr _ _ (qh _) hk rfl⟩)
   ?_ ⟨hI1, hL1, hK1⟩).mono ?_
  ·
   rintro pre x W ⟨hi, hl, hk⟩ hlen
   have hlt : w.heap.size + 1 < W.heap.size := (qj.1 hl).1
   have hy := run_yield (P := P) (args := encs x) hl (by rw [hrec]; exact hps x)
   rw [hrec] at hy
   refine ⟨fn, _, assign, body, hy, roundIn_of_wpIn hfn (hassign _ x W _ ⟨_, run_beginRound hl (by rw [hrec]), ?_⟩)⟩
   have hl2 : (W.putObj (w.heap.size + 1) (.loop { rec .ready none with state := .busy })).heap[w.heap.size + 1]? = some (.loop { rec .ready none with state := .busy }) := World.putObj_heap_same hlt
   have hk2 : (W.putObj (w.heap.size + 1) (.loop { rec .ready none with state := .busy })).heap[w.heap.size]? = some (.deferred (some [])) := (World.putObj_heap_other (by omega)).trans hk
   have hw2 : Kp W (W.putObj (w.heap.size + 1) (.loop { rec .ready none with state := .busy })) := hKb _ _ _ _ (by omega) hl rfl rfl
   refine wpIn_mono (hbody _ pre x _ (hI.putObj _ hi (by omega) hl rfl) hlen) ?_
   have fin : ∀ (jump : Option Code) (W3 : World), KeepsFrom w.heap.size (W.putObj (w.heap.size + 1) (.loop { rec .ready none with state := .busy })) W3 →
     (Instr.endRound (w.heap.size + 1) jump).run P W3 = .ok (.bool jump.isNone) (W3.putObj (w.heap.size + 1) (.loop (rec (if jump.isNone then .ready else .done) jump))) ∧
     W3.heap[w.heap.size + 1]? = some (.loop { rec .ready none with state := .busy }) ∧
     (W3.putObj (w.heap.size + 1) (.loop (rec (if jump.isNone then .ready else .done) jump))).heap[w.heap.size + 1]? = some (.loop (rec (if jump.isNone then .ready else .done) jump)) ∧
     (W3.putObj (w.heap.size + 1) (.loop (rec (if jump.isNone then .ready else .done) jump))).heap[w.heap.size]? = some (.deferred (some [])) := fun jump W3 hk3 => by
    have hl3 := hk3.same _ _ (by omega) hl2 rfl
    have := run_endRound (P := P) jump hl3
    rw [hrec] at this ⊢
    exact ⟨this, by rw [hrec] at hl3; exact hl3, World.putObj_heap_same (qj.1 hl3).1, (World.putObj_heap_other (by omega)).trans (hk3.same _ _ (qh _) hk2 rfl)⟩
   rintro e a3 W3 hp
   cases e with
   | normal =>
    obtain ⟨hk3, hkp3, hi3⟩ := hp
    obtain ⟨hr, hl3, hl4, hk4⟩ := fin none W3 hk3
    exact ⟨_, _, hr, .inl ⟨rfl, ⟨hI.putObj _ hi3 (by omega) hl3 rfl, hl4, hk4⟩, hKt (hKt hw2 hkp3) (hKb _ _ _ _ (by omega) hl3 rfl rfl)⟩⟩
   | ret =>
    obtain ⟨hk3, hi3⟩ := hp
    obtain ⟨hr, hl3, hl4, hk4⟩ := fin (some .ret) W3 hk3
    exact ⟨_, _, hr, .inr ⟨rfl, .ret, (hIx _).putObj _ hi3 (by omega) hl3 rfl, hl4, hk4⟩⟩
   | exit id =>
    obtain ⟨hk3, hi3⟩ := hp
    obtain ⟨hr, hl3, hl4, hk4⟩ := fin (some (.exit id)) W3 hk3
    exact ⟨_, _, hr, .inr ⟨rfl, .exit id, (hIx _).putObj _ hi3 (by omega) hl3 rfl, hl4, hk4⟩⟩
   | goto t =>
    obtain ⟨hk3, hi3⟩ := hp
    obtain ⟨hr, hl3, hl4, hk4⟩ := fin (some (.goto t)) W3 hk3
    exact ⟨_, _, hr, .inr ⟨rfl, .goto t, (hIx _).putObj _ hi3 (by omega) hl3 rfl, hl4, hk4⟩⟩
   | panic ch => exact hp.elim
   | outgrown => exact hp.elim
  · -- BEHIND THE ITERATOR
   rintro e W2 ⟨⟨v, rfl⟩, (⟨xs, hS, hi, hl, hk⟩ | ⟨pre, hSp, c, hi, hl, hk⟩)⟩
   ·exact ⟨none, _, by have := run_endLoop (P := P) hl (by rw [hrec]; simp); rw [hrec] at this; exact this, hdone _ xs _ (qh _) hS (hI.putObj _ hi (by omega) hl rfl) ((World.putObj_heap_other (by omega)).trans hk)⟩
   ·exact ⟨some c, _, by have := run_endLoop (P := P) hl (by rw [hrec]; simp); rw [hrec] at this; exact this, hstop _ c pre _ (qh _) hSp ((hIx c).putObj _ hi (by omega) hl rfl) ((World.putObj_heap_other (by omega)).trans hk)⟩
end
end Go.Am
/- The abstract machine: a range over a function whose state is a string in a cell. -/
namespace Go.Am
open Go.RowKit
def ZG (W : World) (br cap ty : Nat) (r : List UInt8) : Prop := ∃ cur : Array Value, W.heap[br]? = some (.cells cur ty (0, 0)) ∧ cur.size = cap ∧ 1 ≤ cap ∧ cap ≤ maxLen ∧ cur.toList.take 1 = [.string ⟨r.toArray⟩] ∧ ∀ v ∈ cur.toList, v.oneCell' = true
def bx (ty : Nat) (r : List UInt8) : Ob := ⟨ty, 1, 1, [.str r], 0⟩
def QiJ (br cap ty : Nat) (A B : World) : Prop := ∃ row, A.grownBy B row ∧ ∀ q, row = some q → q = br ∧ (∃ r, ZG A br cap ty r) ∧ ∃ r', ZG B br cap ty r'
def KpX (br cap ty : Nat) (C : Nat → Nat → Prop) (A B : World) : Prop := (∀ r, ZG A br cap ty r → ZG B br cap ty r) ∧ ∀ (b k : Nat) (v : Value), ¬ C b k → A.cell? ⟨b, k, none⟩ = some v → B.cell? ⟨b, k, none⟩ = some v
theorem ZG.uniq {W : World} {br cap ty : Nat} {r r' : List UInt8} (h : ZG W br cap ty r) (g : ZG W br cap ty r') : r = r' := by
 obtain ⟨cur, h1, _, _, _, h5, _⟩ := h
 obtain ⟨cur', g1, _, _, _, g5, _⟩ := g
 rw [h1] at g1
 cases g1
 rw [h5] at g5
 simpa using g5
theorem ZG.lt {W : World} {br cap ty : Nat} {r : List UInt8} (h : ZG W br cap ty r) : br < W.heap.size := by
 obtain ⟨cur, h1, _⟩ := h
 exact (qj.1 h1).1
theorem ZG.same {W W' : World} {br cap ty : Nat} {r : List UInt8} (h : ZG W br cap ty r) (e : W'.heap[br]? = W.heap[br]?) : ZG W' br cap ty r := by
 obtain ⟨cur, h1, h2⟩ := h
 exact ⟨cur, e.trans h1, h2⟩
theorem Held.boxAt {B : Nat} {X : Cx} (g : Held B X) {p br cap ty : Nat} {r : List UInt8} (hp : X.ob[p]? = some (bx ty r)) (he : X.be[p]? = some (some (br, cap))) : ZG X.w br cap ty r := by
 obtain ⟨e, he', hok⟩ := g.get hp
 rw [he] at he'
 cases he'
 obtain ⟨cur, ⟨fr, h1, h1'⟩, h2, h3, h4, h5, h6, h7⟩ := hok
 obtain rfl : fr = (0, 0) := FrOk.zero h1'
 simp only [bx, qn, qT, RepL, Rep] at h6
 obtain ⟨v, rest, h6, h8, h9⟩ := h6
 subst h8 h9
 exact ⟨cur, h1, by have := h2; simpa [bx] using this, h3, h4, h6, h7⟩
theorem QiJ.blk {br cap ty : Nat} {A B : World} (h : QiJ br cap ty A B) : ∀ k, k < A.heap.size → k ≠ br → B.heap[k]? = A.heap[k]? := by
 obtain ⟨row, hg, hr⟩ := h
 exact fun k hk hne => hg.block k hk fun e => hne (hr k e.symm).1
theorem QiJ.box {br cap ty : Nat} {A B : World} (h : QiJ br cap ty A B) {r : List UInt8} (hb : ZG A br cap ty r) : ∃ r', ZG B br cap ty r' := by
 obtain ⟨row, hg, hr⟩ := h
 cases row with
 | none => exact ⟨r, hb.same (hg.block br hb.lt (by simp))⟩
 | some q =>
  obtain ⟨_, _, h⟩ := hr q rfl
  exact h
theorem Held.turn {B : Nat} {A W' : World} {ob : List Ob} {be : List (Option (Nat × Nat))} {C : Nat → Nat → Prop} {p br cap ty : Nat} {r r' : List UInt8} (g : Held B ⟨A, ob, be, C⟩) (hp : ob[p]? = some (bx ty r)) (he : be[p]? = some (some (br, cap)))
  (hr : QiJ br cap ty A W') (hb : ZG W' br cap ty r') : Held B ⟨W', ob.set p (bx ty r'), be, C⟩ ∧ Moves ⟨A, ob, be, C⟩ ⟨W', ob.set p (bx ty r'), be, C⟩ ∧ Below B A W' := by
 have hblk := hr.blk
 have hbB : B ≤ br := g.base p br cap he
 have hpl : p < ob.length := (qb.1 hp).1
 have hsz : A.heap.size ≤ W'.heap.size := by obtain ⟨row, hg, _⟩ := hr; exact hg.size
 have hbel : Below B A W' := by
  obtain ⟨row, hg, hr⟩ := hr
  exact ⟨hg.os, hg.tape, hg.output, hg.size, fun k hk => hg.block k (by have := g.size; exact yz hk this) fun e => by have := (hr k e.symm).1; omega⟩
 have hobY : ∀ (o2 : Nat) (x2 : Ob), (ob.set p (bx ty r'))[o2]? = some x2 → (o2 = p ∧ x2 = bx ty r') ∨ (o2 ≠ p ∧ ob[o2]? = some x2) := by
  intro o2 x2 h2
  rw [qp] at h2
  by_cases e : p = o2
  ·subst e; simp [hpl] at h2; exact .inl ⟨rfl, h2.symm⟩
  ·simp [e] at h2; exact .inr ⟨fun h => e h.symm, h2⟩
 let X : Cx := ⟨A, ob, be, C⟩
 let Y : Cx := ⟨W', ob.set p (bx ty r'), be, C⟩
 have hav : ∀ b' k, Y.av b' k → X.av b' k := by
  rintro b' k (h | ⟨o2, x2, c2, h1, h2, h3⟩)
  ·exact .inl h
  ·rcases hobY o2 x2 h1 with ⟨rfl, rfl⟩ | ⟨_, h4⟩
   ·exact .inr ⟨o2, bx ty r, c2, hp, h2, yi _⟩
   ·exact .inr ⟨o2, x2, c2, h4, h2, h3⟩
 have hmv : Moves X Y := by
  refine ⟨fun b' k v hc ha => ⟨?_, fun h => ha (hav b' k h)⟩, fun o2 x2 h2 => ?_, fun b' hb' hf => ⟨hblk b' hb' fun e => hf p cap (by rw [e]; exact he), hf⟩⟩
  ·have hne : b' ≠ br := fun e => ha (.inr ⟨p, bx ty r, cap, hp, by rw [e]; exact he, yi _⟩)
   rw [World.cell?_of_block (w := A) (hblk b' (World.block_lt_of_cell? A _ hc) hne)]
   exact hc
  ·by_cases e : o2 = p
   ·subst e
    have h2 : ob[o2]? = some x2 := h2
    rw [hp] at h2; cases h2
    exact ⟨bx ty r', by simp [Y, hpl], qh _, fun h => ⟨h, fun _ => rfl⟩⟩
   ·exact ⟨x2, by simp only [Y]; rw [qy (fun h => e h.symm)]; exact h2, qh _, fun h => ⟨h, fun _ => rfl⟩⟩
 refine ⟨⟨by have := g.len; simpa using this, fun o2 x2 e2 h2 h3 => ?_, g.inj, g.base, g.bnd, qU g.size hsz⟩, hmv, hbel⟩
 rcases hobY o2 x2 h2 with ⟨rfl, rfl⟩ | ⟨hne, h4⟩
 ·have h3' : be[o2]? = some e2 := h3
  rw [he] at h3'
  cases h3'
  obtain ⟨cur, q1, q2, q3, q4, q5, q6⟩ := hb
  refine ⟨cur, ⟨(0, 0), q1, .inl rfl⟩, by simp [bx, q2], q3, q4, rfl, ?_, q6⟩
  simp only [bx, qn, qT]
  rw [q5]
  simp only [RepL, Rep]
  exact ⟨_, _, rfl, rfl, rfl⟩
 ·refine (g.ok o2 x2 e2 h4 h3).move hmv fun b2 c2 hbc => ?_
  subst hbc
  exact hblk b2 (g.block_lt h4 h3) fun e => hne (by subst e; exact g.inj o2 p b2 c2 cap h3 he)
def Qjs (P : Prg) (gf ty : Nat) (sep : List UInt8) (L : List UInt8 → List (List UInt8)) : Prop :=
 ∀ (s : List UInt8) (w : World) (C : Nat → Nat → Prop) (v1 v3 : Value) (br cap : Nat), s.length ≤ 1000000 → Rep ⟨w, [], [], C⟩ (.cell [.str sep]) v1 → Rep ⟨w, [], [], C⟩ (.cell [.int .i64 0]) v3 → ZG w br cap ty s → (∀ k, C br k) → (∀ b k, ¬ C b k → ∃ v, w.cell? ⟨b, k, none⟩ = some v) → GOk P.G ⟨w, [], [], C⟩ →
  QkI Fence.wide 4 P gf #[v1, .pointer (some ⟨br, 0, none⟩), v3] (fun (x : Fin (L s).length) => #[.string ⟨(L s)[x].toArray⟩]) (KpX br cap ty C) (QiJ br cap ty) (fun l => l = List.finRange _) (fun _ => True) (L s).length w
theorem QgO {P : Prg} {N : Nat} {t d p : Nat} {asn body : Code} {ab : AC} {fr : List (Nat × AV)} {gf q ty : Nat} {sep s : List UInt8} {L : List UInt8 → List (List UInt8)}
  (hfn : look fr t = .fn (.func gf) [] [.cell [.str sep], .ref q 1 0, .cell [.int .i64 0]]) (hE : Enters P gf) (hsl : s.length ≤ 1000000) (hI : Qjs P gf ty sep L) (hasn : Asn asn d p) (hd : d < N) (hp : p < N) (hcb : Qc P N body = some ab) (hnl : Zw ab = true)
  {G : List (Fin (L s).length) → Prop} (hG0 : G []) {S : List (Fin (L s).length) → List Ob} (hq : ∀ pre, q < (S pre).length) {Q : Exit → St → Prop}
  (hround : ∀ (pre : List (Fin (L s).length)) (x : Fin (L s).length) (r : List UInt8), G pre → pre.length < (L s).length → wpC P N (S pre).length ab (fun e st => match e with
   | .normal => G (pre ++ [x]) ∧ Le (S pre).length st ⟨[], (S (pre ++ [x])).set q (bx ty r)⟩
   | .ret => ∃ ob' : List Ob, q < ob'.length ∧ Le (S pre).length st ⟨[], ob'.set q (bx ty r)⟩ ∧ ∀ r', Q .ret ⟨fr, ob'.set q (bx ty r')⟩
   | _ => False) ⟨Q3 (Q3 fr (some p) (.str (L s)[x])) (some d) (.str (L s)[x]), (S pre).set q (bx ty r)⟩)
  (hdone : G (List.finRange _) → ∀ r, Q .normal ⟨fr, (S (List.finRange _)).set q (bx ty r)⟩) {Γ : Ctx} {a : Act} {w : World} (hN : Fit P N Γ) (hds : Γ.ds = []) (hs : Sim Γ ⟨fr, (S []).set q (bx ty s)⟩ a w) :
  (Code.rangeFunc (.tmp t) #[p] asn body).wp P (Qj6 Γ Q w.heap.size) a w := by
 obtain ⟨q1, q2, q3, be0, g0, m0, hfr⟩ := hs
 let X1 : Cx := ⟨w, (S []).set q (bx ty s), be0, Γ.X0.C⟩
 have hob1 : X1.ob[q]? = some (bx ty s) := by simp [X1, hq]
 have hg := hfr t
 simp only at hg
 rw [hfn] at hg
 rw [show Rep X1 (.fn (.func gf) [] [.cell [.str sep], .ref q 1 0, .cell [.int .i64 0]]) (a.tmps.getD t undef) = ∃ va vb, a.tmps.getD t undef = .func (.func gf) va.toArray vb.toArray ∧ RepL X1 [] va ∧ RepL X1 [.cell [.str sep], .ref q 1 0, .cell [.int .i64 0]] vb by simp only [Rep]] at hg
 obtain ⟨va, vb, hev, hva, hvb⟩ := hg
 have hva' : va = [] := by simpa only [RepL] using hva
 subst hva'
 obtain ⟨v1, rest, hvb1, hv1, hrest⟩ : ∃ v1 rest, vb = v1 :: rest ∧ Rep X1 (.cell [.str sep]) v1 ∧ RepL X1 [.ref q 1 0, .cell [.int .i64 0]] rest := by simpa only [RepL] using hvb
 obtain ⟨v2, rest2, hvb2, hv2, hrest2⟩ : ∃ v1 rest1, rest = v1 :: rest1 ∧ Rep X1 (.ref q 1 0) v1 ∧ RepL X1 [.cell [.int .i64 0]] rest1 := by simpa only [RepL] using hrest
 obtain ⟨v3, rest3, hvb3, hv3, hrest3⟩ : ∃ v1 rest1, rest2 = v1 :: rest1 ∧ Rep X1 (.cell [.int .i64 0]) v1 ∧ RepL X1 [] rest1 := by simpa only [RepL] using hrest2
 have hrest3' : rest3 = [] := by simpa only [RepL] using hrest3
 subst hrest3' hvb3 hvb2 hvb1
 simp only [Rep] at hv2
 obtain ⟨⟨xq, hxq, _, _, hxp⟩, _⟩ := hv2
 rw [hob1] at hxq
 cases hxq
 obtain ⟨br, cap, hbe, rfl⟩ := hxp rfl
 have hbe : be0[q]? = some (some (br, cap)) := hbe
 have hev' : a.eval (.tmp t) = .func (.func gf) #[] #[v1, .pointer (some ⟨br, 0, none⟩), v3] := hev
 have hbox0 : ZG w br cap ty s := Held.boxAt g0 hob1 hbe
 have hbrw : br < w.heap.size := hbox0.lt
 let D : Nat → Nat → Prop := fun b k => ¬ ((∃ v, w.cell? ⟨b, k, none⟩ = some v) ∧ ¬ X1.av b k)
 have hD1 : ∀ b k, ¬ D b k → (∃ v, w.cell? ⟨b, k, none⟩ = some v) ∧ ¬ X1.av b k := fun b k h => Classical.not_not.1 h
 have hD2 : ∀ (c : AV) (v : Value), isD c = true → Rep X1 c v → Rep ⟨w, [], [], D⟩ c v := fun c v hd hr => Rep.data (X := X1) (Y := ⟨w, [], [], D⟩) (fun b k v hc ha => ⟨hc, fun h => by
  rcases h with h | ⟨o, x, c, h1, _⟩
  ·exact h ⟨⟨v, hc⟩, ha⟩
  ·simp at h1⟩) c v hd hr
 have hDbr : ∀ k, D br k := fun k h => h.2 (.inr ⟨q, bx ty s, cap, hob1, hbe, yi _⟩)
 have hseq := hI s w D v1 v3 br cap hsl (hD2 _ _ rfl hv1) (hD2 _ _ rfl hv3) hbox0 hDbr (fun b k h => (hD1 b k h).1) (fun g gcs hl => hD2 _ _ (by simp only [isD]; exact P.gd g gcs hl) (hN.2.move m0 g gcs hl))
 let SimO : List Ob → World → Prop := fun ob W => Below Γ.B Γ.X0.w W ∧ ∃ be, Held Γ.B ⟨W, ob, be, Γ.X0.C⟩ ∧ Zy X1 ⟨W, ob, be, Γ.X0.C⟩ ∧ Moves Γ.X0 ⟨W, ob, be, Γ.X0.C⟩
 have hX0 : Γ.X0.w.heap.size ≤ w.heap.size := q3.size
 have hBw : Γ.B ≤ w.heap.size := g0.size
 have hown : ∀ ob W W' row, SimO ob W → W.grownBy W' row → (∀ r, row = some r → w.heap.size ≤ r ∧ ∃ o : Obj, W.heap[r]? = some o ∧ o.isCells = false) → SimO ob W' := by
  rintro ob W W' row ⟨h1, be, h2, h3, h4⟩ hgr hr
  exact ⟨h1.grown hgr (by have := h2.size; exact this) (fun k e => by have := (hr k e).1; omega), be, h2.grown hgr (fun r e => (hr r e).2), h3.trans (Zy.grown hgr fun r e => (hr r e).2),
   h4.grown hgr (fun r e => ⟨by have := (hr r e).1; omega, (hr r e).2⟩)⟩
 have hbeq : ∀ {ob : List Ob} {W : World} {be : List (Option (Nat × Nat))} {r : List UInt8}, ob[q]? = some (bx ty r) → Zy X1 ⟨W, ob, be, Γ.X0.C⟩ → be[q]? = some (some (br, cap)) := by
  intro ob W be r ho hm
  obtain ⟨y, hy, _, hyp⟩ := hm.ob q _ hob1
  have hy' : ob[q]? = some y := hy
  rw [ho] at hy'
  cases hy'
  exact ((hyp (by simp [bx])).2 rfl).trans hbe
 have hrel : ∀ (ob : List Ob) (r : List UInt8) (W W' : World), q < ob.length → SimO (ob.set q (bx ty r)) W → QiJ br cap ty W W' → ∃ r', SimO (ob.set q (bx ty r')) W' := by
  rintro ob r W W' hql ⟨h1, be, h2, h3, h4⟩ hr
  have ho : (ob.set q (bx ty r))[q]? = some (bx ty r) := by simp [hql]
  have hb := hbeq ho h3
  obtain ⟨r', hbox⟩ := hr.box (Held.boxAt h2 ho hb)
  obtain ⟨g5, m5, b5⟩ := h2.turn ho hb hr hbox
  rw [List.set_set] at g5 m5
  exact ⟨r', h1.trans b5, be, g5, h3.trans m5.toC, h4.trans m5⟩
 rw [hds] at q1
 have hclose : ∀ (D : Nat) (ob : List Ob) (W : World), SimO ob W → Sim { Γ with ds := [{ target := .collected D, args := #[] }] } ⟨fr, ob⟩ { a with defers := { target := .collected D, args := #[] } :: a.defers } W := by
  rintro D ob W ⟨h1, be, h2, h3, h4⟩
  exact ⟨by simp only [q1], q2, h1, be, h2, h4, fun i => Rep.moveC h3 _ _ (hfr i)⟩
 rw [← wpIn_wide (n := 5)]
 refine JP (F := Fence.wide) (n := 5) (α := Fin (L s).length) rfl (by decide) (gf := gf) (lb := #[v1, .pointer (some ⟨br, 0, none⟩), v3]) hev' trivial (fun args w => Zt hE args w) hseq
  (fun A B hr k o hk hA ho => (hr.blk k (qj.1 hA).1 (by omega)).trans hA)
  (fun h1 h2 => ⟨fun r hr => h2.1 r (h1.1 r hr), fun b k v hc hv => h2.2 b k v hc (h1.2 b k v hc hv)⟩)
  (fun W l o o' hle hl ho _ => ⟨fun r hr => hr.same (World.putObj_heap_other (by omega)), fun b k v _ hv => by
   obtain ⟨o2, h1, h2⟩ := XC hv
   rw [World.cell?_of_block (w := W) (World.putObj_heap_other fun e => by
    have e : b = l := e
    rw [e] at h1
    have h1 : W.heap[l]? = some o2 := h1
    rw [hl] at h1; cases h1; rw [ho] at h2; cases h2)]
   exact hv⟩) (Below.refl _ _) (fun _ => rfl)
  (fun pre W => G pre ∧ ∃ r, SimO ((S pre).set q (bx ty r)) W) (fun c pre W => c = .ret ∧ ∃ (ob' : List Ob) (r : List UInt8), q < ob'.length ∧ (∀ r', Q .ret ⟨fr, ob'.set q (bx ty r')⟩) ∧ SimO (ob'.set q (bx ty r)) W)
  (fun pre W W' row hs hgr hr => ⟨hs.1, hs.2.imp fun r h => hown _ W W' row h hgr hr⟩)
  (fun c pre W W' row hs hgr hr => ⟨hs.1, hs.2.imp fun ob' h => h.imp fun r h => ⟨h.1, h.2.1, hown _ W W' row h.2.2 hgr hr⟩⟩)
  (fun pre A B hs hr => by obtain ⟨hg, r, hs⟩ := hs; exact ⟨hg, hrel _ r A B (hq pre) hs hr⟩)
  (fun c pre A B hs hr => by
   obtain ⟨e, ob', r, h1, h2, h3⟩ := hs
   obtain ⟨r', h4⟩ := hrel _ r A B h1 h3 hr
   exact ⟨e, ob', r', h1, h2, h4⟩)
  ⟨hG0, s, q3, be0, g0, Zy.refl _, m0⟩
  (fun x => { tmps := ((#[p].zip #[.string ⟨(L s)[x].toArray⟩]).foldl (fun t (p, v) => t.setIfInBounds p v) a.tmps).setIfInBounds d (((#[p].zip #[.string ⟨(L s)[x].toArray⟩]).foldl (fun t (p, v) => t.setIfInBounds p v) a.tmps).getD p undef), defers := [] }) ?assign ?body ?done ?stop
 case assign =>
  intro l x W K hK
  exact hasn l _ _ _ _ _ hK
 case body =>
  rintro l pre x W ⟨hgp, r, h1, be, h2, h3, h4⟩ hlen
  let XW : Cx := ⟨W, (S pre).set q (bx ty r), be, Γ.X0.C⟩
  let Γr : Ctx := ⟨Γ.B, XW, N, []⟩
  obtain ⟨vx, hvx⟩ : ∃ vx : Value, vx = .string ⟨(L s)[x].toArray⟩ := ⟨_, rfl⟩
  rw [← hvx]
  have e1 : ((#[p].zip #[vx]).foldl (fun t (p, v) => t.setIfInBounds p v) a.tmps) = a.tmps.setIfInBounds p vx := by simp
  have hpN : p < a.tmps.size := by rw [q2, hN.1]; exact hp
  have e2 : (a.tmps.setIfInBounds p vx).getD p undef = vx := by simp [hpN]
  rw [e1, e2]
  have hfrW : ∀ i, Rep XW (look fr i) (({ tmps := a.tmps, defers := [] } : Act).tmps.getD i undef) := fun i => Rep.moveC h3 _ _ (hfr i)
  have hvW : Rep XW (.str (L s)[x]) vx := by simp only [Rep]; exact hvx
  have hN' : Γ.N = N := hN.1
  have r1 := Qeo (X := XW) (fr := fr) (a := { tmps := a.tmps, defers := [] }) (N := N) (by rw [← hN']; exact q2) hfrW (dst := some p) (fun _ e => by cases e; exact hp) hvW
  have r2 := Qeo (X := XW) (a := ({ tmps := a.tmps, defers := [] } : Act).put (some p) vx) (N := N) (by rw [Qcv, ← hN']; exact q2) r1 (dst := some d) (fun _ e => by cases e; exact hd) hvW
  have hsr : Sim Γr ⟨Q3 (Q3 fr (some p) (.str (L s)[x])) (some d) (.str (L s)[x]), (S pre).set q (bx ty r)⟩ { tmps := (a.tmps.setIfInBounds p vx).setIfInBounds d vx, defers := [] } W :=
   ⟨rfl, by simp [Γr]; rw [q2]; exact hN', Below.refl _ _, be, h2, Moves.refl _, r2⟩
  have hatW : ∀ b k, ¬ D b k → ¬ XW.av b k := fun b k h => by
   obtain ⟨⟨v, hv⟩, ha⟩ := hD1 b k h
   exact (h3.cell b k v hv ha).2
  have hoW : XW.ob[q]? = some (bx ty r) := by simp [XW, hq]
  have hbW : be[q]? = some (some (br, cap)) := hbeq hoW h3
  have hlenM : (S pre).length = Γr.X0.ob.length := by simp [Γr, XW]
  refine wpIn_mono (Zs body ab _ _ hnl hcb (hround pre x r hgp hlen) Γr _ W ⟨rfl, hN.2.move h4⟩ hlenM.symm hsr) ?_
  have kp : ∀ {W' : World} {be' : List (Option (Nat × Nat))} {ob' : List Ob}, q < ob'.length → Held Γ.B ⟨W', ob'.set q (bx ty r), be', Γ.X0.C⟩ → Moves XW ⟨W', ob'.set q (bx ty r), be', Γ.X0.C⟩ → KpX br cap ty D W W' := by
   intro W' be' ob' hql c2 c4
   have ho' : (ob'.set q (bx ty r))[q]? = some (bx ty r) := by simp [hql]
   have hb' := hbeq ho' (h3.trans c4.toC)
   refine ⟨fun r1 hr1 => ?_, fun b k v hc hv => (c4.cell _ _ _ hv (hatW b k hc)).1⟩
   rw [← (Held.boxAt h2 hoW hbW).uniq hr1]
   exact Held.boxAt c2 ho' hb'
  rintro e a' W' ⟨st', hqx, hs'⟩
  cases e with
  | normal =>
   obtain ⟨hg2, hqx⟩ := hqx
   obtain ⟨_, _, b1, be', c2, c4, _⟩ := hqx Γr a' W' hlenM.symm hs'
   exact ⟨c4.keeps h2 b1.size _, kp (hq _) c2 c4, hg2, r, h1.trans b1, be', c2, h3.trans c4.toC, h4.trans c4⟩
  | ret =>
   obtain ⟨ob', hql, hle, hq'⟩ := hqx
   obtain ⟨_, _, b1, be', c2, c4, _⟩ := hle Γr a' W' hlenM.symm hs'
   exact ⟨c4.keeps h2 b1.size _, rfl, ob', r, hql, hq', h1.trans b1, be', c2, h3.trans c4.toC, h4.trans c4⟩
  | exit id => exact hqx.elim
  | goto l => exact hqx.elim
  | panic ch => exact hqx.elim
  | outgrown => exact hqx.elim
 case done =>
  rintro D ys W hD rfl ⟨hg, r, h⟩ hdD
  exact ⟨D, _, hD, hdD, hdone hg r, hclose D _ _ h⟩
 case stop =>
  rintro D c pre W hD _ ⟨rfl, ob', r, _, hq', h⟩ hdD
  exact wpIn_ret ⟨D, _, hD, hdD, hq' r, hclose D _ _ h⟩
end Go.Am
/- The abstract machine: a body with a range over a function whose state is a string. -/
namespace Go.Am
open Go.RowKit
theorem ACall.of_post {P : Prg} {f : FuncId} {fn : Func} {c : Code} (hf : P.prog.funcs[f]? = some fn) (hn : (fn.name == "runtime.NumGoroutine") = false) (hb : fn.body = some c)
  {avs : List AV} {ob : List Ob} {K : AV → List Ob → Prop} (hlen : avs.length ≤ fn.ntmps)
  (h0 : ∀ (Γ : Ctx) (a : Act) (w : World), Fit P fn.ntmps Γ → Γ.X0.ob.length = ob.length → Γ.ds = [] → Sim Γ ⟨Q1 0 avs, ob⟩ a w → c.wp P (Qj7 Γ (QcK P fn.results.toList K)) a w) : ACall P f avs ob K := by
 refine ⟨⟨fn, hf, hn, by rw [hb]; rfl⟩, fun B w be C vs g hG hr' => ?_⟩
 refine (callsIn_wide (n := 5)).1 (callsIn_of_wp_marks hf hb trivial ?_)
 rw [wpIn_wide]
 have hvl := hr'.length
 let Γ : Ctx := ⟨B, ⟨w, ob, be, C⟩, fn.ntmps, []⟩
 have hs : Sim Γ ⟨Q1 0 avs, ob⟩ { tmps := vs.toArray ++ Array.replicate (fn.ntmps - vs.toArray.size) undef, defers := [] } w := by
  refine ⟨rfl, by simp [Γ]; omega, Below.refl _ _, be, g, Moves.refl _, fun i => ?_⟩
  rcases XB avs vs 0 hr' i with h1 | ⟨_, v, h2, h3⟩
  ·show Rep _ (look (Q1 0 avs) i) _
   rw [h1]; simp only [Rep]
  ·have h4 : (vs.toArray ++ Array.replicate (fn.ntmps - vs.toArray.size) undef).getD i undef = v := by
    simp only [Nat.sub_zero] at h2
    have hlt := (qb.1 h2).1
    rw [qw, yu (by simpa using hlt)]
    simp [h2]
   show Rep _ (look (Q1 0 avs) i) ((vs.toArray ++ Array.replicate (fn.ntmps - vs.toArray.size) undef).getD i undef)
   rw [h4]
   exact h3
 have hQ : ∀ e st, QcK P fn.results.toList K e st → e = .normal ∨ e = .ret := by
  intro e st h
  cases e <;> first | exact .inl rfl | exact .inr rfl | exact h.elim
 refine wp_mono (h0 Γ _ w ⟨rfl, hG⟩ rfl rfl hs) ?_
 have fin : ∀ (st : St) (a' : Act) (w' : World) (be' : List (Option (Nat × Nat))), Below B w w' → Held B ⟨w', st.ob, be', C⟩ → Moves ⟨w, ob, be, C⟩ ⟨w', st.ob, be', C⟩ → (∀ i, Rep ⟨w', st.ob, be', C⟩ (look st.fr i) (a'.tmps.getD i undef)) →
   ∀ rs, Z8 st.fr st.ob P fn.results.toList = some rs → K (QP rs) st.ob → ∃ v, (results fn a'.tmps).run P w' = .ok v w' ∧ ∃ v_1 r ob' be', Ending.returned v = .returned v_1 ∧ Below B w w' ∧ Held B ⟨w', ob', be', C⟩ ∧ Moves ⟨w, ob, be, C⟩ ⟨w', ob', be', C⟩ ∧ Rep ⟨w', ob', be', C⟩ r v_1 ∧ K r ob' := by
  intro st a' w' be' hb' g' hm hfr rs hrs hk
  obtain ⟨v, hv1, hv2⟩ := Xx (P := P) (Γ := Γ) g' hfr hrs
  exact ⟨v, hv1, v, QP rs, st.ob, be', rfl, hb', g', hm, hv2, hk⟩
 have plain : ∀ (e : Exit) (st : St) (a' : Act) (w' : World), (e = .normal ∨ e = .ret) → QcK P fn.results.toList K e st → ∃ rs, Z8 st.fr st.ob P fn.results.toList = some rs ∧ K (QP rs) st.ob := by
  intro e st a' w' he h
  rcases he with rfl | rfl <;> (simp only [QcK] at h; split at h; exact ⟨_, by assumption, h⟩; exact h.elim)
 rintro e a' w' (⟨st, he, ⟨q1, q2, q3, be', g', hm, hfr⟩⟩ | ⟨D, st, hD1, hD2, hDw, he, ⟨q1, q2, q3, be', g', hm, hfr⟩⟩)
 ·obtain ⟨rs, hrs, hk⟩ := plain e st a' w' (hQ e st he) he
  have h1 := fin st a' w' be' q3 g' hm hfr rs hrs hk
  have q1' : a'.defers = [] := q1
  rcases hQ e st he with rfl | rfl <;> (simp only [bodyPostM]; rw [q1']; exact h1)
 ·obtain ⟨rs, hrs, hk⟩ := plain e st a' w' (hQ e st he) he
  have hgr := grownBy_putObj' w' D (.deferred none)
  have hrow : ∀ r, some D = some r → w.heap.size ≤ r ∧ ∃ o : Obj, w'.heap[r]? = some o ∧ o.isCells = false := fun r e => by cases e; exact ⟨hD2, _, hDw, rfl⟩
  have h1 := fin st a' (w'.putObj D (.deferred none)) be' (q3.grown hgr g'.size (fun k e => by cases e; exact hD1)) (g'.grown hgr fun r e => (hrow r e).2) (hm.grown hgr hrow)
   (fun i => Rep.moveC (Zy.grown hgr fun r e => (hrow r e).2) _ _ (hfr i)) rs hrs hk
  have q1' : a'.defers = [{ target := .collected D, args := #[] }] := q1
  rcases hQ e st he with rfl | rfl <;> (simp only [bodyPostM]; rw [q1']; exact ⟨by simp, .inl ⟨D, _, rfl, run_takeDeferred hDw, h1⟩⟩)
theorem QgE {X : Cx} {a : Act} : ∀ i, Rep X (look [] i) (a.tmps.getD i undef) := fun i => by simp only [look, Rep]
theorem Xw {X : Cx} {a : Act} {fr : List (Nat × AV)} {j : Nat} {v : AV} (h : Rep X v (a.tmps.getD j undef)) (g : ∀ i, Rep X (look fr i) (a.tmps.getD i undef)) : ∀ i, Rep X (look ((j, v) :: fr) i) (a.tmps.getD i undef) := fun i => by
 simp only [look]
 split
 ·rename_i e; subst e; exact h
 ·exact g i
def Qc7 (P : Prg) (N M t p d : Nat) (ab aT : AC) (Q : Exit → St → Prop) (st : St) : Prop :=
 ∃ (gf q ty : Nat) (sep s : List UInt8) (L : List UInt8 → List (List UInt8)) (fr : List (Nat × AV)) (G : List (Fin (L s).length) → Prop) (S : List (Fin (L s).length) → List Ob),
  G [] ∧ Le M st ⟨fr, (S []).set q (bx ty s)⟩ ∧ look fr t = .fn (.func gf) [] [.cell [.str sep], .ref q 1 0, .cell [.int .i64 0]] ∧ Enters P gf ∧ s.length ≤ 1000000 ∧ Qjs P gf ty sep L ∧ d < N ∧ p < N ∧ Zw ab = true ∧ (∀ pre, q < (S pre).length) ∧
  (∀ (pre : List (Fin (L s).length)) (x : Fin (L s).length) (r : List UInt8), G pre → pre.length < (L s).length → wpC P N (S pre).length ab (fun e st => match e with
   | .normal => G (pre ++ [x]) ∧ Le (S pre).length st ⟨[], (S (pre ++ [x])).set q (bx ty r)⟩
   | .ret => ∃ ob' : List Ob, q < ob'.length ∧ Le (S pre).length st ⟨[], ob'.set q (bx ty r)⟩ ∧ ∀ r', Q .ret ⟨fr, ob'.set q (bx ty r')⟩
   | _ => False) ⟨Q3 (Q3 fr (some p) (.str (L s)[x])) (some d) (.str (L s)[x]), (S pre).set q (bx ty r)⟩) ∧
  (G (List.finRange _) → ∀ r, wpC P N (S (List.finRange _)).length aT Q ⟨fr, (S (List.finRange _)).set q (bx ty r)⟩)
def Qj9 (P : Prg) (N M t p d : Nat) (aR ab aT : AC) (Q : Exit → St → Prop) : List AC → St → Prop
 | [], st => wpC P N M aR (QaI (Qc7 P N M t p d ab aT Q) Q) st
 | a :: as, st => wpC P N M a (QaI (Qj9 P N M t p d aR ab aT Q as) Q) st
theorem Qdr {P : Prg} {N M t p d : Nat} {aR ab aT : AC} {Q : Exit → St → Prop} (hQ : ∀ e st, Q e st → e = .normal ∨ e = .ret) : ∀ (pres : List AC) (c : Code) (st : St), Qd8 P.prog N t p d aR ab aT pres c → Qj9 P N M t p d aR ab aT Q pres st →
  ∀ (Γ : Ctx) (a : Act) (w : World), Fit P N Γ → Γ.X0.ob.length = M → Γ.ds = [] → Sim Γ st a w → c.wp P (Qj7 Γ Q) a w
 | a0 :: as, c, st, hc, h, Γ, a, w, hN, hM, hds, hs => by
  obtain ⟨x, y, e, hx, hy⟩ := hc
  subst e
  refine wp_seq (wp_mono (QC x a0 _ st hx h Γ a w hN hM hs) ?_)
  rintro e a' w' ⟨st', hq, hs'⟩
  cases e with
  | normal => exact Qdr hQ as y st' hy hq Γ a' w' hN hM hds hs'
  | exit id => exact .inl ⟨st', hq, hs'⟩
  | goto l => exact .inl ⟨st', hq, hs'⟩
  | ret => exact .inl ⟨st', hq, hs'⟩
  | panic ch => exact .inl ⟨st', hq, hs'⟩
  | outgrown => exact .inl ⟨st', hq, hs'⟩
 | [], c, st, hc, h, Γ, a, w, hN, hM, hds, hs => by
  obtain ⟨cR, asn, body, cT, id, e, hR, hA, hB, hT⟩ := hc
  subst e
  refine wp_seq (wp_seq (wp_mono (QC cR aR _ st hR h Γ a w hN hM hs) ?_))
  rintro e a1 w1 ⟨st1, hq, hs1⟩
  cases e with
  | exit id => exact .inl ⟨st1, hq, hs1⟩
  | goto l => exact .inl ⟨st1, hq, hs1⟩
  | ret => exact .inl ⟨st1, hq, hs1⟩
  | panic ch => exact .inl ⟨st1, hq, hs1⟩
  | outgrown => exact .inl ⟨st1, hq, hs1⟩
  | normal =>
   obtain ⟨gf, q, ty, sep, s, L, fr, G, S, hG0, hle, hfn, hE, hsl, hI, hd, hp, hnl, hqS, hround, hdone⟩ := hq
   have hs2 := hle Γ a1 w1 hM hs1
   have hsz : Γ.X0.w.heap.size ≤ w1.heap.size := hs2.2.2.1.size
   have hBz : Γ.B ≤ w1.heap.size := by obtain ⟨_, _, _, _, g, _⟩ := hs2; exact g.size
   let Q' : Exit → St → Prop := fun e st => match e with
    | .normal => G (List.finRange _) ∧ ∃ r, st = ⟨fr, (S (List.finRange _)).set q (bx ty r)⟩
    | .ret => Q .ret st
    | _ => False
   have hw := QgO (Q := Q') hfn hE hsl hI hA hd hp hB hnl hG0 hqS (fun pre x r hg hl => hround pre x r hg hl) (fun hg r => ⟨hg, r, rfl⟩) hN hds hs2
   refine wp_block (wp_mono hw ?_)
   rintro e a2 w2 ⟨D, st2, hD, hm, hq2, hs3⟩
   cases e with
   | exit id => exact hq2.elim
   | goto l => exact hq2.elim
   | panic ch => exact hq2.elim
   | outgrown => exact hq2.elim
   | ret => exact .inr ⟨D, st2, by omega, by omega, hm, hq2, hs3⟩
   | normal =>
    obtain ⟨hgf, r, e2⟩ : G (List.finRange _) ∧ ∃ r, st2 = ⟨fr, (S (List.finRange _)).set q (bx ty r)⟩ := hq2
    subst e2
    obtain ⟨q1, q2, q3, be, g, m, hfr⟩ := hs3
    let Γ2 : Ctx := ⟨Γ.B, ⟨w2, (S (List.finRange _)).set q (bx ty r), be, Γ.X0.C⟩, N, [{ target := .collected D, args := #[] }]⟩
    have hs4 : Sim Γ2 ⟨fr, (S (List.finRange _)).set q (bx ty r)⟩ a2 w2 := ⟨q1, by rw [q2]; exact hN.1, Below.refl _ _, be, g, Moves.refl _, hfr⟩
    refine wp_mono (QC cT aT Q _ hT (hdone hgf r) Γ2 a2 w2 ⟨rfl, hN.2.move m⟩ (by simp [Γ2]) hs4) ?_
    rintro e a3 w3 ⟨st3, hq3, ⟨p1, p2, p3, be3, g3, m3, hfr3⟩⟩
    have hk := (m3.keeps g p3.size 0).same D _ (yi _) hm rfl
    exact .inr ⟨D, st3, by omega, by omega, hk, hq3, ⟨p1, by rw [p2]; exact hN.1.symm, q3.trans p3, be3, g3, m.trans m3, hfr3⟩⟩
def kSs (P : Prg) (N M : Nat) (rc : RC) (as : List AC) (Q : Exit → St → Prop) : Exit → St → Prop := QaI (Qj9 P N M rc.t rc.p rc.d rc.aR rc.ab rc.aT Q as) Q
def Qka (P : Prg) (N M : Nat) (rc : RC) (Q : Exit → St → Prop) (as : List AC) (st : St) : Prop := Qj9 P N M rc.t rc.p rc.d rc.aR rc.ab rc.aT Q as st
def kRs (P : Prg) (N M : Nat) (rc : RC) (Q : Exit → St → Prop) : Exit → St → Prop := QaI (Qc7 P N M rc.t rc.p rc.d rc.ab rc.aT Q) Q
section
variable {P : Prg} {N M : Nat} {rc : RC} {Q : Exit → St → Prop} {st : St} {a : AC} {as : List AC}
theorem Qgf : Qka P N M rc Q (a :: as) st = wpC P N M a (kSs P N M rc as Q) st := rfl
theorem QhO : Qka P N M rc Q [] st = wpC P N M rc.aR (kRs P N M rc Q) st := rfl
theorem QfT : kSs P N M rc as Q .normal st = Qka P N M rc Q as st := rfl
theorem Qi2 : kSs P N M rc as Q .ret st = Q .ret st := rfl
theorem Qi3 : kRs P N M rc Q .ret st = Q .ret st := rfl
theorem Qb8 : kRs P N M rc Q .normal st = Qc7 P N M rc.t rc.p rc.d rc.ab rc.aT Q st := rfl
end
theorem ACall.of_rangeS {P : Prg} {f : FuncId} {N : Nat} {rl : List ResultVar} {rc : RC} (hbody : Qgb P f N rl rc) {avs : List AV} {ob : List Ob} {K : AV → List Ob → Prop} (hlen : avs.length ≤ N)
  (h0 : Qka P N ob.length rc (QcK P rl K) rc.pres ⟨Q1 0 avs, ob⟩) : ACall P f avs ob K := by
 obtain ⟨fn, c, hf, hn, hN, hrl, hb, hsp⟩ := hbody.ok.1
 subst hN
 subst hrl
 refine ACall.of_post hf hn hb hlen fun Γ a w hF hM hds hs => ?_
 have hQ : ∀ e st, QcK P fn.results.toList K e st → e = .normal ∨ e = .ret := by
  intro e st h
  cases e <;> first | exact .inl rfl | exact .inr rfl | exact h.elim
 exact Qdr hQ rc.pres c _ hsp h0 Γ a w hF hM hds hs
end Go.Am
/- The abstract machine: a walk that stands still several times, between two statements, to tell its state anew. -/
namespace Go.Am
open Go.RowKit
def wpM (P : Prg) (N M : Nat) : List Bool → AC → (Exit → St → Prop) → St → Prop
 | [], ac, Q, st => wpC P N M ac Q st
 | true :: ns, ac, Q, st => ∃ st', Le M st st' ∧ wpM P N M ns ac Q st'
 | false :: ns, .seq a b, Q, st => wpC P N M a (QaI (wpM P N M ns b Q) Q) st
 | false :: _, _, _, _ => False
def kM (P : Prg) (N M : Nat) (ns : List Bool) (b : AC) (Q : Exit → St → Prop) : Exit → St → Prop := QaI (wpM P N M ns b Q) Q
theorem QaZ {P : Prg} {N M : Nat} : ∀ (ns : List Bool) (c : Code) (ac : AC) (Q : Exit → St → Prop) (st : St), Qc P N c = some ac → wpM P N M ns ac Q st → AWp P N M c Q st
 | [], c, ac, Q, st, hc, h => QC c ac Q st hc h
 | true :: ns, c, ac, Q, st, hc, h => by
  obtain ⟨st', hl, h⟩ := h
  exact fun Γ a w h1 h2 hs => QaZ ns c ac Q st' hc h Γ a w h1 h2 (hl Γ a w h2 hs)
 | false :: ns, c, ac, Q, st, hc, h => by
  match ac, h with
  | .seq ax ay, h =>
   obtain ⟨x, y, rfl, hx, hy⟩ := Zk hc
   intro Γ a w h1 h2 hs
   refine wp_seq (wp_mono (QC x ax _ st hx h Γ a w h1 h2 hs) ?_)
   rintro e a' w' ⟨st', hq, hs'⟩
   cases e with
   | normal => exact QaZ ns y ay Q st' hy hq Γ a' w' h1 h2 hs'
   | exit id => exact ⟨st', hq, hs'⟩
   | goto l => exact ⟨st', hq, hs'⟩
   | ret => exact ⟨st', hq, hs'⟩
   | panic ch => exact ⟨st', hq, hs'⟩
   | outgrown => exact ⟨st', hq, hs'⟩
theorem ACall.of_cuts (ns : List Bool) {P : Prg} {f : FuncId} {ac : AC} {N : Nat} {rl : List ResultVar} (hbody : Body P f N rl ac)
  {avs : List AV} {ob : List Ob} {K : AV → List Ob → Prop} (hlen : avs.length ≤ N)
  (h0 : wpM P N ob.length ns ac (QcK P rl K) ⟨Q1 0 avs, ob⟩) : ACall P f avs ob K :=
 ACall.of_awp hbody hlen fun c hc => QaZ ns c ac _ _ hc h0
theorem QQ :
  (∀ P N M ns a b Q st, wpM P N M (false :: ns) (.seq a b) Q st = wpC P N M a (kM P N M ns b Q) st) ∧
  (∀ P N M ac Q st, wpM P N M [] ac Q st = wpC P N M ac Q st) ∧
  (∀ P N M ns b Q st, kM P N M ns b Q .normal st = wpM P N M ns b Q st) ∧
  (∀ P N M ns b Q st j, kM P N M ns b Q (.exit j) st = Q (.exit j) st) ∧
  (∀ P N M ns b Q st, kM P N M ns b Q .ret st = Q .ret st) :=
 ⟨fun _ _ _ _ _ _ _ _ => rfl, fun _ _ _ _ _ _ => rfl, fun _ _ _ _ _ _ _ => rfl, fun _ _ _ _ _ _ _ _ => rfl, fun _ _ _ _ _ _ _ => rfl⟩
theorem JO {P : Prg} {N M : Nat} {ns : List Bool} {ac : AC} {Q : Exit → St → Prop} {st : St} (st' : St) (h : Le M st st') (hw : wpM P N M ns ac Q st') : wpM P N M (true :: ns) ac Q st := ⟨st', h, hw⟩
end Go.Am
/- The abstract machine: package variables of the library's own, as a row's first world holds them. -/
namespace Go.Am
open Go.RowKit
theorem Qep {W : World} {g : Nat} {c : AV} {v : Value} (h : W.cell? ⟨g, 0, none⟩ = some v) (h1 : v.oneCell' = true) (hr : Rep (X0 W) c v) : Rep (X0 W) (.cell [c]) (.pointer (some ⟨g, 0, none⟩)) := by
 simp only [Rep, RepL]
 refine ⟨g, 0, [v], rfl, fun i u hu => ?_, v, [], rfl, hr, rfl⟩
 match i, hu with
 | 0, hu => cases hu; exact ⟨⟨h, Qjp⟩, h1⟩
theorem QcH {P : Program} {w : World} {laid : List (String × DataW Unit)} (hl : laidMet P laid w) {name nm : String} {d : DataW Unit} {g : Nat} {t : TypeId} {ms : Array (String × TypeId)} (hg : P.globalNamed name = some g) (hty : (P.globals[g]?).map (·.type) = some t)
  (ht : P.underlying t = some (.interface ms)) (hm : (name, DataW.iface nm d) ∈ laid) : ∃ u v, w.cell? ⟨g, 0, none⟩ = some (.iface u v) := by
 obtain ⟨ps, hv, -, -⟩ := hl
 induction laid generalizing ps with
 | nil => cases hm
 | cons x r ih =>
  obtain ⟨m, e⟩ := x
  obtain ⟨g', t', cs, fuel, p, q, q1, q2, q3, q4, q5, _⟩ := hv
  rcases qq.1 hm with hm | hm
  ·cases hm
   rw [hg] at q1
   cases q1
   rw [hty] at q2
   cases q2
   obtain ⟨_, u, v, hcs, _⟩ := iface_of_trod ht q4
   simp only [World.var?, hg, yV] at q3
   split at q3
   ·rename_i c ty fr hh
    cases q3
    refine ⟨u, v, ?_⟩
    rw [cell_of_row _ _ _ _ _ _ hh]
    have := congrArg (·[0]?) hcs
    simpa using this
   ·cases q3
  ·exact ih hm _ q5
def QkF (P : Program) (name : String) (g : Nat) : Bool :=
 decide (P.globalNamed name = some g) &&
 match (P.globals[g]?).map (·.type) with
 | some t => (match P.underlying t with | some (.interface _) => true | _ => false)
 | none => false
theorem Js {P : Program} {w : World} {laid : List (String × DataW Unit)} (hl : laidMet P laid w) {name nm : String} {d : DataW Unit} {g : Nat} (hb : QkF P name g = true) (hm : (name, DataW.iface nm d) ∈ laid) : ∃ u v, w.cell? ⟨g, 0, none⟩ = some (.iface u v) := by
 simp only [QkF, qf, qk] at hb
 obtain ⟨hg, hb⟩ := hb
 split at hb
 ·rename_i t hty
  split at hb
  ·rename_i ms ht
   exact QcH hl hg hty ht hm
  ·cases hb
 ·cases hb
variable {H : Type} {enc : TypeId × Value → H}
theorem Z1 {a : Assume} {C : Checked} {os : Os} {f : FuncId} {fn : Func} {s : ChangeSpec} {conds : List PathCond} {apart fresh handsOn again : Bool} {X : World → Array Value → Prop}
  (hX : ∀ (w w' : World) (args : Array Value), w.heap = w'.heap → X w args → X w' args)
  (own : ownKnob C.prog.godebug = none) (started : os.Started) (noInit : C.prog.inits.idxOf? f = none) (hfn : C.prog.funcs[f]? = some fn)
  (witness : ∃ (w : World) (tape : Tape) (i : Input), w.os = os ∧ (w.forCall tape i).Shaped C.prog ∧ i.vars = [] ∧ Input.okWide C.prog (w.forCall tape i) .any w.heap.size f i ∧
   ((s.pre enc C.prog fn conds apart (w.forCall tape i).memory i.args ∧ X (w.forCall tape i).memory i.args) ∧ sizedMet enc C.prog fn (OpenSpec.ofChange s) apart (w.forCall tape i).memory i.args) ∧ a.holds C.prog (lone (Frame.enter C.prog f i.args .normal) [] (w.forCall tape i)))
  (contract : ∀ (W : World) (base : Nat) (args : Array Value) (ds gs : List (DataW H)) (before : List MemPlace),
   (∀ (j : Nat) t v, fn.params[j]? = some t → args[j]? = some v → Value.okWide C.prog W .any base t v) →
   DataW.Whole enc C.prog fn.params.toList s.vars apart W args.toList ds gs before → X W args → W.ShapedOpen C.prog →
   Calls C.prog f args W fun e W' => ∃ v, e = .returned v ∧ s.post enc C.prog fn apart fresh handsOn again W args v W') :
  ReturnsInHanded a C os f .any (fun w args => (s.pre enc C.prog fn conds apart w args ∧ X w args) ∧ sizedMet enc C.prog fn (OpenSpec.ofChange s) apart w args) (s.post enc C.prog fn apart fresh handsOn again) := by
 refine returnsInHanded_of_calls own started noInit witness ?_
 intro w tape i _ hsh _ hok hpre _
 obtain ⟨_, _, _, fn', hfn', _, _, _, _, hval⟩ := hok
 have e : fn' = fn := Option.some.inj (hfn'.symm.trans hfn)
 subst e
 obtain ⟨⟨⟨ds, gs, before, hw, hc⟩, hx⟩, hz⟩ := hpre
 have hw' := DataW.Whole.of_heap (w' := w.forCall tape i) (by rfl) hw
 refine (contract (w.forCall tape i) w.heap.size i.args ds gs before hval hw' (hX _ _ _ (by rfl) hx) hsh).mono fun e W' ⟨v, he, hp⟩ => ?_
 subst he
 exact ChangeSpec.post_blind hp
end Go.Am

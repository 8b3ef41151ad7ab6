/- An abstract machine for pure Go code, part 4: sound for the given semantics; no conditions. -/
import Derived.Test.YtpfhdmbamkdnpacGreatDoorLinesOneA3
set_option linter.unusedSectionVars false
set_option linter.unusedSimpArgs false
set_option linter.unusedVariables false
/- A range over a function whose state lies in a cell: the law (the kit's, turned), and the machine's rule. -/
namespace Go.Am
open Go.RowKit
def Qqf {α : Type} (F : Fence) (n : Nat) (P : Program) (g : Nat) (lb : Array Value) (encs : α → Array Value) (Kp Rel : World → World → Prop) (S Sp : List α → Prop) (N : Nat) (w : World) : Prop :=
 ∀ (l : Nat) (J Jx : List α → World → Prop) (W : World), Below w.heap.size w W → (∀ s A B, J s A → Rel A B → J s B) → (∀ s A B, Jx s A → Rel A B → Jx s B) →
  (∀ pre x W1, J pre W1 → pre.length < N → YieldAt F (n - 1) P l (encs x) W1 fun e W' => (e = .returned (.bool true) ∧ J (pre ++ [x]) W' ∧ Kp W1 W') ∨ (e = .returned (.bool false) ∧ Jx (pre ++ [x]) W')) →
  J [] W → CallsIn F n P g (#[.func (.yield l) #[] #[]] ++ lb) W fun e W' => (∃ v, e = .returned v) ∧ ((∃ xs, S xs ∧ J xs W') ∨ (∃ pre, Sp pre ∧ Jx pre W'))
section
variable {F : Fence} {n : Nat} {P : Program}
theorem Qba {α : Type} {g : Operand} {ps : Array Tmp} {assign body : Code} {Q : Exit → Act → World → Prop} {a : Act} {w : World}
  (hro : F.round = none) (h1 : 1 ≤ n) {gf : Nat} {lb : Array Value} (hg : a.eval g = .func (.func gf) #[] lb) (hFg : F.fn gf) (eg : ∀ args w, (callFunc gf args).run P w = .ok (.enter gf args) w)
  {encs : α → Array Value} {Kp Rel : World → World → Prop} {S Sp : List α → Prop} {N : Nat} {w0 : World} (hseq : Qqf F (n - 1) P gf lb encs Kp Rel S Sp N w0)
  (hRel : ∀ (A B : World), Rel A B → ∀ (k : Nat) (o : Obj), w.heap.size ≤ k → A.heap[k]? = some o → o.isCells = false → B.heap[k]? = some o)
  (hKt : ∀ {A B C : World}, Kp A B → Kp B C → Kp A C) (hKb : ∀ (W : World) (l : Nat) (o o' : Obj), w.heap.size ≤ l → W.heap[l]? = some o → o.isCells = false → o.isWalk = false → Kp W (W.putObj l o')) (hb0 : Below w0.heap.size w0 w) (hps : ∀ x, (encs x).size = ps.size)
  (I : List α → World → Prop) (Ix : Code → List α → World → Prop) (hI : OwnFrom w.heap.size I) (hIx : ∀ c, OwnFrom w.heap.size (Ix c)) (hIR : ∀ s A B, I s A → Rel A B → I s B) (hIxR : ∀ c s A B, Ix c s A → Rel A B → Ix c s B) (h0 : I [] w) (a₁ : α → Act)
  (hassign : ∀ (l : Nat) (x : α) (W : World) (K : Act → World → Prop), K (a₁ x) W →
   assign.wpIn (F.inRound l) (n - 1 - 1) P (Exit.then K (fun _ _ _ => False)) { tmps := (ps.zip (encs x)).foldl (fun t (p, v) => t.setIfInBounds p v) a.tmps, defers := [] } W)
  (hbody : ∀ (l : Nat) (pre : List α) (x : α) (W : World), I pre W → pre.length < N → body.wpIn (F.inRound l) (n - 1 - 1) P (ownPostG w.heap.size Kp I Ix (pre ++ [x]) W) (a₁ x) W)
  (hdone : ∀ (D : Nat) (xs : List α) (W : World), w.heap.size ≤ D → S xs → I xs W → W.heap[D]? = some (.deferred (some [])) → Q .normal { a with defers := { target := .collected D, args := #[] } :: a.defers } W)
  (hstop : ∀ (D : Nat) (c : Code) (pre : List α) (W : World), w.heap.size ≤ D → Sp pre → Ix c pre W → W.heap[D]? = some (.deferred (some [])) → c.wpIn F n P Q { a with defers := { target := .collected D, args := #[] } :: a.defers } W) :
  (Code.rangeFunc g ps assign body).wpIn F n P Q a w := by
 refine wpIn_rangeFunc ?_
 intro fn hfn
 rw [hro]
 obtain ⟨rec, hrec⟩ : ∃ rec : LoopState → Option Code → Loop, rec = fun st pe => { state := st, pending := pe, fn, tmps := a.tmps, params := ps, assign, body, defers := w.heap.size } := ⟨_, rfl⟩
 obtain ⟨W1, hW1⟩ : ∃ W1, (w.alloc (.deferred (some []))).alloc (.loop (rec .ready none)) = W1 := ⟨_, rfl⟩
 have hL1 : W1.heap[w.heap.size + 1]? = some (.loop (rec .ready none)) := by
  rw [← hW1]; have := World.alloc_heap_new (w.alloc (.deferred (some []))) (.loop (rec .ready none)); rwa [World.size_alloc] at this
 have hK1 : W1.heap[w.heap.size]? = some (.deferred (some [])) := by
  rw [← hW1]; exact (Below.heap_alloc _ _ _ (by simp)).trans (World.alloc_heap_new w _)
 have hI1 : I [] W1 := by rw [← hW1]; exact hI.alloc _ (hI.alloc _ h0)
 have hb1 : Below w0.heap.size w0 W1 := by
  rw [← hW1]; exact hb0.trans ((((Below.refl _ w).alloc (qg _) _).alloc (by simp) _).mono hb0.size)
 refine ⟨w.heap.size + 1, [{ target := .collected w.heap.size, args := #[] }], W1, { target := .fn (.func gf) lb, args := #[.func (.yield (w.heap.size + 1)) #[] #[]] }, W1, gf,
  #[.func (.yield (w.heap.size + 1)) #[] #[]] ++ lb, W1, ?_, ?_, ?_, ?_, fun _ => h1, ?_⟩
 ·rw [← hW1, hrec]; exact run_enterLoop_outer _ _ _ _ _
 ·simp only [resolve, hg]
  simp [go_sem]
 ·intro f' hf'; simp [Target.leads] at hf'; subst hf'; exact hFg
 ·simp [invoke, go_sem, eg]
 ·refine (hseq (w.heap.size + 1)
   (fun pre W => I pre W ∧ W.heap[w.heap.size + 1]? = some (.loop (rec .ready none)) ∧ W.heap[w.heap.size]? = some (.deferred (some [])))
   (fun pre W => ∃ c, Ix c pre W ∧ W.heap[w.heap.size + 1]? = some (.loop (rec .done (some c))) ∧ W.heap[w.heap.size]? = some (.deferred (some [])))
   W1 hb1
   (fun s A B hs hr => ⟨hIR s A B hs.1 hr, hRel A B hr _ _ (by omega) hs.2.1 rfl, hRel A B hr _ _ (qg _) hs.2.2 rfl⟩)
   (fun s A B hs hr => by
    obtain ⟨c, hc, hl, hk⟩ := hs
    exact ⟨c, hIxR c s A B hc hr, hRel A B hr _ _ (by omega) hl rfl, hRel A B hr _ _ (qg _) hk rfl⟩)
   ?_ ⟨hI1, hL1, hK1⟩).mono ?_
  ·
   rintro pre x W ⟨hi, hl, hk⟩ hlen
   have hlt : w.heap.size + 1 < W.heap.size := (qi.1 hl).1
   have hy := run_yield (P := P) (args := encs x) hl (by rw [hrec]; exact hps x)
   rw [hrec] at hy
   refine ⟨fn, _, assign, body, hy, roundIn_of_wpIn hfn (hassign _ x W _ ⟨_, run_beginRound hl (by rw [hrec]), ?_⟩)⟩
   have hl2 : (W.putObj (w.heap.size + 1) (.loop { rec .ready none with state := .busy })).heap[w.heap.size + 1]? = some (.loop { rec .ready none with state := .busy }) := World.putObj_heap_same hlt
   have hk2 : (W.putObj (w.heap.size + 1) (.loop { rec .ready none with state := .busy })).heap[w.heap.size]? = some (.deferred (some [])) := (World.putObj_heap_other (by omega)).trans hk
   have hw2 : Kp W (W.putObj (w.heap.size + 1) (.loop { rec .ready none with state := .busy })) := hKb _ _ _ _ (by omega) hl rfl rfl
   refine wpIn_mono (hbody _ pre x _ (hI.putObj _ hi (by omega) hl rfl) hlen) ?_
   have fin : ∀ (jump : Option Code) (W3 : World), KeepsFrom w.heap.size (W.putObj (w.heap.size + 1) (.loop { rec .ready none with state := .busy })) W3 →
     (Instr.endRound (w.heap.size + 1) jump).run P W3 = .ok (.bool jump.isNone) (W3.putObj (w.heap.size + 1) (.loop (rec (if jump.isNone then .ready else .done) jump))) ∧
     W3.heap[w.heap.size + 1]? = some (.loop { rec .ready none with state := .busy }) ∧
     (W3.putObj (w.heap.size + 1) (.loop (rec (if jump.isNone then .ready else .done) jump))).heap[w.heap.size + 1]? = some (.loop (rec (if jump.isNone then .ready else .done) jump)) ∧
     (W3.putObj (w.heap.size + 1) (.loop (rec (if jump.isNone then .ready else .done) jump))).heap[w.heap.size]? = some (.deferred (some [])) := fun jump W3 hk3 => by
    have hl3 := hk3.same _ _ (by omega) hl2 rfl
    have := run_endRound (P := P) jump hl3
    rw [hrec] at this ⊢
    exact ⟨this, by rw [hrec] at hl3; exact hl3, World.putObj_heap_same (qi.1 hl3).1, (World.putObj_heap_other (by omega)).trans (hk3.same _ _ (qg _) hk2 rfl)⟩
   rintro e a3 W3 hp
   cases e with
   | normal =>
    obtain ⟨hk3, hkp3, hi3⟩ := hp
    obtain ⟨hr, hl3, hl4, hk4⟩ := fin none W3 hk3
    exact ⟨_, _, hr, .inl ⟨rfl, ⟨hI.putObj _ hi3 (by omega) hl3 rfl, hl4, hk4⟩, hKt (hKt hw2 hkp3) (hKb _ _ _ _ (by omega) hl3 rfl rfl)⟩⟩
   | ret =>
    obtain ⟨hk3, hi3⟩ := hp
    obtain ⟨hr, hl3, hl4, hk4⟩ := fin (some .ret) W3 hk3
    exact ⟨_, _, hr, .inr ⟨rfl, .ret, (hIx _).putObj _ hi3 (by omega) hl3 rfl, hl4, hk4⟩⟩
   | exit id =>
    obtain ⟨hk3, hi3⟩ := hp
    obtain ⟨hr, hl3, hl4, hk4⟩ := fin (some (.exit id)) W3 hk3
    exact ⟨_, _, hr, .inr ⟨rfl, .exit id, (hIx _).putObj _ hi3 (by omega) hl3 rfl, hl4, hk4⟩⟩
   | goto t =>
    obtain ⟨hk3, hi3⟩ := hp
    obtain ⟨hr, hl3, hl4, hk4⟩ := fin (some (.goto t)) W3 hk3
    exact ⟨_, _, hr, .inr ⟨rfl, .goto t, (hIx _).putObj _ hi3 (by omega) hl3 rfl, hl4, hk4⟩⟩
   | panic ch => exact hp.elim
   | outgrown => exact hp.elim
  · -- BEHIND THE ITERATOR
   rintro e W2 ⟨⟨v, rfl⟩, (⟨xs, hS, hi, hl, hk⟩ | ⟨pre, hSp, c, hi, hl, hk⟩)⟩
   ·exact ⟨none, _, by have := run_endLoop (P := P) hl (by rw [hrec]; simp); rw [hrec] at this; exact this, hdone _ xs _ (qg _) hS (hI.putObj _ hi (by omega) hl rfl) ((World.putObj_heap_other (by omega)).trans hk)⟩
   ·exact ⟨some c, _, by have := run_endLoop (P := P) hl (by rw [hrec]; simp); rw [hrec] at this; exact this, hstop _ c pre _ (qg _) hSp ((hIx c).putObj _ hi (by omega) hl rfl) ((World.putObj_heap_other (by omega)).trans hk)⟩
end
end Go.Am
/- The abstract machine: a range over a function whose state is a string in a cell. -/
namespace Go.Am
open Go.RowKit
def ZS (W : World) (br cap ty : Nat) (r : List UInt8) : Prop := ∃ cur : Array Value, W.heap[br]? = some (.cells cur ty (0, 0)) ∧ cur.size = cap ∧ 1 ≤ cap ∧ cap ≤ maxLen ∧ cur.toList.take 1 = [.string ⟨r.toArray⟩] ∧ ∀ v ∈ cur.toList, v.oneCell' = true
def bx (ty : Nat) (r : List UInt8) : Ob := ⟨ty, 1, 1, [.str r], 0⟩
def Qnt (br cap ty : Nat) (A B : World) : Prop := ∃ row, A.grownBy B row ∧ ∀ q, row = some q → q = br ∧ (∃ r, ZS A br cap ty r) ∧ ∃ r', ZS B br cap ty r'
def KpX (br cap ty : Nat) (C : Nat → Nat → Prop) (A B : World) : Prop := (∀ r, ZS A br cap ty r → ZS B br cap ty r) ∧ ∀ (b k : Nat) (v : Value), ¬ C b k → A.cell? ⟨b, k, none⟩ = some v → B.cell? ⟨b, k, none⟩ = some v
theorem ZS.uniq {W : World} {br cap ty : Nat} {r r' : List UInt8} (h : ZS W br cap ty r) (g : ZS W br cap ty r') : r = r' := by
 obtain ⟨cur, h1, _, _, _, h5, _⟩ := h
 obtain ⟨cur', g1, _, _, _, g5, _⟩ := g
 rw [h1] at g1
 cases g1
 rw [h5] at g5
 simpa using g5
theorem ZS.lt {W : World} {br cap ty : Nat} {r : List UInt8} (h : ZS W br cap ty r) : br < W.heap.size := by
 obtain ⟨cur, h1, _⟩ := h
 exact (qi.1 h1).1
theorem ZS.same {W W' : World} {br cap ty : Nat} {r : List UInt8} (h : ZS W br cap ty r) (e : W'.heap[br]? = W.heap[br]?) : ZS W' br cap ty r := by
 obtain ⟨cur, h1, h2⟩ := h
 exact ⟨cur, e.trans h1, h2⟩
theorem Held.boxAt {B : Nat} {X : Cx} (g : Held B X) {p br cap ty : Nat} {r : List UInt8} (hp : X.ob[p]? = some (bx ty r)) (he : X.be[p]? = some (some (br, cap))) : ZS X.w br cap ty r := by
 obtain ⟨e, he', hok⟩ := g.get hp
 rw [he] at he'
 cases he'
 obtain ⟨cur, ⟨fr, h1, h1'⟩, h2, h3, h4, h5, h6, h7⟩ := hok
 obtain rfl : fr = (0, 0) := FrOk.zero h1'
 simp only [bx, qn, qJ, RepL, Rep] at h6
 obtain ⟨v, rest, h6, h8, h9⟩ := h6
 subst h8 h9
 exact ⟨cur, h1, by have := h2; simpa [bx] using this, h3, h4, h6, h7⟩
theorem Qnt.blk {br cap ty : Nat} {A B : World} (h : Qnt br cap ty A B) : ∀ k, k < A.heap.size → k ≠ br → B.heap[k]? = A.heap[k]? := by
 obtain ⟨row, hg, hr⟩ := h
 exact fun k hk hne => hg.block k hk fun e => hne (hr k e.symm).1
theorem Qnt.box {br cap ty : Nat} {A B : World} (h : Qnt br cap ty A B) {r : List UInt8} (hb : ZS A br cap ty r) : ∃ r', ZS B br cap ty r' := by
 obtain ⟨row, hg, hr⟩ := h
 cases row with
 | none => exact ⟨r, hb.same (hg.block br hb.lt (by simp))⟩
 | some q =>
  obtain ⟨_, _, h⟩ := hr q rfl
  exact h
theorem Held.turn {B : Nat} {A W' : World} {ob : List Ob} {be : List (Option (Nat × Nat))} {C : Nat → Nat → Prop} {p br cap ty : Nat} {r r' : List UInt8} (g : Held B ⟨A, ob, be, C⟩) (hp : ob[p]? = some (bx ty r)) (he : be[p]? = some (some (br, cap)))
  (hr : Qnt br cap ty A W') (hb : ZS W' br cap ty r') : Held B ⟨W', ob.set p (bx ty r'), be, C⟩ ∧ Moves ⟨A, ob, be, C⟩ ⟨W', ob.set p (bx ty r'), be, C⟩ ∧ Below B A W' := by
 have hblk := hr.blk
 have hbB : B ≤ br := g.base p br cap he
 have hpl : p < ob.length := (qb.1 hp).1
 have hsz : A.heap.size ≤ W'.heap.size := by obtain ⟨row, hg, _⟩ := hr; exact hg.size
 have hbel : Below B A W' := by
  obtain ⟨row, hg, hr⟩ := hr
  exact ⟨hg.os, hg.tape, hg.output, hg.size, fun k hk => hg.block k (by have := g.size; exact yB hk this) fun e => by have := (hr k e.symm).1; omega⟩
 have hobY : ∀ (o2 : Nat) (x2 : Ob), (ob.set p (bx ty r'))[o2]? = some x2 → (o2 = p ∧ x2 = bx ty r') ∨ (o2 ≠ p ∧ ob[o2]? = some x2) := by
  intro o2 x2 h2
  rw [qq] at h2
  by_cases e : p = o2
  ·subst e; simp [hpl] at h2; exact .inl ⟨rfl, h2.symm⟩
  ·simp [e] at h2; exact .inr ⟨fun h => e h.symm, h2⟩
 let X : Cx := ⟨A, ob, be, C⟩
 let Y : Cx := ⟨W', ob.set p (bx ty r'), be, C⟩
 have hav : ∀ b' k, Y.av b' k → X.av b' k := by
  rintro b' k (h | ⟨o2, x2, c2, h1, h2, h3⟩)
  ·exact .inl h
  ·rcases hobY o2 x2 h1 with ⟨rfl, rfl⟩ | ⟨_, h4⟩
   ·exact .inr ⟨o2, bx ty r, c2, hp, h2, yd _⟩
   ·exact .inr ⟨o2, x2, c2, h4, h2, h3⟩
 have hmv : Moves X Y := by
  refine ⟨fun b' k v hc ha => ⟨?_, fun h => ha (hav b' k h)⟩, fun o2 x2 h2 => ?_, fun b' hb' hf => ⟨hblk b' hb' fun e => hf p cap (by rw [e]; exact he), hf⟩⟩
  ·have hne : b' ≠ br := fun e => ha (.inr ⟨p, bx ty r, cap, hp, by rw [e]; exact he, yd _⟩)
   rw [World.cell?_of_block (w := A) (hblk b' (World.block_lt_of_cell? A _ hc) hne)]
   exact hc
  ·by_cases e : o2 = p
   ·subst e
    have h2 : ob[o2]? = some x2 := h2
    rw [hp] at h2; cases h2
    exact ⟨bx ty r', by simp [Y, hpl], qg _, fun h => ⟨h, fun _ => rfl⟩⟩
   ·exact ⟨x2, by simp only [Y]; rw [qA (fun h => e h.symm)]; exact h2, qg _, fun h => ⟨h, fun _ => rfl⟩⟩
 refine ⟨⟨by have := g.len; simpa using this, fun o2 x2 e2 h2 h3 => ?_, g.inj, g.base, g.bnd, qH g.size hsz⟩, hmv, hbel⟩
 rcases hobY o2 x2 h2 with ⟨rfl, rfl⟩ | ⟨hne, h4⟩
 ·have h3' : be[o2]? = some e2 := h3
  rw [he] at h3'
  cases h3'
  obtain ⟨cur, q1, q2, q3, q4, q5, q6⟩ := hb
  refine ⟨cur, ⟨(0, 0), q1, .inl rfl⟩, by simp [bx, q2], q3, q4, rfl, ?_, q6⟩
  simp only [bx, qn, qJ]
  rw [q5]
  simp only [RepL, Rep]
  exact ⟨_, _, rfl, rfl, rfl⟩
 ·refine (g.ok o2 x2 e2 h4 h3).move hmv fun b2 c2 hbc => ?_
  subst hbc
  exact hblk b2 (g.block_lt h4 h3) fun e => hne (by subst e; exact g.inj o2 p b2 c2 cap h3 he)
def Qor (P : Prg) (gf ty : Nat) (sep : List UInt8) (L : List UInt8 → List (List UInt8)) : Prop :=
 ∀ (s : List UInt8) (w : World) (C : Nat → Nat → Prop) (v1 v3 : Value) (br cap : Nat), s.length ≤ 1000000 → Rep ⟨w, [], [], C⟩ (.cell [.str sep]) v1 → Rep ⟨w, [], [], C⟩ (.cell [.int .i64 0]) v3 → ZS w br cap ty s → (∀ k, C br k) → (∀ b k, ¬ C b k → ∃ v, w.cell? ⟨b, k, none⟩ = some v) → GOk P.G ⟨w, [], [], C⟩ →
  Qqf Fence.wide 4 P gf #[v1, .pointer (some ⟨br, 0, none⟩), v3] (fun (x : Fin (L s).length) => #[.string ⟨(L s)[x].toArray⟩]) (KpX br cap ty C) (Qnt br cap ty) (fun l => l = List.finRange _) (fun _ => True) (L s).length w
theorem Qk6 {P : Prg} {N : Nat} {t d p : Nat} {asn body : Code} {ab : AC} {fr : List (Nat × AV)} {gf q ty : Nat} {sep s : List UInt8} {L : List UInt8 → List (List UInt8)}
  (hfn : look fr t = .fn (.func gf) [] [.cell [.str sep], .ref q 1 0, .cell [.int .i64 0]]) (hE : Enters P gf) (hsl : s.length ≤ 1000000) (hI : Qor P gf ty sep L) (hasn : Asn asn d p) (hd : d < N) (hp : p < N) (hcb : Qb P N body = some ab) (hnl : Zr ab = true)
  {G : List (Fin (L s).length) → Prop} (hG0 : G []) {S : List (Fin (L s).length) → List Ob} (hq : ∀ pre, q < (S pre).length) {Q : Exit → St → Prop}
  (hround : ∀ (pre : List (Fin (L s).length)) (x : Fin (L s).length) (r : List UInt8), G pre → pre.length < (L s).length → wpC P N (S pre).length ab (fun e st => match e with
   | .normal => G (pre ++ [x]) ∧ Le (S pre).length st ⟨[], (S (pre ++ [x])).set q (bx ty r)⟩
   | .ret => ∃ ob' : List Ob, q < ob'.length ∧ Le (S pre).length st ⟨[], ob'.set q (bx ty r)⟩ ∧ ∀ r', Q .ret ⟨fr, ob'.set q (bx ty r')⟩
   | _ => False) ⟨QQ (QQ fr (some p) (.str (L s)[x])) (some d) (.str (L s)[x]), (S pre).set q (bx ty r)⟩)
  (hdone : G (List.finRange _) → ∀ r, Q .normal ⟨fr, (S (List.finRange _)).set q (bx ty r)⟩) {Γ : Ctx} {a : Act} {w : World} (hN : Fit P N Γ) (hds : Γ.ds = []) (hs : Sim Γ ⟨fr, (S []).set q (bx ty s)⟩ a w) :
  (Code.rangeFunc (.tmp t) #[p] asn body).wp P (Qmh Γ Q w.heap.size) a w := by
 obtain ⟨q1, q2, q3, be0, g0, m0, hfr⟩ := hs
 let X1 : Cx := ⟨w, (S []).set q (bx ty s), be0, Γ.X0.C⟩
 have hob1 : X1.ob[q]? = some (bx ty s) := by simp [X1, hq]
 have hg := hfr t
 simp only at hg
 rw [hfn] at hg
 rw [show Rep X1 (.fn (.func gf) [] [.cell [.str sep], .ref q 1 0, .cell [.int .i64 0]]) (a.tmps.getD t undef) = ∃ va vb, a.tmps.getD t undef = .func (.func gf) va.toArray vb.toArray ∧ RepL X1 [] va ∧ RepL X1 [.cell [.str sep], .ref q 1 0, .cell [.int .i64 0]] vb by simp only [Rep]] at hg
 obtain ⟨va, vb, hev, hva, hvb⟩ := hg
 have hva' : va = [] := by simpa only [RepL] using hva
 subst hva'
 obtain ⟨v1, rest, hvb1, hv1, hrest⟩ : ∃ v1 rest, vb = v1 :: rest ∧ Rep X1 (.cell [.str sep]) v1 ∧ RepL X1 [.ref q 1 0, .cell [.int .i64 0]] rest := by simpa only [RepL] using hvb
 obtain ⟨v2, rest2, hvb2, hv2, hrest2⟩ : ∃ v1 rest1, rest = v1 :: rest1 ∧ Rep X1 (.ref q 1 0) v1 ∧ RepL X1 [.cell [.int .i64 0]] rest1 := by simpa only [RepL] using hrest
 obtain ⟨v3, rest3, hvb3, hv3, hrest3⟩ : ∃ v1 rest1, rest2 = v1 :: rest1 ∧ Rep X1 (.cell [.int .i64 0]) v1 ∧ RepL X1 [] rest1 := by simpa only [RepL] using hrest2
 have hrest3' : rest3 = [] := by simpa only [RepL] using hrest3
 subst hrest3' hvb3 hvb2 hvb1
 simp only [Rep] at hv2
 obtain ⟨⟨xq, hxq, _, _, hxp⟩, _⟩ := hv2
 rw [hob1] at hxq
 cases hxq
 obtain ⟨br, cap, hbe, rfl⟩ := hxp rfl
 have hbe : be0[q]? = some (some (br, cap)) := hbe
 have hev' : a.eval (.tmp t) = .func (.func gf) #[] #[v1, .pointer (some ⟨br, 0, none⟩), v3] := hev
 have hbox0 : ZS w br cap ty s := Held.boxAt g0 hob1 hbe
 have hbrw : br < w.heap.size := hbox0.lt
 let D : Nat → Nat → Prop := fun b k => ¬ ((∃ v, w.cell? ⟨b, k, none⟩ = some v) ∧ ¬ X1.av b k)
 have hD1 : ∀ b k, ¬ D b k → (∃ v, w.cell? ⟨b, k, none⟩ = some v) ∧ ¬ X1.av b k := fun b k h => Classical.not_not.1 h
 have hD2 : ∀ (c : AV) (v : Value), isD c = true → Rep X1 c v → Rep ⟨w, [], [], D⟩ c v := fun c v hd hr => Rep.data (X := X1) (Y := ⟨w, [], [], D⟩) (fun b k v hc ha => ⟨hc, fun h => by
  rcases h with h | ⟨o, x, c, h1, _⟩
  ·exact h ⟨⟨v, hc⟩, ha⟩
  ·simp at h1⟩) c v hd hr
 have hDbr : ∀ k, D br k := fun k h => h.2 (.inr ⟨q, bx ty s, cap, hob1, hbe, yd _⟩)
 have hseq := hI s w D v1 v3 br cap hsl (hD2 _ _ rfl hv1) (hD2 _ _ rfl hv3) hbox0 hDbr (fun b k h => (hD1 b k h).1) (fun g gcs hl => hD2 _ _ (by simp only [isD]; exact P.gd g gcs hl) (hN.2.move m0 g gcs hl))
 let SimO : List Ob → World → Prop := fun ob W => Below Γ.B Γ.X0.w W ∧ ∃ be, Held Γ.B ⟨W, ob, be, Γ.X0.C⟩ ∧ QX X1 ⟨W, ob, be, Γ.X0.C⟩ ∧ Moves Γ.X0 ⟨W, ob, be, Γ.X0.C⟩
 have hX0 : Γ.X0.w.heap.size ≤ w.heap.size := q3.size
 have hBw : Γ.B ≤ w.heap.size := g0.size
 have hown : ∀ ob W W' row, SimO ob W → W.grownBy W' row → (∀ r, row = some r → w.heap.size ≤ r ∧ ∃ o : Obj, W.heap[r]? = some o ∧ o.isCells = false) → SimO ob W' := by
  rintro ob W W' row ⟨h1, be, h2, h3, h4⟩ hgr hr
  exact ⟨h1.grown hgr (by have := h2.size; exact this) (fun k e => by have := (hr k e).1; omega), be, h2.grown hgr (fun r e => (hr r e).2), h3.trans (QX.grown hgr fun r e => (hr r e).2),
   h4.grown hgr (fun r e => ⟨by have := (hr r e).1; omega, (hr r e).2⟩)⟩
 have hbeq : ∀ {ob : List Ob} {W : World} {be : List (Option (Nat × Nat))} {r : List UInt8}, ob[q]? = some (bx ty r) → QX X1 ⟨W, ob, be, Γ.X0.C⟩ → be[q]? = some (some (br, cap)) := by
  intro ob W be r ho hm
  obtain ⟨y, hy, _, hyp⟩ := hm.ob q _ hob1
  have hy' : ob[q]? = some y := hy
  rw [ho] at hy'
  cases hy'
  exact ((hyp (by simp [bx])).2 rfl).trans hbe
 have hrel : ∀ (ob : List Ob) (r : List UInt8) (W W' : World), q < ob.length → SimO (ob.set q (bx ty r)) W → Qnt br cap ty W W' → ∃ r', SimO (ob.set q (bx ty r')) W' := by
  rintro ob r W W' hql ⟨h1, be, h2, h3, h4⟩ hr
  have ho : (ob.set q (bx ty r))[q]? = some (bx ty r) := by simp [hql]
  have hb := hbeq ho h3
  obtain ⟨r', hbox⟩ := hr.box (Held.boxAt h2 ho hb)
  obtain ⟨g5, m5, b5⟩ := h2.turn ho hb hr hbox
  rw [List.set_set] at g5 m5
  exact ⟨r', h1.trans b5, be, g5, h3.trans m5.toC, h4.trans m5⟩
 rw [hds] at q1
 have hclose : ∀ (D : Nat) (ob : List Ob) (W : World), SimO ob W → Sim { Γ with ds := [{ target := .collected D, args := #[] }] } ⟨fr, ob⟩ { a with defers := { target := .collected D, args := #[] } :: a.defers } W := by
  rintro D ob W ⟨h1, be, h2, h3, h4⟩
  exact ⟨by simp only [q1], q2, h1, be, h2, h4, fun i => Rep.moveC h3 _ _ (hfr i)⟩
 rw [← wpIn_wide (n := 5)]
 refine Qba (F := Fence.wide) (n := 5) (α := Fin (L s).length) rfl (by decide) (gf := gf) (lb := #[v1, .pointer (some ⟨br, 0, none⟩), v3]) hev' trivial (fun args w => Q7 hE args w) hseq
  (fun A B hr k o hk hA ho => (hr.blk k (qi.1 hA).1 (by omega)).trans hA)
  (fun h1 h2 => ⟨fun r hr => h2.1 r (h1.1 r hr), fun b k v hc hv => h2.2 b k v hc (h1.2 b k v hc hv)⟩)
  (fun W l o o' hle hl ho _ => ⟨fun r hr => hr.same (World.putObj_heap_other (by omega)), fun b k v _ hv => by
   obtain ⟨o2, h1, h2⟩ := Xi hv
   rw [World.cell?_of_block (w := W) (World.putObj_heap_other fun e => by
    have e : b = l := e
    rw [e] at h1
    have h1 : W.heap[l]? = some o2 := h1
    rw [hl] at h1; cases h1; rw [ho] at h2; cases h2)]
   exact hv⟩) (Below.refl _ _) (fun _ => rfl)
  (fun pre W => G pre ∧ ∃ r, SimO ((S pre).set q (bx ty r)) W) (fun c pre W => c = .ret ∧ ∃ (ob' : List Ob) (r : List UInt8), q < ob'.length ∧ (∀ r', Q .ret ⟨fr, ob'.set q (bx ty r')⟩) ∧ SimO (ob'.set q (bx ty r)) W)
  (fun pre W W' row hs hgr hr => ⟨hs.1, hs.2.imp fun r h => hown _ W W' row h hgr hr⟩)
  (fun c pre W W' row hs hgr hr => ⟨hs.1, hs.2.imp fun ob' h => h.imp fun r h => ⟨h.1, h.2.1, hown _ W W' row h.2.2 hgr hr⟩⟩)
  (fun pre A B hs hr => by obtain ⟨hg, r, hs⟩ := hs; exact ⟨hg, hrel _ r A B (hq pre) hs hr⟩)
  (fun c pre A B hs hr => by
   obtain ⟨e, ob', r, h1, h2, h3⟩ := hs
   obtain ⟨r', h4⟩ := hrel _ r A B h1 h3 hr
   exact ⟨e, ob', r', h1, h2, h4⟩)
  ⟨hG0, s, q3, be0, g0, QX.refl _, m0⟩
  (fun x => { tmps := ((#[p].zip #[.string ⟨(L s)[x].toArray⟩]).foldl (fun t (p, v) => t.setIfInBounds p v) a.tmps).setIfInBounds d (((#[p].zip #[.string ⟨(L s)[x].toArray⟩]).foldl (fun t (p, v) => t.setIfInBounds p v) a.tmps).getD p undef), defers := [] }) ?assign ?body ?done ?stop
 case assign =>
  intro l x W K hK
  exact hasn l _ _ _ _ _ hK
 case body =>
  rintro l pre x W ⟨hgp, r, h1, be, h2, h3, h4⟩ hlen
  let XW : Cx := ⟨W, (S pre).set q (bx ty r), be, Γ.X0.C⟩
  let Γr : Ctx := ⟨Γ.B, XW, N, []⟩
  obtain ⟨vx, hvx⟩ : ∃ vx : Value, vx = .string ⟨(L s)[x].toArray⟩ := ⟨_, rfl⟩
  rw [← hvx]
  have e1 : ((#[p].zip #[vx]).foldl (fun t (p, v) => t.setIfInBounds p v) a.tmps) = a.tmps.setIfInBounds p vx := by simp
  have hpN : p < a.tmps.size := by rw [q2, hN.1]; exact hp
  have e2 : (a.tmps.setIfInBounds p vx).getD p undef = vx := by simp [hpN]
  rw [e1, e2]
  have hfrW : ∀ i, Rep XW (look fr i) (({ tmps := a.tmps, defers := [] } : Act).tmps.getD i undef) := fun i => Rep.moveC h3 _ _ (hfr i)
  have hvW : Rep XW (.str (L s)[x]) vx := by simp only [Rep]; exact hvx
  have hN' : Γ.N = N := hN.1
  have r1 := Qdo (X := XW) (fr := fr) (a := { tmps := a.tmps, defers := [] }) (N := N) (by rw [← hN']; exact q2) hfrW (dst := some p) (fun _ e => by cases e; exact hp) hvW
  have r2 := Qdo (X := XW) (a := ({ tmps := a.tmps, defers := [] } : Act).put (some p) vx) (N := N) (by rw [J1, ← hN']; exact q2) r1 (dst := some d) (fun _ e => by cases e; exact hd) hvW
  have hsr : Sim Γr ⟨QQ (QQ fr (some p) (.str (L s)[x])) (some d) (.str (L s)[x]), (S pre).set q (bx ty r)⟩ { tmps := (a.tmps.setIfInBounds p vx).setIfInBounds d vx, defers := [] } W :=
   ⟨rfl, by simp [Γr]; rw [q2]; exact hN', Below.refl _ _, be, h2, Moves.refl _, r2⟩
  have hatW : ∀ b k, ¬ D b k → ¬ XW.av b k := fun b k h => by
   obtain ⟨⟨v, hv⟩, ha⟩ := hD1 b k h
   exact (h3.cell b k v hv ha).2
  have hoW : XW.ob[q]? = some (bx ty r) := by simp [XW, hq]
  have hbW : be[q]? = some (some (br, cap)) := hbeq hoW h3
  have hlenM : (S pre).length = Γr.X0.ob.length := by simp [Γr, XW]
  refine wpIn_mono (Zn body ab _ _ hnl hcb (hround pre x r hgp hlen) Γr _ W ⟨rfl, hN.2.move h4⟩ hlenM.symm hsr) ?_
  have kp : ∀ {W' : World} {be' : List (Option (Nat × Nat))} {ob' : List Ob}, q < ob'.length → Held Γ.B ⟨W', ob'.set q (bx ty r), be', Γ.X0.C⟩ → Moves XW ⟨W', ob'.set q (bx ty r), be', Γ.X0.C⟩ → KpX br cap ty D W W' := by
   intro W' be' ob' hql c2 c4
   have ho' : (ob'.set q (bx ty r))[q]? = some (bx ty r) := by simp [hql]
   have hb' := hbeq ho' (h3.trans c4.toC)
   refine ⟨fun r1 hr1 => ?_, fun b k v hc hv => (c4.cell _ _ _ hv (hatW b k hc)).1⟩
   rw [← (Held.boxAt h2 hoW hbW).uniq hr1]
   exact Held.boxAt c2 ho' hb'
  rintro e a' W' ⟨st', hqx, hs'⟩
  cases e with
  | normal =>
   obtain ⟨hg2, hqx⟩ := hqx
   obtain ⟨_, _, b1, be', c2, c4, _⟩ := hqx Γr a' W' hlenM.symm hs'
   exact ⟨c4.keeps h2 b1.size _, kp (hq _) c2 c4, hg2, r, h1.trans b1, be', c2, h3.trans c4.toC, h4.trans c4⟩
  | ret =>
   obtain ⟨ob', hql, hle, hq'⟩ := hqx
   obtain ⟨_, _, b1, be', c2, c4, _⟩ := hle Γr a' W' hlenM.symm hs'
   exact ⟨c4.keeps h2 b1.size _, rfl, ob', r, hql, hq', h1.trans b1, be', c2, h3.trans c4.toC, h4.trans c4⟩
  | exit id => exact hqx.elim
  | goto l => exact hqx.elim
  | panic ch => exact hqx.elim
  | outgrown => exact hqx.elim
 case done =>
  rintro D ys W hD rfl ⟨hg, r, h⟩ hdD
  exact ⟨D, _, hD, hdD, hdone hg r, hclose D _ _ h⟩
 case stop =>
  rintro D c pre W hD _ ⟨rfl, ob', r, _, hq', h⟩ hdD
  exact wpIn_ret ⟨D, _, hD, hdD, hq' r, hclose D _ _ h⟩
end Go.Am
/- The abstract machine: a body with a range over a function whose state is a string. -/
namespace Go.Am
open Go.RowKit
theorem ACall.of_post {P : Prg} {f : FuncId} {fn : Func} {c : Code} (hf : P.prog.funcs[f]? = some fn) (hn : (fn.name == "runtime.NumGoroutine") = false) (hb : fn.body = some c)
  {avs : List AV} {ob : List Ob} {K : AV → List Ob → Prop} (hlen : avs.length ≤ fn.ntmps)
  (h0 : ∀ (Γ : Ctx) (a : Act) (w : World), Fit P fn.ntmps Γ → Γ.X0.ob.length = ob.length → Γ.ds = [] → Sim Γ ⟨Qz 0 avs, ob⟩ a w → c.wp P (Qng Γ (QaZ P fn.results.toList K)) a w) : ACall P f avs ob K := by
 refine ⟨⟨fn, hf, hn, by rw [hb]; rfl⟩, fun B w be C vs g hG hr' => ?_⟩
 refine (callsIn_wide (n := 5)).1 (callsIn_of_wp_marks hf hb trivial ?_)
 rw [wpIn_wide]
 have hvl := hr'.length
 let Γ : Ctx := ⟨B, ⟨w, ob, be, C⟩, fn.ntmps, []⟩
 have hs : Sim Γ ⟨Qz 0 avs, ob⟩ { tmps := vs.toArray ++ Array.replicate (fn.ntmps - vs.toArray.size) undef, defers := [] } w := by
  refine ⟨rfl, by simp [Γ]; omega, Below.refl _ _, be, g, Moves.refl _, fun i => ?_⟩
  rcases ZV avs vs 0 hr' i with h1 | ⟨_, v, h2, h3⟩
  ·show Rep _ (look (Qz 0 avs) i) _
   rw [h1]; simp only [Rep]
  ·have h4 : (vs.toArray ++ Array.replicate (fn.ntmps - vs.toArray.size) undef).getD i undef = v := by
    simp only [yJ] at h2
    have hlt := (qb.1 h2).1
    rw [qr, yg (by simpa using hlt)]
    simp [h2]
   show Rep _ (look (Qz 0 avs) i) ((vs.toArray ++ Array.replicate (fn.ntmps - vs.toArray.size) undef).getD i undef)
   rw [h4]
   exact h3
 have hQ : ∀ e st, QaZ P fn.results.toList K e st → e = .normal ∨ e = .ret := by
  intro e st h
  cases e <;> first | exact .inl rfl | exact .inr rfl | exact h.elim
 refine wp_mono (h0 Γ _ w ⟨rfl, hG⟩ rfl rfl hs) ?_
 have fin : ∀ (st : St) (a' : Act) (w' : World) (be' : List (Option (Nat × Nat))), Below B w w' → Held B ⟨w', st.ob, be', C⟩ → Moves ⟨w, ob, be, C⟩ ⟨w', st.ob, be', C⟩ → (∀ i, Rep ⟨w', st.ob, be', C⟩ (look st.fr i) (a'.tmps.getD i undef)) →
   ∀ rs, Z8 st.fr st.ob P fn.results.toList = some rs → K (QM rs) st.ob → ∃ v, (results fn a'.tmps).run P w' = .ok v w' ∧ ∃ v_1 r ob' be', Ending.returned v = .returned v_1 ∧ Below B w w' ∧ Held B ⟨w', ob', be', C⟩ ∧ Moves ⟨w, ob, be, C⟩ ⟨w', ob', be', C⟩ ∧ Rep ⟨w', ob', be', C⟩ r v_1 ∧ K r ob' := by
  intro st a' w' be' hb' g' hm hfr rs hrs hk
  obtain ⟨v, hv1, hv2⟩ := ZI (P := P) (Γ := Γ) g' hfr hrs
  exact ⟨v, hv1, v, QM rs, st.ob, be', rfl, hb', g', hm, hv2, hk⟩
 have plain : ∀ (e : Exit) (st : St) (a' : Act) (w' : World), (e = .normal ∨ e = .ret) → QaZ P fn.results.toList K e st → ∃ rs, Z8 st.fr st.ob P fn.results.toList = some rs ∧ K (QM rs) st.ob := by
  intro e st a' w' he h
  rcases he with rfl | rfl <;> (simp only [QaZ] at h; split at h; exact ⟨_, by assumption, h⟩; exact h.elim)
 rintro e a' w' (⟨st, he, ⟨q1, q2, q3, be', g', hm, hfr⟩⟩ | ⟨D, st, hD1, hD2, hDw, he, ⟨q1, q2, q3, be', g', hm, hfr⟩⟩)
 ·obtain ⟨rs, hrs, hk⟩ := plain e st a' w' (hQ e st he) he
  have h1 := fin st a' w' be' q3 g' hm hfr rs hrs hk
  have q1' : a'.defers = [] := q1
  rcases hQ e st he with rfl | rfl <;> (simp only [bodyPostM]; rw [q1']; exact h1)
 ·obtain ⟨rs, hrs, hk⟩ := plain e st a' w' (hQ e st he) he
  have hgr := grownBy_putObj' w' D (.deferred none)
  have hrow : ∀ r, some D = some r → w.heap.size ≤ r ∧ ∃ o : Obj, w'.heap[r]? = some o ∧ o.isCells = false := fun r e => by cases e; exact ⟨hD2, _, hDw, rfl⟩
  have h1 := fin st a' (w'.putObj D (.deferred none)) be' (q3.grown hgr g'.size (fun k e => by cases e; exact hD1)) (g'.grown hgr fun r e => (hrow r e).2) (hm.grown hgr hrow)
   (fun i => Rep.moveC (QX.grown hgr fun r e => (hrow r e).2) _ _ (hfr i)) rs hrs hk
  have q1' : a'.defers = [{ target := .collected D, args := #[] }] := q1
  rcases hQ e st he with rfl | rfl <;> (simp only [bodyPostM]; rw [q1']; exact ⟨by simp, .inl ⟨D, _, rfl, run_takeDeferred hDw, h1⟩⟩)
theorem Qk1 {X : Cx} {a : Act} : ∀ i, Rep X (look [] i) (a.tmps.getD i undef) := fun i => by simp only [look, Rep]
theorem Jk {X : Cx} {a : Act} {fr : List (Nat × AV)} {j : Nat} {v : AV} (h : Rep X v (a.tmps.getD j undef)) (g : ∀ i, Rep X (look fr i) (a.tmps.getD i undef)) : ∀ i, Rep X (look ((j, v) :: fr) i) (a.tmps.getD i undef) := fun i => by
 simp only [look]
 split
 ·rename_i e; subst e; exact h
 ·exact g i
def Qgd (P : Prg) (N M t p d : Nat) (ab aT : AC) (Q : Exit → St → Prop) (st : St) : Prop :=
 ∃ (gf q ty : Nat) (sep s : List UInt8) (L : List UInt8 → List (List UInt8)) (fr : List (Nat × AV)) (G : List (Fin (L s).length) → Prop) (S : List (Fin (L s).length) → List Ob),
  G [] ∧ Le M st ⟨fr, (S []).set q (bx ty s)⟩ ∧ look fr t = .fn (.func gf) [] [.cell [.str sep], .ref q 1 0, .cell [.int .i64 0]] ∧ Enters P gf ∧ s.length ≤ 1000000 ∧ Qor P gf ty sep L ∧ d < N ∧ p < N ∧ Zr ab = true ∧ (∀ pre, q < (S pre).length) ∧
  (∀ (pre : List (Fin (L s).length)) (x : Fin (L s).length) (r : List UInt8), G pre → pre.length < (L s).length → wpC P N (S pre).length ab (fun e st => match e with
   | .normal => G (pre ++ [x]) ∧ Le (S pre).length st ⟨[], (S (pre ++ [x])).set q (bx ty r)⟩
   | .ret => ∃ ob' : List Ob, q < ob'.length ∧ Le (S pre).length st ⟨[], ob'.set q (bx ty r)⟩ ∧ ∀ r', Q .ret ⟨fr, ob'.set q (bx ty r')⟩
   | _ => False) ⟨QQ (QQ fr (some p) (.str (L s)[x])) (some d) (.str (L s)[x]), (S pre).set q (bx ty r)⟩) ∧
  (G (List.finRange _) → ∀ r, wpC P N (S (List.finRange _)).length aT Q ⟨fr, (S (List.finRange _)).set q (bx ty r)⟩)
def Qpp (P : Prg) (N M t p d : Nat) (aR ab aT : AC) (Q : Exit → St → Prop) : List AC → St → Prop
 | [], st => wpC P N M aR (XY (Qgd P N M t p d ab aT Q) Q) st
 | a :: as, st => wpC P N M a (XY (Qpp P N M t p d aR ab aT Q as) Q) st
theorem QgB {P : Prg} {N M t p d : Nat} {aR ab aT : AC} {Q : Exit → St → Prop} (hQ : ∀ e st, Q e st → e = .normal ∨ e = .ret) : ∀ (pres : List AC) (c : Code) (st : St), QeV P.prog N t p d aR ab aT pres c → Qpp P N M t p d aR ab aT Q pres st →
  ∀ (Γ : Ctx) (a : Act) (w : World), Fit P N Γ → Γ.X0.ob.length = M → Γ.ds = [] → Sim Γ st a w → c.wp P (Qng Γ Q) a w
 | a0 :: as, c, st, hc, h, Γ, a, w, hN, hM, hds, hs => by
  obtain ⟨x, y, e, hx, hy⟩ := hc
  subst e
  refine wp_seq (wp_mono (Qn x a0 _ st hx h Γ a w hN hM hs) ?_)
  rintro e a' w' ⟨st', hq, hs'⟩
  cases e with
  | normal => exact QgB hQ as y st' hy hq Γ a' w' hN hM hds hs'
  | exit id => exact .inl ⟨st', hq, hs'⟩
  | goto l => exact .inl ⟨st', hq, hs'⟩
  | ret => exact .inl ⟨st', hq, hs'⟩
  | panic ch => exact .inl ⟨st', hq, hs'⟩
  | outgrown => exact .inl ⟨st', hq, hs'⟩
 | [], c, st, hc, h, Γ, a, w, hN, hM, hds, hs => by
  obtain ⟨cR, asn, body, cT, id, e, hR, hA, hB, hT⟩ := hc
  subst e
  refine wp_seq (wp_seq (wp_mono (Qn cR aR _ st hR h Γ a w hN hM hs) ?_))
  rintro e a1 w1 ⟨st1, hq, hs1⟩
  cases e with
  | exit id => exact .inl ⟨st1, hq, hs1⟩
  | goto l => exact .inl ⟨st1, hq, hs1⟩
  | ret => exact .inl ⟨st1, hq, hs1⟩
  | panic ch => exact .inl ⟨st1, hq, hs1⟩
  | outgrown => exact .inl ⟨st1, hq, hs1⟩
  | normal =>
   obtain ⟨gf, q, ty, sep, s, L, fr, G, S, hG0, hle, hfn, hE, hsl, hI, hd, hp, hnl, hqS, hround, hdone⟩ := hq
   have hs2 := hle Γ a1 w1 hM hs1
   have hsz : Γ.X0.w.heap.size ≤ w1.heap.size := hs2.2.2.1.size
   have hBz : Γ.B ≤ w1.heap.size := by obtain ⟨_, _, _, _, g, _⟩ := hs2; exact g.size
   let Q' : Exit → St → Prop := fun e st => match e with
    | .normal => G (List.finRange _) ∧ ∃ r, st = ⟨fr, (S (List.finRange _)).set q (bx ty r)⟩
    | .ret => Q .ret st
    | _ => False
   have hw := Qk6 (Q := Q') hfn hE hsl hI hA hd hp hB hnl hG0 hqS (fun pre x r hg hl => hround pre x r hg hl) (fun hg r => ⟨hg, r, rfl⟩) hN hds hs2
   refine wp_block (wp_mono hw ?_)
   rintro e a2 w2 ⟨D, st2, hD, hm, hq2, hs3⟩
   cases e with
   | exit id => exact hq2.elim
   | goto l => exact hq2.elim
   | panic ch => exact hq2.elim
   | outgrown => exact hq2.elim
   | ret => exact .inr ⟨D, st2, by omega, by omega, hm, hq2, hs3⟩
   | normal =>
    obtain ⟨hgf, r, e2⟩ : G (List.finRange _) ∧ ∃ r, st2 = ⟨fr, (S (List.finRange _)).set q (bx ty r)⟩ := hq2
    subst e2
    obtain ⟨q1, q2, q3, be, g, m, hfr⟩ := hs3
    let Γ2 : Ctx := ⟨Γ.B, ⟨w2, (S (List.finRange _)).set q (bx ty r), be, Γ.X0.C⟩, N, [{ target := .collected D, args := #[] }]⟩
    have hs4 : Sim Γ2 ⟨fr, (S (List.finRange _)).set q (bx ty r)⟩ a2 w2 := ⟨q1, by rw [q2]; exact hN.1, Below.refl _ _, be, g, Moves.refl _, hfr⟩
    refine wp_mono (Qn cT aT Q _ hT (hdone hgf r) Γ2 a2 w2 ⟨rfl, hN.2.move m⟩ (by simp [Γ2]) hs4) ?_
    rintro e a3 w3 ⟨st3, hq3, ⟨p1, p2, p3, be3, g3, m3, hfr3⟩⟩
    have hk := (m3.keeps g p3.size 0).same D _ (yd _) hm rfl
    exact .inr ⟨D, st3, by omega, by omega, hk, hq3, ⟨p1, by rw [p2]; exact hN.1.symm, q3.trans p3, be3, g3, m.trans m3, hfr3⟩⟩
def kSs (P : Prg) (N M : Nat) (rc : RC) (as : List AC) (Q : Exit → St → Prop) : Exit → St → Prop := XY (Qpp P N M rc.t rc.p rc.d rc.aR rc.ab rc.aT Q as) Q
def Qpq (P : Prg) (N M : Nat) (rc : RC) (Q : Exit → St → Prop) (as : List AC) (st : St) : Prop := Qpp P N M rc.t rc.p rc.d rc.aR rc.ab rc.aT Q as st
def kRs (P : Prg) (N M : Nat) (rc : RC) (Q : Exit → St → Prop) : Exit → St → Prop := XY (Qgd P N M rc.t rc.p rc.d rc.ab rc.aT Q) Q
section
variable {P : Prg} {N M : Nat} {rc : RC} {Q : Exit → St → Prop} {st : St} {a : AC} {as : List AC}
theorem QkB : Qpq P N M rc Q (a :: as) st = wpC P N M a (kSs P N M rc as Q) st := rfl
theorem Qmq : Qpq P N M rc Q [] st = wpC P N M rc.aR (kRs P N M rc Q) st := rfl
theorem Qj1 : kSs P N M rc as Q .normal st = Qpq P N M rc Q as st := rfl
theorem QnX : kSs P N M rc as Q .ret st = Q .ret st := rfl
theorem QnZ : kRs P N M rc Q .ret st = Q .ret st := rfl
theorem QeF : kRs P N M rc Q .normal st = Qgd P N M rc.t rc.p rc.d rc.ab rc.aT Q st := rfl
end
theorem ACall.of_rangeS {P : Prg} {f : FuncId} {N : Nat} {rl : List ResultVar} {rc : RC} (hbody : Qer P f N rl rc) {avs : List AV} {ob : List Ob} {K : AV → List Ob → Prop} (hlen : avs.length ≤ N)
  (h0 : Qpq P N ob.length rc (QaZ P rl K) rc.pres ⟨Qz 0 avs, ob⟩) : ACall P f avs ob K := by
 obtain ⟨fn, c, hf, hn, hN, hrl, hb, hsp⟩ := hbody.ok.1
 subst hN
 subst hrl
 refine ACall.of_post hf hn hb hlen fun Γ a w hF hM hds hs => ?_
 have hQ : ∀ e st, QaZ P fn.results.toList K e st → e = .normal ∨ e = .ret := by
  intro e st h
  cases e <;> first | exact .inl rfl | exact .inr rfl | exact h.elim
 exact QgB hQ rc.pres c _ hsp h0 Γ a w hF hM hds hs
end Go.Am
/- The abstract machine: a walk that stands still several times, between two statements, to tell its state anew. -/
namespace Go.Am
open Go.RowKit
def wpM (P : Prg) (N M : Nat) : List Bool → AC → (Exit → St → Prop) → St → Prop
 | [], ac, Q, st => wpC P N M ac Q st
 | true :: ns, ac, Q, st => ∃ st', Le M st st' ∧ wpM P N M ns ac Q st'
 | false :: ns, .seq a b, Q, st => wpC P N M a (XY (wpM P N M ns b Q) Q) st
 | false :: _, _, _, _ => False
def kM (P : Prg) (N M : Nat) (ns : List Bool) (b : AC) (Q : Exit → St → Prop) : Exit → St → Prop := XY (wpM P N M ns b Q) Q
theorem Qdb {P : Prg} {N M : Nat} : ∀ (ns : List Bool) (c : Code) (ac : AC) (Q : Exit → St → Prop) (st : St), Qb P N c = some ac → wpM P N M ns ac Q st → AWp P N M c Q st
 | [], c, ac, Q, st, hc, h => Qn c ac Q st hc h
 | true :: ns, c, ac, Q, st, hc, h => by
  obtain ⟨st', hl, h⟩ := h
  exact fun Γ a w h1 h2 hs => Qdb ns c ac Q st' hc h Γ a w h1 h2 (hl Γ a w h2 hs)
 | false :: ns, c, ac, Q, st, hc, h => by
  match ac, h with
  | .seq ax ay, h =>
   obtain ⟨x, y, rfl, hx, hy⟩ := Qu hc
   intro Γ a w h1 h2 hs
   refine wp_seq (wp_mono (Qn x ax _ st hx h Γ a w h1 h2 hs) ?_)
   rintro e a' w' ⟨st', hq, hs'⟩
   cases e with
   | normal => exact Qdb ns y ay Q st' hy hq Γ a' w' h1 h2 hs'
   | exit id => exact ⟨st', hq, hs'⟩
   | goto l => exact ⟨st', hq, hs'⟩
   | ret => exact ⟨st', hq, hs'⟩
   | panic ch => exact ⟨st', hq, hs'⟩
   | outgrown => exact ⟨st', hq, hs'⟩
theorem ACall.of_cuts (ns : List Bool) {P : Prg} {f : FuncId} {ac : AC} {N : Nat} {rl : List ResultVar} (hbody : Body P f N rl ac)
  {avs : List AV} {ob : List Ob} {K : AV → List Ob → Prop} (hlen : avs.length ≤ N)
  (h0 : wpM P N ob.length ns ac (QaZ P rl K) ⟨Qz 0 avs, ob⟩) : ACall P f avs ob K :=
 ACall.of_awp hbody hlen fun c hc => Qdb ns c ac _ _ hc h0
theorem Qac :
  (∀ P N M ns a b Q st, wpM P N M (false :: ns) (.seq a b) Q st = wpC P N M a (kM P N M ns b Q) st) ∧
  (∀ P N M ac Q st, wpM P N M [] ac Q st = wpC P N M ac Q st) ∧
  (∀ P N M ns b Q st, kM P N M ns b Q .normal st = wpM P N M ns b Q st) ∧
  (∀ P N M ns b Q st j, kM P N M ns b Q (.exit j) st = Q (.exit j) st) ∧
  (∀ P N M ns b Q st, kM P N M ns b Q .ret st = Q .ret st) :=
 ⟨fun _ _ _ _ _ _ _ _ => rfl, fun _ _ _ _ _ _ => rfl, fun _ _ _ _ _ _ _ => rfl, fun _ _ _ _ _ _ _ _ => rfl, fun _ _ _ _ _ _ _ => rfl⟩
theorem Qi0 {P : Prg} {N M : Nat} {ns : List Bool} {ac : AC} {Q : Exit → St → Prop} {st : St} (st' : St) (h : Le M st st') (hw : wpM P N M ns ac Q st') : wpM P N M (true :: ns) ac Q st := ⟨st', h, hw⟩
end Go.Am
/- The abstract machine: package variables of the library's own, as a row's first world holds them. -/
namespace Go.Am
open Go.RowKit
theorem Qib {W : World} {g : Nat} {c : AV} {v : Value} (h : W.cell? ⟨g, 0, none⟩ = some v) (h1 : v.oneCell' = true) (hr : Rep (X0 W) c v) : Rep (X0 W) (.cell [c]) (.pointer (some ⟨g, 0, none⟩)) := by
 simp only [Rep, RepL]
 refine ⟨g, 0, [v], rfl, fun i u hu => ?_, v, [], rfl, hr, rfl⟩
 match i, hu with
 | 0, hu => cases hu; exact ⟨⟨h, Qon⟩, h1⟩
theorem Qfu {P : Program} {w : World} {laid : List (String × DataW Unit)} (hl : laidMet P laid w) {name nm : String} {d : DataW Unit} {g : Nat} {t : TypeId} {ms : Array (String × TypeId)} (hg : P.globalNamed name = some g) (hty : (P.globals[g]?).map (·.type) = some t)
  (ht : P.underlying t = some (.interface ms)) (hm : (name, DataW.iface nm d) ∈ laid) : ∃ u v, w.cell? ⟨g, 0, none⟩ = some (.iface u v) := by
 obtain ⟨ps, hv, -, -⟩ := hl
 induction laid generalizing ps with
 | nil => cases hm
 | cons x r ih =>
  obtain ⟨m, e⟩ := x
  obtain ⟨g', t', cs, fuel, p, q, q1, q2, q3, q4, q5, _⟩ := hv
  rcases qo.1 hm with hm | hm
  ·cases hm
   rw [hg] at q1
   cases q1
   rw [hty] at q2
   cases q2
   obtain ⟨_, u, v, hcs, _⟩ := iface_of_trod ht q4
   simp only [World.var?, hg, yW] at q3
   split at q3
   ·rename_i c ty fr hh
    cases q3
    refine ⟨u, v, ?_⟩
    rw [cell_of_row _ _ _ _ _ _ hh]
    have := congrArg (·[0]?) hcs
    simpa using this
   ·cases q3
  ·exact ih hm _ q5
def Qqb (P : Program) (name : String) (g : Nat) : Bool :=
 decide (P.globalNamed name = some g) &&
 match (P.globals[g]?).map (·.type) with
 | some t => (match P.underlying t with | some (.interface _) => true | _ => false)
 | none => false
theorem Qar {P : Program} {w : World} {laid : List (String × DataW Unit)} (hl : laidMet P laid w) {name nm : String} {d : DataW Unit} {g : Nat} (hb : Qqb P name g = true) (hm : (name, DataW.iface nm d) ∈ laid) : ∃ u v, w.cell? ⟨g, 0, none⟩ = some (.iface u v) := by
 simp only [Qqb, qf, ql] at hb
 obtain ⟨hg, hb⟩ := hb
 split at hb
 ·rename_i t hty
  split at hb
  ·rename_i ms ht
   exact Qfu hl hg hty ht hm
  ·cases hb
 ·cases hb
variable {H : Type} {enc : TypeId × Value → H}
theorem Xq {a : Assume} {C : Checked} {os : Os} {f : FuncId} {fn : Func} {s : ChangeSpec} {conds : List PathCond} {apart fresh handsOn again : Bool} {X : World → Array Value → Prop}
  (hX : ∀ (w w' : World) (args : Array Value), w.heap = w'.heap → X w args → X w' args)
  (own : ownKnob C.prog.godebug = none) (started : os.Started) (noInit : C.prog.inits.idxOf? f = none) (hfn : C.prog.funcs[f]? = some fn)
  (witness : ∃ (w : World) (tape : Tape) (i : Input), w.os = os ∧ (w.forCall tape i).Shaped C.prog ∧ i.vars = [] ∧ Input.okWide C.prog (w.forCall tape i) .any w.heap.size f i ∧
   ((s.pre enc C.prog fn conds apart (w.forCall tape i).memory i.args ∧ X (w.forCall tape i).memory i.args) ∧ sizedMet enc C.prog fn (OpenSpec.ofChange s) apart (w.forCall tape i).memory i.args) ∧ a.holds C.prog (lone (Frame.enter C.prog f i.args .normal) [] (w.forCall tape i)))
  (contract : ∀ (W : World) (base : Nat) (args : Array Value) (ds gs : List (DataW H)) (before : List MemPlace),
   (∀ (j : Nat) t v, fn.params[j]? = some t → args[j]? = some v → Value.okWide C.prog W .any base t v) →
   DataW.Whole enc C.prog fn.params.toList s.vars apart W args.toList ds gs before → X W args → W.ShapedOpen C.prog →
   Calls C.prog f args W fun e W' => ∃ v, e = .returned v ∧ s.post enc C.prog fn apart fresh handsOn again W args v W') :
  ReturnsInHanded a C os f .any (fun w args => (s.pre enc C.prog fn conds apart w args ∧ X w args) ∧ sizedMet enc C.prog fn (OpenSpec.ofChange s) apart w args) (s.post enc C.prog fn apart fresh handsOn again) := by
 refine returnsInHanded_of_calls own started noInit witness ?_
 intro w tape i _ hsh _ hok hpre _
 obtain ⟨_, _, _, fn', hfn', _, _, _, _, hval⟩ := hok
 have e : fn' = fn := Option.some.inj (hfn'.symm.trans hfn)
 subst e
 obtain ⟨⟨⟨ds, gs, before, hw, hc⟩, hx⟩, hz⟩ := hpre
 have hw' := DataW.Whole.of_heap (w' := w.forCall tape i) (by rfl) hw
 refine (contract (w.forCall tape i) w.heap.size i.args ds gs before hval hw' (hX _ _ _ (by rfl) hx) hsh).mono fun e W' ⟨v, he, hp⟩ => ?_
 subst he
 exact ChangeSpec.post_blind hp
end Go.Am
/- The abstract machine, run: code over known values, evaluated. -/
namespace Go.Am
open Go.RowKit
abbrev Ev := FuncId → List AV → List Ob → Option (AV × List Ob)
def Qoe (fr : List (Nat × AV)) : List Nat → List Nat
 | [] => []
 | t :: r => match look fr t with
  | .ref o _ _ | .own o _ | .view o _ _ _ | .ownc o _ _ => o :: Qoe fr r
  | _ => Qoe fr r
def QmW (k : Nat) (is : List Nat) (ob : List Ob) (v : AV) : Option AV :=
 match Z6 (fun o => is.contains o) ob k [v] with
 | some [v'] => if isD v' then some v' else none
 | _ => none
def Qau (is : List Nat) (ob : List Ob) (v : AV) : AV :=
 if isD v then v else
 match QmW 1 is ob v with
 | some v' => v'
 | none =>
  match QmW 3 is ob v with
  | some v' => v'
  | none => v
mutual
def QpK (f : Nat → Option (List Nat)) : AV → Option (List Nat)
 | .own o _ => (f o).map (o :: ·)
 | .ownc o _ _ => (f o).map (o :: ·)
 | .view o _ _ _ => (f o).map (o :: ·)
 | .ref _ _ _ => none
 | .agg cs => ownsL f cs
 | .tup cs => ownsL f cs
 | .list _ cs => ownsL f cs
 | .fn _ _ _ => none
 | _ => some []
def ownsL (f : Nat → Option (List Nat)) : List AV → Option (List Nat)
 | [] => some []
 | c :: cs =>
  match QpK f c, ownsL f cs with
  | some a, some b => some (a ++ b)
  | _, _ => none
end
def QoJ (ob : List Ob) : Nat → List AV → Option (List Nat)
 | 0, _ => some []
 | k + 1, l => ownsL (fun o => match ob[o]? with | some x => if isDL x.cs then some [] else QoJ ob k x.cs | none => none) l
def nub : List Nat → List Nat
 | [] => []
 | x :: l => if (nub l).contains x then nub l else x :: nub l
def evV (call : Ev) (f : FuncId) (avs : List AV) : Option AV :=
 if isDL avs then
  match call f avs [] with
  | some (r', ob') =>
   if isD r' then some r' else
   match Z6 (fun _ => true) ob' 4 [r'] with
   | some [r] => if isD r then some r else none
   | _ => none
  | none => none
 else none
mutual
def Qgf : AV → AV → Bool
 | .any, .any => true
 | .int k n, .int k' n' => decide (k = k') && decide (n = n')
 | .bool a, .bool b => decide (a = b)
 | .ubool, .ubool => true
 | .str s, .str s' => decide (s = s')
 | .emp z, .emp z' => decide (z = z')
 | .list n cs, .list n' cs' => decide (n = n') && beqL cs cs'
 | .cell cs, .cell cs' => beqL cs cs'
 | .agg cs, .agg cs' => beqL cs cs'
 | .tup cs, .tup cs' => beqL cs cs'
 | .own o n, .own o' n' => decide (o = o') && decide (n = n')
 | .ownc o n c, .ownc o' n' c' => decide (o = o') && decide (n = n') && decide (c = c')
 | .view o v k n, .view o' v' k' n' => decide (o = o') && decide (v = v') && decide (k = k') && decide (n = n')
 | .ref o v k, .ref o' v' k' => decide (o = o') && decide (v = v') && decide (k = k')
 | _, _ => false
def beqL : List AV → List AV → Bool
 | [], [] => true
 | a :: l, b :: m => Qgf a b && beqL l m
 | _, _ => false
end
def evH (ow : List FuncId) (call : Ev) : Ev := fun f avs ob =>
 if isDL avs then (if ow.contains f then call f avs ob else (evV call f avs).map fun r => (r, ob)) else
 match QoJ ob 4 avs with
 | none => call f avs ob
 | some is =>
  if ow.contains f then call f (avs.map (Qau (nub is) ob)) (Qe (nub is) ob) else
  match evV call f (avs.map (Qau (nub is) ob)) with
  | none => none
  | some r =>
   match Z6 (fun _ => true) ob 4 avs with
   | some ds => if flatR r = true ∧ beqL ds (avs.map (Qau (nub is) ob)) = true then some (r, ob) else some (r, Qe (nub is) ob)
   | none => some (r, Qe (nub is) ob)
def evO (G : List (Nat × List AV)) (ow : List FuncId) (call : Ev) : List AO → St → Option St
 | [], st => some st
 | o :: os, st =>
  match Qy st.fr o.guard with
  | some true =>
   match o.op with
   | .call f args =>
    match evH ow call f (args.map (opd G st.fr)) st.ob with
    | some (r, ob') => evO G ow call os ⟨QQ st.fr o.dst r, ob'⟩
    | none => none
   | .callv f args =>
    match look st.fr f with
    | .fn (.func g) fs cs =>
     match evH ow call g (fs ++ args.map (opd G st.fr) ++ cs) st.ob with
     | some (r, ob') => evO G ow call os ⟨QQ st.fr o.dst r, ob'⟩
     | none => none
    | _ => none
   | .op p =>
    match aop (opd G st.fr) st.ob st.ob.length p with
    | some (v, u) => evO G ow call os ⟨QQ st.fr o.dst v, app st.ob u⟩
    | none => none
  | some false => evO G ow call os ⟨QQ st.fr o.dst (.tup []), st.ob⟩
  | none => none
def QpC : AV → Option Nat
 | .own i _ => some i
 | .tup (.own i _ :: _) => some i
 | _ => none
def evW (call : Ev) (f : FuncId) (avs : List AV) : Option (AV × Ob) :=
 if isDL avs then
  match call f avs [] with
  | some (r, ob') =>
   match QpC r with
   | some i =>
    match ob'[i]? with
    | some x => if isDL x.cs = true ∧ okr x.n r = true ∧ x.sz ≠ 0 then some (r, x) else none
    | none => none
   | none => none
  | none => none
 else none
def QpB (x y : Ob) : Bool := decide (x.ty = y.ty) && decide (x.sz = y.sz) && decide (x.n = y.n) && decide (x.fz = y.fz) && beqL x.cs y.cs
def Qiy : List Ob → List Ob → Option (Option (Nat × Ob))
 | [], [] => some none
 | x :: l, y :: m =>
  match Qiy l m with
  | some none => if QpB x y then some none else some (some (0, y))
  | some (some (o, z)) => if QpB x y then some (some (o + 1, z)) else none
  | none => none
 | _, _ => none
def Qpt : List Ob → Nat → Option Nat
 | [], _ => none
 | x :: r, i => if x.ty = 1 ∧ x.sz = 0 ∧ x.n = 0 ∧ x.cs.isEmpty = true ∧ x.fz = 0 then some i else Qpt r (i + 1)
def evX (call : Ev) (x : It) (f : FuncId) (avs : List AV) (ob : List Ob) : Option (AV × List Ob) :=
 if isDL avs = false ∧ (x.dat = true ∨ x.id = 1) then
  match call f avs ob with
  | some (r, ob') =>
   match Qiy ob ob' with
   | some none => some (r, ob)
   | some (some (o, y)) => if x.dat = true ∧ (ob.drop o).head?.map (·.sz) ≠ some 0 then some (r, app ob (some (o, y))) else none
   | none => none
  | none => none
 else
 match (if x.dat = false ∧ x.id = 0 then evW call f avs else none), Qpt ob 0 with
 | some (r, y), some o => some (shr o r, ob.set o y)
 | _, _ => (evV call f avs).map fun r => (r, ob)
def evD (G : List (Nat × List AV)) (call : Ev) (M : Nat) : List It → St → Option St
 | [], st => some st
 | x :: xs, st =>
  match Qy st.fr x.q.guard with
  | some true =>
   match x.q.op with
   | .call f args =>
    match evX call x f (args.map (opd G st.fr)) st.ob with
    | some (r, ob') => evD G call M xs ⟨QQ st.fr x.q.dst r, ob'⟩
    | none => none
   | .callv f args =>
    match look st.fr f with
    | .fn (.func g) fs cs =>
     match evX call x g (fs ++ args.map (opd G st.fr) ++ cs) st.ob with
     | some (r, ob') => evD G call M xs ⟨QQ st.fr x.q.dst r, ob'⟩
     | none => none
    | _ => none
   | .op p =>
    match Qaa (x.dat && Qq p) (aop (opd G st.fr) (x.sees st.ob) (M + x.id) p) with
    | some (v, none) => evD G call M xs ⟨QQ st.fr x.q.dst v, st.ob⟩
    | some (v, some u) => if okW p then evD G call M xs ⟨QQ st.fr x.q.dst v, app st.ob (some u)⟩ else none
    | none => none
  | some false => evD G call M xs ⟨QQ st.fr x.q.dst (.tup []), st.ob⟩
  | none => none
def stF (is : List Nat) (ob : List Ob) : List (Nat × AV) → List (Nat × AV)
 | [] => []
 | (d, v) :: r => (d, Qau is ob v) :: stF is ob r
def Qpu : Nat → List Ob → List Ob
 | 0, ob => ob
 | n + 1, ob => Qpu n (ob ++ [ph2])
def QoH (xs : List It) (st : St) : St :=
 match Qoe st.fr ((xs.filter fun x => x.dat && !x.q.isC).flatMap fun x => x.q.looks) with
 | [] => ⟨st.fr, Qpu (xs.filter fun x => x.q.isC).length st.ob⟩
 | i :: is => ⟨stF (i :: is) st.ob st.fr, Qpu (xs.filter fun x => x.q.isC).length (Qe (i :: is) st.ob)⟩
def QnI : List Nat → List (Nat × AV) → List (Nat × AV)
 | _, [] => []
 | ds, (d, v) :: r => if ds.contains d then QnI ds r else (d, v) :: QnI (d :: ds) r
def evL (body : St → Option (Exit × St)) : Nat → St → Option (Exit × St)
 | 0, _ => none
 | n + 1, st =>
  match body st with
  | some (.normal, st') => evL body n ⟨QnI [] st'.fr, st'.ob⟩
  | r => r
def evC (G : List (Nat × List AV)) (ow : List FuncId) (call : Ev) : AC → St → Option (Exit × St)
 | .skip, st => some (.normal, st)
 | .reg qs, st => (evO G ow call qs st).map fun s => (.normal, s)
 | .draw xs ps, st => (evD G call (QoH xs st).ob.length xs ⟨(QoH xs st).fr, (QoH xs st).ob ++ ps⟩).map fun s => (.normal, s)
 | .seq a b, st =>
  match evC G ow call a st with
  | some (.normal, s) => evC G ow call b s
  | r => r
 | .cond x a b, st =>
  match opd G st.fr x with
  | .bool t => if t = true then evC G ow call a st else evC G ow call b st
  | _ => none
 | .block id c, st =>
  match evC G ow call c st with
  | some (.exit j, s) => if j = id then some (.normal, s) else some (.exit j, s)
  | r => r
 | .loop c, st => evL (evC G ow call c) 200000 st
 | .exit id, st => some (.exit id, st)
 | .ret, st => some (.ret, st)
 | .bad, _ => none
def QnO (ag : List (TypeId × Option Nat)) (fr : List (Nat × AV)) (ob : List Ob) : List ResultVar → Option (List AV)
 | [] => some []
 | .tmp t :: r => (QnO ag fr ob r).map (look fr t :: ·)
 | .cell p t :: r =>
  match ag.lookup t, ZJ ob (look fr p), QnO ag fr ob r with
  | some none, some (c :: _), some rest => some (c :: rest)
  | some (some n), some cs, some rest => if n ≤ cs.length then some (.agg (cs.take n) :: rest) else none
  | _, _, _ => none
abbrev Tab := List (FuncId × (Nat × List ResultVar × AC))
def evF (G : List (Nat × List AV)) (ow : List FuncId) (ag : List (TypeId × Option Nat)) (tab : Tab) (orc : Ev) : Nat → Ev
 | 0, f, avs, ob => orc f avs ob
 | d + 1, f, avs, ob =>
  match orc f avs ob with
  | some r => some r
  | none =>
   match tab.lookup f with
   | some (N, rl, ac) =>
    if avs.length ≤ N then
     match evC G ow (evF G ow ag tab orc d) ac ⟨Qz 0 avs, ob⟩ with
     | some (.normal, st) => (QnO ag st.fr st.ob rl).map fun rs => (QM rs, st.ob)
     | some (.ret, st) => (QnO ag st.fr st.ob rl).map fun rs => (QM rs, st.ob)
     | _ => none
    else none
   | none => none
def Qa9 (P : Prg) (ev : Ev) : Prop := ∀ f avs ob r ob', ev f avs ob = some (r, ob') → ∀ K : AV → List Ob → Prop, K r ob' → ACall P f avs ob K
theorem Qdy {B : Nat} {w : World} {ob : List Ob} {be : List (Option (Nat × Nat))} {C : Nat → Nat → Prop} (g : Held B ⟨w, ob, be, C⟩) (is : List Nat) {v v' : AV} {u : Value} {k : Nat} (h : Rep ⟨w, ob, be, C⟩ v u) (hz : QmW k is ob v = some v') : Rep ⟨w, Qe is ob, be, C⟩ v' u := by
 obtain ⟨g1, m1⟩ := Held.still is g
 unfold QmW at hz
 split at hz
 case h_2 => cases hz
 rename_i v2 hf
 split at hz
 case isFalse => cases hz
 cases hz
 rename_i hd
 let X : Cx := ⟨w, ob, be, C⟩
 let Y : Cx := ⟨w, Qe is ob, be, C⟩
 have hsub : ∀ b k, Y.av b k → X.av b k := by
  rintro b k (h | ⟨o, x, c, h1, h2, h3⟩)
  ·exact .inl h
  ·have hlt : o < ob.length := by
    have hA : o < be.length := (qb.1 h2).1
    have hB : be.length = ob.length := g.len
    omega
   obtain ⟨m, h4, h5, _⟩ := QN is ob o ob[o] (qd hlt)
   have h1' : (Qe is ob)[o]? = some x := h1
   rw [h4] at h1'
   cases h1'
   exact .inr ⟨o, ob[o], c, qd hlt, h2, by simp only at h3; omega⟩
 have hds := X2 (X := X) g (C' := Y.av) hsub (ok := fun o => is.contains o) (fun o b c x hok hx he k hk hav => by
  have hmem : o ∈ is := by simpa using hok
  rcases hav with h | ⟨o', x', c', h1, h2, h3⟩
  ·have h4 := g.base o b c he
   have h5 := g.bnd b k h
   omega
  ·have := g.inj o o' b c c' he h2
   subst this
   obtain ⟨m, h4, _, h6⟩ := QN is ob o x hx
   have h1' : (Qe is ob)[o]? = some x' := h1
   rw [h4] at h1'
   cases h1'
   have := h6 hmem
   simp only at h3
   omega) k [v] [v'] [u] hf (by simp only [RepL]; exact ⟨_, _, rfl, h, rfl⟩)
 have hds' : RepL ⟨w, Qe is ob, be, C⟩ [v'] [u] := RepL.data (X := ⟨w, [], [], Y.av⟩) (Y := Y) (fun b k v hc ha => ⟨hc, fun h => ha (.inl h)⟩) _ _ (by simp [isDL, hd]) hds
 simp only [RepL] at hds'
 obtain ⟨_, _, e, h2, _⟩ := hds'
 cases e
 exact h2
theorem Qcu {B : Nat} {w : World} {ob : List Ob} {be : List (Option (Nat × Nat))} {C : Nat → Nat → Prop} (g : Held B ⟨w, ob, be, C⟩) (is : List Nat) {v : AV} {u : Value} (h : Rep ⟨w, ob, be, C⟩ v u) : Rep ⟨w, Qe is ob, be, C⟩ (Qau is ob v) u := by
 have h0 := Rep.move (Held.still is g).2 _ _ h
 unfold Qau
 split
 ·exact h0
 split
 ·rename_i v' hz; exact Qdy g is h hz
 split
 ·rename_i v' hz; exact Qdy g is h hz
 ·exact h0
theorem Qdx {B : Nat} {w : World} {ob : List Ob} {be : List (Option (Nat × Nat))} {C : Nat → Nat → Prop} (g : Held B ⟨w, ob, be, C⟩) (is : List Nat) : ∀ {l : List AV} {us : List Value}, RepL ⟨w, ob, be, C⟩ l us → RepL ⟨w, Qe is ob, be, C⟩ (l.map (Qau is ob)) us
 | [], us, h => by simpa [RepL] using h
 | v :: l, us, h => by
  simp only [RepL] at h
  obtain ⟨u, r, rfl, h1, h2⟩ := h
  simp only [qC, RepL]
  exact ⟨u, r, rfl, Qcu g is h1, Qdx g is h2⟩
theorem ACall.of_tried {P : Prg} {f : FuncId} {avs : List AV} (is : List Nat) {ob : List Ob} {K : AV → List Ob → Prop} (h : ACall P f (avs.map (Qau is ob)) (Qe is ob) K) : ACall P f avs ob K := by
 obtain ⟨hE, hcall⟩ := h
 refine ⟨hE, fun B w be C vs g hG hrep => ?_⟩
 obtain ⟨g1, m1⟩ := Held.still is g
 refine (hcall B w be C vs g1 (hG.move m1) (Qdx g is hrep)).mono ?_
 rintro e w' ⟨v, r', ob', be', rfl, hb, hh, hm, hv, hk⟩
 exact ⟨v, r', ob', be', rfl, hb, hh, m1.trans hm, hv, hk⟩
theorem Qbt {P : Prg} {call : Ev} (hc : Qa9 P call) {f : FuncId} {avs : List AV} {r : AV} (h : evV call f avs = some r) : VC P f avs r := by
 unfold evV at h
 split at h
 case isFalse => cases h
 rename_i hd
 split at h
 case h_2 => cases h
 rename_i r' ob' hcall
 split at h
 ·rename_i hr
  cases h
  exact Ju hd hr (hc _ _ _ _ _ hcall _ rfl)
 split at h
 case h_2 => cases h
 rename_i r2 hf
 split at h
 case isFalse => cases h
 rename_i hr
 cases h
 exact QT 3 hd hr (hc _ _ _ _ _ hcall _ hf)
mutual
theorem Qkk : ∀ (a b : AV), Qgf a b = true → a = b
 | .any, b, h => by cases b <;> simp [Qgf] at h; rfl
 | .int _ _, b, h => by cases b <;> simp [Qgf] at h; obtain ⟨rfl, rfl⟩ := h; rfl
 | .bool _, b, h => by cases b <;> simp [Qgf] at h; subst h; rfl
 | .ubool, b, h => by cases b <;> simp [Qgf] at h; rfl
 | .str _, b, h => by cases b <;> simp [Qgf] at h; subst h; rfl
 | .lit _, b, h => by cases b <;> simp [Qgf] at h
 | .emp _, b, h => by cases b <;> simp [Qgf] at h; subst h; rfl
 | .list _ cs, b, h => by cases b <;> simp [Qgf] at h; obtain ⟨rfl, h⟩ := h; rw [beqL_sound _ _ h]
 | .cell cs, b, h => by cases b <;> simp [Qgf] at h; rw [beqL_sound _ _ h]
 | .agg cs, b, h => by cases b <;> simp [Qgf] at h; rw [beqL_sound _ _ h]
 | .tup cs, b, h => by cases b <;> simp [Qgf] at h; rw [beqL_sound _ _ h]
 | .own _ _, b, h => by cases b <;> simp [Qgf] at h; obtain ⟨rfl, rfl⟩ := h; rfl
 | .ownc _ _ _, b, h => by cases b <;> simp [Qgf] at h; obtain ⟨⟨rfl, rfl⟩, rfl⟩ := h; rfl
 | .view _ _ _ _, b, h => by cases b <;> simp [Qgf] at h; obtain ⟨⟨⟨rfl, rfl⟩, rfl⟩, rfl⟩ := h; rfl
 | .ref _ _ _, b, h => by cases b <;> simp [Qgf] at h; obtain ⟨⟨rfl, rfl⟩, rfl⟩ := h; rfl
 | .fn _ _ _, b, h => by cases b <;> simp [Qgf] at h
theorem beqL_sound : ∀ (a b : List AV), beqL a b = true → a = b
 | [], b, h => by cases b <;> simp [beqL] at h; rfl
 | x :: l, b, h => by
  cases b with
  | nil => simp [beqL] at h
  | cons y m =>
   simp only [beqL, qf] at h
   rw [Qkk _ _ h.1, beqL_sound _ _ h.2]
end
theorem Qg4 {P : Prg} {ow : List FuncId} {call : Ev} (hc : Qa9 P call) : Qa9 P (evH ow call) := fun f avs ob r ob' h K hK => by
 unfold evH at h
 split at h
 ·split at h
  ·exact hc _ _ _ _ _ h K hK
  ·simp only [qa, yc] at h
   obtain ⟨r', h1, rfl, rfl⟩ := h
   exact ACall.of_vc (Qbt hc h1) hK
 split at h
 ·exact hc _ _ _ _ _ h K hK
 rename_i is _
 split at h
 ·exact ACall.of_tried _ (hc _ _ _ _ _ h K hK)
 split at h
 ·cases h
 rename_i r' h1
 have hv := Qbt hc h1
 split at h
 ·rename_i ds hds
  split at h
  ·rename_i hk
   cases h
   rw [← beqL_sound _ _ hk.2] at hv
   exact ACall.of_vc_flat 3 hds hv hk.1 hK
  ·cases h
   exact ACall.of_tried _ (ACall.of_vc hv hK)
 ·cases h
  exact ACall.of_tried _ (ACall.of_vc hv hK)
theorem JM {P : Prg} {ow : List FuncId} {call : Ev} (hc : Qa9 P call) {K : St → Prop} : ∀ (l : List AO) (st st' : St), evO P.G ow call l st = some st' → K st' → wpO P l K st
 | [], st, st', h, hK => by
  simp only [evO, qc] at h
  subst h
  exact hK
 | o :: os, st, st', h, hK => by
  simp only [evO] at h
  simp only [wpO]
  split at h
  case h_3 => cases h
  case h_2 hw => rw [hw]; exact JM hc os _ _ h hK
  case h_1 hw =>
   rw [hw]
   dsimp only
   split at h
   ·rename_i f args hop
    rw [hop]
    dsimp only
    split at h
    case h_2 => cases h
    rename_i r ob' hcall
    exact Qg4 hc _ _ _ _ _ hcall _ (JM hc os _ _ h hK)
   ·rename_i f args hop
    rw [hop]
    dsimp only
    split at h
    case h_2 => cases h
    rename_i g fs cs hf
    rw [hf]
    dsimp only
    split at h
    case h_2 => cases h
    rename_i r ob' hcall
    exact Qg4 hc _ _ _ _ _ hcall _ (JM hc os _ _ h hK)
   ·rename_i p hop
    rw [hop]
    dsimp only
    split at h
    case h_2 => cases h
    rename_i v u hv
    rw [hv]
    exact JM hc os _ _ h hK
theorem QnJ {r : AV} {i : Nat} (h : QpC r = some i) : shr i r = r := by
 unfold QpC at h
 split at h
 ·cases h; rfl
 ·cases h; rfl
 ·cases h
theorem QlD {P : Prg} {call : Ev} (hc : Qa9 P call) {f : FuncId} {avs : List AV} {r : AV} {x : Ob} (h : evW call f avs = some (r, x)) : VO P f avs r x ∧ x.sz ≠ 0 := by
 unfold evW at h
 split at h
 case isFalse => cases h
 rename_i hd
 split at h
 case h_2 => cases h
 rename_i r' ob' hcall
 split at h
 case h_2 => cases h
 rename_i i hi
 split at h
 case h_2 => cases h
 rename_i y hy
 split at h
 case isFalse => cases h
 rename_i hk
 cases h
 exact ⟨VO.of_walk hd hk.1 hk.2.1 (hc _ _ _ _ _ hcall _ ⟨i, hy, (QnJ hi).symm⟩), hk.2.2⟩
theorem QeA : ∀ (l : List Ob) (i o : Nat), Qpt l i = some o → i ≤ o ∧ l[o - i]? = some ph2
 | [], _, _, h => by cases h
 | x :: r, i, o, h => by
  simp only [Qpt] at h
  split at h
  ·rename_i hx
   cases h
   obtain ⟨h1, h2, h3, h4, h5⟩ := hx
   refine ⟨qg _, ?_⟩
   rw [Nat.sub_self]
   obtain ⟨a, b, c, d, e⟩ := x
   simp only at h1 h2 h3 h4 h5
   simp only [List.isEmpty_iff] at h4
   subst h1 h2 h3 h4 h5
   rfl
  ·obtain ⟨h1, h2⟩ := QeA r (i + 1) o h
   refine ⟨by omega, ?_⟩
   rw [show o - i = (o - (i + 1)) + 1 by omega]
   simpa using h2
theorem Zx.of_vc {P : Prg} {ef : Bool} {k : Nat} {f : FuncId} {avs : List AV} {ob : List Ob} {r : AV} (h : VC P f avs r) : Zx P ef k f avs ob r none := by
 unfold Zx
 split
 ·exact ⟨ACall.of_vc h ⟨rfl, rfl⟩, fun _ _ e => by cases e⟩
 split
 ·exact ⟨ACall.of_vc h ⟨rfl, rfl⟩, rfl⟩
 ·exact .inl ⟨h, rfl⟩
theorem QeO {x y : Ob} (h : QpB x y = true) : x = y := by
 simp only [QpB, qf, ql] at h
 obtain ⟨⟨⟨⟨h1, h2⟩, h3⟩, h4⟩, h5⟩ := h
 cases x; cases y
 simp only at h1 h2 h3 h4 h5
 rw [h1, h2, h3, h4, beqL_sound _ _ h5]
theorem Jm : ∀ (l m : List Ob) (u : Option (Nat × Ob)), Qiy l m = some u → m = app l u ∧ ∀ o y, u = some (o, y) → o < l.length
 | [], [], u, h => by simp only [Qiy, qc] at h; subst h; exact ⟨rfl, fun _ _ e => by cases e⟩
 | [], y :: m, u, h => by simp [Qiy] at h
 | x :: l, [], u, h => by simp [Qiy] at h
 | x :: l, y :: m, u, h => by
  simp only [Qiy] at h
  split at h
  ·rename_i hd
   obtain ⟨h1, _⟩ := Jm l m none hd
   split at h
   ·rename_i hb
    cases h
    rw [QeO hb, h1]
    exact ⟨rfl, fun _ _ e => by cases e⟩
   ·cases h
    rw [h1]
    exact ⟨by simp [app], fun o y e => by cases e; simp⟩
  ·rename_i o z hd
   obtain ⟨h1, h2⟩ := Jm l m _ hd
   have h3 := h2 o z rfl
   split at h
   ·rename_i hb
    cases h
    rw [QeO hb, h1]
    exact ⟨by simp [app, h3], fun o y e => by cases e; simp [h3]⟩
   ·cases h
  ·cases h
theorem Qg3 {P : Prg} {call : Ev} (hc : Qa9 P call) {x : It} {f : FuncId} {avs : List AV} {ob ob' : List Ob} {r : AV} (h : evX call x f avs ob = some (r, ob')) : ∃ u, Zx P x.dat x.id f avs ob r u ∧ ob' = app ob u := by
 unfold evX at h
 split at h
 ·rename_i hx
  split at h
  case h_2 => cases h
  rename_i r1 ob1 hcall
  split at h
  ·rename_i hd
   cases h
   obtain ⟨h1, _⟩ := Jm _ _ _ hd
   refine ⟨none, ?_, rfl⟩
   unfold Zx
   split
   ·exact ⟨hc _ _ _ _ _ hcall _ ⟨rfl, h1⟩, fun _ _ e => by cases e⟩
   ·rename_i h3
    rw [qE (hx.2.resolve_left h3)]
    exact ⟨hc _ _ _ _ _ hcall _ ⟨rfl, h1⟩, rfl⟩
  ·rename_i o y hd
   obtain ⟨h1, h2⟩ := Jm _ _ _ hd
   have hl := h2 o y rfl
   split at h
   case isFalse => cases h
   rename_i hk
   cases h
   refine ⟨some (o, y), ?_, rfl⟩
   unfold Zx
   rw [qE hk.1]
   refine ⟨hc _ _ _ _ _ hcall _ ⟨rfl, h1⟩, fun o' x' e => ?_⟩
   cases e
   refine ⟨ob[o], qd hl, fun e => hk.2 ?_⟩
   rw [yp hl]
   simp only [List.head?_cons, qS, e]
   rfl
  ·cases h
 split at h
 ·rename_i r' y o h1 h2
  simp only [qc, yc] at h
  obtain ⟨rfl, rfl⟩ := h
  split at h1
  case isFalse => cases h1
  rename_i hd
  obtain ⟨hv, hz⟩ := QlD hc h1
  obtain ⟨_, ho⟩ := QeA ob 0 o h2
  rw [yJ] at ho
  refine ⟨some (o, y), ?_, ?_⟩
  ·unfold Zx
   rw [qz (by rw [hd.1]; simp), qz (by rw [hd.2]; decide)]
   exact .inr ⟨o, y, hv.1, fun ob' h' => ACall.of_vo_at hv h' ⟨rfl, rfl⟩, rfl, ho, hz⟩
  ·simp only [app, qE (qb.1 ho).1]
 ·simp only [qa, yc] at h
  obtain ⟨r', hv, rfl, rfl⟩ := h
  exact ⟨none, Zx.of_vc (Qbt hc hv), rfl⟩
theorem QkF {x : It} {M : Nat} (h : x.q.isC = true) : (up M x).id = x.id ∧ (up M x).dat = x.dat := by simp [up, h]
theorem Qnf {x : It} {p : AOp} (h : x.q.op = .op p) : x.q.isC = false := by simp [AO.isC, h]
theorem X4 {P : Prg} {call : Ev} (hc : Qa9 P call) {M : Nat} {K : St → Prop} : ∀ (l : List It) (st st' : St), evD P.G call M l st = some st' → K st' → wpD P M l K st
 | [], st, st', h, hK => by
  simp only [evD, qc] at h
  subst h
  exact hK
 | x :: xs, st, st', h, hK => by
  simp only [evD] at h
  simp only [wpD, Xm]
  show ∃ s1, _ ∧ _
  split at h
  case h_3 => cases h
  case h_2 hw =>
   refine ⟨_, ?_, X4 hc xs _ _ h hK⟩
   rw [show Qy st.fr (up M x).q.guard = some false from hw]
   rfl
  case h_1 hw =>
   rw [show Qy st.fr (up M x).q.guard = some true from hw]
   dsimp only
   split at h
   ·rename_i f args hop
    split at h
    case h_2 => cases h
    rename_i r ob' hv
    obtain ⟨u, hv2, rfl⟩ := Qg3 hc hv
    refine ⟨_, ?_, X4 hc xs _ _ h hK⟩
    rw [show (up M x).q.op = .call f args from hop]
    refine ⟨r, u, ?_, rfl⟩
    obtain ⟨e1, e2⟩ := QkF (x := x) (M := M) (by simp [AO.isC, hop])
    rw [e1, e2]
    exact hv2
   ·rename_i f args hop
    split at h
    case h_2 => cases h
    rename_i g fs cs hf
    split at h
    case h_2 => cases h
    rename_i r ob' hv
    obtain ⟨u, hv2, rfl⟩ := Qg3 hc hv
    refine ⟨_, ?_, X4 hc xs _ _ h hK⟩
    rw [show (up M x).q.op = .callv f args from hop]
    dsimp only
    rw [hf]
    refine ⟨r, u, ?_, rfl⟩
    obtain ⟨e1, e2⟩ := QkF (x := x) (M := M) (by simp [AO.isC, hop])
    rw [e1, e2]
    exact hv2
   ·rename_i p hop
    have hid : (up M x).id = M + x.id := by simp only [up, Qnf hop]; rfl
    split at h
    ·rename_i v hv
     refine ⟨_, ?_, X4 hc xs _ _ h hK⟩
     rw [show (up M x).q.op = .op p from hop]
     refine ⟨v, none, ?_, .inl rfl, rfl⟩
     rw [hid]
     exact hv
    ·rename_i v u hv
     split at h
     case isFalse => cases h
     rename_i hk
     refine ⟨_, ?_, X4 hc xs _ _ h hK⟩
     rw [show (up M x).q.op = .op p from hop]
     refine ⟨v, some u, ?_, .inr hk, rfl⟩
     rw [hid]
     exact hv
    ·cases h
theorem Qdh (i : Nat) : ∀ (ds : List Nat) (fr : List (Nat × AV)), ds.contains i = false → look (QnI ds fr) i = look fr i
 | _, [], _ => rfl
 | ds, (d, v) :: r, h => by
  simp only [QnI]
  split
  ·rename_i hd
   rw [Qdh i ds r h]
   have : i ≠ d := fun e => by subst e; rw [hd] at h; cases h
   simp [look, this]
  ·simp only [look]
   split
   ·rfl
   ·rename_i hne
    exact Qdh i (d :: ds) r (by simp only [List.contains_cons, Bool.or_eq_false_iff, yx]; exact ⟨hne, h⟩)
theorem QnH {M : Nat} (st : St) : Le M st ⟨QnI [] st.fr, st.ob⟩ := by
 intro Γ a w _ ⟨h1, h2, h3, be, h4, h5, h6⟩
 exact ⟨h1, h2, h3, be, h4, h5, fun i => by show Rep _ (look (QnI [] st.fr) i) _; rw [Qdh i [] st.fr rfl]; exact h6 i⟩
theorem Qjf (is : List Nat) (ob : List Ob) (i : Nat) : ∀ fr : List (Nat × AV), look (stF is ob fr) i = Qau is ob (look fr i)
 | [] => by simp [stF, look, Qau, isD]
 | (d, v) :: r => by
  simp only [stF, look]
  split
  ·rfl
  ·exact Qjf is ob i r
theorem Qlg {M : Nat} (fr : List (Nat × AV)) : ∀ (n : Nat) (ob : List Ob), Le M ⟨fr, ob⟩ ⟨fr, Qpu n ob⟩
 | 0, _ => Le.refl _ _
 | n + 1, ob => by
  refine Le.trans (b := ⟨fr, ob ++ [ph2]⟩) ?_ (Qlg fr n _)
  intro Γ a w _ ⟨h1, h2, h3, be, h4, h5, h6⟩
  obtain ⟨g1, m1⟩ := h4.empty 1 0
  exact ⟨h1, h2, h3, _, g1, h5.trans m1, fun j => Rep.move m1 _ _ (h6 j)⟩
theorem QnR {M : Nat} (xs : List It) (st : St) : Le M st (QoH xs st) := by
 unfold QoH
 split
 ·exact Qlg _ _ _
 rename_i i is _
 refine Le.trans (b := ⟨stF (i :: is) st.ob st.fr, Qe (i :: is) st.ob⟩) ?_ (Qlg _ _ _)
 intro Γ a w _ ⟨h1, h2, h3, be, h4, h5, h6⟩
 obtain ⟨g1, m1⟩ := Held.still (i :: is) h4
 exact ⟨h1, h2, h3, be, g1, h5.trans m1, fun j => by show Rep _ (look (stF (i :: is) st.ob st.fr) j) _; rw [Qjf]; exact Qcu h4 _ (h6 j)⟩
def Qpm (P : Prg) (N M : Nat) (ac : AC) (Q : Exit → St → Prop) (st : St) : Prop := ∀ c, Qb P N c = some ac → AWp P N M c Q st
theorem QlE {P : Prg} {N M : Nat} {ac : AC} {body : St → Option (Exit × St)} (hb : ∀ (st st' : St) (e : Exit) (Q : Exit → St → Prop), body st = some (e, st') → Q e st' → Qpm P N M ac Q st) {n : Nat} {st st' : St} {e : Exit} {Q : Exit → St → Prop}
  (h : evL body n st = some (e, st')) (hQ : Q e st') : ∀ c, Qb P N c = some ac → AWp P N M (.loop c) Q st := by
 intro c hc Γ a w h1 h2 hs
 have key : ∀ n st a w, evL body n st = some (e, st') → Sim Γ st a w → Code.rounds P c (fun e a' w' => ∃ st', Q e st' ∧ Sim Γ st' a' w') n a w := by
  intro n
  induction n with
  | zero => intro st a w h; simp [evL] at h
  | succ n ih =>
   intro st a w hn hsi
   rw [rounds_succ]
   simp only [evL] at hn
   split at hn
   ·rename_i s2 h2'
    refine wp_mono (hb st s2 _ (fun e s => e = .normal ∧ s = s2) h2' ⟨rfl, rfl⟩ c hc Γ a w h1 h2 hsi) ?_
    rintro e' a' w' ⟨s3, ⟨rfl, rfl⟩, hs'⟩
    exact ih _ a' w' hn (QnH s3 Γ a' w' h2 hs')
   ·rename_i r hr
    refine wp_mono (hb st st' e (fun e2 s => e2 = e ∧ s = st') hn ⟨rfl, rfl⟩ c hc Γ a w h1 h2 hsi) ?_
    rintro e' a' w' ⟨s3, ⟨rfl, rfl⟩, hs'⟩
    cases e' with
    | normal => exact (hr s3 hn).elim
    | exit id => exact ⟨_, hQ, hs'⟩
    | goto l => exact ⟨_, hQ, hs'⟩
    | ret => exact ⟨_, hQ, hs'⟩
    | panic ch => exact ⟨_, hQ, hs'⟩
    | outgrown => exact ⟨_, hQ, hs'⟩
 exact wp_loop_rounds n (key n st a w h hs)
theorem Zv {P : Prg} {N M : Nat} {ow : List FuncId} {call : Ev} (hc : Qa9 P call) : ∀ (ac : AC) (st st' : St) (e : Exit) (Q : Exit → St → Prop), evC P.G ow call ac st = some (e, st') → Q e st' → Qpm P N M ac Q st
 | .skip, st, st', e, Q, h, hQ => fun c hcc => Qn c _ _ _ hcc (by
  simp only [evC, qc, yc] at h
  obtain ⟨rfl, rfl⟩ := h
  exact hQ)
 | .reg qs, st, st', e, Q, h, hQ => fun c hcc => Qn c _ _ _ hcc (by
  simp only [evC, qa, yc] at h
  obtain ⟨s, h1, rfl, rfl⟩ := h
  exact JM hc qs _ _ h1 hQ)
 | .draw xs ps, st, st', e, Q, h, hQ => by
  simp only [evC, qa, yc] at h
  obtain ⟨s, h1, rfl, rfl⟩ := h
  exact QjE (QnR xs st) fun c hcc => Qn c _ _ _ hcc (X4 hc xs _ _ h1 hQ)
 | .seq a b, st, st', e, Q, h, hQ => by
  intro c hcc
  obtain ⟨x, y, rfl, hx, hy⟩ := Qu hcc
  simp only [evC] at h
  intro Γ ac w h1 h2 hs
  split at h
  ·rename_i s h3
   refine wp_seq (wp_mono (Zv hc a _ _ _ (fun e s' => e = .normal ∧ s' = s) h3 ⟨rfl, rfl⟩ x hx Γ ac w h1 h2 hs) ?_)
   rintro e' a' w' ⟨s3, ⟨rfl, rfl⟩, hs'⟩
   exact Zv hc b _ _ _ Q h hQ y hy Γ a' w' h1 h2 hs'
  ·rename_i r hr
   refine wp_seq (wp_mono (Zv hc a _ _ _ (fun e2 s' => e2 = e ∧ s' = st') h ⟨rfl, rfl⟩ x hx Γ ac w h1 h2 hs) ?_)
   rintro e' a' w' ⟨s3, ⟨rfl, rfl⟩, hs'⟩
   cases e' with
   | normal => exact (hr _ h).elim
   | exit id => exact ⟨_, hQ, hs'⟩
   | goto l => exact ⟨_, hQ, hs'⟩
   | ret => exact ⟨_, hQ, hs'⟩
   | panic ch => exact ⟨_, hQ, hs'⟩
   | outgrown => exact ⟨_, hQ, hs'⟩
 | .cond x a b, st, st', e, Q, h, hQ => by
  intro c hcc
  obtain ⟨y, z, rfl, hy, hz⟩ := Xo hcc
  simp only [evC] at h
  split at h
  case h_2 => cases h
  rename_i t ht
  intro Γ ac w h1 h2 hs
  obtain ⟨be, g, hm0, hη, hfr⟩ := hs.eta h1.2
  have hr := hη x
  rw [ht] at hr
  simp only [Rep] at hr
  refine wp_cond hr ?_
  cases t
  ·exact Zv hc b _ _ _ Q (by simpa using h) hQ z hz Γ ac w h1 h2 hs
  ·exact Zv hc a _ _ _ Q (by simpa using h) hQ y hy Γ ac w h1 h2 hs
 | .block id d, st, st', e, Q, h, hQ => by
  intro c hcc
  obtain ⟨x, rfl, hx⟩ := Xv hcc
  simp only [evC] at h
  intro Γ ac w h1 h2 hs
  split at h
  ·rename_i j s h3
   refine wp_block (wp_mono (Zv hc d _ _ _ (fun e2 s' => e2 = .exit j ∧ s' = s) h3 ⟨rfl, rfl⟩ x hx Γ ac w h1 h2 hs) ?_)
   rintro e' a' w' ⟨s3, ⟨rfl, rfl⟩, hs'⟩
   simp only [Exit.inBlock]
   split at h
   ·rename_i e1; cases h; rw [qE e1]; exact ⟨_, hQ, hs'⟩
   ·rename_i e1; cases h; rw [qz e1]; exact ⟨_, hQ, hs'⟩
  ·rename_i r hr
   refine wp_block (wp_mono (Zv hc d _ _ _ (fun e2 s' => e2 = e ∧ s' = st') h ⟨rfl, rfl⟩ x hx Γ ac w h1 h2 hs) ?_)
   rintro e' a' w' ⟨s3, ⟨rfl, rfl⟩, hs'⟩
   cases e' with
   | exit j => exact (hr _ _ h).elim
   | normal => exact ⟨_, hQ, hs'⟩
   | goto l => exact ⟨_, hQ, hs'⟩
   | ret => exact ⟨_, hQ, hs'⟩
   | panic ch => exact ⟨_, hQ, hs'⟩
   | outgrown => exact ⟨_, hQ, hs'⟩
 | .loop d, st, st', e, Q, h, hQ => by
  intro c hcc
  obtain ⟨x, rfl, hx⟩ := Qce hcc
  simp only [evC] at h
  exact QlE (fun s s' e' Q' h' hQ' => Zv hc d s s' e' Q' h' hQ') h hQ x hx
 | .exit id, st, st', e, Q, h, hQ => fun c hcc => Qn c _ _ _ hcc (by
  simp only [evC, qc, yc] at h
  obtain ⟨rfl, rfl⟩ := h
  exact hQ)
 | .ret, st, st', e, Q, h, hQ => fun c hcc => Qn c _ _ _ hcc (by
  simp only [evC, qc, yc] at h
  obtain ⟨rfl, rfl⟩ := h
  exact hQ)
 | .bad, st, st', e, Q, h, hQ => by simp [evC] at h
def Qd (P : Prg) (tab : Tab) : Prop := ∀ f N rl ac, tab.lookup f = some (N, rl, ac) → Body P f N rl ac
theorem Qd.nil {P : Prg} : Qd P [] := fun f N rl ac h => by cases h
theorem Qd.cons {P : Prg} {f N : Nat} {rl : List ResultVar} {ac : AC} {tab : Tab} (h : Body P f N rl ac) (ht : Qd P tab) : Qd P ((f, (N, rl, ac)) :: tab) := fun g N' rl' ac' e => by
 simp only [List.lookup] at e
 split at e
 ·rename_i hg; cases e; rw [eq_of_beq hg]; exact h
 ·exact ht _ _ _ _ e
def Qd1 (P : Prg) (ag : List (TypeId × Option Nat)) : Prop := ∀ t n, ag.lookup t = some n → Xp P t = some n
theorem Qd1.nil {P : Prg} : Qd1 P [] := fun t n h => by cases h
theorem Qd1.cons {P : Prg} {t : TypeId} {n : Option Nat} {ag : List (TypeId × Option Nat)} (h : Xp P t = some n) (ha : Qd1 P ag) : Qd1 P ((t, n) :: ag) := fun t' n' e => by
 simp only [List.lookup] at e
 split at e
 ·rename_i hg; cases e; rw [eq_of_beq hg]; exact h
 ·exact ha _ _ e
theorem XZ {P : Prg} {ag : List (TypeId × Option Nat)} (ha : Qd1 P ag) {fr : List (Nat × AV)} {ob : List Ob} : ∀ (rl : List ResultVar) (rs : List AV), QnO ag fr ob rl = some rs → Z8 fr ob P rl = some rs
 | [], rs, h => h
 | .tmp t :: r, rs, h => by
  simp only [QnO, qa] at h
  obtain ⟨x, h1, rfl⟩ := h
  simp only [Z8, XZ ha r x h1, qS]
 | .cell p t :: r, rs, h => by
  simp only [QnO] at h
  split at h
  ·rename_i c cs rest h1 h2 h3
   cases h
   simp only [Z8, ha _ _ h1, h2, XZ ha r rest h3]
  ·rename_i n cs rest h1 h2 h3
   split at h <;> cases h
   rename_i hn
   simp only [Z8, ha _ _ h1, h2, XZ ha r rest h3, qE hn]
  ·cases h
theorem Qdz {P : Prg} {ow : List FuncId} {tab : Tab} {orc : Ev} {ag : List (TypeId × Option Nat)} (ha : Qd1 P ag) (ht : Qd P tab) (ho : Qa9 P orc) : ∀ d, Qa9 P (evF P.G ow ag tab orc d)
 | 0 => ho
 | d + 1 => fun f avs ob r ob' h K hK => by
  simp only [evF] at h
  split at h
  ·rename_i x hx
   cases h
   exact ho _ _ _ _ _ hx K hK
  split at h
  case h_2 => cases h
  rename_i N rl ac hl
  split at h
  case isFalse => cases h
  rename_i hlen
  split at h
  ·rename_i st he
   simp only [qa, yc] at h
   obtain ⟨rs, h1, rfl, rfl⟩ := h
   exact ACall.of_awp (ht _ _ _ _ hl) hlen (Zv (Qdz ha ht ho d) ac _ _ _ _ he (by simp only [QaZ, XZ ha _ _ h1]; exact hK))
  ·rename_i st he
   simp only [qa, yc] at h
   obtain ⟨rs, h1, rfl, rfl⟩ := h
   exact ACall.of_awp (ht _ _ _ _ hl) hlen (Zv (Qdz ha ht ho d) ac _ _ _ _ he (by simp only [QaZ, XZ ha _ _ h1]; exact hK))
  ·cases h
theorem VC.of_run {P : Prg} {ow : List FuncId} {tab : Tab} {orc : Ev} {ag : List (TypeId × Option Nat)} (ha : Qd1 P ag) (ht : Qd P tab) (ho : Qa9 P orc) (d : Nat) {f : FuncId} {avs : List AV} {r : AV} (h : evV (evF P.G ow ag tab orc d) f avs = some r) : VC P f avs r := Qbt (Qdz ha ht ho d) h
end Go.Am
/- The abstract machine, run: answers that may be leant on. -/
namespace Go.Am
open Go.RowKit
def QoK (l : List (FuncId × List AV × AV)) : Ev := fun f avs ob =>
 match l.find? fun x => x.1 == f && beqL x.2.1 avs with
 | some x => some (x.2.2, ob)
 | none => none
def Qpv (g t : Nat) : Ev := fun f avs ob =>
 match avs with
 | [.emp _, .int .i64 (.ofNat n)] => if f = g ∧ 0 < n ∧ n ≤ 1000000 then some (.own ob.length 0, ob ++ [⟨t, 1, 0, [], 0⟩]) else none
 | _ => none
def orU (a b : Ev) : Ev := fun f avs ob =>
 match a f avs ob with
 | some r => some r
 | none => b f avs ob
theorem Qa9.list {P : Prg} {l : List (FuncId × List AV × AV)} (h : ∀ x ∈ l, VC P x.1 x.2.1 x.2.2) : Qa9 P (QoK l) := fun f avs ob r ob' e K hK => by
 unfold QoK at e
 split at e
 case h_2 => cases e
 rename_i x hx
 cases e
 have h1 := h x (List.mem_of_find?_eq_some hx)
 have h2 := List.find?_some hx
 simp only [qf, beq_iff_eq] at h2
 obtain ⟨rfl, h2⟩ := h2
 rw [← beqL_sound _ _ h2]
 exact ACall.of_vc h1 hK
theorem Qa9.grow {P : Prg} {g t : Nat} (h : ∀ (ob : List Ob) (n : Nat) (z : Bool) (K : AV → List Ob → Prop), 0 < n → n ≤ 1000000 → K (.own ob.length 0) (ob ++ [⟨t, 1, 0, [], 0⟩]) → ACall P g [.emp z, .int .i64 n] ob K) : Qa9 P (Qpv g t) := fun f avs ob r ob' e K hK => by
 unfold Qpv at e
 split at e
 case h_2 => cases e
 rename_i z n
 split at e
 case isFalse => cases e
 rename_i hn
 cases e
 obtain ⟨rfl, h1, h2⟩ := hn
 exact h ob n z K h1 h2 hK
theorem Qa9.or {P : Prg} {a b : Ev} (ha : Qa9 P a) (hb : Qa9 P b) : Qa9 P (orU a b) := fun f avs ob r ob' e K hK => by
 unfold orU at e
 split at e
 ·rename_i x hx
  cases e
  exact ha _ _ _ _ _ hx K hK
 ·exact hb _ _ _ _ _ e K hK
end Go.Am

/- An abstract machine for pure Go code, part 4: sound for the given semantics; no conditions. -/
import Derived.Test.YthckgihcbjpjeaaGreatDoorLinesTellsA3
set_option linter.unusedSectionVars false
set_option linter.unusedSimpArgs false
set_option linter.unusedVariables false
/- The abstract machine: a store told anew in another order, parts of it forgotten. -/
namespace Go.Am
open Go.RowKit
section
variable {X Y : Cx} {t : Nat → Option Nat} (hw : Y.w = X.w) (hav : ∀ b k, Y.av b k → X.av b k) (hob : ∀ o j x, t o = some j → X.ob[o]? = some x → (∃ y, Y.ob[j]? = some y ∧ y.sz = x.sz ∧ y.n = x.n) ∧ Y.be[j]? = X.be[o]?)
include hob in
include hw hav hob
end
def pk (m : Nat) (l : List Nat) (o : Nat) : Option Nat := if o < m then some o else if l.contains (o - m) then some (m + l.idxOf (o - m)) else none
theorem Le.virtC {M : Nat} {fr : List (Nat × AV)} {ob : List Ob} (p i ty sz : Nat) {x : Ob} {z : Bool} (h0 : sz ≠ 0) (hp : ob[p]? = some x) (hx : x.cs[i]? = some (.emp z)) :
  Le M ⟨fr, ob⟩ ⟨fr, ob.set p { x with cs := x.cs.set i (.own ob.length 0) } ++ [⟨ty, sz, 0, [], 0⟩]⟩ := by
 intro Γ a w hX ⟨q1, q2, q3, be, g, hm, hfr0⟩
 obtain ⟨g1, m1⟩ := g.empty ty sz
 have hpl : p < ob.length := (qd.1 hp).1
 have hp1 : (ob ++ [(⟨ty, sz, 0, [], 0⟩ : Ob)])[p]? = some x := by rw [qp hpl]; exact hp
 have hl : be.length = ob.length := g.len
 obtain ⟨g2, m2, _⟩ := g1.retell hp1 (x.cs.set i (.own ob.length 0)) (by simp) (fun vs hv => by
  refine RepL.of_get _ _ (by rw [hv.length]; simp) fun j c v hc hvj => ?_
  by_cases e : i = j
  ·subst e
   have hil : i < x.cs.length := (qd.1 hx).1
   rw [List.getElem?_set_self hil] at hc
   cases hc
   obtain ⟨v', hv', hr⟩ := hv.get i _ hx
   rw [hvj] at hv'; cases hv'
   simp only [Rep] at hr ⊢
   obtain ⟨a', e, _⟩ := hr
   refine ⟨⟨⟨ty, sz, 0, [], 0⟩, by simp, h0, qj _, fun _ => ?_⟩, by rw [e]; rfl⟩
   simp only [OwnV]
   rw [show ob.length = be.length from hl.symm]
   simp [e]
  ·rw [q9 e] at hc
   obtain ⟨v', hv', hr⟩ := hv.get j _ hc
   rw [hvj] at hv'; cases hv'
   exact hr)
 have e1 : (ob ++ [(⟨ty, sz, 0, [], 0⟩ : Ob)]).set p { x with cs := x.cs.set i (.own ob.length 0) } = ob.set p { x with cs := x.cs.set i (.own ob.length 0) } ++ [⟨ty, sz, 0, [], 0⟩] := jh _ _ hpl
 rw [← e1]
 exact ⟨q1, q2, q3, _, g2, hm.trans (m1.trans m2), fun i => Rep.move m2 _ _ (Rep.move m1 _ _ (hfr0 i))⟩
end Go.Am
/- The abstract machine: a range over a function that hands over nothing. -/
namespace Go.Am
open Go.RowKit
theorem Qhz {W W' : World} (h : Below W.heap.size W W') : W.grownBy W' none := ⟨h.os, h.tape, h.output, h.size, fun k hk _ => h.block k hk⟩
structure RC0 where
 pres : List AC
 t : Nat
 aR : AC
 aT : AC
section
variable {P : Prg} {N M : Nat} {r : RC0} {Q : Exit → St → Prop} {st : St} {a : AC} {as : List AC}
end
end Go.Am
/- A range over a function whose state lies in a cell: the law (the kit's, turned), and the machine's rule. -/
namespace Go.Am
open Go.RowKit
section
variable {F : Fence} {n : Nat} {P : Program}
end
end Go.Am
/- The abstract machine: a range over a function whose state is a string in a cell. -/
namespace Go.Am
open Go.RowKit
end Go.Am
/- The abstract machine: a body with a range over a function whose state is a string. -/
namespace Go.Am
open Go.RowKit
theorem ACall.of_post {P : Prg} {f : FuncId} {fn : Func} {c : Code} (hf : P.prog.funcs[f]? = some fn) (hn : (fn.name == "runtime.NumGoroutine") = false) (hb : fn.body = some c)
  {avs : List AV} {ob : List Ob} {K : AV → List Ob → Prop} (hlen : avs.length ≤ fn.ntmps)
  (h0 : ∀ (Γ : Ctx) (a : Act) (w : World), Fit P fn.ntmps Γ → Γ.X0.ob.length = ob.length → Γ.ds = [] → Sim Γ ⟨Xx 0 avs, ob⟩ a w → c.wp P (QCP Γ (Qmb P fn.results.toList K)) a w) : ACall P f avs ob K := by
 refine ⟨⟨fn, hf, hn, by rw [hb]; rfl⟩, fun B w be C vs g hG hr' => ?_⟩
 refine (callsIn_wide (n := 5)).1 (callsIn_of_wp_marks hf hb trivial ?_)
 rw [wpIn_wide]
 have hvl := hr'.length
 let Γ : Ctx := ⟨B, ⟨w, ob, be, C⟩, fn.ntmps, []⟩
 have hs : Sim Γ ⟨Xx 0 avs, ob⟩ { tmps := vs.toArray ++ Array.replicate (fn.ntmps - vs.toArray.size) undef, defers := [] } w := by
  refine ⟨rfl, by simp [Γ]; omega, Below.refl _ _, be, g, Moves.refl _, fun i => ?_⟩
  rcases QcC avs vs 0 hr' i with h1 | ⟨_, v, h2, h3⟩
  ·show Rep _ (look (Xx 0 avs) i) _
   rw [h1]; simp only [Rep]
  ·have h4 : (vs.toArray ++ Array.replicate (fn.ntmps - vs.toArray.size) undef).getD i undef = v := by
    simp only [yn] at h2
    have hlt := (qd.1 h2).1
    rw [qD, jo (by simpa using hlt)]
    simp [h2]
   show Rep _ (look (Xx 0 avs) i) ((vs.toArray ++ Array.replicate (fn.ntmps - vs.toArray.size) undef).getD i undef)
   rw [h4]
   exact h3
 have hQ : ∀ e st, Qmb P fn.results.toList K e st → e = .normal ∨ e = .ret := by
  intro e st h
  cases e <;> first | exact .inl rfl | exact .inr rfl | exact h.elim
 refine wp_mono (h0 Γ _ w ⟨rfl, hG⟩ rfl rfl hs) ?_
 have fin : ∀ (st : St) (a' : Act) (w' : World) (be' : List (Option (Nat × Nat))), Below B w w' → Held B ⟨w', st.ob, be', C⟩ → Moves ⟨w, ob, be, C⟩ ⟨w', st.ob, be', C⟩ → (∀ i, Rep ⟨w', st.ob, be', C⟩ (look st.fr i) (a'.tmps.getD i undef)) →
   ∀ rs, QL st.fr st.ob P fn.results.toList = some rs → K (Qm rs) st.ob → ∃ v, (results fn a'.tmps).run P w' = .ok v w' ∧ ∃ v_1 r ob' be', Ending.returned v = .returned v_1 ∧ Below B w w' ∧ Held B ⟨w', ob', be', C⟩ ∧ Moves ⟨w, ob, be, C⟩ ⟨w', ob', be', C⟩ ∧ Rep ⟨w', ob', be', C⟩ r v_1 ∧ K r ob' := by
  intro st a' w' be' hb' g' hm hfr rs hrs hk
  obtain ⟨v, hv1, hv2⟩ := Qcz (P := P) (Γ := Γ) g' hfr hrs
  exact ⟨v, hv1, v, Qm rs, st.ob, be', rfl, hb', g', hm, hv2, hk⟩
 have plain : ∀ (e : Exit) (st : St) (a' : Act) (w' : World), (e = .normal ∨ e = .ret) → Qmb P fn.results.toList K e st → ∃ rs, QL st.fr st.ob P fn.results.toList = some rs ∧ K (Qm rs) st.ob := by
  intro e st a' w' he h
  rcases he with rfl | rfl <;> (simp only [Qmb] at h; split at h; exact ⟨_, by assumption, h⟩; exact h.elim)
 rintro e a' w' (⟨st, he, ⟨q1, q2, q3, be', g', hm, hfr⟩⟩ | ⟨D, st, hD1, hD2, hDw, he, ⟨q1, q2, q3, be', g', hm, hfr⟩⟩)
 ·obtain ⟨rs, hrs, hk⟩ := plain e st a' w' (hQ e st he) he
  have h1 := fin st a' w' be' q3 g' hm hfr rs hrs hk
  have q1' : a'.defers = [] := q1
  rcases hQ e st he with rfl | rfl <;> (simp only [bodyPostM]; rw [q1']; exact h1)
 ·obtain ⟨rs, hrs, hk⟩ := plain e st a' w' (hQ e st he) he
  have hgr := grownBy_putObj' w' D (.deferred none)
  have hrow : ∀ r, some D = some r → w.heap.size ≤ r ∧ ∃ o : Obj, w'.heap[r]? = some o ∧ o.isCells = false := fun r e => by cases e; exact ⟨hD2, _, hDw, rfl⟩
  have h1 := fin st a' (w'.putObj D (.deferred none)) be' (q3.grown hgr g'.size (fun k e => by cases e; exact hD1)) (g'.grown hgr fun r e => (hrow r e).2) (hm.grown hgr hrow)
   (fun i => Rep.moveC (Qap.grown hgr fun r e => (hrow r e).2) _ _ (hfr i)) rs hrs hk
  have q1' : a'.defers = [{ target := .collected D, args := #[] }] := q1
  rcases hQ e st he with rfl | rfl <;> (simp only [bodyPostM]; rw [q1']; exact ⟨by simp, .inl ⟨D, _, rfl, run_takeDeferred hDw, h1⟩⟩)
theorem Qwe {X : Cx} {a : Act} : ∀ i, Rep X (look [] i) (a.tmps.getD i undef) := fun i => by simp only [look, Rep]
theorem QbE {X : Cx} {a : Act} {fr : List (Nat × AV)} {j : Nat} {v : AV} (h : Rep X v (a.tmps.getD j undef)) (g : ∀ i, Rep X (look fr i) (a.tmps.getD i undef)) : ∀ i, Rep X (look ((j, v) :: fr) i) (a.tmps.getD i undef) := fun i => by
 simp only [look]
 split
 ·rename_i e; subst e; exact h
 ·exact g i
section
variable {P : Prg} {N M : Nat} {rc : RC} {Q : Exit → St → Prop} {st : St} {a : AC} {as : List AC}
end
end Go.Am
/- The abstract machine: a walk that stands still several times, between two statements, to tell its state anew. -/
namespace Go.Am
open Go.RowKit
end Go.Am
/- The abstract machine: package variables of the library's own, as a row's first world holds them. -/
namespace Go.Am
open Go.RowKit
variable {H : Type} {enc : TypeId × Value → H}
end Go.Am
/- The abstract machine, run: code over known values, evaluated. -/
namespace Go.Am
open Go.RowKit
end Go.Am
/- The abstract machine, run: answers that may be leant on. -/
namespace Go.Am
open Go.RowKit
end Go.Am
/- The abstract machine: a range over a function with two variables (whole numbers). -/
namespace Go.Am
open Go.RowKit
def Qx8 (P : Prg) (gf : Nat) (cs : List AV) {cnt : Nat} (xs : Fin cnt → Int × Int) : Prop :=
 ∀ (w : World) (C : Nat → Nat → Prop) (v1 : Value), Rep ⟨w, [], [], C⟩ (.cell cs) v1 → (∀ b k, ¬ C b k → ∃ v, w.cell? ⟨b, k, none⟩ = some v) → GOk P.G ⟨w, [], [], C⟩ →
  SeqStopsK Fence.wide 4 P gf #[v1] (fun j => #[.int .i64 (xs j).1, .int .i64 (xs j).2]) (KpB [] C) (fun l => l = List.finRange cnt) (fun _ => True) cnt w
theorem QDE {t : Array Value} {p q : Nat} {u v : Value} : (#[p, q].zip #[u, v]).foldl (fun t (p, v) => t.setIfInBounds p v) t = (t.setIfInBounds p u).setIfInBounds q v := by simp
theorem Qwx {P : Prg} {N : Nat} {t d p e q : Nat} {as1 as2 body : Code} {ab : AC} {cnt : Nat} {fr : List (Nat × AV)} {gf : Nat} {cs : List AV} {xs : Fin cnt → Int × Int}
  (hfn : look fr t = .fn (.func gf) [] [.cell cs]) (hE : QgA P gf) (hcs : isDL cs = true) (hI : Qx8 P gf cs xs) (ha1 : Asn as1 d p) (ha2 : Asn as2 e q) (hd : d < N) (hp : p < N) (he : e < N) (hq : q < N) (hpq : p ≠ q) (hdq : d ≠ q) (hcb : Qx P N body = some ab) (hnl : Qav ab = true)
  {G : List (Fin cnt) → Prop} (hG0 : G []) {S : List (Fin cnt) → List Ob} {Q : Exit → St → Prop}
  (hround : ∀ (pre : List (Fin cnt)) (x : Fin cnt), G pre → pre.length < cnt → wpC P N (S pre).length ab (fun e st => match e with
   | .normal => G (pre ++ [x]) ∧ Le (S pre).length st ⟨[], S (pre ++ [x])⟩
   | .ret => ∃ ob', Le (S pre).length st ⟨[], ob'⟩ ∧ Q .ret ⟨fr, ob'⟩
   | _ => False) ⟨Xy (Xy (Xy (Xy fr (some p) (.int .i64 (xs x).1)) (some q) (.int .i64 (xs x).2)) (some d) (.int .i64 (xs x).1)) (some e) (.int .i64 (xs x).2), S pre⟩)
  (hdone : G (List.finRange cnt) → Q .normal ⟨fr, S (List.finRange cnt)⟩) {Γ : Ctx} {a : Act} {w : World} (hN : Fit P N Γ) (hds : Γ.ds = []) (hs : Sim Γ ⟨fr, S []⟩ a w) :
  (Code.rangeFunc (.tmp t) #[p, q] (.seq as1 as2) body).wp P (QCO Γ Q w.heap.size) a w := by
 obtain ⟨q1, q2, q3, be0, g0, m0, hfr⟩ := hs
 let X1 : Cx := ⟨w, S [], be0, Γ.X0.C⟩
 have hg := hfr t
 simp only at hg
 rw [hfn] at hg
 rw [show Rep X1 (.fn (.func gf) [] [.cell cs]) (a.tmps.getD t undef) = ∃ va vb, a.tmps.getD t undef = .func (.func gf) va.toArray vb.toArray ∧ RepL X1 [] va ∧ RepL X1 [.cell cs] vb by simp only [Rep]] at hg
 obtain ⟨va, vb, hev, hva, hvb⟩ := hg
 have hva' : va = [] := by simpa only [RepL] using hva
 subst hva'
 obtain ⟨v1, rest, hvb1, hv1, hrest⟩ : ∃ v1 rest, vb = v1 :: rest ∧ Rep X1 (.cell cs) v1 ∧ RepL X1 [] rest := by simpa only [RepL] using hvb
 have hrest' : rest = [] := by simpa only [RepL] using hrest
 subst hrest' hvb1
 have hev' : a.eval (.tmp t) = .func (.func gf) #[] #[v1] := hev
 let D : Nat → Nat → Prop := fun b k => ¬ ((∃ v, w.cell? ⟨b, k, none⟩ = some v) ∧ ¬ X1.av b k)
 have hD1 : ∀ b k, ¬ D b k → (∃ v, w.cell? ⟨b, k, none⟩ = some v) ∧ ¬ X1.av b k := fun b k h => Classical.not_not.1 h
 have hvD : Rep ⟨w, [], [], D⟩ (.cell cs) v1 := Rep.data (X := X1) (Y := ⟨w, [], [], D⟩) (fun b k v hc ha => ⟨hc, fun h => by
  rcases h with h | ⟨o, x, c, h1, _⟩
  ·exact h ⟨⟨v, hc⟩, ha⟩
  ·simp at h1⟩) _ _ (by simp only [isD]; exact hcs) hv1
 have hGD : GOk P.G ⟨w, [], [], D⟩ := fun g gcs hl => Rep.data (X := X1) (Y := ⟨w, [], [], D⟩) (fun b k v hc ha => ⟨hc, fun h => by
  rcases h with h | ⟨o, x, c, h1, _⟩
  ·exact h ⟨⟨v, hc⟩, ha⟩
  ·simp at h1⟩) _ _ (by simp only [isD]; exact P.gd g gcs hl) (hN.2.move m0 g gcs hl)
 have hseq := hI w D v1 hvD (fun b k h => (hD1 b k h).1) hGD
 let SimO : List Ob → World → Prop := fun ob W => Below Γ.B Γ.X0.w W ∧ ∃ be, Held Γ.B ⟨W, ob, be, Γ.X0.C⟩ ∧ Qap X1 ⟨W, ob, be, Γ.X0.C⟩ ∧ Moves Γ.X0 ⟨W, ob, be, Γ.X0.C⟩
 have hX0 : Γ.X0.w.heap.size ≤ w.heap.size := q3.size
 have hBw : Γ.B ≤ w.heap.size := g0.size
 have hown : ∀ ob W W' row, SimO ob W → W.grownBy W' row → (∀ r, row = some r → w.heap.size ≤ r ∧ ∃ o : Obj, W.heap[r]? = some o ∧ o.isCells = false) → SimO ob W' := by
  rintro ob W W' row ⟨h1, be, h2, h3, h4⟩ hgr hr
  exact ⟨h1.grown hgr (by have := h2.size; exact this) (fun k e => by have := (hr k e).1; omega), be, h2.grown hgr (fun r e => (hr r e).2), h3.trans (Qap.grown hgr fun r e => (hr r e).2),
   h4.grown hgr (fun r e => ⟨by have := (hr r e).1; omega, (hr r e).2⟩)⟩
 rw [hds] at q1
 have hclose : ∀ (D : Nat) (ob : List Ob) (W : World), SimO ob W → Sim { Γ with ds := [{ target := .collected D, args := #[] }] } ⟨fr, ob⟩ { a with defers := { target := .collected D, args := #[] } :: a.defers } W := by
  rintro D ob W ⟨h1, be, h2, h3, h4⟩
  exact ⟨by simp only [q1], q2, h1, be, h2, h4, fun i => Rep.moveC h3 _ _ (hfr i)⟩
 rw [← wpIn_wide (n := 5)]
 refine wpIn_rangeFunc_ownG (F := Fence.wide) (n := 5) (α := Fin cnt) rfl (by decide) (gf := gf) (lb := #[v1]) hev' trivial (fun args w => JW hE args w) hseq
  (fun h1 h2 => h1.trans h2) (fun W l o o' _ hl ho _ => KpB.grown (grownBy_putObj' W l o') (fun r e => by cases e; exact ⟨o, hl, ho⟩)) (Below.refl _ _) (fun _ => rfl)
  (fun pre W => G pre ∧ SimO (S pre) W) (fun c pre W => c = .ret ∧ ∃ ob', Q .ret ⟨fr, ob'⟩ ∧ SimO ob' W)
  (fun pre W W' row hs hgr hr => ⟨hs.1, hown _ W W' row hs.2 hgr hr⟩) (fun c pre W W' row hs hgr hr => ⟨hs.1, hs.2.imp fun ob' h => ⟨h.1, hown _ W W' row h.2 hgr hr⟩⟩)
  ⟨hG0, q3, be0, g0, Qap.refl _, m0⟩
  (fun x => { tmps := (((a.tmps.setIfInBounds p (.int .i64 (xs x).1)).setIfInBounds q (.int .i64 (xs x).2)).setIfInBounds d (.int .i64 (xs x).1)).setIfInBounds e (.int .i64 (xs x).2), defers := [] }) ?assign ?body ?done ?stop
 case assign =>
  intro l x W K hK
  rw [QDE]
  have hpN : p < a.tmps.size := by rw [q2, hN.1]; exact hp
  have hqN : q < a.tmps.size := by rw [q2, hN.1]; exact hq
  refine wpIn_seq (ha1 l _ _ _ _ _ (ha2 l _ _ _ _ _ ?_))
  have g1 : ∀ (T : Array Value) (i : Nat) (v : Value), i < T.size → (T.setIfInBounds i v).getD i undef = v := fun T i v h => by simp [h]
  have g2 : ∀ (T : Array Value) (i j : Nat) (v : Value), i ≠ j → (T.setIfInBounds i v).getD j undef = T.getD j undef := fun T i j v h => by
   rw [qD, yZ h, qD]
  have e1 : ((a.tmps.setIfInBounds p (.int .i64 (xs x).1)).setIfInBounds q (.int .i64 (xs x).2)).getD p undef = .int .i64 (xs x).1 := by
   rw [g2 _ _ _ _ (fun h => hpq h.symm), g1 _ _ _ hpN]
  have e2 : (((a.tmps.setIfInBounds p (.int .i64 (xs x).1)).setIfInBounds q (.int .i64 (xs x).2)).setIfInBounds d (.int .i64 (xs x).1)).getD q undef = .int .i64 (xs x).2 := by
   rw [g2 _ _ _ _ hdq, g1 _ _ _ (by simpa using hqN)]
  simp only [Act.put, e1, e2]
  exact hK
 case body =>
  rintro l pre x W ⟨hg, h1, be, h2, h3, h4⟩ hlen
  let XW : Cx := ⟨W, S pre, be, Γ.X0.C⟩
  let Γr : Ctx := ⟨Γ.B, XW, N, []⟩
  have hfrW : ∀ i, Rep XW (look fr i) (({ tmps := a.tmps, defers := [] } : Act).tmps.getD i undef) := fun i => Rep.moveC h3 _ _ (hfr i)
  have hN' : Γ.N = N := hN.1
  have hv : ∀ n : Int, Rep XW (.int .i64 n) (.int .i64 n) := fun n => by simp only [Rep]
  have r1 := QiH (X := XW) (fr := fr) (a := { tmps := a.tmps, defers := [] }) (N := N) (by rw [← hN']; exact q2) hfrW (dst := some p) (fun _ h => by cases h; exact hp) (hv (xs x).1)
  have r2 := QiH (X := XW) (a := ({ tmps := a.tmps, defers := [] } : Act).put (some p) (.int .i64 (xs x).1)) (N := N) (by rw [QbG, ← hN']; exact q2) r1 (dst := some q) (fun _ h => by cases h; exact hq) (hv (xs x).2)
  have r3 := QiH (X := XW) (a := (({ tmps := a.tmps, defers := [] } : Act).put (some p) (.int .i64 (xs x).1)).put (some q) (.int .i64 (xs x).2)) (N := N) (by rw [QbG, QbG, ← hN']; exact q2) r2 (dst := some d) (fun _ h => by cases h; exact hd) (hv (xs x).1)
  have r4 := QiH (X := XW) (a := ((({ tmps := a.tmps, defers := [] } : Act).put (some p) (.int .i64 (xs x).1)).put (some q) (.int .i64 (xs x).2)).put (some d) (.int .i64 (xs x).1)) (N := N) (by rw [QbG, QbG, QbG, ← hN']; exact q2) r3 (dst := some e) (fun _ h => by cases h; exact he) (hv (xs x).2)
  have hsr : Sim Γr ⟨Xy (Xy (Xy (Xy fr (some p) (.int .i64 (xs x).1)) (some q) (.int .i64 (xs x).2)) (some d) (.int .i64 (xs x).1)) (some e) (.int .i64 (xs x).2), S pre⟩ { tmps := (((a.tmps.setIfInBounds p (.int .i64 (xs x).1)).setIfInBounds q (.int .i64 (xs x).2)).setIfInBounds d (.int .i64 (xs x).1)).setIfInBounds e (.int .i64 (xs x).2), defers := [] } W :=
   ⟨rfl, by simp [Γr]; rw [q2]; exact hN', Below.refl _ _, be, h2, Moves.refl _, r4⟩
  have hatW : ∀ b k, ¬ D b k → ¬ XW.av b k := fun b k h => by
   obtain ⟨⟨v, hv⟩, ha⟩ := hD1 b k h
   exact (h3.cell b k v hv ha).2
  refine wpIn_mono (JV body ab _ _ hnl hcb (hround pre x hg hlen) Γr _ W ⟨rfl, hN.2.move h4⟩ rfl hsr) ?_
  rintro e a' W' ⟨st', hq, hs'⟩
  cases e with
  | normal =>
   obtain ⟨hg2, hq⟩ := hq
   obtain ⟨_, _, b1, be', c2, c4, _⟩ := hq Γr a' W' rfl hs'
   exact ⟨c4.keeps h2 b1.size _, c4.kp h2 (fun x _ => by simp) hatW, hg2, h1.trans b1, be', c2, h3.trans c4.toC, h4.trans c4⟩
  | ret =>
   obtain ⟨ob', hle, hq'⟩ := hq
   obtain ⟨_, _, b1, be', c2, c4, _⟩ := hle Γr a' W' rfl hs'
   exact ⟨c4.keeps h2 b1.size _, rfl, ob', hq', h1.trans b1, be', c2, h3.trans c4.toC, h4.trans c4⟩
  | exit id => exact hq.elim
  | goto l => exact hq.elim
  | panic ch => exact hq.elim
  | outgrown => exact hq.elim
 case done =>
  rintro D ys W hD rfl ⟨hg, h⟩ hdD
  exact ⟨D, _, hD, hdD, hdone hg, hclose D _ _ h⟩
 case stop =>
  rintro D c pre W hD _ ⟨rfl, ob', hq, h⟩ hdD
  exact wpIn_ret ⟨D, _, hD, hdD, hq, hclose D _ _ h⟩
structure RC2 where
 pres : List AC
 t : Nat
 p : Nat
 q : Nat
 d : Nat
 e : Nat
 aR : AC
 ab : AC
 aT : AC
def Qq3 (P : Program) (N : Nat) : Code → Option RC2
 | .seq (.seq cR (.block _ (.rangeFunc (.tmp t) ps (.seq as1 as2) body))) cT =>
  match ps.toList, QDC as1, QDC as2, Qx P N cR, Qx P N body, Qx P N cT with
  | [p, q], some (d, _), some (e, _), some aR, some ab, some aT => if QC2 d p as1 && QC2 e q as2 && p < N && q < N && d < N && e < N && p != q && d != q && Qav ab then some ⟨[], t, p, q, d, e, aR, ab, aT⟩ else none
  | _, _, _, _, _, _ => none
 | _ => none
def QsI (P : Program) (N : Nat) : Code → Option RC2
 | .seq x y =>
  match Qq3 P N (.seq x y) with
  | some r => some r
  | none =>
   match Qx P N x, QsI P N y with
   | some a, some r => some { r with pres := a :: r.pres }
   | _, _ => none
 | _ => none
def Qhg (P : Program) (N : Nat) (r : RC2) : List AC → Code → Prop
 | [], c => ∃ (cR as1 as2 body cT : Code) (id : Nat), c = .seq (.seq cR (.block id (.rangeFunc (.tmp r.t) #[r.p, r.q] (.seq as1 as2) body))) cT ∧ Qx P N cR = some r.aR ∧ Asn as1 r.d r.p ∧ Asn as2 r.e r.q ∧ Qx P N body = some r.ab ∧ Qx P N cT = some r.aT
 | a :: as, c => ∃ x y, c = .seq x y ∧ Qx P N x = some a ∧ Qhg P N r as y
def QDv (N : Nat) (r : RC2) : Prop := r.p < N ∧ r.q < N ∧ r.d < N ∧ r.e < N ∧ r.p ≠ r.q ∧ r.d ≠ r.q ∧ Qav r.ab = true
theorem Qhq {P : Program} {N : Nat} {r : RC2} {ps : List AC} : ∀ (as : List AC) (c : Code), Qhg P N r as c → Qhg P N { r with pres := ps } as c
 | [], _, h => h
 | _ :: as, _, ⟨x, y, h1, h2, h3⟩ => ⟨x, y, h1, h2, Qhq as y h3⟩
theorem Quu {P : Program} {N : Nat} {c : Code} {r : RC2} (h : Qq3 P N c = some r) : r.pres = [] ∧ Qhg P N r [] c ∧ QDv N r := by
 unfold Qq3 at h
 split at h
 case h_2 => cases h
 split at h
 case h_2 => cases h
 rename_i hps _ _ hR hB hT
 split at h <;> cases h
 rename_i hok
 simp only [qo, qr, bne_iff_ne, ne_eq] at hok
 obtain ⟨⟨⟨⟨⟨⟨⟨⟨h1, h2⟩, h3⟩, h4⟩, h5⟩, h6⟩, h7⟩, h8⟩, h9⟩ := hok
 have hps' := yN (ys := #[_, _]) hps
 subst hps'
 exact ⟨rfl, ⟨_, _, _, _, _, _, rfl, hR, QAk h1, QAk h2, hB, hT⟩, h3, h4, h5, h6, h7, h8, h9⟩
theorem QoV {P : Program} {N : Nat} : ∀ {c : Code} {r : RC2}, QsI P N c = some r → Qhg P N r r.pres c ∧ QDv N r
 | .seq x y, r, h => by
  unfold QsI at h
  split at h
  ·rename_i h1
   cases h
   obtain ⟨e, h2, h3⟩ := Quu h1
   rw [e]
   exact ⟨h2, h3⟩
  ·split at h
   ·rename_i h2 h3
    cases h
    obtain ⟨h4, h5⟩ := QoV h3
    exact ⟨⟨x, y, rfl, h2, Qhq _ _ h4⟩, h5⟩
   ·cases h
def QBI (P : Prg) (f : FuncId) (N : Nat) (rl : List ResultVar) (r : RC2) : Prop :=
 ∃ fn, P.prog.funcs[f]? = some fn ∧ (fn.name == "runtime.NumGoroutine") = false ∧ fn.ntmps = N ∧ fn.results.toList = rl ∧ fn.body.bind (QsI P.prog N) = some r
def Qnl (P : Prg) (N M : Nat) (r : RC2) (Q : Exit → St → Prop) (st : St) : Prop :=
 ∃ (cnt gf : Nat) (cs : List AV) (xs : Fin cnt → Int × Int) (fr : List (Nat × AV)) (G : List (Fin cnt) → Prop) (S : List (Fin cnt) → List Ob),
  G [] ∧ Le M st ⟨fr, S []⟩ ∧ look fr r.t = .fn (.func gf) [] [.cell cs] ∧ QgA P gf ∧ isDL cs = true ∧ Qx8 P gf cs xs ∧
  (∀ (pre : List (Fin cnt)) (x : Fin cnt), G pre → pre.length < cnt → wpC P N (S pre).length r.ab (fun e st => match e with
   | .normal => G (pre ++ [x]) ∧ Le (S pre).length st ⟨[], S (pre ++ [x])⟩
   | .ret => ∃ ob', Le (S pre).length st ⟨[], ob'⟩ ∧ Q .ret ⟨fr, ob'⟩
   | _ => False) ⟨Xy (Xy (Xy (Xy fr (some r.p) (.int .i64 (xs x).1)) (some r.q) (.int .i64 (xs x).2)) (some r.d) (.int .i64 (xs x).1)) (some r.e) (.int .i64 (xs x).2), S pre⟩) ∧
  (G (List.finRange cnt) → wpC P N (S (List.finRange cnt)).length r.aT Q ⟨fr, S (List.finRange cnt)⟩)
def QCS (P : Prg) (N M : Nat) (r : RC2) (Q : Exit → St → Prop) : List AC → St → Prop
 | [], st => wpC P N M r.aR (QgG (Qnl P N M r Q) Q) st
 | a :: as, st => wpC P N M a (QgG (QCS P N M r Q as) Q) st
theorem Qoo {P : Prg} {N M : Nat} {r : RC2} (hr : QDv N r) {Q : Exit → St → Prop} (hQ : ∀ e st, Q e st → e = .normal ∨ e = .ret) : ∀ (pres : List AC) (c : Code) (st : St), Qhg P.prog N r pres c → QCS P N M r Q pres st →
  ∀ (Γ : Ctx) (a : Act) (w : World), Fit P N Γ → Γ.X0.ob.length = M → Γ.ds = [] → Sim Γ st a w → c.wp P (QCP Γ Q) a w
 | a0 :: as, c, st, hc, h, Γ, a, w, hN, hM, hds, hs => by
  obtain ⟨x, y, e, hx, hy⟩ := hc
  subst e
  refine wp_seq (wp_mono (ZU x a0 _ st hx h Γ a w hN hM hs) ?_)
  rintro e a' w' ⟨st', hq, hs'⟩
  cases e with
  | normal => exact Qoo hr hQ as y st' hy hq Γ a' w' hN hM hds hs'
  | exit id => exact .inl ⟨st', hq, hs'⟩
  | goto l => exact .inl ⟨st', hq, hs'⟩
  | ret => exact .inl ⟨st', hq, hs'⟩
  | panic ch => exact .inl ⟨st', hq, hs'⟩
  | outgrown => exact .inl ⟨st', hq, hs'⟩
 | [], c, st, hc, h, Γ, a, w, hN, hM, hds, hs => by
  obtain ⟨cR, as1, as2, body, cT, id, e, hR, hA1, hA2, hB, hT⟩ := hc
  obtain ⟨f1, f2, f3, f4, f5, f6, f7⟩ := hr
  subst e
  refine wp_seq (wp_seq (wp_mono (ZU cR r.aR _ st hR h Γ a w hN hM hs) ?_))
  rintro e a1 w1 ⟨st1, hq, hs1⟩
  cases e with
  | exit id => exact .inl ⟨st1, hq, hs1⟩
  | goto l => exact .inl ⟨st1, hq, hs1⟩
  | ret => exact .inl ⟨st1, hq, hs1⟩
  | panic ch => exact .inl ⟨st1, hq, hs1⟩
  | outgrown => exact .inl ⟨st1, hq, hs1⟩
  | normal =>
   obtain ⟨cnt, gf, cs, xs, fr, G, S, hG0, hle, hfn, hE, hcs, hI, hround, hdone⟩ := hq
   have hs2 := hle Γ a1 w1 hM hs1
   have hsz : Γ.X0.w.heap.size ≤ w1.heap.size := hs2.2.2.1.size
   have hBz : Γ.B ≤ w1.heap.size := by obtain ⟨_, _, _, _, g, _⟩ := hs2; exact g.size
   let Q' : Exit → St → Prop := fun e st => match e with
    | .normal => G (List.finRange cnt) ∧ st = ⟨fr, S (List.finRange cnt)⟩
    | .ret => Q .ret st
    | _ => False
   have hw := Qwx (Q := Q') hfn hE hcs hI hA1 hA2 f3 f1 f4 f2 f5 f6 hB f7 hG0 (fun pre x hg hl => hround pre x hg hl) (fun hg => ⟨hg, rfl⟩) hN hds hs2
   refine wp_block (wp_mono hw ?_)
   rintro e a2 w2 ⟨D, st2, hD, hm, hq2, hs3⟩
   cases e with
   | exit id => exact hq2.elim
   | goto l => exact hq2.elim
   | panic ch => exact hq2.elim
   | outgrown => exact hq2.elim
   | ret => exact .inr ⟨D, st2, by omega, by omega, hm, hq2, hs3⟩
   | normal =>
    obtain ⟨hgf, e2⟩ : G (List.finRange cnt) ∧ st2 = ⟨fr, S (List.finRange cnt)⟩ := hq2
    subst e2
    obtain ⟨q1, q2, q3, be, g, m, hfr⟩ := hs3
    let Γ2 : Ctx := ⟨Γ.B, ⟨w2, S (List.finRange cnt), be, Γ.X0.C⟩, N, [{ target := .collected D, args := #[] }]⟩
    have hs4 : Sim Γ2 ⟨fr, S (List.finRange cnt)⟩ a2 w2 := ⟨q1, by rw [q2]; exact hN.1, Below.refl _ _, be, g, Moves.refl _, hfr⟩
    refine wp_mono (ZU cT r.aT Q _ hT (hdone hgf) Γ2 a2 w2 ⟨rfl, hN.2.move m⟩ rfl hs4) ?_
    rintro e a3 w3 ⟨st3, hq3, ⟨p1, p2, p3, be3, g3, m3, hfr3⟩⟩
    have hk := (m3.keeps g p3.size 0).same D _ (yF _) hm rfl
    exact .inr ⟨D, st3, by omega, by omega, hk, hq3, ⟨p1, by rw [p2]; exact hN.1.symm, q3.trans p3, be3, g3, m.trans m3, hfr3⟩⟩
def kSv (P : Prg) (N M : Nat) (r : RC2) (as : List AC) (Q : Exit → St → Prop) : Exit → St → Prop := QgG (QCS P N M r Q as) Q
def wpV (P : Prg) (N M : Nat) (r : RC2) (Q : Exit → St → Prop) (as : List AC) (st : St) : Prop := QCS P N M r Q as st
def kV (P : Prg) (N M : Nat) (r : RC2) (Q : Exit → St → Prop) : Exit → St → Prop := QgG (Qnl P N M r Q) Q
section
variable {P : Prg} {N M : Nat} {r : RC2} {Q : Exit → St → Prop} {st : St} {a : AC} {as : List AC}
theorem Qyn : wpV P N M r Q (a :: as) st = wpC P N M a (kSv P N M r as Q) st := rfl
theorem QAs : wpV P N M r Q [] st = wpC P N M r.aR (kV P N M r Q) st := rfl
theorem QuA : kSv P N M r as Q .normal st = wpV P N M r Q as st := rfl
theorem QA4 : kSv P N M r as Q .ret st = Q .ret st := rfl
theorem QCp : kV P N M r Q .ret st = Q .ret st := rfl
theorem Qo5 : kV P N M r Q .normal st = Qnl P N M r Q st := rfl
end
theorem ACall.of_rangeV {P : Prg} {f : FuncId} {N : Nat} {rl : List ResultVar} {r : RC2} (hbody : QBI P f N rl r) {avs : List AV} {ob : List Ob} {K : AV → List Ob → Prop} (hlen : avs.length ≤ N)
  (h0 : wpV P N ob.length r (Qmb P rl K) r.pres ⟨Xx 0 avs, ob⟩) : ACall P f avs ob K := by
 obtain ⟨fn, hf, hn, hN, hrl, hbc⟩ := hbody
 obtain ⟨c, hb, hc⟩ := qn.1 hbc
 obtain ⟨hsp, hfit⟩ := QoV hc
 subst hN
 subst hrl
 refine ACall.of_post hf hn hb hlen fun Γ a w hF hM hds hs => ?_
 have hQ : ∀ e st, Qmb P fn.results.toList K e st → e = .normal ∨ e = .ret := by
  intro e st h
  cases e <;> first | exact .inl rfl | exact .inr rfl | exact h.elim
 exact Qoo hfit hQ r.pres c _ hsp h0 Γ a w hF hM hds hs
end Go.Am

/- An abstract machine for pure Go code, part 3: sound for the given semantics; no conditions. -/
import Derived.Test.YtkaabgdcjffolaaA2
set_option linter.unusedSectionVars false
set_option linter.unusedSimpArgs false
set_option linter.unusedVariables false
/- The abstract machine: from a contract to a law: arguments read as data, the law's answer true. -/
namespace Go.Am
open Go.RowKit Go.ChangeShapes Go.WideShapes

def rowsB (P : Program) (ts : List TypeId) : Bool := ts.all fun t => P.readableRec t && decide (t < P.types.size)

theorem trodAll_below {H : Type} {enc : TypeId × Value → H} {P : Program} (hl : laidOutB P = true) {W W' : World} (hb : Below W.heap.size W W') {sp : Nat → Bool} :
    ∀ {ts : List TypeId} {vs : List Value} {ds : List (DataW H)} {ps : List MemPlace}, rowsB P ts = true → DataW.TrodAll enc P W 0 (fun _ => true) true ts vs ds ps → (∀ p ∈ ps, p.block < W.heap.size) → (∀ p ∈ ps, sp p.block = true) → DataW.TrodAll enc P W' 0 sp true ts vs ds ps
  | [], [], [], ps, _, h, _, _ => h
  | [], _ :: _, _, _, _, h, _, _ => h.elim
  | [], [], _ :: _, _, _, h, _, _ => h.elim
  | _ :: _, [], _, _, _, h, _, _ => h.elim
  | _ :: _, _ :: _, [], _, _, h, _, _ => h.elim
  | t :: ts, v :: vs, d :: ds, ps, hr, h, hlt, hsp => by
    obtain ⟨p, q, h1, h2, rfl⟩ := h
    simp only [rowsB, List.all_cons, Bool.and_eq_true, decide_eq_true_eq] at hr
    exact ⟨p, q, WideElems.Trod_stays hl hr.1.1 hr.1.2 h1 (fun x hx => hb.same (hlt x (by simp [hx]))) (fun x hx => hsp x (by simp [hx])),
      trodAll_below hl hb (by simpa [rowsB] using hr.2) h2 (fun x hx => hlt x (by simp [hx])) (fun x hx => hsp x (by simp [hx])), rfl⟩

/-- The law's answer is true, and nothing that was there has turned. No package variable is named. -/
theorem post_true {P : Program} {H : Type} {enc : TypeId × Value → H} {f : Func} {s : ChangeSpec} {apart fresh handsOn again : Bool} {W W' : World} {args : Array Value} {ds : List (DataW H)} {before : List MemPlace} {tb : TypeId}
    (hl : laidOutB P = true) (hrows : rowsB P f.params.toList = true) (hrt : f.resultTypes = #[tb]) (htb : P.underlying tb = some .bool) (hvars : s.vars = [])
    (hfn : (s.fn H (ds ++ [])).results = [.lit (.bool true)] ∧ (s.fn H (ds ++ [])).args = ds ∧ (s.fn H (ds ++ [])).vars = [])
    (hW : DataW.Whole enc P f.params.toList s.vars apart W args.toList ds [] before) (hb : Below W.heap.size W W') : s.post enc P f apart fresh handsOn again W args (.bool true) W' := by
  obtain ⟨e1, e2, e3⟩ := hfn
  have hlt : ∀ p ∈ before, p.block < W.heap.size := fun p hp => hW.lt p hp
  have hW' := hW
  obtain ⟨p, q, hA, hV, rfl, hz, hn⟩ := hW'
  rw [hvars] at hV
  have hq : q = [] := hV
  subst hq
  simp only [List.append_nil] at hlt hz hn hW
  have hres : ∀ (b : Nat) (sp : Nat → Bool) (hd : Bool), DataW.TrodAll enc P W' b sp hd f.resultTypes.toList ((Value.bool true).resultList f.resultTypes.size) [.lit (.bool true)] [] := fun b sp hd => by
    rw [hrt]
    exact trodAll_cons_mk (shut_bool htb _) trodAll_mk0
  have hargs : ∀ sp : Nat → Bool, (∀ x ∈ p, sp x.block = true) → DataW.TrodAll enc P W' 0 sp true f.params.toList args.toList ds p := fun sp h => trodAll_below hl hb hrows hA hlt h
  have hold : ∀ x ∈ p, (fun b => decide (b < W.heap.size)) x.block = true := fun x hx => by simpa using hlt x hx
  refine ⟨ds, [], p, [], p, [], hW, ?_, ?_, ?_, World.keptBut_mono (fun x hx => ⟨hx, .inr (.inl hx)⟩) (hb.frame _), fun _ => ?_⟩
  · rw [e1]; exact hres _ _ _
  · rw [e2]; exact hargs _ hold
  · rw [e3, hvars]; rfl
  · have hrs : (Value.bool true).resultList f.resultTypes.size = [.bool true] := by rw [hrt]; rfl
    refine ⟨?_, [.lit (.bool true)] ++ ds, [], ([] ++ p) ++ [], ⟨[] ++ p, [], trodAll_append (hargs _ (fun _ _ => rfl)) (hres _ _ _), by rw [hvars]; exact rfl, rfl, ?_, ?_⟩, ?_⟩
    · intro j t r hj hr
      rw [hrs] at hr
      rw [hrt] at hj
      cases j with
      | zero => simp at hj hr; subst hj hr; exact okWide_bool_mk htb _
      | succ j => simp at hr
    · intro b off hp
      have hm : MemPlace.cell b off ∈ p := by simpa using hp
      rw [hb.frozen (hlt _ hm)]
      exact hz b off hm
    · intro ha
      simpa using hn ha
    · intro x hx _
      simpa using hx

/-- Nobody else writes. -/
def X0 (W : World) : Cx := ⟨W, [], [], fun _ _ => False⟩

theorem X0_av {W : World} {b k : Nat} : ¬ (X0 W).av b k := by
  rintro (h | ⟨o, x, c, h, _⟩)
  · exact h
  · simp [X0] at h

theorem calls_true {P : Program} {f : FuncId} {avs : List AV} (h : VC P f avs (.bool true)) {W : World} {args : Array Value} (hr : RepL (X0 W) avs args.toList) : Calls P f args W fun e W' => e = .returned (.bool true) ∧ Below W.heap.size W W' := by
  have := h.2.2.2 W (fun _ _ => False) args.toList (fun _ _ h => h.elim) hr
  simp only [Array.toArray_toList] at this
  refine this.mono ?_
  rintro e w' ⟨v, rfl, hb, hv⟩
  simp only [Rep] at hv
  exact ⟨by rw [hv], hb⟩

theorem spot_none {W : World} {a : Addr} {v : Value} (h : W.cell? a = some v) : a = ⟨a.block, a.off, none⟩ := by
  obtain ⟨b, o, s⟩ := a
  unfold World.cell? at h
  split at h
  · cases s with
    | none => rfl
    | some _ => simp at h
  · cases h

theorem add_at (a : Addr) (i : Nat) (h : a.spot = none) : a.add i = ⟨a.block, a.off + i, none⟩ := by
  unfold Addr.add
  split
  · rename_i e; subst e; obtain ⟨b, o, s⟩ := a; simp only at h; subst h; rfl
  · rfl

/-- A slice of bytes. -/
theorem arg_bytes {H : Type} {enc : TypeId × Value → H} {P : Program} {W : World} {r : Reach} {base : Nat} {t e : TypeId} {v : Value} {d : DataW H} {ps : List MemPlace} (ht : P.underlying t = some (.slice e)) (he : P.underlying e = some (.int .u8)) (hc : P.cellsOf e = 1)
    (hval : Value.okWide P W r base t v) (hd : DataW.Trod enc P W 0 (fun _ => true) true t v d ps) : ∃ l : List UInt8, l.length ≤ maxLen ∧ Rep (X0 W) (bs l) v := by
  obtain ⟨a1, len1, cap1, rfl⟩ := okWide_slice ht hval
  obtain ⟨fuel, hf⟩ := hd
  rcases open_ints ht he hc hf with ⟨hcs, _⟩ | ⟨a, len, cap, zs, hcs, _, hl, hm, hz, _, hcell, hwz⟩
  · simp [Value.cells] at hcs
    obtain ⟨rfl, rfl, rfl⟩ := hcs
    refine ⟨[], by simp, ?_⟩
    simp only [bs, Rep]
    exact ⟨none, 0, [], rfl, Nat.le_refl _, .inl rfl, by simp [u8, RepL]⟩
  · simp [Value.cells] at hcs
    obtain ⟨rfl, rfl, rfl⟩ := hcs
    simp only [if_true] at hz
    have hb : ∀ n ∈ zs, 0 ≤ n ∧ n ≤ 255 := fun n hn => by simpa [Lit.wf, IntKind.min, IntKind.max, IntKind.signed, IntKind.bits] using hwz n hn
    have hlen : ((zs.take len1).map fun n => UInt8.ofNat n.toNat).length = len1 := by simp; omega
    refine ⟨(zs.take len1).map fun n => UInt8.ofNat n.toNat, by rw [hlen]; omega, ?_⟩
    simp only [bs, Rep, hlen]
    refine ⟨some a, cap1, (zs.take len1).map (Value.int .u8), rfl, hl, ?_, ?_⟩
    · by_cases h0 : len1 = 0
      · subst h0; exact .inl (by simp)
      · right
        have hsp := spot_none (hcell 0 (by omega))
        have hs : a.spot = none := by
          have : a.add 0 = a := rfl
          rw [this] at hsp
          rw [hsp]
        refine ⟨a.block, a.off, by obtain ⟨b, o, s⟩ := a; simp only at hs; subst hs; rfl, fun i v hv => ?_⟩
        rw [List.getElem?_map] at hv
        obtain ⟨n, hn, rfl⟩ := Option.map_eq_some_iff.1 hv
        rw [List.getElem?_take] at hn
        split at hn
        · have hi := (List.getElem?_eq_some_iff.1 hn).1
          have h1 := hcell i hi
          rw [add_at a i hs, List.getD_eq_getElem?_getD, hn] at h1
          exact ⟨⟨h1, X0_av⟩, rfl⟩
        · cases hn
    · simp only [u8, List.map_map]
      refine RepL.of_get _ _ (by simp) fun i c v hc hv => ?_
      simp only [List.getElem?_map, Option.map_eq_some_iff] at hc hv
      obtain ⟨n, hn, rfl⟩ := hc
      obtain ⟨n', hn', rfl⟩ := hv
      rw [hn] at hn'
      cases hn'
      have := hb n (List.mem_of_mem_take (List.mem_of_getElem? hn))
      simp only [Rep, Function.comp]
      congr 1
      simp
      omega

theorem arg_string {H : Type} {enc : TypeId × Value → H} {P : Program} {W : World} {r : Reach} {base : Nat} {t : TypeId} {v : Value} {d : DataW H} {ps : List MemPlace} (ht : P.underlying t = some .string)
    (hval : Value.okWide P W r base t v) (hd : DataW.Trod enc P W 0 (fun _ => true) true t v d ps) : ∃ s : List UInt8, s.length ≤ maxLen ∧ Rep (X0 W) (.str s) v := by
  obtain ⟨s, rfl, _, _, hl⟩ := Go.ChangeMaps.open_string ht hval hd
  refine ⟨s.data.toList, by simpa using hl, ?_⟩
  simp only [Rep]

theorem arg_int {H : Type} {enc : TypeId × Value → H} {P : Program} {W : World} {r : Reach} {base : Nat} {t : TypeId} {k : IntKind} {v : Value} {d : DataW H} {ps : List MemPlace} (ht : P.underlying t = some (.int k))
    (hval : Value.okWide P W r base t v) (hd : DataW.Trod enc P W 0 (fun _ => true) true t v d ps) : ∃ n : Int, (Lit.int k n).wf = true ∧ Rep (X0 W) (.int k n) v := by
  obtain ⟨n, rfl, _, _, hw⟩ := open_int ht hval hd
  exact ⟨n, hw, by simp only [Rep]⟩

end Go.Am

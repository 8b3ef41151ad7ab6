/- An abstract machine for pure Go code, part 3: sound for the given semantics; no conditions. -/
import Derived.Test.YthckgihcbjpjeaaGreatDoorLinesTellsA2
set_option linter.unusedSectionVars false
set_option linter.unusedSimpArgs false
set_option linter.unusedVariables false
/- The abstract machine: numbers. -/
namespace Go.Am
open Go.RowKit
theorem ZT {x : Int} (h1 : -9223372036854775808 ≤ x) (h2 : x ≤ 9223372036854775807) : IntKind.i64.wrap x = x := by
 simp [IntKind.wrap, IntKind.bits, IntKind.signed]; omega
theorem Qsr {x : Int} (h1 : -2147483648 ≤ x) (h2 : x ≤ 2147483647) : IntKind.i32.wrap x = x := by
 simp [IntKind.wrap, IntKind.bits, IntKind.signed]; omega
theorem Qa5 {x : Int} (h1 : 0 ≤ x) (h2 : x < 18446744073709551616) : IntKind.u64.wrap x = x := by
 simp [IntKind.wrap, IntKind.bits, IntKind.signed]; omega
theorem Qsq {x : Int} (h1 : 0 ≤ x) (h2 : x < 4294967296) : IntKind.u32.wrap x = x := by
 simp [IntKind.wrap, IntKind.bits, IntKind.signed]; omega
theorem Qym {x : Int} (h1 : 0 ≤ x) (h2 : x < 65536) : IntKind.u16.wrap x = x := by
 simp [IntKind.wrap, IntKind.bits, IntKind.signed]; omega
theorem QAq {x : Int} (h1 : 0 ≤ x) (h2 : x < 256) : IntKind.u8.wrap x = x := by
 simp [IntKind.wrap, IntKind.bits, IntKind.signed]; omega
theorem Zn (x : Int) : IntKind.u8.wrap x = x % 256 := by simp [IntKind.wrap, IntKind.bits, IntKind.signed]
theorem ZS (x : Int) : IntKind.u64.wrap x = x % 18446744073709551616 := by simp [IntKind.wrap, IntKind.bits, IntKind.signed]
theorem Qhi (x : Int) : IntKind.u32.wrap x = x % 4294967296 := by simp [IntKind.wrap, IntKind.bits, IntKind.signed]
theorem QzV (a b : Nat) (ha : a < 18446744073709551616) (hb : b < 18446744073709551616) : IntKind.u64.wrap (BitVec.ofInt IntKind.u64.bits a ||| BitVec.ofInt IntKind.u64.bits b).toNat = ((a ||| b : Nat) : Int) := by
 have e : IntKind.u64.bits = 64 := rfl
 have h1 : (BitVec.ofInt 64 (a : Int)).toNat = a := by simp; omega
 have h2 : (BitVec.ofInt 64 (b : Int)).toNat = b := by simp; omega
 have hlt : a ||| b < 2 ^ 64 := Nat.or_lt_two_pow (by omega) (by omega)
 rw [e, BitVec.toNat_or, h1, h2]
 exact Qa5 (by omega) (by omega)
theorem QrW (a b : Nat) (ha : a < 18446744073709551616) (hb : b < 18446744073709551616) : IntKind.u64.wrap (BitVec.ofInt IntKind.u64.bits a &&& BitVec.ofInt IntKind.u64.bits b).toNat = ((a &&& b : Nat) : Int) := by
 have e : IntKind.u64.bits = 64 := rfl
 have h1 : (BitVec.ofInt 64 (a : Int)).toNat = a := by simp; omega
 have h2 : (BitVec.ofInt 64 (b : Int)).toNat = b := by simp; omega
 have hlt : a &&& b < 2 ^ 64 := Nat.and_lt_two_pow _ (by omega)
 rw [e, Yw, h1, h2]
 exact Qa5 (by omega) (by omega)
theorem Qv3 {c s : Nat} (hs : s ≤ 64) (h : c * 2 ^ s < 18446744073709551616) : Qu true .u64 (c : Int) (.ofNat s) = some (.int .u64 ((c * 2 ^ s : Nat) : Int)) := by
 have h1 : ¬ ((Int.ofNat s) < 0) := by simp
 have h2 : min (Int.ofNat s).toNat IntKind.u64.bits = s := by
  have : IntKind.u64.bits = 64 := rfl
  rw [this]
  simp
  omega
 simp only [Qu, qa h1, yf, h2]
 congr 2
 rw [Qa5]
 ·simp
 ·exact Int.mul_nonneg (by omega) (by exact Int.le_of_lt (Int.pow_pos (by omega)))
 ·have : ((c : Int) * 2 ^ s) = ((c * 2 ^ s : Nat) : Int) := by simp
  rw [this]; omega
theorem QoW {a s c : Nat} (h : a < 2 ^ s) : a ||| c * 2 ^ s = a + c * 2 ^ s := by
 rw [Nat.or_comm, Ys, qE c]
 exact (Nat.two_pow_add_eq_or_of_lt h c).symm
end Go.Am
/- The abstract machine: from a contract to a law: arguments read as data, the law's answer true. -/
namespace Go.Am
open Go.RowKit Go.ChangeShapes Go.WideShapes
def QyR (P : Program) (ts : List TypeId) : Bool := ts.all fun t => P.readableRec t && decide (t < P.types.size)
theorem QfU {H : Type} {enc : TypeId × Value → H} {P : Program} (hl : laidOutB P = true) {W W' : World} (hb : Below W.heap.size W W') {sp : Nat → Bool} :
  ∀ {ts : List TypeId} {vs : List Value} {ds : List (DataW H)} {ps : List MemPlace}, QyR P ts = true → DataW.TrodAll enc P W 0 (fun _ => true) true ts vs ds ps → (∀ p ∈ ps, p.block < W.heap.size) → (∀ p ∈ ps, sp p.block = true) → DataW.TrodAll enc P W' 0 sp true ts vs ds ps
 | [], [], [], ps, _, h, _, _ => h
 | [], _ :: _, _, _, _, h, _, _ => h.elim
 | [], [], _ :: _, _, _, h, _, _ => h.elim
 | _ :: _, [], _, _, _, h, _, _ => h.elim
 | _ :: _, _ :: _, [], _, _, h, _, _ => h.elim
 | t :: ts, v :: vs, d :: ds, ps, hr, h, hlt, hsp => by
  obtain ⟨p, q, h1, h2, rfl⟩ := h
  simp only [QyR, List.all_cons, qo, qr] at hr
  exact ⟨p, q, WideElems.Trod_stays hl hr.1.1 hr.1.2 h1 (fun x hx => hb.same (hlt x (by simp [hx]))) (fun x hx => hsp x (by simp [hx])),
   QfU hl hb (by simpa [QyR] using hr.2) h2 (fun x hx => hlt x (by simp [hx])) (fun x hx => hsp x (by simp [hx])), rfl⟩
theorem QwC {P : Program} {H : Type} {enc : TypeId × Value → H} {f : Func} {s : ChangeSpec} {apart fresh handsOn again : Bool} {W W' : World} {args : Array Value} {ds : List (DataW H)} {before : List MemPlace} {tb : TypeId}
  (hl : laidOutB P = true) (hrows : QyR P f.params.toList = true) (hrt : f.resultTypes = #[tb]) (htb : P.underlying tb = some .bool) (hvars : s.vars = [])
  (hfn : (s.fn H (ds ++ [])).results = [.lit (.bool true)] ∧ (s.fn H (ds ++ [])).args = ds ∧ (s.fn H (ds ++ [])).vars = [])
  (hW : DataW.Whole enc P f.params.toList s.vars apart W args.toList ds [] before) (hb : Below W.heap.size W W') : s.post enc P f apart fresh handsOn again W args (.bool true) W' := by
 obtain ⟨e1, e2, e3⟩ := hfn
 have hlt : ∀ p ∈ before, p.block < W.heap.size := fun p hp => hW.lt p hp
 have hW' := hW
 obtain ⟨p, q, hA, hV, rfl, hz, hn⟩ := hW'
 rw [hvars] at hV
 have hq : q = [] := hV
 subst hq
 simp only [qX] at hlt hz hn hW
 have hres : ∀ (b : Nat) (sp : Nat → Bool) (hd : Bool), DataW.TrodAll enc P W' b sp hd f.resultTypes.toList ((Value.bool true).resultList f.resultTypes.size) [.lit (.bool true)] [] := fun b sp hd => by
  rw [hrt]
  exact trodAll_cons_mk (shut_bool htb _) trodAll_mk0
 have hargs : ∀ sp : Nat → Bool, (∀ x ∈ p, sp x.block = true) → DataW.TrodAll enc P W' 0 sp true f.params.toList args.toList ds p := fun sp h => QfU hl hb hrows hA hlt h
 have hold : ∀ x ∈ p, (fun b => decide (b < W.heap.size)) x.block = true := fun x hx => by simpa using hlt x hx
 refine ⟨ds, [], p, [], p, [], hW, ?_, ?_, ?_, World.keptBut_mono (fun x hx => ⟨hx, .inr (.inl hx)⟩) (hb.frame _), fun _ => ?_⟩
 ·rw [e1]; exact hres _ _ _
 ·rw [e2]; exact hargs _ hold
 ·rw [e3, hvars]; rfl
 ·have hrs : (Value.bool true).resultList f.resultTypes.size = [.bool true] := by rw [hrt]; rfl
  refine ⟨?_, [.lit (.bool true)] ++ ds, [], ([] ++ p) ++ [], ⟨[] ++ p, [], trodAll_append (hargs _ (fun _ _ => rfl)) (hres _ _ _), by rw [hvars]; exact rfl, rfl, ?_, ?_⟩, ?_⟩
  ·intro j t r hj hr
   rw [hrs] at hr
   rw [hrt] at hj
   cases j with
   | zero => simp at hj hr; subst hj hr; exact okWide_bool_mk htb _
   | succ j => simp at hr
  ·intro b off hp
   have hm : MemPlace.cell b off ∈ p := by simpa using hp
   rw [hb.frozen (hlt _ hm)]
   exact hz b off hm
  ·intro ha
   simpa using hn ha
  ·intro x hx _
   simpa using hx
def X0 (W : World) : Cx := ⟨W, [], [], fun _ _ => False⟩
theorem QCN {W : World} {b k : Nat} : ¬ (X0 W).av b k := by
 rintro (h | ⟨o, x, c, h, _⟩)
 ·exact h
 ·simp [X0] at h
theorem QuS {P : Prg} {f : FuncId} {avs : List AV} (h : VC P f avs (.bool true)) {W : World} (hG : GOk P.G (X0 W)) {args : Array Value} (hr : RepL (X0 W) avs args.toList) : Calls P f args W fun e W' => e = .returned (.bool true) ∧ Below W.heap.size W W' := by
 have := h.2.2.2 W (fun _ _ => False) args.toList (fun _ _ h => h.elim) hG hr
 simp only [j5] at this
 refine this.mono ?_
 rintro e w' ⟨v, rfl, hb, hv⟩
 simp only [Rep] at hv
 exact ⟨by rw [hv], hb⟩
theorem QvP {W : World} {a : Addr} {v : Value} (h : W.cell? a = some v) : a = ⟨a.block, a.off, none⟩ := by
 obtain ⟨b, o, s⟩ := a
 unfold World.cell? at h
 split at h
 ·cases s with
  | none => rfl
  | some _ => simp at h
 ·cases h
theorem QCM (a : Addr) (i : Nat) (h : a.spot = none) : a.add i = ⟨a.block, a.off + i, none⟩ := by
 unfold Addr.add
 split
 ·rename_i e; subst e; obtain ⟨b, o, s⟩ := a; simp only at h; subst h; rfl
 ·rfl
theorem Qu7 {H : Type} {enc : TypeId × Value → H} {P : Program} {W : World} {r : Reach} {base : Nat} {t : TypeId} {v : Value} {d : DataW H} {ps : List MemPlace} (ht : P.underlying t = some .string)
  (hval : Value.okWide P W r base t v) (hd : DataW.Trod enc P W 0 (fun _ => true) true t v d ps) : ∃ s : List UInt8, s.length ≤ maxLen ∧ Rep (X0 W) (.str s) v := by
 obtain ⟨s, rfl, _, _, hl⟩ := Go.ChangeMaps.open_string ht hval hd
 refine ⟨s.data.toList, by simpa using hl, ?_⟩
 simp only [Rep]
end Go.Am
/- The abstract machine: a walk that settles its tests by arithmetic. -/
namespace Go.Am
open Go.RowKit
theorem QDJ {a b : Int} (h : a < b) : (a < b) = True := eq_true h
theorem QDK {a b : Int} (h : b ≤ a) : (a < b) = False := eq_false (by omega)
theorem QDL {a b : Int} (h : a ≤ b) : (a ≤ b) = True := eq_true h
theorem QDM {a b : Int} (h : b < a) : (a ≤ b) = False := eq_false (by omega)
theorem QDP {a b : Int} (h : a = b) : (a = b) = True := eq_true h
theorem QDQ {a b : Int} (h : a < b ∨ b < a) : (a = b) = False := eq_false (by omega)
theorem QDj {a b : Nat} (h : a < b) : (a < b) = True := eq_true h
theorem QDk {a b : Nat} (h : b ≤ a) : (a < b) = False := eq_false (by omega)
theorem QDl {a b : Nat} (h : a ≤ b) : (a ≤ b) = True := eq_true h
theorem QDm {a b : Nat} (h : b < a) : (a ≤ b) = False := eq_false (by omega)
theorem QzH {a b : Int} : (a == b) = decide (a = b) := by rw [Yj]; simp
theorem QzC {a b : Int} : (a != b) = !decide (a = b) := by rw [Yj]; simp
theorem QvB {a b : Int} (ha : 0 ≤ a) (hb : 0 ≤ b) : (a + b).toNat = a.toNat + b.toNat := by omega
theorem QvA {a b : Int} (hb : 0 ≤ b) (hab : b ≤ a) : (a - b).toNat = a.toNat - b.toNat := by omega
theorem toNat_mul {a b : Int} (ha : 0 ≤ a) (hb : 0 ≤ b) : (a * b).toNat = a.toNat * b.toNat := Int.toNat_mul ha hb
section
variable {P : Prg} {N M : Nat} {Q : Exit → St → Prop}
theorem QuO {a b : AC} {st : St} : QiY P N M (.bool true) a b Q st = wpC P N M a Q st := by simp [QiY]
theorem Qry {a b : AC} {st : St} : QiY P N M (.bool false) a b Q st = wpC P N M b Q st := by simp [QiY]
end
theorem step :
  (∀ P N M Q st, wpC P N M .skip Q st = Q .normal st) ∧
  (∀ P N M qs Q st, wpC P N M (.reg qs) Q st = wpQ P qs Q st) ∧
  (∀ P N M xs ps Q st, wpC P N M (.draw xs ps) Q st = QeO P st.ob.length xs Q ⟨st.fr, st.ob ++ ps⟩) ∧
  (∀ P B Q st, QeO P B [] Q st = Q .normal st) ∧
  (∀ P B r dt dst p xs Q fr ob, QeO P B (⟨r, dt, ⟨dst, none, .op p⟩⟩ :: xs) Q ⟨fr, ob⟩ = QlA P B (okW p) (Qdp (dt && QK p) (aop (opd P.G fr) (Qox dt ob) (B + r) p)) xs Q fr ob dst) ∧
  (∀ P B r dt dst f args xs Q fr ob, QeO P B (⟨r, dt, ⟨dst, none, .call f args⟩⟩ :: xs) Q ⟨fr, ob⟩ = Qpt P B dt r f (args.map (opd P.G fr)) xs Q fr ob dst) ∧
  (∀ P B r dt dst g k xs Q fr ob, QeO P B (⟨r, dt, ⟨dst, some g, k⟩⟩ :: xs) Q ⟨fr, ob⟩ = Qhx P B (Zz fr (some g)) r dt ⟨dst, some g, k⟩ xs Q fr ob) ∧
  (∀ P B k v xs Q fr ob dst, QlA P B k (some (v, none)) xs Q fr ob dst = QeO P B xs Q ⟨Xy fr dst v, ob⟩) ∧
  (∀ P B v u xs Q fr ob dst, QlA P B true (some (v, some u)) xs Q fr ob dst = QeO P B xs Q ⟨Xy fr dst v, app ob (some u)⟩) ∧
  (∀ P B r dt o xs Q fr ob, Qhx P B (some true) r dt o xs Q fr ob = QeO P B (⟨r, dt, ⟨o.dst, none, o.op⟩⟩ :: xs) Q ⟨fr, ob⟩) ∧
  (∀ P B r dt o xs Q fr ob, Qhx P B (some false) r dt o xs Q fr ob = QeO P B xs Q ⟨Xy fr o.dst (.tup []), ob⟩) ∧
  (∀ ob, Qox true ob = []) ∧
  (∀ ob, Qox false ob = ob) ∧
  (∀ P N M a b Q st, wpC P N M (.seq a b) Q st = wpC P N M a (Qz1 P N M b Q) st) ∧
  (∀ P N M x a b Q st, wpC P N M (.cond x a b) Q st = QiY P N M (opd P.G st.fr x) a b Q st) ∧
  (∀ P N M id c Q st, wpC P N M (.block id c) Q st = wpC P N M c (Qz3 id Q) st) ∧
  (∀ P N M c Q st, wpC P N M (.loop c) Q st = Qsp P N M c Q st) ∧
  (∀ P N M id Q st, wpC P N M (.exit id) Q st = Q (.exit id) st) ∧
  (∀ P N M Q st, wpC P N M .ret Q st = Q .ret st) ∧
  (∀ P N M b Q st, Qz1 P N M b Q .normal st = wpC P N M b Q st) ∧
  (∀ P N M b Q j st, Qz1 P N M b Q (.exit j) st = Q (.exit j) st) ∧
  (∀ P N M b Q st, Qz1 P N M b Q .ret st = Q .ret st) ∧
  (∀ id Q st, Qz3 id Q .normal st = Q .normal st) ∧
  (∀ id Q j st, Qz3 id Q (.exit j) st = if j = id then Q .normal st else Q (.exit j) st) ∧
  (∀ id Q st, Qz3 id Q .ret st = Q .ret st) ∧
  (∀ R Q st, QA3 R Q .normal st = R st) ∧
  (∀ R Q j st, QA3 R Q (.exit j) st = Q (.exit j) st) ∧
  (∀ R Q st, QA3 R Q .ret st = Q .ret st) ∧
  (∀ P N M a b Q st, QiY P N M (.bool true) a b Q st = wpC P N M a Q st) ∧
  (∀ P N M a b Q st, QiY P N M (.bool false) a b Q st = wpC P N M b Q st) ∧
  (∀ P N M a b Q st, QiY P N M .ubool a b Q st = (wpC P N M a Q st ∧ wpC P N M b Q st)) ∧
  (∀ P Q st, wpQ P [] Q st = Q .normal st) ∧
  (∀ P dst p os Q fr ob, wpQ P (⟨dst, none, .op p⟩ :: os) Q ⟨fr, ob⟩ = Qyy P (aop (opd P.G fr) ob ob.length p) os Q fr ob dst) ∧
  (∀ P dst f args os Q fr ob, wpQ P (⟨dst, none, .call f args⟩ :: os) Q ⟨fr, ob⟩ = QcF P f (args.map (opd P.G fr)) ob os Q fr dst) ∧
  (∀ P dst g k os Q fr ob, wpQ P (⟨dst, some g, k⟩ :: os) Q ⟨fr, ob⟩ = Qhw P (Zz fr (some g)) ⟨dst, some g, k⟩ os Q fr ob) ∧
  (∀ P v u os Q fr ob dst, Qyy P (some (v, u)) os Q fr ob dst = wpQ P os Q ⟨Xy fr dst v, app ob u⟩) ∧
  (∀ P dst g k os Q fr ob, Qhw P (some true) ⟨dst, g, k⟩ os Q fr ob = wpQ P (⟨dst, none, k⟩ :: os) Q ⟨fr, ob⟩) ∧
  (∀ P dst g k os Q fr ob, Qhw P (some false) ⟨dst, g, k⟩ os Q fr ob = wpQ P os Q ⟨Xy fr dst (.tup []), ob⟩) ∧
  (∀ P rl K fr ob, Qmb P rl K .ret ⟨fr, ob⟩ = match QL fr ob P rl with | some rs => K (Qm rs) ob | none => False) ∧
  (∀ P rl K fr ob, Qmb P rl K .normal ⟨fr, ob⟩ = match QL fr ob P rl with | some rs => K (Qm rs) ob | none => False) ∧
  (∀ fr d v, Xy fr (some d) v = (d, v) :: fr) ∧
  (∀ fr v, Xy fr none v = fr) ∧
  (∀ fr d b, Zz fr (some (d, b)) = match look fr d with | .bool t => some (t == b) | .tup [] => some false | _ => none) ∧
  (∀ ob, app ob none = ob) ∧
  (∀ j i v r, look ((j, v) :: r) i = if i = j then v else look r i) ∧
  (∀ i, look [] i = .any) ∧
  (∀ G fr t, opd G fr (.tmp t) = look fr t) ∧
  (∀ G fr v, opd G fr (.const v) = cV v) ∧
  (∀ G fr f, opd G fr (.func f) = .fn (.func f) [] []) ∧
  (∀ P t fr ob r, QL fr ob P (.tmp t :: r) = (QL fr ob P r).map (look fr t :: ·)) ∧
  (∀ P fr ob, QL fr ob P [] = some []) ∧
  (∀ v, Qm [v] = v) ∧
  (∀ v u r, Qm (v :: u :: r) = .tup (v :: u :: r)) ∧
  (∀ k, Xx k [] = []) ∧
  (∀ k v vs, Xx k (v :: vs) = (k, v) :: Xx (k + 1) vs) := by
 refine ⟨?_, ?_, ?_, ?_, ?_, ?_, ?_, ?_, ?_, ?_, ?_, ?_, ?_, ?_, ?_, ?_, ?_, ?_, ?_, ?_, ?_, ?_, ?_, ?_, ?_, ?_, ?_, ?_, ?_, ?_, ?_, ?_, ?_, ?_, ?_, ?_, ?_, ?_, ?_, ?_, ?_, ?_, ?_, ?_, ?_, ?_, ?_, ?_, ?_, ?_, ?_, ?_, ?_, ?_, ?_⟩ <;> intros <;> first | rfl | exact Qnu | exact Qvm | exact Qnw | exact Qkp | exact propext ⟨fun h => h.2, fun h => ⟨rfl, h⟩⟩ | exact QuO | exact Qry
def QxA (P : Prg) (v : AV) (args : List AV) (ob : List Ob) (os : List AO) (Q : Exit → St → Prop) (fr : List (Nat × AV)) (dst : Option Nat) : Prop :=
 match v with
 | .fn (.func g) fs cs => QcF P g (fs ++ args ++ cs) ob os Q fr dst
 | _ => False
def QxB (P : Prg) (B : Nat) (dt : Bool) (k : Nat) (v : AV) (args : List AV) (xs : List It) (Q : Exit → St → Prop) (fr : List (Nat × AV)) (ob : List Ob) (dst : Option Nat) : Prop :=
 match v with
 | .fn (.func g) fs cs => Qpt P B dt k g (fs ++ args ++ cs) xs Q fr ob dst
 | _ => False
theorem QDb :
  (∀ P dst f args os Q fr ob, wpQ P (⟨dst, none, .callv f args⟩ :: os) Q ⟨fr, ob⟩ = QxA P (look fr f) (args.map (opd P.G fr)) ob os Q fr dst) ∧
  (∀ P g fs cs args ob os Q fr dst, QxA P (.fn (.func g) fs cs) args ob os Q fr dst = QcF P g (fs ++ args ++ cs) ob os Q fr dst) ∧
  (∀ P B r dt dst f args xs Q fr ob, QeO P B (⟨r, dt, ⟨dst, none, .callv f args⟩⟩ :: xs) Q ⟨fr, ob⟩ = QxB P B dt r (look fr f) (args.map (opd P.G fr)) xs Q fr ob dst) ∧
  (∀ P B dt k g fs cs args xs Q fr ob dst, QxB P B dt k (.fn (.func g) fs cs) args xs Q fr ob dst = Qpt P B dt k g (fs ++ args ++ cs) xs Q fr ob dst) ∧
  (∀ G fr g, opd G fr (.global g) = QBc G g) := by
 refine ⟨?_, ?_, ?_, ?_, fun _ _ _ => rfl⟩ <;> intros
 ·simp only [wpQ, wpO, Zz, QxA]
  rfl
 ·rfl
 ·simp only [QeO, wpD, Qbt, Zz, QxB, up, AO.isC, yf]
  generalize look _ _ = v
  cases v <;> try simp
  rename_i h fs cs
  cases h <;> try simp
  rename_i dt _ _ _ _ _ _ _ g
  simp only [Qpt]
  refine ⟨?_, ?_⟩
  ·rintro ⟨s1, ⟨r, u, h1, rfl⟩, h2⟩
   exact ⟨r, u, h1, h2⟩
  ·rintro ⟨r, u, h1, h2⟩
   exact ⟨_, ⟨r, u, h1, rfl⟩, h2⟩
 ·rfl
def ks (K : IntKind) (l : List Int) : List AV := l.map (.int K)
theorem Qd (K : IntKind) (l : List Int) : (ks K l).length = l.length := by simp [ks]
theorem QwY (K : IntKind) : ks K [] = [] := rfl
theorem Qdr (K : IntKind) (x : Int) (l : List Int) : ks K (x :: l) = .int K x :: ks K l := rfl
theorem Qci (K : IntKind) (a b : List Int) : ks K a ++ ks K b = ks K (a ++ b) := by simp [ks]
theorem QwX (K : IntKind) (a : List Int) (x : Int) : ks K a ++ [.int K x] = ks K (a ++ [x]) := by simp [ks]
theorem QaW (K : IntKind) (l : List Int) (k : Nat) : (ks K l).drop k = ks K (l.drop k) := by simp [ks, ji]
theorem QwW (K : IntKind) (l : List Int) (k : Nat) : (ks K l).take k = ks K (l.take k) := by simp [ks, yW]
theorem QaD {K : IntKind} {l : List Int} {k : Nat} (h : k < l.length) : (ks K l).drop k = .int K l[k] :: ks K (l.drop (k + 1)) := by
 rw [QaW, qF h]; rfl
theorem ZA (K : IntKind) (l : List Int) : isDL (ks K l) = true := by
 induction l with
 | nil => rfl
 | cons x l ih => simp [Qdr, isDL, isD, ih]
theorem Qq (K : IntKind) (l : List Int) : isTL (ks K l) = true := by
 induction l with
 | nil => rfl
 | cons x l ih => simp [Qdr, isTL, isT, ih]
theorem Z4 (K : IntKind) (l : List Int) : (ks K l).all AV.one = true := by
 induction l with
 | nil => rfl
 | cons x l ih => simp [Qdr, AV.one, ih]
theorem wl :
  (∀ α : Type, ([] : List α).length = 0) ∧ (∀ (α : Type) (a : α) l, (a :: l).length = l.length + 1) ∧ (∀ (α β : Type) (f : α → β), [].map f = []) ∧ (∀ (α β : Type) (f : α → β) a l, (a :: l).map f = f a :: l.map f) ∧
  (∀ (α : Type) (a : α) l m, (a :: l) ++ m = a :: (l ++ m)) ∧ (∀ (α : Type) (l : List α), [] ++ l = l) ∧ (∀ (α : Type) (l : List α), l ++ [] = l) ∧
  (∀ (α β : Type) (f : α → β) a, (some a).map f = some (f a)) ∧ (∀ (α β : Type) (f : α → β), (none : Option α).map f = none) ∧ (∀ (α β : Type) (f : α → Option β) a, (some a).bind f = f a) ∧
  (∀ (α : Type) (a : α) l, (a :: l)[0]? = some a) ∧ (∀ (α : Type) (a : α) l (n : Nat), (a :: l)[n + 1]? = l[n]?) ∧
  (∀ (α : Type) (l : List α), l.drop 0 = l) ∧ (∀ (α : Type) (n : Nat), ([] : List α).drop n = []) ∧ (∀ (α : Type) (n : Nat), ([] : List α).take n = []) ∧ (∀ (α : Type) (l : List α), l.take 0 = []) ∧
  (∀ (α : Type) (a : α) l (n : Nat), (a :: l).drop (n + 1) = l.drop n) ∧ (∀ (α : Type) (a : α) l (n : Nat), (a :: l).take (n + 1) = a :: l.take n) ∧ (∀ (α : Type) (l : List α), l.take l.length = l) ∧
  (∀ (α : Type) (a b : α) l, (a :: l).set 0 b = b :: l) ∧ (∀ (α : Type) (a b : α) l (n : Nat), (a :: l).set (n + 1) b = a :: l.set n b) ∧ (∀ (α : Type) (l : List α) n a, (l.set n a).length = l.length) ∧
  (∀ (α : Type) (p : α → Bool), ([] : List α).all p = true) ∧ (∀ (α : Type) (p : α → Bool) a l, (a :: l).all p = (p a && l.all p)) ∧
  (∀ (α : Type) (l m : List α), (l ++ m).length = l.length + m.length) ∧ (∀ (α : Type) (l : List α) n, (l.drop n).length = l.length - n) ∧ (∀ (α : Type) (l : List α) n, (l.take n).length = min n l.length) ∧
  (∀ (α : Type) (a : α) n, (List.replicate n a).length = n) ∧ (∀ (α β : Type) (f : α → β) (l : List α), (l.map f).length = l.length) ∧
  (∀ l : List UInt8, (u8 l).length = l.length) ∧ (∀ l : List UInt8, Qj9 (u8 l) = some l) ∧ (∀ a b : List UInt8, u8 a ++ u8 b = u8 (a ++ b)) ∧ (∀ (K : IntKind) (l : List Int), (ks K l).length = l.length) ∧ (∀ (K : IntKind) (a b : List Int), ks K a ++ ks K b = ks K (a ++ b)) := by
 refine ⟨?_, ?_, ?_, ?_, ?_, ?_, ?_, ?_, ?_, ?_, ?_, ?_, ?_, ?_, ?_, ?_, ?_, ?_, ?_, ?_, ?_, ?_, ?_, ?_, ?_, ?_, ?_, ?_, ?_, ?_, ?_, ?_, ?_, ?_⟩ <;> intros <;> first | rfl | exact Q6 _ | exact Qe _ | exact Qcd _ _ | exact Qd _ _ | exact Qci _ _ _ | simp
theorem wn :
  (∀ n : Nat, n * 1 = n) ∧ (∀ n : Nat, 1 * n = n) ∧ (∀ n : Nat, 0 + n = n) ∧ (∀ n : Nat, n + 0 = n) ∧ (∀ n : Nat, (n ≤ n) = True) ∧ (∀ n : Nat, (0 ≤ n) = True) ∧ (∀ n : Nat, ((n : Nat) : Int).toNat = n) ∧ (∀ a b : Nat, ((a + b : Nat) : Int) = a + b) ∧
  (∀ a b : Int, 0 ≤ a → 0 ≤ b → (a + b).toNat = a.toNat + b.toNat) ∧ (∀ a b : Int, 0 ≤ b → b ≤ a → (a - b).toNat = a.toNat - b.toNat) ∧ (∀ a b : Int, 0 ≤ a → 0 ≤ b → (a * b).toNat = a.toNat * b.toNat) ∧
  (∀ a b : Int, 0 ≤ a → a.tdiv b = a / b) ∧ (∀ a b : Int, 0 ≤ a → a.tmod b = a % b) ∧
  (∀ x : Int, -9223372036854775808 ≤ x → x ≤ 9223372036854775807 → IntKind.i64.wrap x = x) ∧ (∀ x : Int, -2147483648 ≤ x → x ≤ 2147483647 → IntKind.i32.wrap x = x) ∧ (∀ x : Int, 0 ≤ x → x < 18446744073709551616 → IntKind.u64.wrap x = x) ∧
  (∀ x : Int, 0 ≤ x → x < 4294967296 → IntKind.u32.wrap x = x) ∧ (∀ x : Int, 0 ≤ x → x < 65536 → IntKind.u16.wrap x = x) ∧ (∀ x : Int, 0 ≤ x → x < 256 → IntKind.u8.wrap x = x) ∧
  (∀ a b : Int, a < b → (a < b) = True) ∧ (∀ a b : Int, b ≤ a → (a < b) = False) ∧ (∀ a b : Int, a ≤ b → (a ≤ b) = True) ∧ (∀ a b : Int, b < a → (a ≤ b) = False) ∧ (∀ a b : Int, a = b → (a = b) = True) ∧ (∀ a b : Int, a < b ∨ b < a → (a = b) = False) ∧
  (∀ a b : Nat, a < b → (a < b) = True) ∧ (∀ a b : Nat, b ≤ a → (a < b) = False) ∧ (∀ a b : Nat, a ≤ b → (a ≤ b) = True) ∧ (∀ a b : Nat, b < a → (a ≤ b) = False) ∧
  (∀ a b : Int, (a == b) = decide (a = b)) ∧ (∀ a b : Int, (a != b) = !decide (a = b)) :=
 ⟨jz, yS, yj, yP, fun n => eq_true (qj n), fun n => eq_true (yF n), fun _ => rfl, yI, fun _ _ => QvB, fun _ _ => QvA, fun _ _ => toNat_mul,
  fun _ _ => qJ, fun _ _ => jn, fun _ => ZT, fun _ => Qsr, fun _ => Qa5, fun _ => Qsq, fun _ => Qym, fun _ => QAq,
  fun _ _ => QDJ, fun _ _ => QDK, fun _ _ => QDL, fun _ _ => QDM, fun _ _ => QDP, fun _ _ => QDQ, fun _ _ => QDj, fun _ _ => QDk, fun _ _ => QDl, fun _ _ => QDm, fun _ _ => QzH, fun _ _ => QzC⟩
theorem wp :
  (∀ h : Decidable True, @decide True h = true) ∧ (∀ h : Decidable False, @decide False h = false) ∧ ((false = true) = False) ∧ ((!true) = false) ∧ ((!false) = true) ∧ (∀ b : Bool, (!!b) = b) ∧
  (∀ p : Prop, (True ∧ p) = p) ∧ (∀ p : Prop, (p ∧ True) = p) ∧ (∀ p : Prop, (p ∧ p) = p) ∧ (∀ p : Prop, (p ∧ False) = False) ∧ (∀ p : Prop, (False ∧ p) = False) ∧
  (∀ p : Prop, (True ∨ p) = True) ∧ (∀ p : Prop, (p ∨ True) = True) ∧ (∀ p : Prop, (p ∨ p) = p) ∧ (∀ p : Prop, (p ∨ False) = p) ∧ (∀ p : Prop, (False ∨ p) = p) ∧
  (∀ b : Bool, (b && b) = b) ∧ (∀ b : Bool, (b && true) = b) ∧ (∀ b : Bool, (true && b) = b) ∧ (∀ b : Bool, (b && false) = false) ∧ (∀ b : Bool, (false && b) = false) ∧
  (∀ b : Bool, (b || true) = true) ∧ (∀ b : Bool, (true || b) = true) ∧ (∀ b : Bool, (b || false) = b) ∧ (∀ b : Bool, (false || b) = b) ∧ ((¬ True) = False) ∧ ((¬ False) = True) ∧ (∀ b : Bool, (b == b) = true) := by
 refine ⟨?_, ?_, ?_, ?_, ?_, ?_, ?_, ?_, ?_, ?_, ?_, ?_, ?_, ?_, ?_, ?_, ?_, ?_, ?_, ?_, ?_, ?_, ?_, ?_, ?_, ?_, ?_, ?_⟩ <;> intros <;> simp
theorem callE.by {P : Prg} {B k : Nat} {f : FuncId} {avs : List AV} {xs : List It} {Q : Exit → St → Prop} {fr : List (Nat × AV)} {ob : List Ob} {dst : Option Nat} {r : AV} {o : Nat} {x x' : Ob} (ho : ob[o]? = some x) (hx : x ≠ ph)
  (h : ∀ K : AV → List Ob → Prop, K r (ob.set o x') → ACall P f avs ob K) (hK : QeO P B xs Q ⟨Xy fr dst r, ob.set o x'⟩) : Qpt P B true k f avs xs Q fr ob dst := by
 have hl : o < ob.length := (qd.1 ho).1
 have ha : app ob (some (o, x')) = ob.set o x' := by simp [app, hl]
 refine ⟨r, some (o, x'), ?_, by rw [ha]; exact hK⟩
 unfold Qdc
 rw [qc rfl]
 refine ⟨h _ ⟨rfl, by rw [ha]⟩, fun o' y e => ?_⟩
 cases e
 exact ⟨x, ho, hx⟩
theorem wz :
  (∀ r, Qdp false r = r) ∧ (∀ o n i b, Qdp true (some (.own o n, some (i, b))) = if o = i ∧ n = b.n ∧ isDL b.cs = true then some (.list n b.cs, none) else none) ∧
  (∀ z, Qs z 0 = []) ∧ (∀ z n, Qs z (n + 1) = z ++ Qs z n) ∧
  (∀ z, JM z [] = some z) ∧ (∀ z off sz v r, JM z ((off, sz, v) :: r) = if ((Qo v).all AV.one && (Qo v).length == sz && decide (off + sz ≤ z.length)) = true then JM (z.take off ++ Qo v ++ z.drop (off + sz)) r else none) ∧
  (∀ (α : Type) (a b : α), (a ≠ b) = ¬ (a = b)) ∧ (∀ a b : Nat, ((a == b) = true) = (a = b)) ∧ (∀ a b : Bool, ((a == b) = true) = (a = b)) ∧ (∀ a b : List UInt8, ((a == b) = true) = (a = b)) ∧
  (∀ a : Nat, (a == a) = true) ∧ (∀ a : Int, (a == a) = true) ∧ (∀ a : List UInt8, (a == a) = true) ∧
  (∀ k n, unA .neg (.int k n) = some (.int k (k.wrap (0 - n)))) ∧
  (∀ k n, unA .xor (.int k n) = some (.int k (k.wrap (BitVec.ofInt k.bits (if k.signed then -1 else k.max) ^^^ BitVec.ofInt k.bits n).toNat))) ∧ (∀ b, unA .not (.bool b) = some (.bool !b)) ∧
  (∀ x, Qyf x [] = some x) ∧ (∀ k x k' y r, Qyf (.int k x) (.int k' y :: r) = Qyf (.int k (if y < x then y else x)) r) ∧
  (∀ x, Qyg x [] = some x) ∧ (∀ k x k' y r, Qyg (.int k x) (.int k' y :: r) = Qyg (.int k (if x < y then y else x)) r) ∧
  (∀ k a k' b, Qve 0 (.int k a) (.int k' b) = if k = k' then some (a == b) else none) ∧ (∀ a b, Qve 1 (.bool a) (.bool b) = some (a == b)) ∧ (∀ a b, Qve 2 (.str a) (.str b) = some (a == b)) ∧
  (∀ k n, QiD (.const (.int k n)) (.const (.int k n)) = true) := by
 refine ⟨?_, ?_, ?_, ?_, ?_, ?_, ?_, ?_, ?_, ?_, ?_, ?_, ?_, ?_, ?_, ?_, ?_, ?_, ?_, ?_, ?_, ?_, ?_, ?_⟩ <;> intros <;> first | rfl | simp [Qyf, Qyg, JM, QiD]
end Go.Am
/- The abstract machine: arguments of any plain type. -/
namespace Go.Am
open Go.RowKit Go.ChangeShapes Go.WideShapes Go.Deep
inductive Sh where
 | bool
 | int (k : IntKind)
 | str
 | slice (e : Sh)
 | tuple (fs : List Sh)
mutual
def Qjv : Sh → List AV → Prop
 | .bool, cs => ∃ b, cs = [.bool b]
 | .int k, cs => ∃ n, cs = [.int k n] ∧ k.min ≤ n ∧ n ≤ k.max
 | .str, cs => ∃ s, cs = [.str s] ∧ s.length ≤ maxLen
 | .slice e, cs => ∃ L : List (List AV), cs = [.list L.length L.flatten] ∧ L.length ≤ maxLen ∧ ∀ c ∈ L, Qjv e c
 | .tuple fs, cs => FitsL fs cs
def FitsL : List Sh → List AV → Prop
 | [], cs => cs = []
 | f :: fs, cs => ∃ a b, cs = a ++ b ∧ Qjv f a ∧ FitsL fs b
end
def QCn (P : Program) : Nat → List Field → Option Nat
 | o, [] => some o
 | o, f :: r => if f.offset = o then QCn P (o + P.cellsOf f.type) r else none
def Qyc (P : Program) : Nat → TypeId → Option Sh
 | 0, _ => none
 | k + 1, t =>
  match P.underlying t with
  | some .bool => some .bool
  | some (.int K) => some (.int K)
  | some .string => some .str
  | some (.slice e) => (Qyc P k e).map .slice
  | some (.struct fs) => if QCn P 0 fs.toList = some (P.cellsOf t) then (fs.toList.mapM fun f => Qyc P k f.type).map .tuple else none
  | some (.array n e) => if P.cellsOf t = n * P.cellsOf e then (Qyc P k e).map fun s => .tuple (List.replicate n s) else none
  | _ => none
section
variable {H : Type} {enc : TypeId × Value → H} {P : Program} {W : World}
def AtA (W : World) (a : Addr) (vs : List Value) : Prop := ∀ i v, vs[i]? = some v → W.cell? (a.add i) = some v ∧ v.oneCell' = true
theorem QBB (a : Addr) (i j : Nat) : (a.add i).add j = a.add (i + j) := by
 obtain ⟨b, o, s⟩ := a
 unfold Addr.add
 by_cases hi : i = 0
 ·subst hi; simp
 ·by_cases hj : j = 0
  ·subst hj; simp [hi]
  ·simp [hi, hj, js]
theorem AtA.append {a : Addr} {us vs : List Value} (h : AtA W a us) (g : AtA W (a.add us.length) vs) : AtA W a (us ++ vs) := by
 intro i v hv
 by_cases hi : i < us.length
 ·rw [qp hi] at hv
  exact h i v hv
 ·rw [qI (by omega)] at hv
  have := g _ v hv
  rw [QBB, show us.length + (i - us.length) = i by omega] at this
  exact this
theorem AtA.atC {a : Addr} {vs : List Value} (h : AtA W a vs) (h0 : vs ≠ []) : ∃ b k, a = ⟨b, k, none⟩ ∧ AtC (X0 W) b k vs := by
 match vs, h0 with
 | v :: r, _ =>
  have h1 := (h 0 v rfl).1
  have h2 : a.add 0 = a := by simp [Addr.add]
  rw [h2] at h1
  have h3 := QvP h1
  refine ⟨a.block, a.off, h3, fun i u hu => ?_⟩
  have h4 := h i u hu
  rw [QCM a i (by rw [h3])] at h4
  exact ⟨⟨h4.1, QCN⟩, h4.2⟩
theorem Qov {k : Nat} (ih : ∀ (t : TypeId) (s : Sh), Qyc P k t = some s → ∀ (fuel : Nat) (cs : List Value) (x : DataW H × List MemPlace), DataW.trod enc P W 0 (fun _ => true) true fuel t cs = some x →
   ∃ as, RepL (X0 W) as cs ∧ Qjv s as ∧ ∀ v ∈ cs, v.oneCell' = true) (n : Nat) (cs : List Value) : ∀ (fs : List Field) (ss : List Sh) (o : Nat), QCn P o fs = some cs.length → fs.mapM (fun f => Qyc P k f.type) = some ss →
  (∀ f ∈ fs, ∃ x, DataW.trod enc P W 0 (fun _ => true) true n f.type ((cs.drop f.offset).take (P.cellsOf f.type)) = some x) → ∃ as, RepL (X0 W) as (cs.drop o) ∧ FitsL ss as ∧ ∀ v ∈ cs.drop o, v.oneCell' = true
 | [], ss, o, hl, hs, _ => by
  simp at hs
  subst hs
  simp only [QCn, qi] at hl
  subst hl
  exact ⟨[], by simp [RepL], by simp [FitsL], by simp⟩
 | f :: fs, ss, o, hl, hs, hx => by
  simp only [QCn] at hl
  split at hl
  case isFalse => cases hl
  rename_i ho
  subst ho
  rw [yQ] at hs
  simp only [qC, qn, yu, qi] at hs
  obtain ⟨s, h1, ss', h2, rfl⟩ := hs
  obtain ⟨x, h3⟩ := hx f (by simp)
  obtain ⟨as, h4, h5, h6⟩ := ih _ _ h1 _ _ _ h3
  obtain ⟨bs, h7, h8, h9⟩ := Qov ih n cs fs ss' _ hl h2 fun g hg => hx g (by simp [hg])
  have e : cs.drop f.offset = (cs.drop f.offset).take (P.cellsOf f.type) ++ cs.drop (f.offset + P.cellsOf f.type) := by
   rw [← jN]; exact (yz _ _).symm
  refine ⟨as ++ bs, by rw [e]; exact h4.append h7, by simp only [FitsL]; exact ⟨as, bs, rfl, h5, h8⟩, fun v hv => ?_⟩
  rw [e, qB] at hv
  exact hv.elim (h6 v) (h9 v)
theorem Qv5 {k : Nat} {e : TypeId} {s : Sh} (ih : ∀ (fuel : Nat) (cs : List Value) (x : DataW H × List MemPlace), DataW.trod enc P W 0 (fun _ => true) true fuel e cs = some x →
   ∃ as, RepL (X0 W) as cs ∧ Qjv s as ∧ ∀ v ∈ cs, v.oneCell' = true) (n sz : Nat) : ∀ (m : Nat) (cs : List Value), cs.length = m * sz →
  (∀ i, i < m → ∃ x, DataW.trod enc P W 0 (fun _ => true) true n e ((cs.drop (i * sz)).take sz) = some x) → ∃ as, RepL (X0 W) as cs ∧ FitsL (List.replicate m s) as ∧ ∀ v ∈ cs, v.oneCell' = true
 | 0, cs, hl, _ => by
  obtain rfl : cs = [] := qG (by omega)
  exact ⟨[], by simp [RepL], by simp [FitsL], by simp⟩
 | m + 1, cs, hl, hx => by
  obtain ⟨x, h3⟩ := hx 0 (by omega)
  rw [Yt, List.drop_zero] at h3
  obtain ⟨as, h4, h5, h6⟩ := ih _ _ _ h3
  obtain ⟨bs, h7, h8, h9⟩ := Qv5 (k := k) ih n sz m (cs.drop sz) (by simp [hl, yH]) fun i hi => by
   obtain ⟨y, hy⟩ := hx (i + 1) (by omega)
   rw [yH, yS, Ys, ← jN] at hy
   exact ⟨y, hy⟩
  have e := yz sz cs
  refine ⟨as ++ bs, by rw [← e]; exact h4.append h7, by rw [jl]; simp only [FitsL]; exact ⟨as, bs, rfl, h5, h8⟩, fun v hv => ?_⟩
  rw [← e, qB] at hv
  exact hv.elim (h6 v) (h9 v)
theorem Qv6 {s : Sh} {a : Addr} {sz : Nat} {C : Nat → List Value} (hl : ∀ i, (C i).length = sz ∨ True) : ∀ (m : Nat),
  (∀ i, i < m → (C i).length = sz ∧ AtA W (a.add (i * sz)) (C i) ∧ ∃ as, RepL (X0 W) as (C i) ∧ Qjv s as) →
  ∃ (vs : List Value) (L : List (List AV)), vs.length = m * sz ∧ AtA W a vs ∧ RepL (X0 W) L.flatten vs ∧ L.length = m ∧ ∀ c ∈ L, Qjv s c
 | 0, _ => ⟨[], [], by simp, fun i v h => by simp at h, by simp [RepL], rfl, by simp⟩
 | m + 1, h => by
  obtain ⟨vs, L, h1, h2, h3, h4, h5⟩ := Qv6 hl m fun i hi => h i (by omega)
  obtain ⟨g1, g2, as, g3, g4⟩ := h m (by omega)
  refine ⟨vs ++ C m, L ++ [as], by simp [h1, g1, yH], h2.append (by rw [h1]; exact g2), by simpa using h3.append g3, by simp [h4], fun c hc => ?_⟩
  simp only [qB, yd] at hc
  exact hc.elim (h5 c) fun e => e ▸ g4
theorem QlC : ∀ (k : Nat) (t : TypeId) (s : Sh), Qyc P k t = some s → ∀ (fuel : Nat) (cs : List Value) (x : DataW H × List MemPlace), DataW.trod enc P W 0 (fun _ => true) true fuel t cs = some x →
  ∃ as, RepL (X0 W) as cs ∧ Qjv s as ∧ ∀ v ∈ cs, v.oneCell' = true
 | 0, _, _, h => by simp [Qyc] at h
 | k + 1, t, s, h => by
  intro fuel cs x hx
  simp only [Qyc] at h
  split at h
  ·rename_i hu
   cases h
   obtain ⟨b, rfl, _⟩ := DataW.trod_bool hu hx
   exact ⟨[.bool b], by simp only [RepL, Rep]; exact ⟨_, _, rfl, rfl, rfl⟩, by simp only [Qjv]; exact ⟨b, rfl⟩, by simp [Value.oneCell']⟩
  ·rename_i K hu
   cases h
   obtain ⟨n, rfl, _, hw⟩ := DataW.trod_int hu hx
   simp only [Lit.wf, qo, qr] at hw
   exact ⟨[.int K n], by simp only [RepL, Rep]; exact ⟨_, _, rfl, rfl, rfl⟩, by simp only [Qjv]; exact ⟨n, rfl, hw⟩, by simp [Value.oneCell']⟩
  ·rename_i hu
   cases h
   obtain ⟨s, rfl, _, hw⟩ := DataW.trod_string hu hx
   exact ⟨[.str s.data.toList], by simp only [RepL, Rep]; exact ⟨_, _, rfl, rfl, rfl⟩, by simp only [Qjv]; exact ⟨_, rfl, by simpa using hw⟩, by simp [Value.oneCell']⟩
  ·rename_i e hu
   rw [qb] at h
   obtain ⟨se, he, rfl⟩ := h
   rcases DataW.trod_slice hu hx with ⟨rfl, _⟩ | ⟨a, len, cap, elems, rest, n, _, rfl, _, _, hl, hm, hlen, hel, _, _⟩
   ·refine ⟨[.list 0 []], ?_, ?_, by simp [Value.oneCell']⟩
    ·simp only [RepL, Rep]; exact ⟨_, _, rfl, ⟨none, 0, [], rfl, qj _, .inl rfl, rfl⟩, rfl⟩
    ·simp only [Qjv]; exact ⟨[], rfl, by simp, by simp⟩
   ·have key : ∀ i, i < len → ∃ c, c.length = P.cellsOf e ∧ AtA W (a.add (i * P.cellsOf e)) c ∧ ∃ as, RepL (X0 W) as c ∧ Qjv se as := fun i hi => by
     have h1 := hel i hi
     rw [qg (by omega), qn] at h1
     obtain ⟨c, h2, h3⟩ := h1
     obtain ⟨as, h4, h5, h6⟩ := QlC k e se he _ _ _ h3
     obtain ⟨_, h7, h8⟩ := World.cells?_some h2
     refine ⟨c, h7, fun j v hv => ⟨?_, h6 v (yt hv)⟩, as, h4, h5⟩
     rw [h8 j (by rw [← h7]; exact (qd.1 hv).1)]
     exact hv
    obtain ⟨C, hC⟩ := choose_lt (α := List Value) (p := fun i c => c.length = P.cellsOf e ∧ AtA W (a.add (i * P.cellsOf e)) c ∧ ∃ as, RepL (X0 W) as c ∧ Qjv se as) key
    obtain ⟨vs, L, g1, g2, g3, g4, g5⟩ := Qv6 (s := se) (a := a) (sz := P.cellsOf e) (C := C) (fun _ => .inr trivial) len hC
    refine ⟨[.list L.length L.flatten], ?_, ?_, by simp [Value.oneCell']⟩
    ·simp only [RepL, Rep]
     refine ⟨_, _, rfl, ⟨some a, cap, vs, by rw [g4], by omega, ?_, g3⟩, rfl⟩
     by_cases h0 : vs = []
     ·exact .inl h0
     ·obtain ⟨b, o, rfl, h1⟩ := g2.atC h0
      exact .inr ⟨b, o, rfl, h1⟩
    ·simp only [Qjv]; exact ⟨L, rfl, by omega, g5⟩
  ·rename_i fs hu
   split at h
   case isFalse => cases h
   rename_i hlay
   rw [qb] at h
   obtain ⟨ss, hs, rfl⟩ := h
   obtain ⟨xs, n, _, _, hl, hlen, hf⟩ := DataW.trod_struct hu hx
   have := Qov (QlC k) n cs fs.toList ss 0 (by rw [hl]; exact hlay) hs fun f hf' => by
    obtain ⟨i, hi⟩ := List.getElem?_of_mem hf'
    have hi' : fs[i]? = some f := by simpa using hi
    have := hf i f hi'
    have hlt : i < xs.length := by rw [hlen]; exact (qt.1 hi').1
    rw [qg hlt] at this
    exact ⟨_, this⟩
   simpa [Qjv] using this
  ·rename_i n e hu
   split at h
   case isFalse => cases h
   rename_i hsz
   rw [qb] at h
   obtain ⟨se, he, rfl⟩ := h
   obtain ⟨xs, m, _, _, hl, hlen, hf⟩ := DataW.trod_array hu hx
   have := Qv5 (k := k) (QlC k e se he) m (P.cellsOf e) n cs (by rw [hl, hsz]) fun i hi => by
    have := hf i hi
    rw [qg (by omega)] at this
    exact ⟨_, this⟩
   simpa [Qjv] using this
  ·cases h
theorem QCI {k : Nat} {t : TypeId} {s : Sh} (h : Qyc P k t = some s) {v : Value} {d : DataW H} {ps : List MemPlace} (hd : DataW.Trod enc P W 0 (fun _ => true) true t v d ps) : ∃ as, RepL (X0 W) as v.cells.toList ∧ Qjv s as := by
 obtain ⟨fuel, hf⟩ := hd
 obtain ⟨as, h1, h2, _⟩ := QlC k t s h _ _ _ hf
 exact ⟨as, h1, h2⟩
theorem QxO {k : Nat} {t : TypeId} {s : Sh} (h : Qyc P k t = some (.slice s)) (ht : ∃ e, P.underlying t = some (.slice e)) {r : Reach} {base : Nat} {v : Value} {d : DataW H} {ps : List MemPlace} (hval : Value.okWide P W r base t v)
  (hd : DataW.Trod enc P W 0 (fun _ => true) true t v d ps) : ∃ L : List (List AV), Rep (X0 W) (.list L.length L.flatten) v ∧ L.length ≤ maxLen ∧ ∀ c ∈ L, Qjv s c := by
 obtain ⟨as, h1, h2⟩ := QCI h hd
 obtain ⟨e, hf⟩ := ht
 obtain ⟨a, n, cap, rfl⟩ := okWide_slice hf hval
 simp only [Qjv] at h2
 obtain ⟨L, rfl, h3, h4⟩ := h2
 simp only [RepL, Value.cells] at h1
 obtain ⟨v, rest, e, h5, rfl⟩ := h1
 simp at e
 subst e
 exact ⟨L, h5, h3, h4⟩
end
theorem QgM {α β : Type} {p : α → Prop} {f : β → α} {q : β → Prop} : ∀ {L : List α}, (∀ c ∈ L, p c) → (∀ c, p c → ∃ x, c = f x ∧ q x) → ∃ xs : List β, L = xs.map f ∧ ∀ x ∈ xs, q x
 | [], _, _ => ⟨[], rfl, by simp⟩
 | c :: L, h, g => by
  obtain ⟨xs, rfl, h2⟩ := QgM (L := L) (fun c hc => h c (by simp [hc])) g
  obtain ⟨x, rfl, hx⟩ := g c (h c (by simp))
  exact ⟨x :: xs, rfl, fun y hy => by rcases ym.1 hy with rfl | hy; exact hx; exact h2 y hy⟩
end Go.Am
/- The abstract machine: a walk that stands still once, between two statements, to tell its state anew. -/
namespace Go.Am
open Go.RowKit
def wpL (P : Prg) (N M : Nat) : Nat → AC → (Exit → St → Prop) → St → Prop
 | 0, ac, Q, st => ∃ st', Le M st st' ∧ wpC P N M ac Q st'
 | n + 1, .seq a b, Q, st => wpC P N M a (QgG (wpL P N M n b Q) Q) st
 | _ + 1, _, _, _ => False
def QCW (P : Prg) (N M n : Nat) (b : AC) (Q : Exit → St → Prop) : Exit → St → Prop := QgG (wpL P N M n b Q) Q
theorem Qnv {P : Prg} {N M : Nat} : ∀ (n : Nat) (c : Code) (ac : AC) (Q : Exit → St → Prop) (st : St), Qx P N c = some ac → wpL P N M n ac Q st → AWp P N M c Q st
 | 0, c, ac, Q, st, hc, h => by
  obtain ⟨st', hl, h⟩ := h
  exact fun Γ a w h1 h2 hs => ZU c ac Q st' hc h Γ a w h1 h2 (hl Γ a w h2 hs)
 | n + 1, c, ac, Q, st, hc, h => by
  match ac, h with
  | .seq ax ay, h =>
   obtain ⟨x, y, rfl, hx, hy⟩ : ∃ x y, c = .seq x y ∧ Qx P N x = some ax ∧ Qx P N y = some ay := by
    cases c with
    | seq x y =>
     simp only [Qx] at hc
     split at hc
     case h_2 => cases hc
     rename_i hx
     split at hc <;> cases hc
     rename_i hy
     exact ⟨x, y, rfl, hx, hy⟩
    | region id ops d =>
     simp only [Qx] at hc
     split at hc
     case h_2 => cases hc
     split at hc
     ·split at hc <;> cases hc
     ·cases hc
    | cond x a b => simp only [Qx] at hc; split at hc <;> (try split at hc) <;> cases hc
    | block id c => simp only [Qx, qb] at hc; obtain ⟨_, _, h⟩ := hc; cases h
    | loop c => simp only [Qx, qb] at hc; obtain ⟨_, _, h⟩ := hc; cases h
    | _ => simp only [Qx] at hc; cases hc
   simp only [wpL] at h
   intro Γ a w h1 h2 hs
   refine wp_seq (wp_mono (ZU x ax _ st hx h Γ a w h1 h2 hs) ?_)
   rintro e a' w' ⟨st', hq, hs'⟩
   cases e with
   | normal => exact Qnv n y ay Q st' hy hq Γ a' w' h1 h2 hs'
   | exit id => exact ⟨st', hq, hs'⟩
   | goto l => exact ⟨st', hq, hs'⟩
   | ret => exact ⟨st', hq, hs'⟩
   | panic ch => exact ⟨st', hq, hs'⟩
   | outgrown => exact ⟨st', hq, hs'⟩
theorem ACall.of_awp {P : Prg} {f : FuncId} {ac : AC} {N : Nat} {rl : List ResultVar} (hbody : Qf P f N rl ac)
  {avs : List AV} {ob : List Ob} {K : AV → List Ob → Prop} (hlen : avs.length ≤ N)
  (h0 : ∀ c, Qx P N c = some ac → AWp P N ob.length c (Qmb P rl K) ⟨Xx 0 avs, ob⟩) : ACall P f avs ob K := by
 obtain ⟨fn, hf, hn, hN, hrl, hc'⟩ := hbody
 subst hN
 subst hrl
 obtain ⟨c, hb, hc⟩ := qn.1 hc'
 refine ⟨⟨fn, hf, hn, by rw [hb]; rfl⟩, fun B w be C vs g hG hr => ?_⟩
 refine calls_of_wp hf hb ?_
 have hvl := hr.length
 let Γ : Ctx := ⟨B, ⟨w, ob, be, C⟩, fn.ntmps, []⟩
 have hs : Sim Γ ⟨Xx 0 avs, ob⟩ { tmps := vs.toArray ++ Array.replicate (fn.ntmps - vs.toArray.size) undef, defers := [] } w := by
  refine ⟨rfl, by simp [Γ]; omega, Below.refl _ _, be, g, Moves.refl _, fun i => ?_⟩
  rcases QcC avs vs 0 hr i with h1 | ⟨_, v, h2, h3⟩
  ·show Rep _ (look (Xx 0 avs) i) _
   rw [h1]; simp only [Rep]
  ·have h4 : (vs.toArray ++ Array.replicate (fn.ntmps - vs.toArray.size) undef).getD i undef = v := by
    simp only [yn] at h2
    have hlt := (qd.1 h2).1
    rw [qD, jo (by simpa using hlt)]
    simp [h2]
   show Rep _ (look (Xx 0 avs) i) ((vs.toArray ++ Array.replicate (fn.ntmps - vs.toArray.size) undef).getD i undef)
   rw [h4]
   exact h3
 refine wp_mono (h0 c hc Γ _ w ⟨rfl, hG⟩ rfl hs) ?_
 rintro e a' w' ⟨st', he, hs'⟩
 obtain ⟨q1, q2, q3, be', g', hm, hfr⟩ := hs'
 have hpost : ∀ rs, QL st'.fr st'.ob P fn.results.toList = some rs → K (Qm rs) st'.ob → a'.defers = [] ∧ ∃ v, (results fn a'.tmps).run P w' = .ok v w' ∧ ∃ v_1 r ob' be', Ending.returned v = .returned v_1 ∧ Below B w w' ∧ Held B ⟨w', ob', be', C⟩ ∧ Moves ⟨w, ob, be, C⟩ ⟨w', ob', be', C⟩ ∧ Rep ⟨w', ob', be', C⟩ r v_1 ∧ K r ob' := fun rs hrs hk => by
  obtain ⟨v, hv1, hv2⟩ := Qcz (P := P) (Γ := Γ) g' hfr hrs
  exact ⟨q1, v, hv1, v, Qm rs, st'.ob, be', rfl, q3, g', hm, hv2, hk⟩
 cases e with
 | normal =>
  simp only [Qmb] at he
  split at he
  ·exact hpost _ (by assumption) he
  ·exact he.elim
 | ret =>
  simp only [Qmb] at he
  split at he
  ·exact hpost _ (by assumption) he
  ·exact he.elim
 | exit id => exact he.elim
 | goto l => exact he.elim
 | panic ch => exact he.elim
 | outgrown => exact he.elim
theorem ACall.of_cut (n : Nat) {P : Prg} {f : FuncId} {ac : AC} {N : Nat} {rl : List ResultVar} (hbody : Qf P f N rl ac)
  {avs : List AV} {ob : List Ob} {K : AV → List Ob → Prop} (hlen : avs.length ≤ N)
  (h0 : wpL P N ob.length n ac (Qmb P rl K) ⟨Xx 0 avs, ob⟩) : ACall P f avs ob K :=
 ACall.of_awp hbody hlen fun c hc => Qnv n c ac _ _ hc h0
theorem Qvf :
  (∀ P N M n a b Q st, wpL P N M (n + 1) (.seq a b) Q st = wpC P N M a (QCW P N M n b Q) st) ∧
  (∀ P N M n b Q st, QCW P N M n b Q .normal st = wpL P N M n b Q st) ∧
  (∀ P N M n b Q st j, QCW P N M n b Q (.exit j) st = Q (.exit j) st) ∧
  (∀ P N M n b Q st, QCW P N M n b Q .ret st = Q .ret st) :=
 ⟨fun _ _ _ _ _ _ _ _ => rfl, fun _ _ _ _ _ _ _ => rfl, fun _ _ _ _ _ _ _ _ => rfl, fun _ _ _ _ _ _ _ => rfl⟩
end Go.Am
/- The abstract machine: what an object holds, told anew; a known capacity; a block taken over. -/
namespace Go.Am
open Go.RowKit
theorem Held.retell {B : Nat} {X : Cx} (g : Held B X) {p : Nat} {x : Ob} (hx : X.ob[p]? = some x) (cs' : List AV) (hl : cs'.length = x.cs.length) (hr : ∀ vs, RepL X x.cs vs → RepL X cs' vs) :
  let Y : Cx := ⟨X.w, X.ob.set p { x with cs := cs' }, X.be, X.C⟩
  Held B Y ∧ Moves X Y ∧ Moves Y X := by
 intro Y
 have hol : p < X.ob.length := (qd.1 hx).1
 have hob : ∀ (o2 : Nat) (x2 : Ob), Y.ob[o2]? = some x2 → (o2 = p ∧ x2 = { x with cs := cs' }) ∨ (o2 ≠ p ∧ X.ob[o2]? = some x2) := by
  intro o2 x2 h2
  simp only [Y, yw] at h2
  by_cases e : p = o2
  ·subst e; simp [hol] at h2; exact .inl ⟨rfl, h2.symm⟩
  ·simp [e] at h2; exact .inr ⟨fun h => e h.symm, h2⟩
 have hav : ∀ b' k, Y.av b' k ↔ X.av b' k := by
  intro b' k
  constructor
  ·rintro (h | ⟨o2, x2, c2, h1, h2, h3⟩)
   ·exact .inl h
   ·rcases hob o2 x2 h1 with ⟨rfl, rfl⟩ | ⟨_, h4⟩
    ·exact .inr ⟨o2, x, c2, hx, h2, h3⟩
    ·exact .inr ⟨o2, x2, c2, h4, h2, h3⟩
  ·rintro (h | ⟨o2, x2, c2, h1, h2, h3⟩)
   ·exact .inl h
   ·by_cases e : o2 = p
    ·subst e
     rw [hx] at h1; cases h1
     exact .inr ⟨o2, { x with cs := cs' }, c2, by simp [Y, hol], h2, h3⟩
    ·exact .inr ⟨o2, x2, c2, by simp only [Y]; rw [q9 (fun h => e h.symm)]; exact h1, h2, h3⟩
 have hmv : Moves X Y := by
  refine ⟨fun b' k v hc ha => ⟨hc, fun h => ha ((hav b' k).1 h)⟩, fun o2 x2 h2 => ?_, fun b' _ hf => ⟨rfl, hf⟩⟩
  by_cases e : o2 = p
  ·subst e
   rw [hx] at h2; cases h2
   exact ⟨{ x with cs := cs' }, by simp [Y, hol], qj _, fun h => ⟨h, fun _ => rfl⟩⟩
  ·exact ⟨x2, by simp only [Y]; rw [q9 (fun h => e h.symm)]; exact h2, qj _, fun h => ⟨h, fun _ => rfl⟩⟩
 have hmv' : Moves Y X := by
  refine ⟨fun b' k v hc ha => ⟨hc, fun h => ha ((hav b' k).2 h)⟩, fun o2 x2 h2 => ?_, fun b' _ hf => ⟨rfl, hf⟩⟩
  rcases hob o2 x2 h2 with ⟨rfl, rfl⟩ | ⟨_, h4⟩
  ·exact ⟨x, hx, qj _, fun h => ⟨h, fun _ => rfl⟩⟩
  ·exact ⟨x2, h4, qj _, fun h => ⟨h, fun _ => rfl⟩⟩
 refine ⟨⟨by simp [Y, g.len], fun o2 x2 e2 h2 h3 => ?_, g.inj, g.base, g.bnd, g.size⟩, hmv, hmv'⟩
 rcases hob o2 x2 h2 with ⟨rfl, rfl⟩ | ⟨hne, h4⟩
 ·have h5 := g.ok o2 x e2 hx h3
  cases e2 with
  | none =>
   obtain ⟨h6, h7⟩ := h5
   exact ⟨h6, by rw [h7] at hl; exact qG hl⟩
  | some q =>
   obtain ⟨b, c⟩ := q
   obtain ⟨cur, q1, q2, q3, q4, q5, q6, q7⟩ := h5
   exact ⟨cur, by obtain ⟨fr, e, h⟩ := q1; exact ⟨fr, e, h⟩, q2, q3, q4, by show cs'.length = _; rw [hl]; exact q5, by show RepL Y cs' (cur.toList.take cs'.length); rw [hl]; exact RepL.move hmv _ _ (hr _ q6), q7⟩
 ·exact (g.ok o2 x2 e2 h4 h3).move hmv fun _ _ _ => rfl
def Qcv (ob : List Ob) (o p : Nat) (x y : Ob) : List Ob := (ob.set o x).set p y
section
variable {ob : List Ob} {o p : Nat} {x y x' y' : Ob}
theorem Qvt (ho : ob[o]? = some x) (hp : ob[p]? = some y) (hpo : p ≠ o) : Qcv ob o p x y = ob := by
 unfold Qcv
 rw [Qf1 ho, Qf1 hp]
theorem QzL : (Qcv ob o p x y).set p y' = Qcv ob o p x y' := by unfold Qcv; rw [YC]
theorem QzM (hpo : p ≠ o) : (Qcv ob o p x y).set o x' = Qcv ob o p x' y := by
 unfold Qcv
 rw [List.set_comm _ _ hpo, YC]
theorem QbC : (Qcv ob o p x y).length = ob.length := by simp [Qcv]
theorem Qvu (h : p < ob.length) : (Qcv ob o p x y)[p]? = some y := by simp [Qcv, h]
theorem Qvv (h : o < ob.length) (hpo : p ≠ o) : (Qcv ob o p x y)[o]? = some x := by
 unfold Qcv
 rw [q9 hpo]
 simp [h]
end
end Go.Am
/- The abstract machine: a function that returns a slice of its caller's own. -/
namespace Go.Am
open Go.RowKit
def shr (m : Nat) : AV → AV
 | .own _ n => .own m n
 | .tup (.own _ n :: cs) => .tup (.own m n :: cs)
 | v => v
def okr (n : Nat) : AV → Bool
 | .own _ k => k == n
 | .tup (.own _ k :: cs) => k == n && cs.all flat
 | _ => false
theorem Qwk {X Y : Cx} {i j n : Nat} {x : Ob} {v : Value} (hx : X.ob[i]? = some x) (hy : Y.ob[j]? = some x) (he : Y.be[j]? = X.be[i]?) (h : Rep X (.own i n) v) : Rep Y (.own j n) v := by
 simp only [Rep] at h ⊢
 obtain ⟨⟨z, hz, h1, h2, h3⟩, h4⟩ := h
 rw [hx] at hz; cases hz
 exact ⟨⟨x, hy, h1, h2, fun e => by rw [he]; exact h3 e⟩, h4⟩
theorem Qwj {X Y : Cx} {i j : Nat} {x : Ob} {r : AV} {v : Value} (hx : X.ob[i]? = some x) (hy : Y.ob[j]? = some x) (he : Y.be[j]? = X.be[i]?) (hok : okr x.n r = true) (h : Rep X (shr i r) v) : Rep Y (shr j r) v := by
 unfold okr at hok
 split at hok
 ·exact Qwk hx hy he h
 ·simp only [shr] at h ⊢
  simp only [qo] at hok
  simp only [Rep, RepL] at h ⊢
  obtain ⟨vs, e, v1, rest, rfl, h1, h2⟩ := h
  exact ⟨_, e, v1, rest, rfl, Qwk hx hy he (by simp only [Rep]; exact h1), RepL.flat hok.2 h2⟩
 ·cases hok
def VO (P : Prg) (f : FuncId) (ds : List AV) (r : AV) (x : Ob) : Prop :=
 QgA P f ∧ isDL ds = true ∧ isDL x.cs = true ∧ okr x.n r = true ∧ ∀ (w : World) (C : Nat → Nat → Prop) (vs : List Value), (∀ b k, C b k → b < w.heap.size) → GOk P.G ⟨w, [], [], C⟩ → RepL ⟨w, [], [], C⟩ ds vs →
  Calls P f vs.toArray w fun e w' => ∃ v be, e = .returned v ∧ Below w.heap.size w w' ∧ Held w.heap.size ⟨w', [x], [be], C⟩ ∧ Rep ⟨w', [x], [be], C⟩ (shr 0 r) v
theorem VO.of_walk {P : Prg} {f : FuncId} {ds : List AV} {r : AV} {x : Ob} (h1 : isDL ds = true) (h2 : isDL x.cs = true) (h3 : okr x.n r = true)
  (h : ACall P f ds [] (fun r' ob' => ∃ i, ob'[i]? = some x ∧ r' = shr i r)) : VO P f ds r x := by
 obtain ⟨h0, h⟩ := h
 refine ⟨h0, h1, h2, h3, fun w C vs hbnd hG hr => ?_⟩
 have g : Held w.heap.size ⟨w, [], [], C⟩ := ⟨rfl, by simp, by simp, by simp, hbnd, qj _⟩
 refine (h w.heap.size w [] C vs g hG hr).mono ?_
 rintro e w' ⟨v, r', ob', be', rfl, hb, hh, hm, hv, i, hi, rfl⟩
 obtain ⟨e, he, hok⟩ := hh.get hi
 have he' : be'[i]? = some e := he
 refine ⟨v, e, rfl, hb, ⟨rfl, fun o y e' hy he2 => ?_, fun o o' b c c' q1 q2 => ?_, fun o b c q => ?_, hbnd, hh.size⟩, Qwj (X := ⟨w', ob', be', C⟩) (i := i) hi rfl (by simp [he']) h3 hv⟩
 ·obtain rfl : o = 0 := by
   rcases o with _ | o
   ·rfl
   ·simp at hy
  simp at hy he2
  subst hy; subst he2
  cases e with
  | none => exact hok
  | some q =>
   obtain ⟨b, cap⟩ := q
   obtain ⟨cur, q1, q2, q3, q4, q5, q6, q7⟩ := hok
   have hd : ∀ (b' k' : Nat) (v' : Value), (Cx.mk w' ob' be' C).w.cell? ⟨b', k', none⟩ = some v' → ¬ (Cx.mk w' ob' be' C).av b' k' → (Cx.mk w' [x] [some (b, cap)] C).w.cell? ⟨b', k', none⟩ = some v' ∧ ¬ (Cx.mk w' [x] [some (b, cap)] C).av b' k' := fun b' k' v' hc ha => ⟨hc, fun h => ha ?_⟩
   ·exact ⟨cur, q1, q2, q3, q4, q5, RepL.data hd _ _ h2 q6, q7⟩
   rcases h with h | ⟨o, y, c, a1, a2, a3⟩
   ·exact .inl h
   ·rcases o with _ | o
    ·simp at a1 a2
     subst a1
     obtain ⟨rfl, rfl⟩ := a2
     exact .inr ⟨i, x, _, hi, he', a3⟩
    ·simp at a1
 ·rcases o with _ | o
  ·rcases o' with _ | o'
   ·rfl
   ·simp at q2
  ·simp at q1
 ·rcases o with _ | o
  ·simp at q
   subst q
   exact hh.base i b c he'
  ·simp at q
theorem ACall.of_vo {P : Prg} {f : FuncId} {ds : List AV} {r : AV} {x : Ob} (h : VO P f ds r x) {ob : List Ob} {K : AV → List Ob → Prop} (hK : K (shr ob.length r) (ob ++ [x])) : ACall P f ds ob K := by
 obtain ⟨h0, h1, h2, h3, h⟩ := h
 refine ⟨h0, fun B w be C vs g hG hr => ?_⟩
 let X : Cx := ⟨w, ob, be, C⟩
 have hav : ∀ w' b k, (Cx.mk w' [] [] X.av).av b k ↔ X.av b k := fun w' b k => by
  constructor
  ·rintro (h | ⟨o, x, c, h, _⟩)
   ·exact h
   ·simp at h
  ·exact fun h => .inl h
 have hbnd : ∀ b k, X.av b k → b < w.heap.size := by
  rintro b k (h | ⟨o, x, c, q1, q2, _⟩)
  ·exact yy (g.bnd b k h) g.size
  ·exact g.block_lt q1 q2
 have hG' : GOk P.G ⟨w, [], [], X.av⟩ := fun q cs hq => Rep.data (X := X) (Y := ⟨w, [], [], X.av⟩) (fun b k v hc ha => ⟨hc, fun h => ha ((hav w b k).1 h)⟩) _ _ (by simp only [isD]; exact P.gd q cs hq) (hG q cs hq)
 refine (h w X.av vs hbnd hG' (RepL.data (X := X) (Y := ⟨w, [], [], X.av⟩) (fun b k v hc ha => ⟨hc, fun h => ha ((hav w b k).1 h)⟩) _ _ h1 hr)).mono ?_
 rintro e w' ⟨v, e, rfl, hb, hh, hv⟩
 have g' : Held B ⟨w', ob, be, C⟩ := g.below hb
 have hlen : be.length = ob.length := g.len
 let Z : Cx := ⟨w', [x], [e], X.av⟩
 let Y : Cx := ⟨w', ob ++ [x], be ++ [e], C⟩
 have hob : ∀ (o : Nat) (y : Ob), Y.ob[o]? = some y → (o = ob.length ∧ y = x) ∨ (o < ob.length ∧ ob[o]? = some y) := by
  intro o y hy
  simp only [Y] at hy
  rcases Ye o ob.length with hl | hl
  ·rw [qp hl] at hy; exact .inr ⟨hl, hy⟩
  ·rw [qI hl] at hy
   have : o - ob.length = 0 := by
    rcases Yn (o - ob.length) with h | h
    ·exact h
    ·rw [yi (by simp; omega)] at hy; cases hy
   rw [this] at hy
   exact .inl ⟨by omega, by simpa using hy.symm⟩
 have hbe : ∀ (o : Nat) (y : Option (Nat × Nat)), Y.be[o]? = some y → (o = ob.length ∧ y = e) ∨ (o < ob.length ∧ be[o]? = some y) := by
  intro o y hy
  simp only [Y] at hy
  rcases Ye o ob.length with hl | hl
  ·rw [qp (by omega)] at hy; exact .inr ⟨hl, hy⟩
  ·rw [qI (by omega)] at hy
   have : o - be.length = 0 := by
    rcases Yn (o - be.length) with h | h
    ·exact h
    ·rw [yi (by simp; omega)] at hy; cases hy
   rw [this] at hy
   exact .inl ⟨by omega, by simpa using hy.symm⟩
 have hx : Y.ob[ob.length]? = some x := by simp [Y]
 have hxe : Y.be[ob.length]? = some e := by simp [Y, ← hlen]
 have hnew : ∀ b c, e = some (b, c) → w.heap.size ≤ b := fun b c he => hh.base 0 b c (by rw [he]; rfl)
 have hYZ : ∀ b k, Y.av b k → Z.av b k := by
  rintro b k (h | ⟨o, y, c, a1, a2, a3⟩)
  ·exact .inl (.inl h)
  ·rcases hob o y a1 with ⟨rfl, rfl⟩ | ⟨hl, b1⟩
   ·rw [hxe] at a2
    cases a2
    exact .inr ⟨0, y, c, rfl, rfl, a3⟩
   ·rcases hbe o _ a2 with ⟨rfl, _⟩ | ⟨_, b2⟩
    ·omega
    ·exact .inl (.inr ⟨o, y, c, b1, b2, a3⟩)
 have hYX : ∀ b k, b < w.heap.size → Y.av b k → X.av b k := by
  rintro b k hlt (h | ⟨o, y, c, a1, a2, a3⟩)
  ·exact .inl h
  ·rcases hob o y a1 with ⟨rfl, rfl⟩ | ⟨hl, b1⟩
   ·rw [hxe] at a2
    cases a2
    have := hnew b c rfl
    omega
   ·rcases hbe o _ a2 with ⟨rfl, _⟩ | ⟨_, b2⟩
    ·omega
    ·exact .inr ⟨o, y, c, b1, b2, a3⟩
 have blk : ∀ (o b c : Nat), be[o]? = some (some (b, c)) → b < w.heap.size := fun o b c h => by
  have hlt : o < ob.length := by rw [← hlen]; exact (qd.1 h).1
  exact g.block_lt (X := X) (qg hlt) h
 have mXY : Moves X Y := by
  refine ⟨fun b k v hc ha => ?_, fun o y hy => ?_, fun b hb' hf => ⟨hb.block b hb', fun o3 c3 h3 => ?_⟩⟩
  rotate_left 2
  ·rcases hbe o3 _ h3 with ⟨_, q⟩ | ⟨_, q⟩
   ·have := hnew b c3 q.symm; have hb2 : b < w.heap.size := hb'; omega
   ·exact hf o3 c3 q
  ·have hlt := World.block_lt_of_cell? w _ hc
   exact ⟨by show w'.cell? _ = _; rw [hb.cell (p := ⟨b, k, none⟩) hlt]; exact hc, fun h => ha (hYX b k hlt h)⟩
  ·have hl : o < ob.length := (qd.1 hy).1
   exact ⟨y, by simp only [Y]; rw [qp hl]; exact hy, qj _, fun h => ⟨h, fun _ => by simp only [Y]; rw [qp (by omega)]⟩⟩
 refine ⟨v, shr ob.length r, ob ++ [x], be ++ [e], rfl, hb.mono g.size, ⟨by simp [hlen], fun o y e' hy he => ?_, ?_, ?_, g.bnd, jb g.size hb.size⟩, mXY, ?_, hK⟩
 ·rcases hob o y hy with ⟨rfl, rfl⟩ | ⟨hl, b1⟩
  ·rw [hxe] at he
   cases he
   obtain hok := hh.ok 0 y e rfl rfl
   cases e with
   | none => exact hok
   | some q =>
    obtain ⟨b, cap⟩ := q
    obtain ⟨cur, q1, q2, q3, q4, q5, q6, q7⟩ := hok
    have hd : ∀ (b' k' : Nat) (v' : Value), Z.w.cell? ⟨b', k', none⟩ = some v' → ¬ Z.av b' k' → Y.w.cell? ⟨b', k', none⟩ = some v' ∧ ¬ Y.av b' k' := fun b' k' v' hc ha => ⟨hc, fun h => ha (hYZ _ _ h)⟩
    exact ⟨cur, q1, q2, q3, q4, q5, RepL.data hd _ _ h2 q6, q7⟩
  ·rcases hbe o e' he with ⟨rfl, _⟩ | ⟨_, b2⟩
   ·omega
   ·refine (g.ok o y e' b1 b2).move mXY fun b c hbc => ?_
    subst hbc
    exact hb.block b (blk o b c b2)
 ·intro o o' b c c' q1 q2
  rcases hbe o _ q1 with ⟨rfl, a1⟩ | ⟨l1, a1⟩ <;> rcases hbe o' _ q2 with ⟨rfl, a2⟩ | ⟨l2, a2⟩
  ·rfl
  ·have := hnew b c a1.symm; have := blk _ _ _ a2; omega
  ·have := hnew b c' a2.symm; have := blk _ _ _ a1; omega
  ·exact g.inj o o' b c c' a1 a2
 ·intro o b c q
  rcases hbe o _ q with ⟨rfl, a1⟩ | ⟨l1, a1⟩
  ·have h1 := hnew b c a1.symm; have h2 : B ≤ w.heap.size := g.size; omega
  ·exact g.base o b c a1
 ·exact Qwj (X := Z) (i := 0) rfl hx (by rw [hxe]; rfl) h3 hv
theorem QcF.vo {P : Prg} {Q : Exit → St → Prop} {f : FuncId} {ds : List AV} {r : AV} {x : Ob} (h : VO P f ds r x) {ob : List Ob} {os : List AO} {fr : List (Nat × AV)} {dst : Option Nat} (hK : wpQ P os Q ⟨Xy fr dst (shr ob.length r), ob ++ [x]⟩) : QcF P f ds ob os Q fr dst :=
 ACall.of_vo h hK
end Go.Am
/- The abstract machine: package variables that lie as a table of numbers. -/
namespace Go.Am
open Go.RowKit
theorem Qre {H : Type} {enc : TypeId × Value → H} {P : Program} {w : World} {base : Nat} {sp : Nat → Bool} {held : Bool} {fuel : Nat} {e : TypeId} {k : IntKind} {cs : List Value} {m : Int} {k' : IntKind} {p : List MemPlace}
  (he : P.underlying e = some (.int k)) (h : DataW.trod enc P w base sp held fuel e cs = some (.lit (.int k' m), p)) : cs = [.int k' m] := by
 cases fuel with
 | zero => simp [DataW.trod] at h
 | succ fuel =>
  match cs with
  | [] => simp [DataW.trod, he] at h
  | _ :: _ :: _ => simp [DataW.trod, he] at h
  | [c] =>
   cases c <;> simp [DataW.trod, he] at h
   obtain ⟨⟨rfl, _⟩, ⟨rfl, rfl⟩, _⟩ := h
   rfl
theorem QrV {H : Type} {enc : TypeId × Value → H} {P : Program} {w : World} {base : Nat} {sp : Nat → Bool} {held : Bool} {fuel n : Nat} {t e : TypeId} {k : IntKind} {cs : List Value} {p : List MemPlace} {ns : List Int}
  (ht : P.underlying t = some (.array n e)) (he : P.underlying e = some (.int k)) (h1 : P.cellsOf e = 1) (h2 : P.cellsOf t = n)
  (h : DataW.trod enc P w base sp held fuel t cs = some (.agg (ns.map fun x => .lit (.int k x)), p)) : cs = ns.map (.int k) := by
 cases fuel with
 | zero => simp [DataW.trod] at h
 | succ fuel =>
  simp only [DataW.trod, ht, h1, h2, jz] at h
  split at h
  case isFalse => cases h
  rename_i hl
  simp only [qb, Prod.mk.injEq, DataW.agg.injEq] at h
  obtain ⟨xs, hx, e1, _⟩ := h
  obtain ⟨hlen, hget⟩ := QcB hx
  have hxl : xs.length = ns.length := by
   have := congrArg List.length e1
   simpa using this
  have hln : ns.length = n := by rw [← hxl, hlen]; simp
  apply yL
  ·simp [hl, hln]
  ·intro i hi hi2
   obtain ⟨y, hy1, hy2⟩ := hget i i (List.getElem?_range (by omega))
   have hy : xs[i]? = some y := hy1
   have hin : i < ns.length := by omega
   have e2 : (xs.map (·.1))[i]? = (ns.map fun x => DataW.lit (Lit.int k x))[i]? := by rw [e1]
   rw [qK, qK, hy, qg hin] at e2
   simp only [yo, qi] at e2
   have hd : (cs.drop i).take 1 = [cs[i]] := by rw [qF hi]; rfl
   rw [hd] at hy2
   obtain ⟨y1, y2⟩ := y
   simp only at e2
   subst e2
   have := Qre he hy2
   simp only [List.cons.injEq, and_true] at this
   rw [this]
   simp
theorem QfV {P : Program} {w : World} {name : String} {ns : List Int} {k : IntKind} {g n : Nat} {t e : TypeId} (hg : P.globalNamed name = some g) (hty : (P.globals[g]?).map (·.type) = some t)
  (ht : P.underlying t = some (.array n e)) (he : P.underlying e = some (.int k)) (h1 : P.cellsOf e = 1) (h2 : P.cellsOf t = n) :
  ∀ {laid : List (String × DataW Unit)} {ps : List MemPlace}, DataW.LaidVars P w laid ps → (name, DataW.agg (ns.map fun x => .lit (.int k x))) ∈ laid → ∀ i v, (ns.map (Value.int k))[i]? = some v → w.cell? ⟨g, i, none⟩ = some v
 | [], _, _, hm => by cases hm
 | (m, d) :: r, ps, h, hm => by
  obtain ⟨g', t', cs, fuel, p, q, q1, q2, q3, q4, q5, _⟩ := h
  rcases ym.1 hm with hm | hm
  ·cases hm
   rw [hg] at q1
   cases q1
   rw [hty] at q2
   cases q2
   have hcs := QrV ht he h1 h2 q4
   intro i v hv
   rw [← hcs] at hv
   simp only [World.var?, hg, Option.bind_some] at q3
   split at q3
   ·rename_i c ty fr hh
    cases q3
    rw [cell_of_row _ _ _ _ _ _ hh]
    simpa using hv
   ·cases q3
  ·exact QfV hg hty ht he h1 h2 q5 hm
theorem QsG {X : Cx} {k : IntKind} : ∀ ns : List Int, RepL X (ns.map (AV.int k)) (ns.map (Value.int k))
 | [] => by simp [RepL]
 | n :: ns => by simp only [yg, RepL]; exact ⟨_, _, rfl, rfl, QsG ns⟩
theorem Qwh {P : Program} {w : World} {laid : List (String × DataW Unit)} (hl : laidMet P laid w) {name : String} (ns : List Int) {k : IntKind} {g n : Nat} {t e : TypeId} (hg : P.globalNamed name = some g) (hty : (P.globals[g]?).map (·.type) = some t)
  (ht : P.underlying t = some (.array n e)) (he : P.underlying e = some (.int k)) (h1 : P.cellsOf e = 1) (h2 : P.cellsOf t = n) (hm : (name, DataW.agg (ns.map fun x => .lit (.int k x))) ∈ laid) :
  Rep (X0 w) (.cell (ns.map (AV.int k))) (.pointer (some ⟨g, 0, none⟩)) := by
 obtain ⟨ps, hv, _, _⟩ := hl
 have hc := QfV hg hty ht he h1 h2 hv hm
 simp only [Rep]
 refine ⟨g, 0, ns.map (Value.int k), rfl, fun i v hv => ⟨⟨by rw [yj]; exact hc i v hv, QCN⟩, ?_⟩, QsG ns⟩
 obtain ⟨n, _, rfl⟩ := qY.1 (yt hv)
 rfl
def QDw (P : Program) (name : String) (g : Nat) (k : IntKind) : Bool :=
 decide (P.globalNamed name = some g) &&
 match (P.globals[g]?).map (·.type) with
 | some t =>
  match P.underlying t with
  | some (.array n e) => (match P.underlying e with | some (.int k') => decide (k' = k) | _ => false) && decide (P.cellsOf e = 1) && decide (P.cellsOf t = n)
  | _ => false
 | none => false
theorem Qkz {P : Program} {w : World} {laid : List (String × DataW Unit)} (hl : laidMet P laid w) {name : String} (ns : List Int) {k : IntKind} {g : Nat} (hb : QDw P name g k = true) (hm : (name, DataW.agg (ns.map fun x => .lit (.int k x))) ∈ laid) :
  Rep (X0 w) (.cell (ns.map (AV.int k))) (.pointer (some ⟨g, 0, none⟩)) := by
 simp only [QDw, qo, qr] at hb
 obtain ⟨hg, hb⟩ := hb
 split at hb
 ·rename_i t hty
  split at hb
  ·rename_i n e ht
   simp only [qo, qr] at hb
   obtain ⟨⟨hb, h1⟩, h2⟩ := hb
   split at hb
   ·rename_i k' he
    simp only [qr] at hb
    subst hb
    exact Qwh hl ns hg hty ht he h1 h2 hm
   ·cases hb
  ·cases hb
 ·cases hb
end Go.Am
/- The abstract machine: calls with objects that nobody writes any more, told anew; a result whose room is known. -/
namespace Go.Am
open Go.RowKit
theorem Qiy : ∀ (is : List Nat) (ob : List Ob), (QG is ob).length = ob.length
 | [], _ => rfl
 | i :: is, ob => by
  simp only [QG]
  rw [Qiy is]
  split <;> simp
theorem ACall.of_still {P : Prg} {f : FuncId} {avs ds : List AV} (k : Nat) (is : List Nat) {ob : List Ob} (hf : QI (fun o => is.contains o) ob (k + 1) avs = some ds) (hd : isDL ds = true) {K : AV → List Ob → Prop} (h : ACall P f ds (QG is ob) K) : ACall P f avs ob K := by
 obtain ⟨hE, hcall⟩ := h
 refine ⟨hE, fun B w be C vs g hG hrep => ?_⟩
 obtain ⟨g1, m1⟩ := Held.still is g
 let X : Cx := ⟨w, ob, be, C⟩
 let Y : Cx := ⟨w, QG is ob, be, C⟩
 have hsub : ∀ b k, Y.av b k → X.av b k := by
  rintro b k (h | ⟨o, x, c, h1, h2, h3⟩)
  ·exact .inl h
  ·have hlt : o < ob.length := by
    have hA : o < be.length := (qd.1 h2).1
    have hB : be.length = ob.length := g.len
    omega
   obtain ⟨m, h4, h5, _⟩ := QaA is ob o ob[o] (qg hlt)
   have h1' : (QG is ob)[o]? = some x := h1
   rw [h4] at h1'
   cases h1'
   exact .inr ⟨o, ob[o], c, qg hlt, h2, by simp only at h3; omega⟩
 have hds := Qcj (X := X) g (C' := Y.av) hsub (ok := fun o => is.contains o) (fun o b c x hok hx he k hk hav => by
  have hmem : o ∈ is := by simpa using hok
  rcases hav with h | ⟨o', x', c', h1, h2, h3⟩
  ·have h4 := g.base o b c he
   have h5 := g.bnd b k h
   omega
  ·have := g.inj o o' b c c' he h2
   subst this
   obtain ⟨m, h4, _, h6⟩ := QaA is ob o x hx
   have h1' : (QG is ob)[o]? = some x' := h1
   rw [h4] at h1'
   cases h1'
   have := h6 hmem
   simp only at h3
   omega) (k + 1) avs ds vs hf hrep
 have hds' : RepL ⟨w, QG is ob, be, C⟩ ds vs := RepL.data (X := ⟨w, [], [], Y.av⟩) (Y := Y) (fun b k v hc ha => ⟨hc, fun h => ha (.inl h)⟩) _ _ hd hds
 refine (hcall B w be C vs g1 (hG.move m1) hds').mono ?_
 rintro e w' ⟨v, r', ob', be', rfl, hb, hh, hm, hv, hk⟩
 exact ⟨v, r', ob', be', rfl, hb, hh, m1.trans hm, hv, hk⟩
theorem ACall.of_vo_still {P : Prg} {f : FuncId} {avs ds : List AV} {r : AV} {x : Ob} (k : Nat) (is : List Nat) {ob : List Ob} (h : VO P f ds r x) (hf : QI (fun o => is.contains o) ob (k + 1) avs = some ds) {K : AV → List Ob → Prop} (hK : K (shr ob.length r) (QG is ob ++ [x])) : ACall P f avs ob K :=
 ACall.of_still k is hf h.2.1 (ACall.of_vo h (by rw [Qiy]; exact hK))
theorem QcF.vo_still {P : Prg} {Q : Exit → St → Prop} {f : FuncId} {avs ds : List AV} {r : AV} {x : Ob} (k : Nat) (is : List Nat) (h : VO P f ds r x) {ob : List Ob} (hf : QI (fun o => is.contains o) ob (k + 1) avs = some ds) {os : List AO} {fr : List (Nat × AV)} {dst : Option Nat} (hK : wpQ P os Q ⟨Xy fr dst (shr ob.length r), QG is ob ++ [x]⟩) : QcF P f avs ob os Q fr dst :=
 ACall.of_vo_still k is h hf hK
end Go.Am
/- The abstract machine: a call's own objects forgotten at its end; a nil slice in an object. -/
namespace Go.Am
open Go.RowKit
theorem Le.virtF {M : Nat} {fr : List (Nat × AV)} {ob : List Ob} (p ty sz : Nat) {x : Ob} {z : Bool} {rest : List AV} (h0 : sz ≠ 0) (hp : ob[p]? = some x) (hx : x.cs = .emp z :: rest) :
  Le M ⟨fr, ob⟩ ⟨fr, ob.set p { x with cs := .own ob.length 0 :: rest } ++ [⟨ty, sz, 0, [], 0⟩]⟩ := by
 intro Γ a w hX ⟨q1, q2, q3, be, g, hm, hfr0⟩
 obtain ⟨g1, m1⟩ := g.empty ty sz
 have hpl : p < ob.length := (qd.1 hp).1
 have hp1 : (ob ++ [(⟨ty, sz, 0, [], 0⟩ : Ob)])[p]? = some x := by rw [qp hpl]; exact hp
 have hl : be.length = ob.length := g.len
 obtain ⟨g2, m2, _⟩ := g1.retell hp1 (.own ob.length 0 :: rest) (by rw [hx]; rfl) (fun vs hv => by
  rw [hx] at hv
  simp only [RepL] at hv ⊢
  obtain ⟨v, r, rfl, hv, h2⟩ := hv
  refine ⟨v, r, rfl, ?_, h2⟩
  simp only [Rep] at hv ⊢
  obtain ⟨a', e, _⟩ := hv
  refine ⟨⟨⟨ty, sz, 0, [], 0⟩, by simp, h0, qj _, fun _ => ?_⟩, by rw [e]; rfl⟩
  simp only [OwnV]
  rw [show ob.length = be.length from hl.symm]
  simp [e])
 have e1 : (ob ++ [(⟨ty, sz, 0, [], 0⟩ : Ob)]).set p { x with cs := .own ob.length 0 :: rest } = ob.set p { x with cs := .own ob.length 0 :: rest } ++ [⟨ty, sz, 0, [], 0⟩] := jh _ _ hpl
 rw [← e1]
 exact ⟨q1, q2, q3, _, g2, hm.trans (m1.trans m2), fun i => Rep.move m2 _ _ (Rep.move m1 _ _ (hfr0 i))⟩
end Go.Am
/- The abstract machine: a walk that stands still within a loop's body, to tell its state anew. -/
namespace Go.Am
open Go.RowKit
end Go.Am
/- The abstract machine: a place kept for what a call makes; a call over a row that nobody writes any more. -/
namespace Go.Am
open Go.RowKit
end Go.Am
/- The abstract machine: objects behind a place are forgotten, those ahead of it stay as they are. -/
namespace Go.Am
open Go.RowKit
mutual
def QgB (m : Nat) : AV → Bool
 | .own o _ | .ownc o _ _ | .view o _ _ _ | .ref o _ _ => decide (o < m)
 | .list _ cs | .cell cs | .agg cs | .tup cs => lowL m cs
 | .fn _ a b => lowL m a && lowL m b
 | _ => true
def lowL (m : Nat) : List AV → Bool
 | [] => true
 | c :: cs => QgB m c && lowL m cs
end
mutual
theorem QCm {m : Nat} : ∀ c : AV, isD c = true → QgB m c = true
 | .own _ _, g | .ownc _ _ _, g | .view _ _ _ _, g | .ref _ _ _, g => by simp [isD] at g
 | .list _ cs, g | .cell cs, g | .agg cs, g | .tup cs, g => by simp only [isD] at g; simp only [QgB]; exact lowL_D cs g
 | .fn _ a b, g => by simp only [isD, qo] at g; simp only [QgB, qo]; exact ⟨lowL_D a g.1, lowL_D b g.2⟩
 | .any, _ | .int _ _, _ | .bool _, _ | .ubool, _ | .str _, _ | .lit _, _ | .emp _, _ => by simp only [QgB]
theorem lowL_D {m : Nat} : ∀ cs : List AV, isDL cs = true → lowL m cs = true
 | [], _ => rfl
 | c :: cs, g => by simp only [isDL, qo] at g; simp only [lowL, qo]; exact ⟨QCm c g.1, lowL_D cs g.2⟩
end
section
variable {X Y : Cx} {m : Nat} (hw : Y.w = X.w) (hav : ∀ b k, Y.av b k → X.av b k) (hob : ∀ o, o < m → Y.ob[o]? = X.ob[o]? ∧ Y.be[o]? = X.be[o]?)
include hob in
theorem Cur.low {o ver : Nat} {p : Option (Option (Nat × Nat)) → Prop} (h : o < m) (g : Cur X o ver p) : Cur Y o ver p := by
 obtain ⟨x, h1, h2, h3, h4⟩ := g
 exact ⟨x, by rw [(hob o h).1]; exact h1, h2, h3, fun e => by rw [(hob o h).2]; exact h4 e⟩
include hw hav in
theorem AtC.low {b k : Nat} {vs : List Value} (g : AtC X b k vs) : AtC Y b k vs := fun i v hv =>
 ⟨⟨by rw [hw]; exact (g i v hv).1.1, fun h => (g i v hv).1.2 (hav _ _ h)⟩, (g i v hv).2⟩
include hw hav hob
mutual
theorem Rep.low : ∀ (c : AV) (v : Value), QgB m c = true → Rep X c v → Rep Y c v
 | .any, _, _, _ => by simp only [Rep]
 | .int _ _, _, _, g | .bool _, _, _, g | .ubool, _, _, g | .str _, _, _, g | .lit _, _, _, g | .emp _, _, _, g => by simp only [Rep] at g ⊢; exact g
 | .list _ cs, _, h, g => by
  simp only [Rep] at g ⊢
  simp only [QgB] at h
  obtain ⟨a, cap, vs, e, gc, g1, g2⟩ := g
  refine ⟨a, cap, vs, e, gc, ?_, RepL.low cs vs h g2⟩
  rcases g1 with g1 | ⟨b, k, e1, g1⟩
  ·exact .inl g1
  ·exact .inr ⟨b, k, e1, g1.low hw hav⟩
 | .cell cs, _, h, g => by
  simp only [Rep] at g ⊢
  simp only [QgB] at h
  obtain ⟨b, k, vs, e, g1, g2⟩ := g
  exact ⟨b, k, vs, e, g1.low hw hav, RepL.low cs vs h g2⟩
 | .own _ _, _, h, g => by simp only [Rep] at g ⊢; simp only [QgB, qr] at h; exact ⟨g.1.low hob h, g.2⟩
 | .ownc _ _ _, _, h, g => by simp only [Rep] at g ⊢; simp only [QgB, qr] at h; exact ⟨g.1.low hob h, g.2⟩
 | .view _ _ _ _, _, h, g => by simp only [Rep] at g ⊢; simp only [QgB, qr] at h; exact ⟨g.1.low hob h, g.2⟩
 | .ref _ _ _, _, h, g => by simp only [Rep] at g ⊢; simp only [QgB, qr] at h; exact ⟨g.1.low hob h, g.2⟩
 | .agg cs, _, h, g => by
  simp only [Rep] at g ⊢
  simp only [QgB] at h
  obtain ⟨vs, e, g2⟩ := g
  exact ⟨vs, e, RepL.low cs vs h g2⟩
 | .tup cs, _, h, g => by
  simp only [Rep] at g ⊢
  simp only [QgB] at h
  obtain ⟨vs, e, g2⟩ := g
  exact ⟨vs, e, RepL.low cs vs h g2⟩
 | .fn _ fs cs, _, h, g => by
  simp only [Rep] at g ⊢
  simp only [QgB, qo] at h
  obtain ⟨va, vb, e, g1, g2⟩ := g
  exact ⟨va, vb, e, RepL.low fs va h.1 g1, RepL.low cs vb h.2 g2⟩
theorem RepL.low : ∀ (cs : List AV) (vs : List Value), lowL m cs = true → RepL X cs vs → RepL Y cs vs
 | [], _, _, g => by simp only [RepL] at g ⊢; exact g
 | c :: cs, _, h, g => by
  simp only [RepL] at g ⊢
  simp only [lowL, qo] at h
  obtain ⟨v, rest, e, g1, g2⟩ := g
  exact ⟨v, rest, e, Rep.low c v h.1 g1, RepL.low cs rest h.2 g2⟩
end
end
def Low (m : Nat) (ob : List Ob) : Prop := ∀ x ∈ ob, lowL m x.cs = true
theorem Low.set {m o : Nat} {ob : List Ob} {x : Ob} (h : Low m ob) (hx : lowL m x.cs = true) : Low m (ob.set o x) := fun y hy => by
 rcases List.mem_or_eq_of_mem_set hy with h1 | h1
 ·exact h y h1
 ·rw [h1]; exact hx
theorem Low.nil {m : Nat} : Low m [] := fun x hx => by simp at hx
theorem Low.cons {m : Nat} {x : Ob} {ob : List Ob} (hx : lowL m x.cs = true) (h : Low m ob) : Low m (x :: ob) := fun y hy => by
 rcases ym.1 hy with h1 | h1
 ·rw [h1]; exact hx
 ·exact h y h1
theorem Held.low {B : Nat} {w : World} {ob J : List Ob} {be : List (Option (Nat × Nat))} {C : Nat → Nat → Prop} (g : Held B ⟨w, ob ++ J, be, C⟩) (hl : Low ob.length ob) :
  Held B ⟨w, ob, be.take ob.length, C⟩ ∧ (∀ (c : AV) (v : Value), QgB ob.length c = true → Rep ⟨w, ob ++ J, be, C⟩ c v → Rep ⟨w, ob, be.take ob.length, C⟩ c v) ∧
   (∀ (X : Cx), X.ob.length ≤ ob.length → Moves X ⟨w, ob ++ J, be, C⟩ → Moves X ⟨w, ob, be.take ob.length, C⟩) := by
 let X : Cx := ⟨w, ob ++ J, be, C⟩
 let Y : Cx := ⟨w, ob, be.take ob.length, C⟩
 have hlb : be.length = (ob ++ J).length := g.len
 have hob : ∀ o, o < ob.length → Y.ob[o]? = X.ob[o]? ∧ Y.be[o]? = X.be[o]? := fun o ho => ⟨by simp only [X, Y]; rw [qp ho], by simp only [X, Y]; rw [jc ho]⟩
 have hav : ∀ b k, Y.av b k → X.av b k := by
  rintro b k (h | ⟨o, y, c, h1, h2, h3⟩)
  ·exact .inl h
  ·have ho : o < ob.length := (qd.1 h1).1
   exact .inr ⟨o, y, c, by rw [← (hob o ho).1]; exact h1, by rw [← (hob o ho).2]; exact h2, h3⟩
 have hrep : ∀ (c : AV) (v : Value), QgB ob.length c = true → Rep X c v → Rep Y c v := fun c v h r => Rep.low (X := X) (Y := Y) rfl hav hob c v h r
 have hrepL : ∀ (c : List AV) (v : List Value), lowL ob.length c = true → RepL X c v → RepL Y c v := fun c v h r => RepL.low (X := X) (Y := Y) rfl hav hob c v h r
 rw [qx] at hlb
 refine ⟨⟨by simp; omega, fun o y e hy he => ?_, fun o o' b c c' h1 h2 => g.inj o o' b c c' (ZR h1).2 (ZR h2).2, fun o b c h1 => g.base o b c (ZR h1).2, g.bnd, g.size⟩, hrep, fun Z hZ hm => ⟨fun b k v hc ha => ?_, fun o x hx => ?_, fun b hb hf => ⟨(hm.blk b hb hf).1, fun o c h => (hm.blk b hb hf).2 o c (ZR h).2⟩⟩⟩
 ·have hy' : ob[o]? = some y := hy
  have ho : o < ob.length := (qd.1 hy').1
  have := g.ok o y e (by show (ob ++ J)[o]? = _; rw [qp ho]; exact hy') (ZR he).2
  cases e with
  | none => exact this
  | some p =>
   obtain ⟨b, cap⟩ := p
   obtain ⟨cur, r1, r2, r3, r4, r5, r6, r7⟩ := this
   exact ⟨cur, r1, r2, r3, r4, r5, hrepL _ _ (hl y (yt hy')) r6, r7⟩
 ·obtain ⟨h1, h2⟩ := hm.cell b k v hc ha
  exact ⟨h1, fun h => h2 (hav b k h)⟩
 ·obtain ⟨y, hy, h1, h2⟩ := hm.ob o x hx
  have ho : o < ob.length := by have := (qd.1 hx).1; omega
  obtain ⟨e1, e2⟩ := hob o ho
  exact ⟨y, by rw [e1]; exact hy, h1, fun h0 => ⟨(h2 h0).1, fun e => by rw [e2]; exact (h2 h0).2 e⟩⟩
theorem Le.low {M : Nat} {fr fr' : List (Nat × AV)} {ob J : List Ob} (hM : M ≤ ob.length) (hl : Low ob.length ob) (hfr : ∀ p ∈ fr', p.2 = .any ∨ (p.2 = Am.look fr p.1 ∧ QgB ob.length p.2 = true)) : Le M ⟨fr, ob ++ J⟩ ⟨fr', ob⟩ := by
 intro Γ a w hX ⟨q1, q2, q3, be, g, hm, hfr0⟩
 obtain ⟨g1, g2, g3⟩ := g.low hl
 refine ⟨q1, q2, q3, _, g1, g3 _ (by omega) hm, fun i => ?_⟩
 have key : ∀ l : List (Nat × AV), (∀ p ∈ l, p.2 = .any ∨ (p.2 = Am.look fr p.1 ∧ QgB ob.length p.2 = true)) → Am.look l i = .any ∨ (Am.look l i = Am.look fr i ∧ QgB ob.length (Am.look l i) = true) := by
  intro l
  induction l with
  | nil => intro _; exact .inl rfl
  | cons p l ih =>
   obtain ⟨j, v⟩ := p
   intro h
   simp only [Am.look]
   split
   ·rename_i e
    subst e
    exact h (i, v) (by simp)
   ·exact ih fun p hp => h p (by simp [hp])
 show Rep _ (Am.look fr' i) _
 rcases key fr' hfr with h1 | ⟨h1, h2⟩
 ·rw [h1]; simp only [Rep]
 ·rw [h1] at h2 ⊢
  exact g2 _ _ h2 (hfr0 i)
theorem ACall.low {P : Prg} {f : FuncId} {avs : List AV} {ob0 : List Ob} {K : AV → List Ob → Prop}
  (h : ACall P f avs ob0 (fun r ob' => ∃ ob J, ob' = ob ++ J ∧ ob0.length ≤ ob.length ∧ Low ob.length ob ∧ QgB ob.length r = true ∧ K r ob)) : ACall P f avs ob0 K := by
 obtain ⟨hE, h⟩ := h
 refine ⟨hE, fun B w0 be0 C vs g0 hG hr => (h B w0 be0 C vs g0 hG hr).mono ?_⟩
 rintro e w ⟨v, r, ob', be, rfl, hb, g, hm, hv, ob, J, rfl, hlen, hl, hr, hk⟩
 obtain ⟨g1, g2, g3⟩ := g.low hl
 exact ⟨v, r, ob, _, rfl, hb, g1, g3 _ hlen hm, g2 _ _ hr hv, hk⟩
end Go.Am
/- The abstract machine: what speaks of objects speaks of such that are there; an empty slice in a place that was kept. -/
namespace Go.Am
open Go.RowKit
theorem Qf.ent {P : Prg} {f N : Nat} {rl : List ResultVar} {ac : AC} (b : Qf P f N rl ac) : QgA P f := by
 obtain ⟨fn, hf, hn, _, _, hc⟩ := b
 refine ⟨fn, hf, hn, ?_⟩
 cases hb : fn.body with
 | none => rw [hb] at hc; cases hc
 | some c => rfl
end Go.Am
/- The abstract machine: a round of a range over a function. -/
namespace Go.Am
open Go.RowKit
def RF (l : Nat) : Fence := Fence.wide.inRound l
theorem QxC {P : Program} {c : Call} : cOp P (.defer c) = none := rfl
theorem Qe3 {P : Program} {N : Nat} {ops : Array Oper} {o : Oper} {q : AO} (h : Qby P N ops o = some q) (hq : q.op ≠ .op .bad) : ∀ c, o.op ≠ .defer c := by
 intro c hc
 obtain ⟨c1, _, _, _⟩ := J1 h
 rw [hc] at c1
 exact hq (by simpa [cAK, cFn, QxC] using c1.symm)
theorem QBJ {lp : Nat} {o : Oper} (h : ∀ c, o.op ≠ .defer c) (ρ : Operand → Value) : o.semAt (RF lp).round ρ = execOp ρ o := Oper.semAt_some lp ρ o h
theorem QAi {lp n : Nat} {P : Program} {f : FuncId} {args : Array Value} {w : World} {R : Ending → World → Prop} (h : Calls P f args w R) : CallsIn (RF lp) n P f args w R := CallsIn.inRound lp (callsIn_wide.2 h)
section
variable {P : Prg} {N : Nat} {Γ : Ctx} {lp n : Nat}
theorem Qcb (hN : Fit P N Γ) {ops : Array Oper} {Q : Exit → Act → World → Prop} {K : St → Prop} (hK : ∀ st a w, K st → Sim Γ st a w → Q .normal a w) : ∀ (l : List Oper) (qs : List AO) (st : St) (a : Act) (w : World),
  l.mapM (Qby P N ops) = some qs → wpO P qs K st → Sim Γ st a w → wpListIn (RF lp) n P ops Q l a w
 | [], qs, st, a, w, hl, hw, hs => by
  simp at hl
  subst hl
  simp only [wpO] at hw
  exact hK st a w hw hs
 | o :: l, qs, st, a, w, hl, hw, hs => by
  simp only [yQ, yu, qC, qn, qi] at hl
  obtain ⟨q, hq, qs', hqs, rfl⟩ := hl
  have hsp := J1 hq
  obtain ⟨c1, c2, c3, _⟩ := hsp
  obtain ⟨be, g, hm0, hη, hfr⟩ := hs.eta hN.2
  have hd : ∀ d, o.dst = some d → d < Γ.N := fun d e => by rw [hN.1]; exact c3 d e
  simp only [wpO] at hw
  unfold wpListIn
  split at hw
  case h_3 => exact hw.elim
  case h_2 hwant =>
   have hwd := ZV hq hfr hwant
   rw [hwd]
   simp only [qS, yl]
   rw [c2] at hw
   exact ⟨fun _ _ => trivial, Qcb hN hK l qs' _ _ _ hqs hw (hs.put hd hm0 hfr (Below.refl _ _) g (Moves.refl _) (by simp [Rep, undef, RepL]))⟩
  case h_1 hwant =>
   have hwd := ZV hq hfr hwant
   rw [hwd]
   simp only [yf]
   have call : ∀ (f : FuncId) (avs : List AV) (vs : List Value), RepL ⟨w, st.ob, be, Γ.X0.C⟩ avs vs → (∀ c, o.op ≠ .defer c) → (execOp a.eval o).run P w = (callFunc f vs.toArray).run P w →
     ACall P f avs st.ob (fun r ob' => wpO P qs' K ⟨Xy st.fr o.dst r, ob'⟩) → o.wpIn (RF lp) n P a w (wpListIn (RF lp) n P ops Q l) Q := by
    intro f avs vs hr hnd hrun hcall
    obtain ⟨he, hcall⟩ := hcall
    unfold Oper.wpIn
    refine ⟨fun _ _ => trivial, ?_⟩
    rw [QBJ hnd, hrun, JW he]
    refine ⟨(fun h => by cases h), (QAi (hcall Γ.B w be Γ.X0.C vs g (hN.2.move hm0) hr)).mono ?_⟩
    rintro e w' ⟨v, r, ob', be', rfl, hb, hh, hm, hv, hk⟩
    exact Qcb hN hK l qs' _ _ _ hqs hk (hs.put hd hm0 hfr hb hh hm hv)
   split at hw
   ·rename_i f args hop
    rw [c2] at hw
    rw [hop] at c1
    obtain ⟨c, ho, hcal, rfl⟩ := Qh8 c1
    refine call f _ _ (ZM g hη c.args.toList) (fun c e => by rw [ho] at e; cases e) ?_ hw
    have : c.args.map a.eval = (c.args.toList.map a.eval).toArray := by apply yN; simp
    simp only [execOp, ho, resolve, hcal, Deferred.ofValue, Act.eval, invoke, Sem.run_bind, Sem.run_pure, Result.andThen_ok, ← this]
    simp
   ·rename_i f args hop
    rw [c2] at hw
    rw [hop] at c1
    obtain ⟨c, ho, hcal, rfl⟩ := Qdv c1
    split at hw
    case h_2 => exact hw.elim
    rename_i fid fs cs hf
    have hr := hfr f
    rw [hf] at hr
    simp only [Rep] at hr
    obtain ⟨va, vb, e1, e2, e3⟩ := hr
    have e4 : a.eval (.tmp f) = .func (.func fid) va.toArray vb.toArray := e1
    refine call fid _ _ ((e2.append (ZM g hη c.args.toList)).append e3) (fun c e => by rw [ho] at e; cases e) ?_ hw
    have : va.toArray ++ c.args.map a.eval ++ vb.toArray = (va ++ c.args.toList.map a.eval ++ vb).toArray := by apply yN; simp
    simp only [execOp, ho, resolve, hcal, e4, Deferred.ofValue, invoke, Sem.run_bind, Sem.run_pure, Result.andThen_ok, this]
   ·rename_i p hop
    rw [hop] at c1
    split at hw
    case h_2 => exact hw.elim
    rename_i v u hv
    rw [c2] at hw
    obtain ⟨vv, w', be', hr, hb, hh, hm, hrep⟩ := Qgs g hη (.inl rfl) (fun _ => rfl) (o := o) (Qpw c1 (Qe0 hv)) hv
    have hnd := Qe3 hq (by rw [hop]; intro e; cases e; exact Qe0 hv rfl)
    unfold Oper.wpIn
    refine ⟨fun _ _ => trivial, ?_⟩
    rw [QBJ hnd]
    rcases hr with hr | ⟨hr, rfl⟩
    ·rw [hr]
     exact Qcb hN hK l qs' _ _ _ hqs hw (hs.put hd hm0 hfr hb hh hm hrep)
    ·rw [hr]
     exact Qcb hN hK l qs' _ _ _ hqs hw (hs.put hd hm0 hfr hb hh hm hrep)
theorem Qyw (hN : Fit P N Γ) {ops : Array Oper} {i : Nat} {o : Oper} (ho : ops[i]? = some o) {x : It} (hq : Qby P N ops o = some x.q) {st st1 : St} (hst : Qbt P x st st1) (hsp : x.q.fr = true → QpW st.ob x.id) {a : Act} {w : World} (hs : Sim Γ st a w)
  {Q : Exit → Act → World → Prop} {K : Act → World → Prop} (hK : ∀ a' w', Sim Γ st1 a' w' → K a' w') : wpOpIn (RF lp) n P ops Q i K a w := by
 unfold wpOpIn
 rw [ho]
 simp only
 have hnb : Region.wanted o (yielded ops a.tmps) = true → ∀ c, o.op ≠ .defer c := by
  intro hw
  refine Qe3 hq fun hb => ?_
  obtain ⟨be, g, hm0, hη, hfr⟩ := hs.eta hN.2
  have hst' := hst
  unfold Qbt at hst'
  split at hst'
  ·rw [hb] at hst'
   obtain ⟨v, u, h, _⟩ := hst'
   have h' : Qdp (x.dat && QK AOp.bad) none = some (v, u) := h
   cases hb2 : (x.dat && QK AOp.bad) <;> rw [hb2] at h' <;> simp [Qdp] at h'
  ·rename_i hwant
   have := ZV hq hfr hwant
   rw [this] at hw
   cases hw
  ·exact hst'
 rcases Qiz hN hq hst hsp hs with ⟨h1, h2⟩ | ⟨h1, v, w', h2, h3⟩ | ⟨h1, f, vs, h2, h3⟩
 ·rw [h1]; exact ⟨fun _ _ => trivial, hK _ _ h2⟩
 ·have hnd := hnb h1
  rw [h1]
  unfold Oper.wpIn
  refine ⟨fun _ _ => trivial, ?_⟩
  rw [QBJ hnd]
  rcases h2 with h2 | ⟨h2, rfl⟩ <;> rw [h2] <;> exact hK _ _ h3
 ·have hnd := hnb h1
  rw [h1]
  unfold Oper.wpIn
  refine ⟨fun _ _ => trivial, ?_⟩
  rw [QBJ hnd, h2]
  refine ⟨(fun h => by cases h), (QAi h3).mono ?_⟩
  rintro e w' ⟨v, rfl, h4⟩
  exact hK _ _ h4
theorem QpY (hN : Fit P N Γ) {ops : Array Oper} {qs : List AO} {xs : List It} {nf M : Nat} (hqs : ops.toList.mapM (Qby P N ops) = some qs) (hxs : xs.map (·.q) = qs) (hok : QcA ops xs nf = true) {K : Act → World → Prop} {Q : Exit → Act → World → Prop}
  {t : St} (hK : ∀ a w, Sim Γ t a w → Q .normal a w) :
  ∀ (fuel : Nat) (listed : Array Bool) (s : St) (a : Act) (w : World), listed.size = xs.length → fuel = (QH xs.length listed).length →
   (∀ (j : Nat) (af : List Nat), (XO ops)[j]? = some af → listed.getD j false = true → ∀ e ∈ af, listed.getD e false = true) →
   Qhh P ((QH xs.length listed).map fun i => up M (xs.getD i Qa3)) s t → QAm ((QH xs.length listed).map fun i => up M (xs.getD i Qa3)) s → Sim Γ s a w → wpAnyIn (RF lp) n P .any ops Q fuel listed a w := by
 obtain ⟨hlen, hget⟩ := QcB hqs
 have hn : ops.size = xs.length := by
  have h1 : qs.length = xs.length := by rw [← hxs]; simp
  rw [← h1, hlen]; simp
 have hcop : ∀ i o, ops[i]? = some o → Qby P N ops o = some (xs.getD i Qa3).q := fun i o ho => by
  obtain ⟨y, hy, hc⟩ := hget i o (by simpa using ho)
  rw [← hxs, qK] at hy
  obtain ⟨x, hx, rfl⟩ := qb.1 hy
  rw [qe, hx]
  exact hc
 simp only [QcA, ya, jL, qo, qr] at hok
 have hdist : ∀ k j, k < j → j < xs.length → (xs.getD k Qa3).q.fr = true → (xs.getD j Qa3).q.fr = true → (xs.getD k Qa3).id ≠ (xs.getD j Qa3).id := fun k j hkj hj h1 h2 => by
  have := ((hok j hj).2 k hkj).2
  rw [h1, h2] at this
  simpa using this
 have hsorted : ∀ listed : Array Bool, (QH xs.length listed).Pairwise (· < ·) := fun listed => (List.pairwise_lt_range).filter _
 have hmem : ∀ (listed : Array Bool) i, i ∈ QH xs.length listed ↔ i < xs.length ∧ listed.getD i true = false := fun listed i => by
  unfold QH
  rw [yX, jL]
  simp
 intro fuel
 induction fuel with
 | zero =>
  intro listed s a w hsz hf hcl hch hp hs
  have hnil : QH xs.length listed = [] := qG hf.symm
  rw [hnil] at hch
  refine ⟨?_, hK a w (Sim.same hch hs)⟩
  refine List.eq_nil_iff_forall_not_mem.2 fun j hj => ?_
  obtain ⟨h0, o, ho, _⟩ := mem_ready.1 hj
  have : j ∈ QH xs.length listed := (hmem _ _).2 ⟨by rw [← hn]; exact (qt.1 ho).1, h0⟩
  rw [hnil] at this
  cases this
 | succ fuel ih =>
  intro listed s a w hsz hf hcl hch hp hs
  have haf : ∀ (j : Nat) (o : Oper), ops[j]? = some o → (XO ops)[j]? = some ((o.after.toList.filter (Region.binds .any)).map (·.on)) := fun j o ho => by
   unfold XO
   rw [qK]
   have : ops.toList[j]? = some o := by simpa using ho
   rw [this]; rfl
  refine ⟨fun hr => ?_, fun j hj => ?_⟩
  · -- the first QH is ready
   exfalso
   cases hu : QH xs.length listed with
   | nil => rw [hu] at hf; cases hf
   | cons i rest =>
    have hi := (hmem listed i).1 (by rw [hu]; simp)
    have hlt : i < ops.size := by rw [hn]; exact hi.1
    have ho : ops[i]? = some ops[i] := qQ hlt
    have hready : i ∈ Region.ready .any ops listed := by
     refine mem_ready.2 ⟨hi.2, ops[i], ho, fun e he hb => ?_⟩
     have h1 := ((hok i hi.1).1.1) e.on (by
      rw [qe, haf i _ ho]
      simp only [yD, qY, yX]
      exact ⟨e, ⟨by simpa using he, hb⟩, rfl⟩)
     cases hle : listed.getD e.on false with
     | true => rfl
     | false =>
      exfalso
      have hlt2 : e.on < listed.size := by rw [hsz]; omega
      have : e.on ∈ QH xs.length listed := (hmem listed e.on).2 ⟨by omega, by
       simp only [qD, qQ hlt2, yD] at hle ⊢
       exact hle⟩
      rw [hu] at this
      have hs := hsorted listed
      rw [hu, jP] at hs
      rcases ym.1 this with h2 | h2
      ·omega
      ·have := hs.1 _ h2; omega
    rw [hr] at hready
    cases hready
  ·obtain ⟨h0, o, ho, hall⟩ := mem_ready.1 hj
   have hjlt : j < xs.length := by rw [← hn]; exact (qt.1 ho).1
   have hjm : j ∈ QH xs.length listed := (hmem _ _).2 ⟨hjlt, h0⟩
   obtain ⟨pre, post, hsplit⟩ := List.append_of_mem hjm
   have hnext := Qhn hsz hjlt hsplit
   have hsrt := hsorted listed
   rw [hsplit] at hsrt
   rw [j4] at hsrt
   obtain ⟨s1, s2, s3⟩ := hsrt
   have haj := haf j o ho
   have hpreds : ∀ k, ((Quy [] (XO ops)).getD j 0).testBit k = true → listed.getD k false = true :=
    QgL (XO ops) (fun k => listed.getD k false = true) hcl (XO ops) [] [] (by simp) rfl (by simp) j _ haj (fun e he => by
     simp only [qY, yX] at he
     obtain ⟨e', ⟨he1, he2⟩, rfl⟩ := he
     exact hall e' (by simpa using he1) he2)
   have hind : ∀ k ∈ pre, Ind (xs.getD k Qa3) (xs.getD j Qa3) := fun k hk => by
    have hkj : k < j := s3 k hk j (by simp)
    have hku : k ∈ QH xs.length listed := by rw [hsplit]; simp [hk]
    have h2 := ((hok j hjlt).2 k hkj).1
    simp only [jW] at h2
    rcases h2 with h2 | h2
    ·exfalso
     have h3 := hpreds k h2
     have h4 := ((hmem _ _).1 hku).2
     have hlt2 : k < listed.size := by rw [hsz]; omega
     simp only [qD, qQ hlt2, yD] at h3 h4
     rw [h3] at h4
     cases h4
    ·exact Qo7 h2
   rw [hsplit, yp, yg] at hch hp
   have hpw : ((pre.map fun i => up M (xs.getD i Qa3)) ++ up M (xs.getD j Qa3) :: (post.map fun i => up M (xs.getD i Qa3))).Pairwise (fun a b => a.q.fr = true → b.q.fr = true → a.id ≠ b.id) := by
    have : ((pre ++ j :: post).map fun i => up M (xs.getD i Qa3)).Pairwise (fun a b => a.q.fr = true → b.q.fr = true → a.id ≠ b.id) := by
     rw [List.pairwise_map]
     have hs := hsorted listed
     rw [hsplit] at hs
     refine hs.imp_of_mem ?_
     intro k i hk hi hlt h1 h2 e
     have hi' : i < xs.length := ((hmem listed i).1 (by rw [hsplit]; exact hi)).1
     refine hdist k i hlt hi' h1 h2 ?_
     have a1 := Qog (x := xs.getD k Qa3) h1 M
     have a2 := Qog (x := xs.getD i Qa3) h2 M
     omega
    simpa [yp, yg] using this
   have hstep : ∀ (y : It) (s s1 : St), y ∈ (pre.map fun i => up M (xs.getD i Qa3)) → Fine Γ s → (y.q.fr = true → s.ob[y.id]? = some ph) → Qbt P y s s1 → Fine Γ s1 := by
    intro y s s1 hy hF hph hst
    obtain ⟨k, hk, rfl⟩ := qY.1 hy
    have hku : k ∈ QH xs.length listed := by rw [hsplit]; simp [hk]
    have hklt : k < ops.size := by rw [hn]; exact ((hmem _ _).1 hku).1
    exact Qon (x := up M (xs.getD k Qa3)) hN (hcop k _ (qQ hklt)) hst (fun h => .inr (hph h)) hF
   obtain ⟨sj, hj1, hj2⟩ := Qhh.front (Fine Γ) (fun s h => Qd4 hN h) ⟨a, w, hs⟩ hp hstep (fun y hy => by
    obtain ⟨k, hk, rfl⟩ := qY.1 hy
    exact (hind k hk).up M) hpw hch
   have hpj : (up M (xs.getD j Qa3)).q.fr = true → s.ob[(up M (xs.getD j Qa3)).id]? = some ph := hp _ (by simp)
   have hpn : QAm ((pre.map fun i => up M (xs.getD i Qa3)) ++ (post.map fun i => up M (xs.getD i Qa3))) sj := by
    refine hj1.pend (Qd4 hN ⟨a, w, hs⟩) hpj (fun y hy => hp y ?_) (fun y hy h1 h2 => ?_)
    ·rcases qB.1 hy with hy | hy
     ·exact qB.2 (.inl hy)
     ·exact qB.2 (.inr (jg _ hy))
    ·rw [j4, jP] at hpw
     rcases qB.1 hy with hy | hy
     ·exact fun e => hpw.2.2 y hy _ (by simp) h2 h1 e.symm
     ·exact hpw.2.1.1 y hy h1 h2
   refine Qyw hN ho (x := up M (xs.getD j Qa3)) (hcop j o ho) hj1 (fun h => .inr (hpj h)) hs fun a' w' hs' => ?_
   refine ih (listed.setIfInBounds j true) sj a' w' (by simpa using hsz) ?_ ?_ ?_ ?_ hs'
   ·rw [hnext]
    rw [hsplit] at hf
    simp at hf ⊢
    omega
   ·intro k af hk hkl e he
    by_cases hkj : k = j
    ·subst hkj
     rw [haj] at hk
     cases hk
     simp only [qY, yX] at he
     obtain ⟨e', ⟨he1, he2⟩, rfl⟩ := he
     exact getD_set_true (hall e' (by simpa using he1) he2)
    ·rw [getD_set_ne false (fun h => hkj h.symm)] at hkl
     exact getD_set_true (hcl k af hk hkl e he)
   ·rw [hnext, yp]; exact hj2
   ·rw [hnext, yp]; exact hpn
theorem Qtv (hN : Fit P N Γ) {id : Nat} {ops : Array Oper} {qs : List AO} {xs : List It} {nf : Nat} (hm : P.prog.follows .mixedOrders = true) (hqs : ops.toList.mapM (Qby P N ops) = some qs) (hxs : xs.map (·.q) = qs) (hok : QcA ops xs nf = true)
  {Q : Exit → Act → World → Prop} {K : St → Prop} (hK : ∀ st a w, K st → Sim Γ st a w → Q .normal a w) {st : St} (hw : wpD P st.ob.length xs K ⟨st.fr, st.ob ++ List.replicate nf ph⟩) {a : Act} {w : World} (hs : Sim Γ st a w) :
  (Code.region id ops true).wpIn (RF lp) n P Q a w := by
 refine wpIn_region_any hm ?_
 obtain ⟨t, hch, hk⟩ := Qif hw
 obtain ⟨hlen, hget⟩ := QcB hqs
 have hn : ops.size = xs.length := by
  have h1 : qs.length = xs.length := by rw [← hxs]; simp
  rw [← h1, hlen]; simp
 have hun : QH xs.length (Array.replicate ops.size false) = List.range xs.length := by
  unfold QH
  refine j8.2 fun i hi => ?_
  have : i < ops.size := by rw [hn]; simpa using hi
  simp [this]
 have hmap : ((List.range xs.length).map fun i => up st.ob.length (xs.getD i Qa3)) = xs.map (up st.ob.length) := by
  apply jj
  intro i
  rw [qK, qK]
  by_cases h : i < xs.length
  ·rw [List.getElem?_range h, qg h]
   simp [qe, qg h]
  ·rw [yi (by simpa using h), yi (by simpa using h)]
   rfl
 have hs0 : Sim Γ st a { w with drawn := w.drawn + 1 } := by
  obtain ⟨q1, q2, q3, be, g, hm0, hfr⟩ := hs
  have hb : Below w.heap.size w { w with drawn := w.drawn + 1 } := (Below.refl _ _).drew
  have mv := Moves.below (X := ⟨w, st.ob, be, Γ.X0.C⟩) hb
  exact ⟨q1, q2, q3.trans (hb.mono g.size), be, g.below (X := ⟨w, st.ob, be, Γ.X0.C⟩) hb, hm0.trans mv, fun i => Rep.move mv _ _ (hfr i)⟩
 refine QpY hN hqs hxs hok (K := fun _ _ => True) (M := st.ob.length) (t := t) (fun a w h => hK t a w hk h) _ _ _ _ _ (by simp [hn]) (by rw [hun]; simp [hn]) ?_ ?_ ?_ (Sim.places nf hs0)
 ·intro j af _ h
  exfalso
  by_cases hj : j < ops.size <;> simp [hj] at h
 ·rw [hun, hmap]; exact hch
 ·rw [hun, hmap]
  intro x hx hf
  obtain ⟨y, hy, rfl⟩ := qY.1 hx
  obtain ⟨i, hi, e⟩ := j6.1 hy
  simp only [QcA, ya, jL, qo, jW, jY, qr] at hok
  have h1 := (hok i hi).1.2
  have h2 : xs.getD i Qa3 = y := by rw [qe, qg hi]; exact e
  rw [h2] at h1
  rcases h1 with h1 | h1
  ·simp only [up] at hf; rw [h1] at hf; cases hf
  ·show (st.ob ++ List.replicate nf ph)[(up st.ob.length y).id]? = some ph
   rw [Qog (x := y) hf]
   rw [qI (by omega)]
   simp [h1]
end
def QDS (lp n : Nat) (P : Prg) (N M : Nat) (c : Code) (Q : Exit → St → Prop) (st : St) : Prop :=
 ∀ (Γ : Ctx) (a : Act) (w : World), Fit P N Γ → Γ.X0.ob.length = M → Sim Γ st a w → c.wpIn (RF lp) n P (fun e a' w' => ∃ st', Q e st' ∧ Sim Γ st' a' w') a w
def Qav : AC → Bool
 | .seq a b => Qav a && Qav b
 | .cond _ a b => Qav a && Qav b
 | .block _ c => Qav c
 | .loop _ => false
 | _ => true
theorem JV {lp n : Nat} {P : Prg} {N M : Nat} : ∀ (c : Code) (ac : AC) (Q : Exit → St → Prop) (st : St), Qav ac = true → Qx P N c = some ac → wpC P N M ac Q st → QDS lp n P N M c Q st
 | .skip, ac, Q, st, hl, hc, h => by
  simp only [Qx, qi] at hc
  subst hc
  simp only [wpC] at h
  exact fun Γ a w _ _ hs => wpIn_skip ⟨st, h, hs⟩
 | .region id ops d, ac, Q, st, hl, hc, h => by
  simp only [Qx] at hc
  split at hc
  case h_2 => cases hc; exact h.elim
  rename_i qs hq
  split at hc
  ·rename_i hd
   subst hd
   split at hc
   case isFalse => cases hc; exact h.elim
   cases hc
   rename_i hok
   simp only [qo] at hok
   simp only [wpC] at h
   exact fun Γ a w h1 _ hs => Qtv h1 hok.1 hq (QsP ops qs) hok.2 (fun st a w hk hs => ⟨st, hk, hs⟩) h hs
  ·rename_i hd
   cases hc
   have hd' : d = false := by simpa using hd
   subst hd'
   simp only [wpC] at h
   exact fun Γ a w h1 _ hs => wpIn_region_list (Qcb h1 (fun st a w hk hs => ⟨st, hk, hs⟩) _ qs st a w hq h hs)
 | .seq x y, ac, Q, st, hl, hc, h => by
  simp only [Qx] at hc
  split at hc
  case h_2 => cases hc
  rename_i ax hx
  split at hc <;> cases hc
  rename_i ay hy
  simp only [wpC] at h
  intro Γ a w h1 h2 hs
  refine wpIn_seq (wpIn_mono (JV x ax _ st (by simp [Qav] at hl; exact hl.1) hx h Γ a w h1 h2 hs) ?_)
  rintro e a' w' ⟨st', hq, hs'⟩
  cases e with
  | normal => exact JV y ay Q st' (by simp [Qav] at hl; exact hl.2) hy hq Γ a' w' h1 h2 hs'
  | exit id => exact ⟨st', hq, hs'⟩
  | goto l => exact ⟨st', hq, hs'⟩
  | ret => exact ⟨st', hq, hs'⟩
  | panic ch => exact ⟨st', hq, hs'⟩
  | outgrown => exact ⟨st', hq, hs'⟩
 | .cond x y z, ac, Q, st, hl, hc, h => by
  simp only [Qx] at hc
  split at hc
  case h_2 => cases hc
  rename_i ay hy
  split at hc <;> cases hc
  rename_i az hz
  simp only [wpC] at h
  intro Γ a w h1 h2 hs
  obtain ⟨be, g, hm0, hη, hfr⟩ := hs.eta h1.2
  have hr := hη x
  split at h
  ·rename_i t hx
   rw [hx] at hr
   simp only [Rep] at hr
   refine wpIn_cond hr ?_
   cases t
   ·exact JV z az Q st (by simp [Qav] at hl; exact hl.2) hz h Γ a w h1 h2 hs
   ·exact JV y ay Q st (by simp [Qav] at hl; exact hl.1) hy h Γ a w h1 h2 hs
  ·rename_i hx
   rw [hx] at hr
   simp only [Rep] at hr
   obtain ⟨t, hr⟩ := hr
   refine wpIn_cond hr ?_
   cases t
   ·exact JV z az Q st (by simp [Qav] at hl; exact hl.2) hz h.2 Γ a w h1 h2 hs
   ·exact JV y ay Q st (by simp [Qav] at hl; exact hl.1) hy h.1 Γ a w h1 h2 hs
  ·exact h.elim
 | .block id c, ac, Q, st, hl, hc, h => by
  simp only [Qx, qb] at hc
  obtain ⟨x, hx, rfl⟩ := hc
  simp only [wpC] at h
  intro Γ a w h1 h2 hs
  refine wpIn_block (wpIn_mono (JV c x _ st (by simpa [Qav] using hl) hx h Γ a w h1 h2 hs) ?_)
  rintro e a' w' ⟨st', hq, hs'⟩
  cases e with
  | exit j =>
   simp only [Qtn] at hq
   simp only [Exit.inBlock]
   split
   ·rename_i e; rw [qc e] at hq; exact ⟨st', hq, hs'⟩
   ·rename_i e; rw [qa e] at hq; exact ⟨st', hq, hs'⟩
  | normal => exact ⟨st', hq, hs'⟩
  | goto l => exact ⟨st', hq, hs'⟩
  | ret => exact ⟨st', hq, hs'⟩
  | panic ch => exact ⟨st', hq, hs'⟩
  | outgrown => exact ⟨st', hq, hs'⟩
 | .loop c, ac, Q, st, hl, hc, h => by
  simp only [Qx, qb] at hc
  obtain ⟨x, hx, rfl⟩ := hc
  simp [Qav] at hl
 | .exit id, ac, Q, st, hl, hc, h => by
  simp only [Qx, qi] at hc
  subst hc
  simp only [wpC] at h
  exact fun Γ a w _ _ hs => wpIn_exit ⟨st, h, hs⟩
 | .ret, ac, Q, st, hl, hc, h => by
  simp only [Qx, qi] at hc
  subst hc
  simp only [wpC] at h
  exact fun Γ a w _ _ hs => wpIn_ret ⟨st, h, hs⟩
 | .rangeFunc .., _, _, _, _, hc, h => by simp only [Qx, qi] at hc; subst hc; exact h.elim
 | .scope _, _, _, _, _, hc, h => by simp only [Qx, qi] at hc; subst hc; exact h.elim
 | .label _, _, _, _, _, hc, h => by simp only [Qx, qi] at hc; subst hc; exact h.elim
 | .goto _, _, _, _, _, hc, h => by simp only [Qx, qi] at hc; subst hc; exact h.elim
 | .refuse _, _, _, _, _, hc, h => by simp only [Qx, qi] at hc; subst hc; exact h.elim
end Go.Am
/- The abstract machine: a range over a function, the caller's side. -/
namespace Go.Am
open Go.RowKit
structure Qap (X Y : Cx) : Prop where
 cell : ∀ (b k : Nat) (v : Value), X.w.cell? ⟨b, k, none⟩ = some v → ¬ X.av b k → Y.w.cell? ⟨b, k, none⟩ = some v ∧ ¬ Y.av b k
 ob : ∀ (o : Nat) (x : Ob), X.ob[o]? = some x → ∃ y : Ob, Y.ob[o]? = some y ∧ x.n ≤ y.n ∧ (x.sz ≠ 0 → y.sz ≠ 0 ∧ (y.n = x.n → Y.be[o]? = X.be[o]?))
theorem Moves.toC {X Y : Cx} (h : Moves X Y) : Qap X Y := ⟨h.cell, h.ob⟩
theorem Qap.refl (X : Cx) : Qap X X := (Moves.refl X).toC
theorem Qap.trans {X Y Z : Cx} (h : Qap X Y) (g : Qap Y Z) : Qap X Z := by
 refine ⟨fun b k v hc ha => ?_, fun o x hx => ?_⟩
 ·obtain ⟨h1, h2⟩ := h.cell b k v hc ha
  exact g.cell b k v h1 h2
 ·obtain ⟨y, hy, hn, he⟩ := h.ob o x hx
  obtain ⟨z, hz, hm, hf⟩ := g.ob o y hy
  exact ⟨z, hz, jb hn hm, fun h0 => ⟨(hf (he h0).1).1, fun e => by rw [(hf (he h0).1).2 (by omega), (he h0).2 (by omega)]⟩⟩
theorem AtC.moveC {X Y : Cx} (h : Qap X Y) {b k : Nat} {vs : List Value} (g : AtC X b k vs) : AtC Y b k vs :=
 fun i v hv => ⟨h.cell _ _ _ (g i v hv).1.1 (g i v hv).1.2, (g i v hv).2⟩
theorem Cur.moveC {X Y : Cx} (h : Qap X Y) {o ver : Nat} {p : Option (Option (Nat × Nat)) → Prop} (g : Cur X o ver p) : Cur Y o ver p := by
 obtain ⟨x, hx, h0, hn, hp⟩ := g
 obtain ⟨y, hy, hm, he⟩ := h.ob o x hx
 exact ⟨y, hy, (he h0).1, jb hn hm, fun e => by rw [(he h0).2 (by omega)]; exact hp (by omega)⟩
mutual
theorem Rep.moveC {X Y : Cx} (h : Qap X Y) : ∀ (c : AV) (v : Value), Rep X c v → Rep Y c v
 | .any, _, g => g
 | .int _ _, _, g => g
 | .bool _, _, g => g
 | .ubool, _, g => g
 | .str _, _, g => g
 | .lit _, _, g => g
 | .emp _, _, g => g
 | .list _ cs, _, g => by
  simp only [Rep] at g ⊢
  obtain ⟨a, cap, vs, e, gc, g1, g2⟩ := g
  refine ⟨a, cap, vs, e, gc, ?_, RepL.moveC h cs vs g2⟩
  rcases g1 with g1 | ⟨b, k, e1, g1⟩
  ·exact .inl g1
  ·exact .inr ⟨b, k, e1, g1.moveC h⟩
 | .cell cs, _, g => by
  simp only [Rep] at g ⊢
  obtain ⟨b, k, vs, e, g1, g2⟩ := g
  exact ⟨b, k, vs, e, g1.moveC h, RepL.moveC h cs vs g2⟩
 | .own _ _, _, g => by simp only [Rep] at g ⊢; exact ⟨g.1.moveC h, g.2⟩
 | .ownc _ _ _, _, g => by simp only [Rep] at g ⊢; exact ⟨g.1.moveC h, g.2⟩
 | .view _ _ _ _, _, g => by simp only [Rep] at g ⊢; exact ⟨g.1.moveC h, g.2⟩
 | .ref _ _ _, _, g => by simp only [Rep] at g ⊢; exact ⟨g.1.moveC h, g.2⟩
 | .agg cs, _, g => by
  simp only [Rep] at g ⊢
  obtain ⟨vs, e, g2⟩ := g
  exact ⟨vs, e, RepL.moveC h cs vs g2⟩
 | .tup cs, _, g => by
  simp only [Rep] at g ⊢
  obtain ⟨vs, e, g2⟩ := g
  exact ⟨vs, e, RepL.moveC h cs vs g2⟩
 | .fn _ fs cs, _, g => by
  simp only [Rep] at g ⊢
  obtain ⟨va, vb, e, g1, g2⟩ := g
  exact ⟨va, vb, e, RepL.moveC h fs va g1, RepL.moveC h cs vb g2⟩
theorem RepL.moveC {X Y : Cx} (h : Qap X Y) : ∀ (cs : List AV) (vs : List Value), RepL X cs vs → RepL Y cs vs
 | [], _, g => by simp only [RepL] at g ⊢; exact g
 | c :: cs, _, g => by
  simp only [RepL] at g ⊢
  obtain ⟨v, rest, e, g1, g2⟩ := g
  exact ⟨v, rest, e, Rep.moveC h c v g1, RepL.moveC h cs rest g2⟩
end
def KpB (Ts : List Nat) (C : Nat → Nat → Prop) (W W' : World) : Prop :=
 (∀ (b : Nat) (cur : Array Value) (ty : Nat) (fr : Nat × Nat), W.heap[b]? = some (Obj.cells cur ty fr) → ty ∈ Ts → W'.heap[b]? = W.heap[b]?) ∧ (∀ (b k : Nat) (v : Value), ¬ C b k → W.cell? ⟨b, k, none⟩ = some v → W'.cell? ⟨b, k, none⟩ = some v)
theorem KpB.trans {Ts : List Nat} {D : Nat → Nat → Prop} {A B C : World} (h : KpB Ts D A B) (g : KpB Ts D B C) : KpB Ts D A C :=
 ⟨fun b cur ty fr hb ht => (g.1 b cur ty fr ((h.1 b cur ty fr hb ht).trans hb) ht).trans (h.1 b cur ty fr hb ht), fun b k v hv hc => g.2 b k v hv (h.2 b k v hv hc)⟩
theorem Qge {W : World} {a : Addr} {v : Value} (h : W.cell? a = some v) : ∃ o : Obj, W.heap[a.block]? = some o ∧ o.isCells = true := by
 unfold World.cell? at h
 cases ho : W.heap[a.block]? with
 | none => simp [ho] at h
 | some o => exact ⟨o, rfl, by cases o <;> simp_all [Obj.isCells]⟩
theorem KpB.grown {Ts : List Nat} {D : Nat → Nat → Prop} {W W' : World} {row : Option Nat} (hg : W.grownBy W' row) (hr : ∀ r, row = some r → ∃ o : Obj, W.heap[r]? = some o ∧ o.isCells = false) : KpB Ts D W W' := by
 have hne : ∀ (b : Nat) (o : Obj), W.heap[b]? = some o → o.isCells = true → W'.heap[b]? = W.heap[b]? := fun b o hb ho =>
  hg.block b (qt.1 hb).1 fun e => by
   obtain ⟨o', h1, h2⟩ := hr b e.symm
   rw [hb] at h1; cases h1; rw [ho] at h2; cases h2
 refine ⟨fun b cur ty fr hb _ => hne b _ hb rfl, fun b k v _ hc => ?_⟩
 obtain ⟨o, h1, h2⟩ := Qge hc
 rw [World.cell?_of_block (w := W) (hne _ o h1 h2)]
 exact hc
theorem Qap.grown {W W' : World} {ob : List Ob} {be : List (Option (Nat × Nat))} {C : Nat → Nat → Prop} {row : Option Nat} (hg : W.grownBy W' row) (hr : ∀ r, row = some r → ∃ o : Obj, W.heap[r]? = some o ∧ o.isCells = false) : Qap ⟨W, ob, be, C⟩ ⟨W', ob, be, C⟩ := by
 refine ⟨fun b k v hc ha => ⟨?_, ha⟩, fun o x hx => ⟨x, hx, qj _, fun h => ⟨h, fun _ => rfl⟩⟩⟩
 obtain ⟨o, h1, h2⟩ := Qge hc
 refine (World.cell?_of_block (w := W) (hg.block b (qt.1 h1).1 fun e => ?_)).trans hc
 obtain ⟨o', h3, h4⟩ := hr b e.symm
 have h1' : W.heap[b]? = some o := h1
 rw [h1'] at h3; cases h3; rw [h2] at h4; cases h4
theorem Held.grown {B : Nat} {W W' : World} {ob : List Ob} {be : List (Option (Nat × Nat))} {C : Nat → Nat → Prop} {row : Option Nat} (g : Held B ⟨W, ob, be, C⟩) (hg : W.grownBy W' row) (hr : ∀ r, row = some r → ∃ o : Obj, W.heap[r]? = some o ∧ o.isCells = false) : Held B ⟨W', ob, be, C⟩ := by
 refine ⟨g.len, fun o x e hx he => ?_, g.inj, g.base, g.bnd, jb g.size hg.size⟩
 have hok := g.ok o x e hx he
 cases e with
 | none => exact hok
 | some p =>
  obtain ⟨b, cap⟩ := p
  obtain ⟨cur, ⟨fr, h1, h1'⟩, h2, h3, h4, h5, h6, h7⟩ := hok
  refine ⟨cur, ⟨fr, ?_, h1'⟩, h2, h3, h4, h5, RepL.moveC (Qap.grown hg hr) _ _ h6, h7⟩
  refine (hg.block b (qt.1 h1).1 fun e => ?_).trans h1
  obtain ⟨o', h8, h9⟩ := hr b e.symm
  have h1'' : W.heap[b]? = some (.cells cur x.ty fr) := h1
  rw [h1''] at h8; cases h8; cases h9
theorem Moves.grown {X : Cx} {W W' : World} {ob : List Ob} {be : List (Option (Nat × Nat))} {C : Nat → Nat → Prop} {row : Option Nat} (h : Moves X ⟨W, ob, be, C⟩) (hg : W.grownBy W' row) (hr : ∀ r, row = some r → X.w.heap.size ≤ r ∧ ∃ o : Obj, W.heap[r]? = some o ∧ o.isCells = false) : Moves X ⟨W', ob, be, C⟩ := by
 have hc := h.toC.trans (Qap.grown hg fun r e => (hr r e).2)
 refine ⟨hc.cell, hc.ob, fun b hb hf => ?_⟩
 obtain ⟨h1, h2⟩ := h.blk b hb hf
 refine ⟨(hg.block b ?_ fun e => ?_).trans h1, h2⟩
 ·have := qQ hb
  rw [← h1] at this
  exact (qt.1 this).1
 ·have := (hr b e.symm).1
  omega
theorem Moves.keeps {B : Nat} {X Y : Cx} (h : Moves X Y) (g : Held B X) (hs : X.w.heap.size ≤ Y.w.heap.size) (D : Nat) : KeepsFrom D X.w Y.w := by
 refine ⟨hs, fun k o _ hk ho => ?_⟩
 refine (h.blk k (qt.1 hk).1 fun o' c he => ?_).1.trans hk
 have hlt : o' < X.ob.length := by rw [← g.len]; exact (qd.1 he).1
 obtain ⟨cur, ⟨fr, h1, _⟩, _⟩ := g.ok o' _ _ (qg hlt) he
 rw [hk] at h1
 cases h1
 cases ho
theorem Moves.kp {B : Nat} {X Y : Cx} (h : Moves X Y) (g : Held B X) {Ts : List Nat} (hT : ∀ x ∈ X.ob, x.ty ∉ Ts) {D : Nat → Nat → Prop} (hat : ∀ b k, ¬ D b k → ¬ X.av b k) : KpB Ts D X.w Y.w := by
 refine ⟨fun b cur ty fr hb ht => ?_, fun b k v hv hc => (h.cell _ _ _ hc (hat b k hv)).1⟩
 refine (h.blk b (qt.1 hb).1 fun o' c he => ?_).1
 have hlt : o' < X.ob.length := by rw [← g.len]; exact (qd.1 he).1
 obtain ⟨cur', ⟨fr', h1, _⟩, _⟩ := g.ok o' _ _ (qg hlt) he
 rw [hb] at h1
 cases h1
 exact hT _ (yb hlt) ht
end Go.Am
/- The abstract machine: a range over a function, the caller's rule. -/
namespace Go.Am
open Go.RowKit
def QCR (P : Prg) (gf : Nat) (cs : List AV) (Ts : List Nat) {cnt : Nat} (xs : Fin cnt → AV) : Prop :=
 (∀ j, isD (xs j) = true) ∧ ∀ (w : World) (C : Nat → Nat → Prop) (v1 : Value), Rep ⟨w, [], [], C⟩ (.cell cs) v1 → (∀ b k, ¬ C b k → ∃ v, w.cell? ⟨b, k, none⟩ = some v) → GOk P.G ⟨w, [], [], C⟩ →
  ∃ vals : Fin cnt → Value, (∀ j, Rep ⟨w, [], [], C⟩ (xs j) (vals j)) ∧
   SeqStopsK Fence.wide 4 P gf #[v1] (fun j => #[vals j]) (KpB Ts C) (fun l => l = List.finRange cnt) (fun _ => True) cnt w
def Asn (asn : Code) (d p : Nat) : Prop := ∀ (lp n : Nat) (P : Program) (Q : Exit → Act → World → Prop) (a : Act) (w : World), Q .normal (a.put (some d) (a.tmps.getD p undef)) w → asn.wpIn (RF lp) n P Q a w
def QCO (Γ : Ctx) (Q : Exit → St → Prop) (D0 : Nat) (e : Exit) (a : Act) (w : World) : Prop :=
 ∃ (D : Nat) (st : St), D0 ≤ D ∧ w.heap[D]? = some (.deferred (some [])) ∧ Q e st ∧ Sim { Γ with ds := [{ target := .collected D, args := #[] }] } st a w
end Go.Am
/- The abstract machine: a body with a range over a function. -/
namespace Go.Am
open Go.RowKit
def QBG (P : Prg) (N M t p d : Nat) (ab aT : AC) (Q : Exit → St → Prop) (st : St) : Prop :=
 ∃ (cnt gf : Nat) (cs : List AV) (Ts : List Nat) (xs : Fin cnt → AV) (fr : List (Nat × AV)) (S : List (Fin cnt) → List Ob),
  Le M st ⟨fr, S []⟩ ∧ look fr t = .fn (.func gf) [] [.cell cs] ∧ QgA P gf ∧ isDL cs = true ∧ QCR P gf cs Ts xs ∧ d < N ∧ p < N ∧ Qav ab = true ∧ (∀ pre, ∀ x ∈ S pre, x.ty ∉ Ts) ∧
  (∀ (pre : List (Fin cnt)) (x : Fin cnt), pre.length < cnt → wpC P N (S pre).length ab (fun e st => match e with
   | .normal => Le (S pre).length st ⟨[], S (pre ++ [x])⟩
   | .ret => ∃ ob', Le (S pre).length st ⟨[], ob'⟩ ∧ Q .ret ⟨fr, ob'⟩
   | _ => False) ⟨Xy (Xy fr (some p) (xs x)) (some d) (xs x), S pre⟩) ∧
  wpC P N (S (List.finRange cnt)).length aT Q ⟨fr, S (List.finRange cnt)⟩
def wpS (P : Prg) (N M t p d : Nat) (aR ab aT : AC) (Q : Exit → St → Prop) : List AC → St → Prop
 | [], st => wpC P N M aR (QgG (QBG P N M t p d ab aT Q) Q) st
 | a :: as, st => wpC P N M a (QgG (wpS P N M t p d aR ab aT Q as) Q) st
def QCP (Γ : Ctx) (Q : Exit → St → Prop) (e : Exit) (a : Act) (w : World) : Prop :=
 (∃ st, Q e st ∧ Sim Γ st a w) ∨ ∃ (D : Nat) (st : St), Γ.B ≤ D ∧ Γ.X0.w.heap.size ≤ D ∧ w.heap[D]? = some (.deferred (some [])) ∧ Q e st ∧ Sim { Γ with ds := [{ target := .collected D, args := #[] }] } st a w
end Go.Am
/- The abstract machine: an iterator's side. -/
namespace Go.Am
open Go.RowKit
theorem QDd {o : Oper} (ρ : Operand → Value) : o.semAt Fence.wide.round ρ = execOp ρ o := Oper.semAt_none ρ o
section
variable {P : Prg} {N : Nat} {Γ : Ctx} {n : Nat}
theorem Qca (hN : Fit P N Γ) {ops : Array Oper} {Q : Exit → Act → World → Prop} {K : St → Prop} (hK : ∀ st a w, K st → Sim Γ st a w → Q .normal a w) : ∀ (l : List Oper) (qs : List AO) (st : St) (a : Act) (w : World),
  l.mapM (Qby P N ops) = some qs → wpO P qs K st → Sim Γ st a w → wpListIn (Fence.wide) n P ops Q l a w
 | [], qs, st, a, w, hl, hw, hs => by
  simp at hl
  subst hl
  simp only [wpO] at hw
  exact hK st a w hw hs
 | o :: l, qs, st, a, w, hl, hw, hs => by
  simp only [yQ, yu, qC, qn, qi] at hl
  obtain ⟨q, hq, qs', hqs, rfl⟩ := hl
  have hsp := J1 hq
  obtain ⟨c1, c2, c3, _⟩ := hsp
  obtain ⟨be, g, hm0, hη, hfr⟩ := hs.eta hN.2
  have hd : ∀ d, o.dst = some d → d < Γ.N := fun d e => by rw [hN.1]; exact c3 d e
  simp only [wpO] at hw
  unfold wpListIn
  split at hw
  case h_3 => exact hw.elim
  case h_2 hwant =>
   have hwd := ZV hq hfr hwant
   rw [hwd]
   simp only [qS, yl]
   rw [c2] at hw
   exact ⟨fun _ _ => trivial, Qca hN hK l qs' _ _ _ hqs hw (hs.put hd hm0 hfr (Below.refl _ _) g (Moves.refl _) (by simp [Rep, undef, RepL]))⟩
  case h_1 hwant =>
   have hwd := ZV hq hfr hwant
   rw [hwd]
   simp only [yf]
   have call : ∀ (f : FuncId) (avs : List AV) (vs : List Value), RepL ⟨w, st.ob, be, Γ.X0.C⟩ avs vs → (∀ c, o.op ≠ .defer c) → (execOp a.eval o).run P w = (callFunc f vs.toArray).run P w →
     ACall P f avs st.ob (fun r ob' => wpO P qs' K ⟨Xy st.fr o.dst r, ob'⟩) → o.wpIn (Fence.wide) n P a w (wpListIn (Fence.wide) n P ops Q l) Q := by
    intro f avs vs hr hnd hrun hcall
    obtain ⟨he, hcall⟩ := hcall
    unfold Oper.wpIn
    refine ⟨fun _ _ => trivial, ?_⟩
    rw [QDd, hrun, JW he]
    refine ⟨(fun h => by cases h), (callsIn_wide.2 (hcall Γ.B w be Γ.X0.C vs g (hN.2.move hm0) hr)).mono ?_⟩
    rintro e w' ⟨v, r, ob', be', rfl, hb, hh, hm, hv, hk⟩
    exact Qca hN hK l qs' _ _ _ hqs hk (hs.put hd hm0 hfr hb hh hm hv)
   split at hw
   ·rename_i f args hop
    rw [c2] at hw
    rw [hop] at c1
    obtain ⟨c, ho, hcal, rfl⟩ := Qh8 c1
    refine call f _ _ (ZM g hη c.args.toList) (fun c e => by rw [ho] at e; cases e) ?_ hw
    have : c.args.map a.eval = (c.args.toList.map a.eval).toArray := by apply yN; simp
    simp only [execOp, ho, resolve, hcal, Deferred.ofValue, Act.eval, invoke, Sem.run_bind, Sem.run_pure, Result.andThen_ok, ← this]
    simp
   ·rename_i f args hop
    rw [c2] at hw
    rw [hop] at c1
    obtain ⟨c, ho, hcal, rfl⟩ := Qdv c1
    split at hw
    case h_2 => exact hw.elim
    rename_i fid fs cs hf
    have hr := hfr f
    rw [hf] at hr
    simp only [Rep] at hr
    obtain ⟨va, vb, e1, e2, e3⟩ := hr
    have e4 : a.eval (.tmp f) = .func (.func fid) va.toArray vb.toArray := e1
    refine call fid _ _ ((e2.append (ZM g hη c.args.toList)).append e3) (fun c e => by rw [ho] at e; cases e) ?_ hw
    have : va.toArray ++ c.args.map a.eval ++ vb.toArray = (va ++ c.args.toList.map a.eval ++ vb).toArray := by apply yN; simp
    simp only [execOp, ho, resolve, hcal, e4, Deferred.ofValue, invoke, Sem.run_bind, Sem.run_pure, Result.andThen_ok, this]
   ·rename_i p hop
    rw [hop] at c1
    split at hw
    case h_2 => exact hw.elim
    rename_i v u hv
    rw [c2] at hw
    obtain ⟨vv, w', be', hr, hb, hh, hm, hrep⟩ := Qgs g hη (.inl rfl) (fun _ => rfl) (o := o) (Qpw c1 (Qe0 hv)) hv
    have hnd := Qe3 hq (by rw [hop]; intro e; cases e; exact Qe0 hv rfl)
    unfold Oper.wpIn
    refine ⟨fun _ _ => trivial, ?_⟩
    rw [QDd]
    rcases hr with hr | ⟨hr, rfl⟩
    ·rw [hr]
     exact Qca hN hK l qs' _ _ _ hqs hw (hs.put hd hm0 hfr hb hh hm hrep)
    ·rw [hr]
     exact Qca hN hK l qs' _ _ _ hqs hw (hs.put hd hm0 hfr hb hh hm hrep)
end
def QDB (Q : Exit → Act → World → Prop) (K : Act → World → Prop) : Exit → Act → World → Prop
 | .normal, a, w => K a w
 | e, a, w => Q e a w
theorem Qvk {F : Fence} {n : Nat} {P : Program} {o : Oper} {Q : Exit → Act → World → Prop} {K : Act → World → Prop} {next : Act → World → Prop} {a : Act} {w : World} (h : o.wpIn F n P a w next (QDB Q K)) : o.wpIn F n P a w next Q := by
 unfold Oper.wpIn at h ⊢
 refine ⟨h.1, ?_⟩
 have h2 := h.2
 cases hr : (o.semAt F.round a.eval).run P w with
 | ok x w' =>
  rw [hr] at h2
  cases x <;> exact h2
 | halt x w' =>
  rw [hr] at h2
  cases x <;> exact h2
theorem Qdg {F : Fence} {n : Nat} {P : Program} {ops : Array Oper} {Q : Exit → Act → World → Prop} : ∀ (l1 l2 : List Oper) (a : Act) (w : World), wpListIn F n P ops (QDB Q (wpListIn F n P ops Q l2)) l1 a w → wpListIn F n P ops Q (l1 ++ l2) a w
 | [], l2, a, w, h => h
 | o :: l1, l2, a, w, h => by
  rw [yk]
  unfold wpListIn at h ⊢
  split
  ·rename_i hw
   rw [qc hw] at h
   exact Oper.wpIn_mono (fun a w h => Qdg l1 l2 a w h) (Qvk h)
  ·rename_i hw
   rw [qa hw] at h
   exact ⟨h.1, Qdg l1 l2 _ _ h.2⟩
end Go.Am
/- The abstract machine: a call of yield. -/
namespace Go.Am
open Go.RowKit
end Go.Am
/- The abstract machine: the assignment to a loop's variable, checked. -/
namespace Go.Am
open Go.RowKit
def QC2 (d p : Nat) : Code → Bool
 | .region _ ops false => match ops.toList with
  | [o] => (match o.op with | .move (.tmp q) | .assign (.tmp q) => q == p | _ => false) && o.dst == some d && o.guard == none
  | _ => false
 | _ => false
theorem QAk {d p : Nat} : ∀ {asn : Code}, QC2 d p asn = true → Asn asn d p := by
 intro asn h lp n P Q a w hQ
 unfold QC2 at h
 split at h
 case h_2 => cases h
 rename_i id ops
 split at h
 case h_2 => cases h
 rename_i o ho
 simp only [qo, beq_iff_eq] at h
 obtain ⟨⟨h1, h2⟩, h3⟩ := h
 refine wpIn_region_list ?_
 rw [ho]
 unfold wpListIn
 rw [show Region.wanted o (yielded ops a.tmps) = true by simp [Region.wanted, h3]]
 simp only [yf]
 unfold Oper.wpIn
 refine ⟨fun _ _ => trivial, ?_⟩
 split at h1
 ·rename_i q hq
  simp only [beq_iff_eq] at h1
  subst h1
  rw [QBJ (fun c e => by rw [hq] at e; cases e)]
  rw [← h2] at hQ
  simp only [execOp, hq, Sem.run_pure]
  exact hQ
 ·rename_i q hq
  simp only [beq_iff_eq] at h1
  subst h1
  rw [QBJ (fun c e => by rw [hq] at e; cases e)]
  rw [← h2] at hQ
  simp only [execOp, hq, Sem.run_pure]
  exact hQ
 ·cases h1
end Go.Am
/- The abstract machine: code that is told by its abstract form, taken apart; slots that stay; bodies with a range over a function, checked. -/
namespace Go.Am
open Go.RowKit
theorem Qbo {P : Program} {N : Nat} {c : Code} {a b : AC} (h : Qx P N c = some (.seq a b)) : ∃ x y, c = .seq x y ∧ Qx P N x = some a ∧ Qx P N y = some b := by
 cases c with
 | seq x y =>
  simp only [Qx] at h
  split at h
  case h_2 => cases h
  rename_i hx
  split at h <;> cases h
  rename_i hy
  exact ⟨x, y, rfl, hx, hy⟩
 | region id ops d =>
  simp only [Qx] at h
  split at h
  case h_2 => cases h
  split at h
  ·split at h <;> cases h
  ·cases h
 | cond x a b => simp only [Qx] at h; split at h <;> (try split at h) <;> cases h
 | block id c => simp only [Qx, qb] at h; obtain ⟨_, _, h⟩ := h; cases h
 | loop c => simp only [Qx, qb] at h; obtain ⟨_, _, h⟩ := h; cases h
 | _ => simp only [Qx] at h; cases h
theorem QgW {P : Program} {N : Nat} {c : Code} {x : Operand} {a b : AC} (h : Qx P N c = some (.cond x a b)) : ∃ y z, c = .cond x y z ∧ Qx P N y = some a ∧ Qx P N z = some b := by
 cases c with
 | cond x y z =>
  simp only [Qx] at h
  split at h
  case h_2 => cases h
  rename_i hx
  split at h <;> cases h
  rename_i hy
  exact ⟨y, z, rfl, hx, hy⟩
 | region id ops d =>
  simp only [Qx] at h
  split at h
  case h_2 => cases h
  split at h
  ·split at h <;> cases h
  ·cases h
 | seq a b => simp only [Qx] at h; split at h <;> (try split at h) <;> cases h
 | block id c => simp only [Qx, qb] at h; obtain ⟨_, _, h⟩ := h; cases h
 | loop c => simp only [Qx, qb] at h; obtain ⟨_, _, h⟩ := h; cases h
 | _ => simp only [Qx] at h; cases h
theorem Qe4 {P : Program} {N : Nat} {c : Code} {id : Nat} {a : AC} (h : Qx P N c = some (.block id a)) : ∃ x, c = .block id x ∧ Qx P N x = some a := by
 cases c with
 | block id x => simp only [Qx, qb] at h; obtain ⟨_, h1, h⟩ := h; cases h; exact ⟨x, rfl, h1⟩
 | region id ops d =>
  simp only [Qx] at h
  split at h
  case h_2 => cases h
  split at h
  ·split at h <;> cases h
  ·cases h
 | seq a b => simp only [Qx] at h; split at h <;> (try split at h) <;> cases h
 | cond x a b => simp only [Qx] at h; split at h <;> (try split at h) <;> cases h
 | loop c => simp only [Qx, qb] at h; obtain ⟨_, _, h⟩ := h; cases h
 | _ => simp only [Qx] at h; cases h
theorem QuU {P : Program} {N : Nat} {c : Code} {a : AC} (h : Qx P N c = some (.loop a)) : ∃ x, c = .loop x ∧ Qx P N x = some a := by
 cases c with
 | loop x => simp only [Qx, qb] at h; obtain ⟨_, h1, h⟩ := h; cases h; exact ⟨x, rfl, h1⟩
 | region id ops d =>
  simp only [Qx] at h
  split at h
  case h_2 => cases h
  split at h
  ·split at h <;> cases h
  ·cases h
 | seq a b => simp only [Qx] at h; split at h <;> (try split at h) <;> cases h
 | cond x a b => simp only [Qx] at h; split at h <;> (try split at h) <;> cases h
 | block id c => simp only [Qx, qb] at h; obtain ⟨_, _, h⟩ := h; cases h
 | _ => simp only [Qx] at h; cases h
theorem Qpv {P : Program} {N : Nat} {c : Code} {qs : List AO} (h : Qx P N c = some (.reg qs)) : ∃ id ops, c = .region id ops false ∧ ops.toList.mapM (Qby P N ops) = some qs := by
 cases c with
 | region id ops d =>
  simp only [Qx] at h
  split at h
  case h_2 => cases h
  split at h
  ·split at h <;> cases h
  ·rename_i hd
   have hd' : d = false := by simpa using hd
   subst hd'
   cases h
   exact ⟨id, ops, rfl, by assumption⟩
 | seq a b => simp only [Qx] at h; split at h <;> (try split at h) <;> cases h
 | cond x a b => simp only [Qx] at h; split at h <;> (try split at h) <;> cases h
 | block id c => simp only [Qx, qb] at h; obtain ⟨_, _, h⟩ := h; cases h
 | loop c => simp only [Qx, qb] at h; obtain ⟨_, _, h⟩ := h; cases h
 | _ => simp only [Qx] at h; cases h
theorem QkT {P : Program} {N : Nat} {c : Code} (h : Qx P N c = some .skip) : c = .skip := by
 cases c with
 | skip => rfl
 | region id ops d =>
  simp only [Qx] at h
  split at h
  case h_2 => cases h
  split at h
  ·split at h <;> cases h
  ·cases h
 | seq a b => simp only [Qx] at h; split at h <;> (try split at h) <;> cases h
 | cond x a b => simp only [Qx] at h; split at h <;> (try split at h) <;> cases h
 | block id c => simp only [Qx, qb] at h; obtain ⟨_, _, h⟩ := h; cases h
 | loop c => simp only [Qx, qb] at h; obtain ⟨_, _, h⟩ := h; cases h
 | _ => simp only [Qx] at h; cases h
theorem Qpu {P : Program} {N : Nat} {c : Code} (h : Qx P N c = some .ret) : c = .ret := by
 cases c with
 | ret => rfl
 | region id ops d =>
  simp only [Qx] at h
  split at h
  case h_2 => cases h
  split at h
  ·split at h <;> cases h
  ·cases h
 | seq a b => simp only [Qx] at h; split at h <;> (try split at h) <;> cases h
 | cond x a b => simp only [Qx] at h; split at h <;> (try split at h) <;> cases h
 | block id c => simp only [Qx, qb] at h; obtain ⟨_, _, h⟩ := h; cases h
 | loop c => simp only [Qx, qb] at h; obtain ⟨_, _, h⟩ := h; cases h
 | _ => simp only [Qx] at h; cases h
theorem QsS {α β : Type} {f : α → Option β} : ∀ {l : List α} {q1 q2 : List β}, l.mapM f = some (q1 ++ q2) → ∃ l1 l2, l = l1 ++ l2 ∧ l1.mapM f = some q1 ∧ l2.mapM f = some q2
 | l, [], q2, h => ⟨[], l, rfl, by simp, h⟩
 | [], q :: q1, q2, h => by simp at h
 | x :: l, q :: q1, q2, h => by
  simp only [yQ, yu, qC, qn, qi] at h
  obtain ⟨y, hy, ys, hys, e⟩ := h
  cases e
  obtain ⟨l1, l2, rfl, h1, h2⟩ := QsS hys
  exact ⟨x :: l1, l2, rfl, by simp [hy, h1], h2⟩
theorem Qy5 {α β : Type} {f : α → Option β} {l : List α} {q : β} {qs : List β} (h : l.mapM f = some (q :: qs)) : ∃ x l', l = x :: l' ∧ f x = some q ∧ l'.mapM f = some qs := by
 cases l with
 | nil => simp at h
 | cons x l =>
  simp only [yQ, yu, qC, qn, qi] at h
  obtain ⟨y, hy, ys, hys, e⟩ := h
  cases e
  exact ⟨x, l, rfl, hy, hys⟩
structure RC where
 pres : List AC
 t : Nat
 p : Nat
 d : Nat
 aR : AC
 ab : AC
 aT : AC
def QDC : Code → Option (Nat × Nat)
 | .region _ ops false => match ops.toList with
  | [o] => match o.op, o.dst with
   | .move (.tmp q), some d | .assign (.tmp q), some d => some (d, q)
   | _, _ => none
  | _ => none
 | _ => none
def kS (P : Prg) (N M : Nat) (rc : RC) (as : List AC) (Q : Exit → St → Prop) : Exit → St → Prop := QgG (wpS P N M rc.t rc.p rc.d rc.aR rc.ab rc.aT Q as) Q
section
variable {P : Prg} {N M : Nat} {rc : RC} {Q : Exit → St → Prop} {st : St} {a : AC} {as : List AC}
end
def QAy (i : Nat) (v : Value) (Q : Exit → Act → World → Prop) : Exit → Act → World → Prop := fun e a w => Q e a w ∧ (e = .normal → a.tmps.getD i undef = v)
theorem Qf4 {a : Act} {d : Option Nat} {x : Value} {i : Nat} (h : d ≠ some i) : (a.put d x).tmps.getD i undef = a.tmps.getD i undef := by
 cases d with
 | none => rfl
 | some d =>
  simp only [Act.put, qD]
  rw [yZ (fun e => h (by rw [e]))]
theorem Qof {F : Fence} {n : Nat} {P : Program} {o : Oper} {a : Act} {next next' : Act → World → Prop} {Q : Exit → Act → World → Prop} {i : Nat} {v : Value} (hd : o.dst ≠ some i) (ha : a.tmps.getD i undef = v)
  (hn : ∀ a' w', a'.tmps.getD i undef = v → next a' w' → next' a' w') {r : Result Next} (h : o.uponIn F n P a next Q r) : o.uponIn F n P a next' (QAy i v Q) r := by
 have hp : ∀ x : Value, (a.put o.dst x).tmps.getD i undef = v := fun x => (Qf4 hd).trans ha
 have hl : LetsOut Q → LetsOut (QAy i v Q) := fun ⟨b, w, h⟩ => ⟨b, w, h, fun e => by cases e⟩
 match r, h with
 | .ok (.value x) w', h => exact hn _ _ (hp x) h
 | .ok .skip w', h => exact hn _ _ (hp _) h
 | .ok (.defer d) w', h => exact hn _ _ (Qf4 (a := { a with defers := d :: a.defers }) hd |>.trans ha) h
 | .ok (.enter f args) w', h =>
  refine ⟨h.1, CallsIn.mono h.2 ?_⟩
  intro e w2 h2
  cases e with
  | returned x => exact hn _ _ (hp x) h2
  | panicked ch => exact ⟨h2, fun e => by cases e⟩
  | outgrown => exact hl h2
 | .ok (.row row args) w', h => exact ⟨h.1, RowsIn.mono h.2 fun x w2 h2 => hn _ _ (hp x) h2⟩
 | .ok (.round l f tmps assign body) w', h =>
  refine ⟨h.1, RoundIn.mono h.2 ?_⟩
  intro e w2 h2
  cases e with
  | returned x => exact hn _ _ (hp x) h2
  | panicked ch => exact ⟨h2, fun e => by cases e⟩
  | outgrown => exact hl h2
 | .halt (.panic x) w', h => exact ⟨h, fun e => by cases e⟩
theorem QbS {F : Fence} {n : Nat} {P : Program} {ops : Array Oper} {Q : Exit → Act → World → Prop} {i : Nat} {v : Value} : ∀ (l : List Oper) (a : Act) (w : World), (∀ o ∈ l, o.dst ≠ some i) → a.tmps.getD i undef = v → wpListIn F n P ops Q l a w → wpListIn F n P ops (QAy i v Q) l a w
 | [], a, w, _, ha, h => ⟨h, fun _ => ha⟩
 | o :: l, a, w, hd, ha, h => by
  unfold wpListIn at h ⊢
  have hdo := hd o (by simp)
  have hdl : ∀ o' ∈ l, o'.dst ≠ some i := fun o' ho => hd o' (by simp [ho])
  split
  ·rename_i hw
   rw [qc hw] at h
   exact ⟨h.1, Qof hdo ha (fun a' w' e h => QbS l a' w' hdl e h) h.2⟩
  ·rename_i hw
   rw [qa hw] at h
   exact ⟨h.1, QbS l _ w hdl ((Qf4 hdo).trans ha) h.2⟩
def QB0 (I : List (Nat × Value)) (Q : Exit → Act → World → Prop) : Exit → Act → World → Prop := fun e a w => Q e a w ∧ (e = .normal → ∀ p ∈ I, a.tmps.getD p.1 undef = p.2)
theorem QW {F : Fence} {n : Nat} {P : Program} {ops : Array Oper} {Q Q' : Exit → Act → World → Prop} (hq : ∀ e a w, Q e a w → Q' e a w) : ∀ (l : List Oper) (a : Act) (w : World), wpListIn F n P ops Q l a w → wpListIn F n P ops Q' l a w
 | [], a, w, h => hq _ _ _ h
 | o :: l, a, w, h => by
  unfold wpListIn at h ⊢
  split
  ·rename_i hw
   rw [qc hw] at h
   refine ⟨h.1, ?_⟩
   have h2 := h.2
   have hl : LetsOut Q → LetsOut Q' := fun ⟨b, w, h⟩ => ⟨b, w, hq _ _ _ h⟩
   generalize (o.semAt F.round a.eval).run P w = r at h2 ⊢
   match r, h2 with
   | .ok (.value x) w', h => exact QW hq l _ _ h
   | .ok .skip w', h => exact QW hq l _ _ h
   | .ok (.defer d) w', h => exact QW hq l _ _ h
   | .ok (.enter f args) w', h =>
    refine ⟨h.1, CallsIn.mono h.2 ?_⟩
    intro e w2 h2
    cases e with
    | returned x => exact QW hq l _ _ h2
    | panicked ch => exact hq _ _ _ h2
    | outgrown => exact hl h2
   | .ok (.row row args) w', h => exact ⟨h.1, RowsIn.mono h.2 fun x w2 h2 => QW hq l _ _ h2⟩
   | .ok (.round l' f tmps assign body) w', h =>
    refine ⟨h.1, RoundIn.mono h.2 ?_⟩
    intro e w2 h2
    cases e with
    | returned x => exact QW hq l _ _ h2
    | panicked ch => exact hq _ _ _ h2
    | outgrown => exact hl h2
   | .halt (.panic x) w', h => exact hq _ _ _ h
  ·rename_i hw
   rw [qa hw] at h
   exact ⟨h.1, QW hq l _ w h.2⟩
theorem Qdf {F : Fence} {n : Nat} {P : Program} {ops : Array Oper} {Q : Exit → Act → World → Prop} {l : List Oper} {a : Act} {w : World} : ∀ (I : List (Nat × Value)), (∀ p ∈ I, (∀ o ∈ l, o.dst ≠ some p.1) ∧ a.tmps.getD p.1 undef = p.2) → wpListIn F n P ops Q l a w → wpListIn F n P ops (QB0 I Q) l a w
 | [], _, h => QW (fun e a w h => ⟨h, fun _ p hp => by cases hp⟩) _ _ _ h
 | p :: I, hI, h => by
  have h1 := Qdf I (fun q hq => hI q (by simp [hq])) h
  have h2 := QbS l a w (hI p (by simp)).1 (hI p (by simp)).2 h1
  refine QW (fun e a w h => ⟨h.1.1, fun e' q hq => ?_⟩) _ _ _ h2
  rcases ym.1 hq with rfl | hq
  ·exact h.2 e'
  ·exact h.1.2 e' q hq
end Go.Am
/- The abstract machine: statements of an iterator, one at a time, with slots that stay. -/
namespace Go.Am
open Go.RowKit
def Quw (i : Nat) (qs : List AO) : Bool := qs.all fun q => match q.dst with | some d => d != i | none => true
theorem QwL {P : Program} {N i : Nat} {ops : Array Oper} {l : List Oper} {qs : List AO} (h : l.mapM (Qby P N ops) = some qs) (hn : Quw i qs = true) : ∀ o ∈ l, o.dst ≠ some i := by
 intro o ho e
 obtain ⟨hlen, hget⟩ := QcB h
 obtain ⟨k, hk, rfl⟩ := j6.1 ho
 obtain ⟨q, hq⟩ : ∃ q, Qby P N ops l[k] = some q := by
  obtain ⟨q, h1, h2⟩ := hget k _ (qg hk)
  first
   | exact ⟨q, h1⟩
   | exact ⟨q, h2⟩
 have hq' : q ∈ qs := by
  obtain ⟨q', h1, h2⟩ := hget k _ (qg hk)
  first
   | (rw [hq] at h1; cases h1; exact yt h2)
   | (rw [hq] at h2; cases h2; exact yt h1)
 have h3 := ya.1 hn q hq'
 rw [(J1 hq).2.1, e] at h3
 simp at h3
section
variable {P : Prg} {N : Nat} {Γ : Ctx}
theorem Qf8 (hN : Fit P N Γ) {ops : Array Oper} {l : List Oper} {qs : List AO} {n : Nat} (hc : l.mapM (Qby P N ops) = some qs) (I : List (Nat × Value)) {a : Act} {W : World} (hI : ∀ p ∈ I, Quw p.1 qs = true ∧ a.tmps.getD p.1 undef = p.2)
  {Q : Exit → St → Prop} {st : St} (hw : wpQ P qs Q st) (hs : Sim Γ st a W) : wpListIn Fence.wide n P ops (fun e a' w' => e = .normal ∧ ∃ st', Q .normal st' ∧ Sim Γ st' a' w' ∧ ∀ p ∈ I, a'.tmps.getD p.1 undef = p.2) l a W := by
 have h1 := Qca (n := n) hN (ops := ops) (K := Q .normal) (Q := fun e a w => e = .normal ∧ ∃ st', Q .normal st' ∧ Sim Γ st' a w) (fun st a w hk hs => ⟨rfl, st, hk, hs⟩) l qs st a W hc hw hs
 refine QW ?_ _ _ _ (Qdf I (fun p hp => ⟨QwL hc (hI p hp).1, (hI p hp).2⟩) h1)
 rintro e a' w' ⟨⟨rfl, st', h2, h3⟩, h4⟩
 exact ⟨rfl, st', h2, h3, h4 rfl⟩
theorem Qd0 (hN : Fit P N Γ) {c : Code} {qs : List AO} {n : Nat} (hc : Qx P N c = some (.reg qs)) (I : List (Nat × Value)) {a : Act} {W : World} (hI : ∀ p ∈ I, Quw p.1 qs = true ∧ a.tmps.getD p.1 undef = p.2)
  {Q : Exit → St → Prop} {st : St} (hw : wpQ P qs Q st) (hs : Sim Γ st a W) {R : Exit → Act → World → Prop} (hR : ∀ st' a' w', Q .normal st' → Sim Γ st' a' w' → (∀ p ∈ I, a'.tmps.getD p.1 undef = p.2) → R .normal a' w') : c.wpIn Fence.wide n P R a W := by
 obtain ⟨id, ops, rfl, hm⟩ := Qpv hc
 refine wpIn_region_list (QW ?_ _ _ _ (Qf8 hN hm I hI hw hs))
 rintro e a' w' ⟨rfl, st', h2, h3, h4⟩
 exact hR st' a' w' h2 h3 h4
end
end Go.Am
/- The facts of a walk, in one. -/
namespace Go.Am
open Go.RowKit
theorem QDI : (∀ (k : IntKind) (n : Int), AV.one (.int k n) = true) ∧ (∀ (b : Bool), AV.one (.bool b) = true) ∧ (AV.one (.ubool) = true) ∧ (∀ (s : List UInt8), AV.one (.str s) = true) ∧ (∀ (n : Nat) (cs : List AV), AV.one (.list n cs) = true) ∧ (∀ (z : Bool), AV.one (.emp z) = true) ∧ (∀ (o n : Nat), AV.one (.own o n) = true) ∧ (∀ (o n c : Nat), AV.one (.ownc o n c) = true) ∧ (∀ (o v k n : Nat), AV.one (.view o v k n) = true) ∧ (∀ (o v k : Nat), AV.one (.ref o v k) = true) ∧ (∀ (cs : List AV), AV.one (.cell cs) = true) ∧ (∀ (f : Fn) (fs cs : List AV), AV.one (.fn f fs cs) = true) := ⟨fun _ _ => rfl, fun _ => rfl, rfl, fun _ => rfl, fun _ _ => rfl, fun _ => rfl, fun _ _ => rfl, fun _ _ _ => rfl, fun _ _ _ _ => rfl, fun _ _ _ => rfl, fun _ => rfl, fun _ _ _ => rfl⟩
theorem QDH : (∀ (k : IntKind) (n : Int), Qo (.int k n) = [.int k n]) ∧ (∀ (b : Bool), Qo (.bool b) = [.bool b]) ∧ (Qo (.ubool) = [.ubool]) ∧ (∀ (s : List UInt8), Qo (.str s) = [.str s]) ∧ (∀ (n : Nat) (cs : List AV), Qo (.list n cs) = [.list n cs]) ∧ (∀ (z : Bool), Qo (.emp z) = [.emp z]) ∧ (∀ (o n : Nat), Qo (.own o n) = [.own o n]) ∧ (∀ (o n c : Nat), Qo (.ownc o n c) = [.ownc o n c]) ∧ (∀ (o v k n : Nat), Qo (.view o v k n) = [.view o v k n]) ∧ (∀ (o v k : Nat), Qo (.ref o v k) = [.ref o v k]) ∧ (∀ (cs : List AV), Qo (.cell cs) = [.cell cs]) ∧ (∀ (f : Fn) (fs cs : List AV), Qo (.fn f fs cs) = [.fn f fs cs]) ∧ (∀ (u : Value), Qo (.lit u) = [.lit u]) := ⟨fun _ _ => rfl, fun _ => rfl, rfl, fun _ => rfl, fun _ _ => rfl, fun _ => rfl, fun _ _ => rfl, fun _ _ _ => rfl, fun _ _ _ _ => rfl, fun _ _ _ => rfl, fun _ => rfl, fun _ _ _ => rfl, fun _ => rfl⟩
theorem cvq : (∀ (k : IntKind) (n : Int), cV (.int k n) = .int k n) ∧ (∀ b : Bool, cV (.bool b) = .bool b) ∧ (∀ s, cV (.string s) = .str s.data.toList) ∧ cV (.slice none 0 0) = .emp true ∧ cV .nilIface = .lit .nilIface ∧ (∀ q, cV (.pointer q) = .lit (.pointer q)) ∧ (∀ ob sz v, QfY ob sz false v = Qj ob sz v) := ⟨fun _ _ => rfl, fun _ => rfl, fun _ => rfl, rfl, rfl, fun _ => rfl, fun _ _ _ => rfl⟩
set_option linter.defProp false in
def rr := And.intro @abv (And.intro @step (And.intro @QDb (And.intro @ev (And.intro @wl (And.intro @wn (And.intro @wp (And.intro @wz (@Int.cast_ofNat_Int))))))))
set_option linter.defProp false in
def rq := And.intro @z1L.eq_1 (And.intro @z2L.eq_1 (And.intro @z3L.eq_1 (And.intro @z4L.eq_1 (And.intro @z5L.eq_1 (And.intro @z6L.eq_1 (And.intro @rr (And.intro @QDI (And.intro @QDH (And.intro @cvq (And.intro @aop.eq_1 (And.intro @aop.eq_2 (And.intro @aop.eq_3 (And.intro @aop.eq_4 (And.intro @aop.eq_5 (And.intro @aop.eq_6 (And.intro @aop.eq_7 (And.intro @aop.eq_8 (And.intro @aop.eq_9 (And.intro @aop.eq_10 (And.intro @aop.eq_11 (And.intro @aop.eq_12 (And.intro @aop.eq_13 (And.intro @aop.eq_14 (And.intro @aop.eq_15 (And.intro @aop.eq_16 (And.intro @aop.eq_17 (And.intro @aop.eq_18 (And.intro @aop.eq_19 (And.intro @aop.eq_20 (And.intro @aop.eq_21 (And.intro @aop.eq_22 (And.intro @aop.eq_23 (And.intro @aop.eq_24 (And.intro @aop.eq_25 (And.intro @aop.eq_26 (And.intro @aop.eq_27 (And.intro @aop.eq_28 (And.intro @aop.eq_29 (And.intro @aop.eq_30 (And.intro @aop.eq_31 (And.intro @aop.eq_32 (And.intro @aop.eq_33 (And.intro @aop.eq_34 (And.intro @aop.eq_35 (And.intro @aop.eq_36 (And.intro @aop.eq_37 (And.intro @aop.eq_38 (And.intro @aop.eq_39 (And.intro @aop.eq_40 (And.intro @aop.eq_41 (And.intro @cV.eq_1 (And.intro @cV1.eq_1 (And.intro @cV1.eq_2 (And.intro @cV1.eq_3 (And.intro @cV1.eq_4 (And.intro @Qo.eq_1 (And.intro @okW.eq_1 (And.intro @okW.eq_2 (And.intro @okW.eq_3 (And.intro @okW.eq_4 (And.intro @okW.eq_5 (And.intro @okW.eq_6 (And.intro @okW.eq_7 (And.intro @okW.eq_8 (And.intro @okW.eq_9 (And.intro @okW.eq_10 (And.intro @okW.eq_11 (And.intro @okW.eq_12 (And.intro @okW.eq_13 (And.intro @okW.eq_14 (And.intro @okW.eq_15 (And.intro @okW.eq_16 (And.intro @okW.eq_17 (And.intro @okW.eq_18 (And.intro @okW.eq_19 (And.intro @okW.eq_20 (And.intro @okW.eq_21 (And.intro @okW.eq_22 (And.intro @okW.eq_23 (And.intro @okW.eq_24 (And.intro @okW.eq_25 (And.intro @okW.eq_26 (And.intro @okW.eq_27 (And.intro @okW.eq_28 (And.intro @okW.eq_29 (And.intro @okW.eq_30 (And.intro @okW.eq_31 (And.intro @okW.eq_32 (And.intro @okW.eq_33 (And.intro @okW.eq_34 (And.intro @okW.eq_35 (And.intro @QK.eq_1 (And.intro @QK.eq_2 (And.intro @QK.eq_3 (And.intro @QK.eq_4 (And.intro @QK.eq_5 (And.intro @QK.eq_6 (And.intro @QK.eq_7 (And.intro @QK.eq_8 (And.intro @QK.eq_9 (And.intro @QK.eq_10 (And.intro @QK.eq_11 (And.intro @QK.eq_12 (And.intro @QK.eq_13 (And.intro @QK.eq_14 (And.intro @QK.eq_15 (And.intro @QK.eq_16 (And.intro @QK.eq_17 (And.intro @QK.eq_18 (And.intro @QK.eq_19 (And.intro @QK.eq_20 (And.intro @QK.eq_21 (And.intro @QK.eq_22 (And.intro @QK.eq_23 (And.intro @QK.eq_24 (And.intro @QK.eq_25 (And.intro @QK.eq_26 (And.intro @QK.eq_27 (And.intro @QK.eq_28 (And.intro @QK.eq_29 (And.intro @QK.eq_30 (And.intro @QK.eq_31 (And.intro @QK.eq_32 (And.intro @QK.eq_33 (And.intro @QK.eq_34 (And.intro @QK.eq_35 (And.intro @app.eq_1 (And.intro @app.eq_2 (And.intro @Qj.eq_1 (And.intro @Qj.eq_2 (And.intro @Qj.eq_3 (And.intro @Qj.eq_4 (And.intro @Qj.eq_5 (And.intro @ZB.eq_1 (And.intro @ZB.eq_2 (And.intro @QfY.eq_1 (And.intro @Qjx.eq_1 (And.intro @Qjx.eq_2 (And.intro @Qjx.eq_3 (And.intro @Qjx.eq_4 (And.intro @Qjx.eq_5 (And.intro @QAb.eq_1 (And.intro @QAb.eq_2 (And.intro @AV.one.eq_1 (And.intro @AV.one.eq_2 (And.intro @AV.one.eq_3 (@AV.one.eq_4)))))))))))))))))))))))))))))))))))))))))))))))))))))))))))))))))))))))))))))))))))))))))))))))))))))))))))))))))))))))))))))))))))))))))))))))))))
set_option linter.defProp false in
def rv := And.intro @z1L.eq_1 (And.intro @z2L.eq_1 (And.intro @z3L.eq_1 (And.intro @z4L.eq_1 (And.intro @z5L.eq_1 (And.intro @z6L.eq_1 (And.intro @abv (And.intro @walk (And.intro @ev (And.intro @Bool.false_and (And.intro @QDe (And.intro @List.length_nil.{0} (And.intro @List.length_cons.{0} (And.intro @List.map_nil.{0, 0} (And.intro @List.map_cons.{0, 0} (And.intro @List.cons_append.{0} (And.intro @List.nil_append.{0} (And.intro @Option.map_some.{0, 0} (And.intro @Option.map_none.{0, 0} (And.intro @Option.bind_some.{0, 0} (And.intro @Bool.false_eq_true (And.intro @Bool.not_true (And.intro @Bool.not_false (And.intro @Int.toNat_natCast (And.intro @List.getElem?_cons_zero.{0} (And.intro @List.getElem?_cons_succ.{0} (And.intro @Int.natCast_add (And.intro @Int.cast_ofNat_Int (And.intro @true_and (And.intro @and_true (And.intro @and_self (And.intro @Qe (And.intro @Nat.mul_one (And.intro @Nat.one_mul (And.intro @Nat.zero_add (And.intro @Nat.add_zero (And.intro @List.drop_zero.{0} (And.intro @Bool.and_self (And.intro @Bool.and_true (And.intro @Bool.true_and (And.intro @List.all_cons.{0} (And.intro @List.all_nil.{0} (And.intro @List.take_nil.{0} (And.intro @List.drop_nil.{0} (And.intro @List.take_zero.{0} (And.intro @List.append_nil.{0} (And.intro @List.set_cons_zero.{0} (And.intro @List.set_cons_succ.{0} (And.intro @List.length_set.{0} (And.intro @Nat.le_refl (And.intro @Nat.zero_le (And.intro @List.take_length.{0} (And.intro @Q6 (And.intro @List.drop_succ_cons.{0} @List.take_succ_cons.{0})))))))))))))))))))))))))))))))))))))))))))))))))))))
end Go.Am

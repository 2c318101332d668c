import PyProof.Rows.All
import Wide.All
import OpenK.AllK
import Wide.FinOn
import KE.KStateDown
import Lean
import HandS.ForMost
import HandS.Zip
import HandS.IsInst
import HandS.TupAny
import HandS.OwnEq
import HandS.Walk
import HandS.Defaults
import KE.GoesEnum
import HandS.HeadHook2
import HandS.Head0
import HandS.Head1
import HandS.Head2
import HandS.HeadEnd
import HandS.HeadHook1
import PySem.Challenge.RW_fieldmaps_k35_whole_least_recurrence_of
set_option Elab.async false
set_option linter.all false
set_option maxRecDepth 100000
set_option maxHeartbeats 4000000
namespace K35
open PySem PySem.Spec L2
/-! ### heaps: lists may change, all else stands -/
abbrev Dn := V → Hp → Prop
def isL : HO → Bool
  | .lst _ => true
  | _ => false
def Le (H H' : Hp) : Prop := ∀ a o, isL o = false → H a = some o → H' a = some o
theorem le_refl (H : Hp) : Le H H := fun _ _ _ h => h
theorem le_trans {H H1 H2 : Hp} (a : Le H H1) (b : Le H1 H2) : Le H H2 := fun x o n h => b x o n (a x o n h)
theorem le_of {H H' : Hp} (e : Same H H') : Le H H' := fun a o _ h => e a o h
theorem same_new {H : Hp} {p : Addr} {o : HO} (h : H p = none) : Same H (upd H p o) := fun a u e => by
  rw [upd_ne (ne_of_none e h)]
  exact e
theorem same_mut {H H' : Hp} {p : Addr} {o : HO} (e : Same H H') (h : H p = none) : Same H (upd H' p o) := fun a u ha => by
  rw [upd_ne (ne_of_none ha h)]
  exact e a u ha
theorem le_set {H : Hp} {p : Addr} {xs ys : List V} (h : H p = some (.lst xs)) : Le H (upd H p (.lst ys)) := fun a o n e => by
  have ne : a ≠ p := fun q => by
    rw [q, h] at e
    cases e
    cases n
  rw [upd_ne ne]
  exact e
/-! ### what a value stands for -/
class Mono (r : Dn) : Prop where
  m : ∀ v H H', Same H H' → r v H → r v H'
class Imm (r : Dn) : Prop where
  m : ∀ v H H', Le H H' → r v H → r v H'
instance (priority := low) monoOfImm {r : Dn} [Imm r] : Mono r := ⟨fun v H H' e h => Imm.m v H H' (le_of e) h⟩
class Monos (rs : List Dn) : Prop where
  m : ∀ r ∈ rs, Mono r
class Imms (rs : List Dn) : Prop where
  m : ∀ r ∈ rs, Imm r
instance monosNil : Monos [] := ⟨fun r h => by cases h⟩
instance monosCons {r : Dn} {rs : List Dn} [a : Mono r] [b : Monos rs] : Monos (r :: rs) := ⟨fun q h => by
  rcases List.mem_cons.mp h with e | h
  · rw [e]; exact a
  · exact b.m q h⟩
instance monosAppend {rs ss : List Dn} [a : Monos rs] [b : Monos ss] : Monos (rs ++ ss) := ⟨fun q h => by
  rcases List.mem_append.mp h with h | h
  · exact a.m q h
  · exact b.m q h⟩
instance monosMap {α : Type} {f : α → Dn} {l : List α} [a : ∀ x, Mono (f x)] : Monos (l.map f) := ⟨fun q h => by
  obtain ⟨x, _, e⟩ := List.mem_map.mp h
  rw [← e]; exact a x⟩
instance immsNil : Imms [] := ⟨fun r h => by cases h⟩
instance immsCons {r : Dn} {rs : List Dn} [a : Imm r] [b : Imms rs] : Imms (r :: rs) := ⟨fun q h => by
  rcases List.mem_cons.mp h with e | h
  · rw [e]; exact a
  · exact b.m q h⟩
instance immsAppend {rs ss : List Dn} [a : Imms rs] [b : Imms ss] : Imms (rs ++ ss) := ⟨fun q h => by
  rcases List.mem_append.mp h with h | h
  · exact a.m q h
  · exact b.m q h⟩
instance immsMap {α : Type} {f : α → Dn} {l : List α} [a : ∀ x, Imm (f x)] : Imms (l.map f) := ⟨fun q h => by
  obtain ⟨x, _, e⟩ := List.mem_map.mp h
  rw [← e]; exact a x⟩
instance (priority := low) monosOfImms {rs : List Dn} [a : Imms rs] : Monos rs := ⟨fun r h => @monoOfImm r (a.m r h)⟩
/-- item by item -/
structure Alls (H : Hp) (vs : List V) (rs : List Dn) : Prop where
  len : vs.length = rs.length
  get : ∀ (i : Nat) (v : V) (r : Dn), vs[i]? = some v → rs[i]? = some r → r v H
theorem alls_nil {H : Hp} : Alls H [] [] := ⟨rfl, fun i v r h _ => by simp at h⟩
theorem alls_cons {H : Hp} {v : V} {vs : List V} {r : Dn} {rs : List Dn} (h : r v H) (t : Alls H vs rs) : Alls H (v :: vs) (r :: rs) :=
  ⟨by rw [List.length_cons, List.length_cons, t.len], fun i w q h1 h2 => by
    cases i with
    | zero =>
      simp at h1 h2
      subst h1; subst h2
      exact h
    | succ i =>
      simp at h1 h2
      exact t.get i w q h1 h2⟩
theorem Alls.head {H : Hp} {v : V} {vs : List V} {r : Dn} {rs : List Dn} (a : Alls H (v :: vs) (r :: rs)) : r v H := a.get 0 v r rfl rfl
theorem Alls.tail {H : Hp} {v : V} {vs : List V} {r : Dn} {rs : List Dn} (a : Alls H (v :: vs) (r :: rs)) : Alls H vs rs :=
  ⟨Nat.succ.inj a.len, fun i w q h1 h2 => a.get (i + 1) w q h1 h2⟩
theorem Alls.nil_inv {H : Hp} {vs : List V} (a : Alls H vs []) : vs = [] := List.eq_nil_of_length_eq_zero a.len
theorem Alls.cons_inv {H : Hp} {vs : List V} {r : Dn} {rs : List Dn} (a : Alls H vs (r :: rs)) : ∃ v ws, vs = v :: ws ∧ r v H ∧ Alls H ws rs := by
  cases vs with
  | nil => cases a.len
  | cons v ws => exact ⟨v, ws, rfl, a.head, a.tail⟩
theorem Alls.append {H : Hp} {vs ws : List V} {rs ss : List Dn} (a : Alls H vs rs) (b : Alls H ws ss) : Alls H (vs ++ ws) (rs ++ ss) :=
  ⟨by rw [List.length_append, List.length_append, a.len, b.len], fun i v r h1 h2 => by
    by_cases hi : i < vs.length
    · rw [List.getElem?_append_left hi] at h1
      rw [List.getElem?_append_left (by rw [← a.len]; exact hi)] at h2
      exact a.get i v r h1 h2
    · rw [List.getElem?_append_right (by omega)] at h1
      rw [List.getElem?_append_right (by rw [← a.len]; omega), ← a.len] at h2
      exact b.get _ v r h1 h2⟩
theorem Alls.take {H : Hp} {vs : List V} {rs : List Dn} (a : Alls H vs rs) (n : Nat) : Alls H (vs.take n) (rs.take n) :=
  ⟨by rw [List.length_take, List.length_take, a.len], fun i v r h1 h2 => by
    rw [List.getElem?_take] at h1 h2
    split at h1
    · rename_i hi
      rw [if_pos hi] at h2
      exact a.get i v r h1 h2
    · cases h1⟩
theorem Alls.drop {H : Hp} {vs : List V} {rs : List Dn} (a : Alls H vs rs) (n : Nat) : Alls H (vs.drop n) (rs.drop n) :=
  ⟨by rw [List.length_drop, List.length_drop, a.len], fun i v r h1 h2 => by
    rw [List.getElem?_drop] at h1 h2
    exact a.get _ v r h1 h2⟩
theorem Alls.set {H : Hp} {vs : List V} {rs : List Dn} (a : Alls H vs rs) {v : V} {r : Dn} (h : r v H) (j : Nat) : Alls H (vs.set j v) (rs.set j r) :=
  ⟨by rw [List.length_set, List.length_set, a.len], fun i w q h1 h2 => by
    rw [List.getElem?_set] at h1 h2
    by_cases hj : j = i
    · subst hj
      rw [if_pos rfl] at h1 h2
      by_cases hl : j < vs.length
      · rw [if_pos hl] at h1
        rw [if_pos (by rw [← a.len]; exact hl)] at h2
        cases h1; cases h2
        exact h
      · rw [if_neg hl] at h1
        cases h1
    · rw [if_neg hj] at h1 h2
      exact a.get i w q h1 h2⟩
theorem Alls.at {H : Hp} {vs : List V} {rs : List Dn} (a : Alls H vs rs) {i : Nat} {r : Dn} (h : rs[i]? = some r) : ∃ v, vs[i]? = some v ∧ r v H := by
  have hi : i < vs.length := by
    rw [a.len]
    exact (List.getElem?_eq_some_iff.mp h).1
  exact ⟨vs[i], List.getElem?_eq_getElem hi, a.get i _ r (List.getElem?_eq_getElem hi) h⟩
theorem Alls.at' {H : Hp} {vs : List V} {rs : List Dn} (a : Alls H vs rs) {i : Nat} {v : V} (h : vs[i]? = some v) : ∃ r, rs[i]? = some r ∧ r v H := by
  have hi : i < rs.length := by
    rw [← a.len]
    exact (List.getElem?_eq_some_iff.mp h).1
  exact ⟨rs[i], List.getElem?_eq_getElem hi, a.get i v _ h (List.getElem?_eq_getElem hi)⟩
theorem Alls.imp {H H' : Hp} {vs : List V} {rs ss : List Dn} (a : Alls H vs rs) (hl : rs.length = ss.length) (h : ∀ (i : Nat) (r s : Dn) (v : V), rs[i]? = some r → ss[i]? = some s → r v H → s v H') : Alls H' vs ss :=
  ⟨a.len.trans hl, fun i v s h1 h2 => by
    obtain ⟨r, h3, h4⟩ := a.at' h1
    exact h i r s v h3 h2 h4⟩
theorem Alls.mono {H H' : Hp} {vs : List V} {rs : List Dn} [m : Monos rs] (e : Same H H') (a : Alls H vs rs) : Alls H' vs rs :=
  ⟨a.len, fun i v r h1 h2 => (m.m r (List.mem_of_getElem? h2)).m v H H' e (a.get i v r h1 h2)⟩
theorem Alls.imm {H H' : Hp} {vs : List V} {rs : List Dn} [m : Imms rs] (e : Le H H') (a : Alls H vs rs) : Alls H' vs rs :=
  ⟨a.len, fun i v r h1 h2 => (m.m r (List.mem_of_getElem? h2)).m v H H' e (a.get i v r h1 h2)⟩
/-! ### kinds of data -/
def dI (i : Int) : Dn := fun v _ => v = .int i
def dB (b : Bool) : Dn := fun v _ => v = .bl b
def dN : Dn := fun v _ => v = .non
def dT (rs : List Dn) : Dn := fun v H => ∃ a vs, v = .ref a ∧ H a = some (.tup vs) ∧ Alls H vs rs
def dL (rs : List Dn) : Dn := fun v H => ∃ a vs, v = .ref a ∧ H a = some (.lst vs) ∧ Alls H vs rs
def dIs (l : List Int) : List Dn := l.map dI
def dTI (l : List Int) : Dn := dT (dIs l)
/-- a new object, seen from the heap H0 -/
def dFr (H0 : Hp) (r : Dn) : Dn := fun v H => (∃ a, v = .ref a ∧ H0 a = none) ∧ r v H
/-- an object that stands elsewhere than at ps -/
def dAv (ps : List Addr) (r : Dn) : Dn := fun v H => (∃ a, v = .ref a ∧ a ∉ ps) ∧ r v H
instance immI {i : Int} : Imm (dI i) := ⟨fun _ _ _ _ h => h⟩
instance immB {b : Bool} : Imm (dB b) := ⟨fun _ _ _ _ h => h⟩
instance immN : Imm dN := ⟨fun _ _ _ _ h => h⟩
instance immT {rs : List Dn} [Imms rs] : Imm (dT rs) := ⟨fun v H H' e h => by
  obtain ⟨a, vs, hv, h1, h2⟩ := h
  exact ⟨a, vs, hv, e a _ rfl h1, h2.imm e⟩⟩
instance monoT {rs : List Dn} [Monos rs] : Mono (dT rs) := ⟨fun v H H' e h => by
  obtain ⟨a, vs, hv, h1, h2⟩ := h
  exact ⟨a, vs, hv, e a _ h1, h2.mono e⟩⟩
instance monoL {rs : List Dn} [Monos rs] : Mono (dL rs) := ⟨fun v H H' e h => by
  obtain ⟨a, vs, hv, h1, h2⟩ := h
  exact ⟨a, vs, hv, e a _ h1, h2.mono e⟩⟩
instance immsIs {l : List Int} : Imms (dIs l) := immsMap
instance immTI {l : List Int} : Imm (dTI l) := immT
instance monoFr {H0 : Hp} {r : Dn} [a : Mono r] : Mono (dFr H0 r) := ⟨fun v H H' e h => ⟨h.1, a.m v H H' e h.2⟩⟩
instance monoAv {ps : List Addr} {r : Dn} [a : Mono r] : Mono (dAv ps r) := ⟨fun v H H' e h => ⟨h.1, a.m v H H' e h.2⟩⟩
theorem dIs_len (l : List Int) : (dIs l).length = l.length := List.length_map ..
theorem dIs_get {l : List Int} {i : Nat} {x : Int} (h : l[i]? = some x) : (dIs l)[i]? = some (dI x) := by
  unfold dIs
  rw [List.getElem?_map, h]
  rfl
theorem alls_ints {H : Hp} (l : List Int) : Alls H (l.map V.int) (dIs l) := ⟨by unfold dIs; rw [List.length_map, List.length_map], fun i v r h1 h2 => by
  unfold dIs at h2
  rw [List.getElem?_map] at h1 h2
  cases e : l[i]? with
  | none =>
    rw [e] at h1
    cases h1
  | some x =>
    rw [e] at h1 h2
    cases h1; cases h2
    rfl⟩
theorem alls_ints_inv {H : Hp} : ∀ {l : List Int} {vs : List V}, Alls H vs (dIs l) → vs = l.map V.int
  | [], vs, a => a.nil_inv
  | x :: l, vs, a => by
    obtain ⟨v, ws, rfl, h1, h2⟩ := Alls.cons_inv (r := dI x) (rs := dIs l) a
    have e1 : v = .int x := h1
    rw [e1, alls_ints_inv h2]
    rfl
/-- a list or a tuple -/
class SeqD (r : Dn) (rs : outParam (List Dn)) : Prop where
  to : ∀ v H, r v H → ∃ p ys, v = .ref p ∧ (H p = some (.lst ys) ∨ H p = some (.tup ys)) ∧ Alls H ys rs
instance seqT {rs : List Dn} : SeqD (dT rs) rs := ⟨fun v H h => let ⟨a, vs, hv, h1, h2⟩ := h; ⟨a, vs, hv, .inr h1, h2⟩⟩
instance seqTI {l : List Int} : SeqD (dTI l) (dIs l) := ⟨fun v H h => let ⟨a, vs, hv, h1, h2⟩ := h; ⟨a, vs, hv, .inr h1, h2⟩⟩
instance seqL {rs : List Dn} : SeqD (dL rs) rs := ⟨fun v H h => let ⟨a, vs, hv, h1, h2⟩ := h; ⟨a, vs, hv, .inl h1, h2⟩⟩
instance seqFr {H0 : Hp} {r : Dn} {rs : List Dn} [s : SeqD r rs] : SeqD (dFr H0 r) rs := ⟨fun v H h => s.to v H h.2⟩
instance seqAv {ps : List Addr} {r : Dn} {rs : List Dn} [s : SeqD r rs] : SeqD (dAv ps r) rs := ⟨fun v H h => s.to v H h.2⟩
theorem sq_or {K : PySem.W.Frag} {H : Hp} {p : Addr} {ys : List V} (h : H p = some (.lst ys) ∨ H p = some (.tup ys)) : SqL K H p ys ∨ SqT K H p ys := h.elim (fun h => .inl (SqL.of h)) fun h => .inr (SqT.of h)
class LstD (r : Dn) (rs : outParam (List Dn)) : Prop where
  to : ∀ v H, r v H → ∃ p ys, v = .ref p ∧ H p = some (.lst ys) ∧ Alls H ys rs
instance lstL {rs : List Dn} : LstD (dL rs) rs := ⟨fun v H h => h⟩
instance lstFr {H0 : Hp} {r : Dn} {rs : List Dn} [s : LstD r rs] : LstD (dFr H0 r) rs := ⟨fun v H h => s.to v H h.2⟩
instance lstAv {ps : List Addr} {r : Dn} {rs : List Dn} [s : LstD r rs] : LstD (dAv ps r) rs := ⟨fun v H h => s.to v H h.2⟩
class TupD (r : Dn) (rs : outParam (List Dn)) : Prop where
  to : ∀ v H, r v H → ∃ p ys, v = .ref p ∧ H p = some (.tup ys) ∧ Alls H ys rs
instance tupT {rs : List Dn} : TupD (dT rs) rs := ⟨fun v H h => h⟩
instance tupTI {l : List Int} : TupD (dTI l) (dIs l) := ⟨fun v H h => h⟩
/-! ### evaluation -/
def Ev (te : TE) (σ : St) (H : Hp) (r : Dn) : Prop := ∀ H1, Same H H1 → ∀ Q : VK, (∀ v H2, Same H1 H2 → r v H2 → Q v H2) → te σ H1 Q
def EvT (tt : TT) (σ : St) (H : Hp) (b : Bool) : Prop := ∀ H1, Same H H1 → ∀ Q : Bool → Hp → Prop, (∀ H2, Same H1 H2 → Q b H2) → tt σ H1 Q
def EvA (ta : TA) (σ : St) (H : Hp) (rs : List Dn) : Prop := ∀ H1, Same H H1 → ∀ Q : List V → Hp → Prop, (∀ vs H2, Same H1 H2 → Alls H2 vs rs → Q vs H2) → ta σ H1 Q
def EvO (to : TO) (σ : St) (H : Hp) (o : Option Int) : Prop := ∀ H1, Same H H1 → ∀ Q : Option Int → Hp → Prop, (∀ H2, Same H1 H2 → Q o H2) → to σ H1 Q
section
variable {K : PySem.W.Frag} {σ : St} {H H' : Hp} {ta tb te tc : TE} {t u : TT} {r ra rb : Dn} {rs : List Dn} {i j : Int} {b c : Bool}
theorem Ev.mono (h : Ev te σ H r) (e : Same H H') : Ev te σ H' r := fun H1 a Q q => h H1 (e.trans a) Q q
theorem EvT.mono (h : EvT t σ H b) (e : Same H H') : EvT t σ H' b := fun H1 a Q q => h H1 (e.trans a) Q q
theorem Ev.to (h : Ev te σ H ra) (k : ∀ v H', Same H H' → ra v H' → r v H') : Ev te σ H r := fun H1 e Q q => h H1 e Q fun v H2 e2 d => q v H2 e2 (k v H2 (e.trans e2) d)
theorem Ev.eq (h : Ev te σ H ra) (e : ra = r) : Ev te σ H r := e ▸ h
theorem EvT.eq (h : EvT t σ H b) (e : b = c) : EvT t σ H c := e ▸ h
theorem ev_var {n : Nat} {v : V} [m : Mono r] (h : σ[n]? = some (some v)) (d : r v H) : Ev (tVar n) σ H r := fun H1 e Q q => ⟨v, h, q v H1 (Same.refl H1) (m.m v H H1 e d)⟩
theorem ev_int : Ev (tC (.int i)) σ H (dI i) := fun H1 e Q q => q _ H1 (Same.refl H1) rfl
theorem ev_bl : Ev (tC (.bl b)) σ H (dB b) := fun H1 e Q q => q _ H1 (Same.refl H1) rfl
theorem ev_non : Ev (tC .non) σ H dN := fun H1 e Q q => q _ H1 (Same.refl H1) rfl
theorem ev_c {v : V} : Ev (tC v) σ H (fun w _ => w = v) := fun H1 e Q q => q _ H1 (Same.refl H1) rfl
/-- two operands -/
theorem ev_op {R : R2} [ma : Mono ra] (ha : Ev ta σ H ra) (hb : Ev tb σ H rb) (hr : ∀ x y H1, Same H H1 → ra x H1 → rb y H1 → ∀ Q : VK, (∀ v H2, Same H1 H2 → r v H2 → Q v H2) → R x y H1 Q) : Ev (tOp R ta tb) σ H r := fun H1 e Q q =>
  ha H1 e _ fun x H2 e2 dx => hb H2 (e.trans e2) _ fun y H3 e3 dy => hr x y H3 ((e.trans e2).trans e3) (ma.m x H2 H3 e3 dx) dy Q fun v H4 e4 d => q v H4 ((e2.trans e3).trans e4) d
theorem ev_iop {g : Int → Int → V} (ha : Ev ta σ H (dI i)) (hb : Ev tb σ H (dI j)) (hr : ∀ H1, r (g i j) H1) : Ev (tOp (rI0 g) ta tb) σ H r :=
  ev_op ha hb fun x y H1 e dx dy Q q => ⟨i, j, dx, dy, q _ H1 (Same.refl H1) (hr H1)⟩
theorem ev_iopC {C : Int → Int → Prop} {g : Int → Int → V} (hc : C i j) (ha : Ev ta σ H (dI i)) (hb : Ev tb σ H (dI j)) (hr : ∀ H1, r (g i j) H1) : Ev (tOp (rI C g) ta tb) σ H r :=
  ev_op ha hb fun x y H1 e dx dy Q q => ⟨i, j, dx, dy, hc, q _ H1 (Same.refl H1) (hr H1)⟩
def pAdd : R2 := rI0 fun i j => .int (i + j)
def pSub : R2 := rI0 fun i j => .int (i - j)
def pMul : R2 := rI CMul fun i j => .int (i * j)
def pMod : R2 := rI (fun _ j => 0 < j) fun i j => .int (i % j)
def pDiv : R2 := rI CDiv fun i j => .int (i / j)
def pLt : R2 := rI0 fun i j => .bl (decide (i < j))
def pLe : R2 := rI0 fun i j => .bl (decide (i ≤ j))
def pGt : R2 := rI0 fun i j => .bl (decide (j < i))
def pGe : R2 := rI0 fun i j => .bl (decide (j ≤ i))
def pIsN : R2 := fun x y H Q => y = .non ∧ Q (.bl (decide (x = .non))) H
def pNotN : R2 := fun x y H Q => y = .non ∧ Q (.bl (!decide (x = .non))) H
def pNeg : V → Hp → VK → Prop := rU fun i => .int (-i)
theorem ev_add (ha : Ev ta σ H (dI i)) (hb : Ev tb σ H (dI j)) : Ev (tOp pAdd ta tb) σ H (dI (i + j)) := ev_iop ha hb fun _ => rfl
theorem ev_sub (ha : Ev ta σ H (dI i)) (hb : Ev tb σ H (dI j)) : Ev (tOp pSub ta tb) σ H (dI (i - j)) := ev_iop ha hb fun _ => rfl
theorem ev_mul (hc : CMul i j) (ha : Ev ta σ H (dI i)) (hb : Ev tb σ H (dI j)) : Ev (tOp pMul ta tb) σ H (dI (i * j)) := ev_iopC hc ha hb fun _ => rfl
theorem ev_mod (hc : 0 < j) (ha : Ev ta σ H (dI i)) (hb : Ev tb σ H (dI j)) : Ev (tOp pMod ta tb) σ H (dI (i % j)) := ev_iopC (C := fun _ j => 0 < j) hc ha hb fun _ => rfl
theorem ev_div (hc : CDiv i j) (ha : Ev ta σ H (dI i)) (hb : Ev tb σ H (dI j)) : Ev (tOp pDiv ta tb) σ H (dI (i / j)) := ev_iopC hc ha hb fun _ => rfl
theorem ev_lt (ha : Ev ta σ H (dI i)) (hb : Ev tb σ H (dI j)) : Ev (tOp pLt ta tb) σ H (dB (decide (i < j))) := ev_iop ha hb fun _ => rfl
theorem ev_le (ha : Ev ta σ H (dI i)) (hb : Ev tb σ H (dI j)) : Ev (tOp pLe ta tb) σ H (dB (decide (i ≤ j))) := ev_iop ha hb fun _ => rfl
theorem ev_gt (ha : Ev ta σ H (dI i)) (hb : Ev tb σ H (dI j)) : Ev (tOp pGt ta tb) σ H (dB (decide (j < i))) := ev_iop ha hb fun _ => rfl
theorem ev_ge (ha : Ev ta σ H (dI i)) (hb : Ev tb σ H (dI j)) : Ev (tOp pGe ta tb) σ H (dB (decide (j ≤ i))) := ev_iop ha hb fun _ => rfl
theorem ev_eqI (ha : Ev ta σ H (dI i)) (hb : Ev tb σ H (dI j)) : Ev (tOp rEq ta tb) σ H (dB (decide (i = j))) := ev_op ha hb fun x y H1 e dx dy Q q => by
  rw [show x = .int i from dx, show y = .int j from dy]
  exact ⟨rfl, q _ H1 (Same.refl H1) (by show V.bl _ = V.bl _; rw [dec_int, Bool.beq_eq_decide_eq])⟩
theorem ev_neI (ha : Ev ta σ H (dI i)) (hb : Ev tb σ H (dI j)) : Ev (tOp rNe ta tb) σ H (dB (!decide (i = j))) := ev_op ha hb fun x y H1 e dx dy Q q => by
  rw [show x = .int i from dx, show y = .int j from dy]
  exact ⟨rfl, q _ H1 (Same.refl H1) (by show V.bl _ = V.bl _; rw [dec_int, Bool.beq_eq_decide_eq])⟩
theorem ev_neB (ha : Ev ta σ H (dB b)) (hb : Ev tb σ H (dB c)) : Ev (tOp rNe ta tb) σ H (dB (!decide (b = c))) := ev_op ha hb fun x y H1 e dx dy Q q => by
  rw [show x = .bl b from dx, show y = .bl c from dy]
  exact ⟨rfl, q _ H1 (Same.refl H1) (by show V.bl _ = V.bl _; cases b <;> cases c <;> rfl)⟩
theorem ev_isN (ha : Ev ta σ H ra) (hx : ∀ v H1, ra v H1 → decide (v = .non) = b) : Ev (tOp pIsN ta (tC .non)) σ H (dB b) := fun H1 e Q q => ha H1 e _ fun v H2 e2 d => ⟨rfl, q _ H2 e2 (by show V.bl _ = V.bl _; rw [hx v H2 d])⟩
theorem ev_notN (ha : Ev ta σ H ra) (hx : ∀ v H1, ra v H1 → decide (v = .non) = b) : Ev (tOp pNotN ta (tC .non)) σ H (dB (!b)) := fun H1 e Q q => ha H1 e _ fun v H2 e2 d => ⟨rfl, q _ H2 e2 (by show V.bl _ = V.bl _; rw [hx v H2 d])⟩
theorem ev_neg (ha : Ev ta σ H (dI i)) : Ev (tUn pNeg ta) σ H (dI (-i)) := fun H1 e Q q => ha H1 e _ fun v H2 e2 d => ⟨i, d, q _ H2 e2 rfl⟩
/-! ### tests -/
theorem et_test (h : Ev te σ H (dB b)) : EvT (tTest te) σ H b := fun H1 e Q q => h H1 e _ fun v H2 e2 d => ⟨b, d, q H2 e2⟩
theorem et_B (h : Ev te σ H (dB b)) : EvT (tB te) σ H b := fun H1 e Q q => h H1 e _ fun v H2 e2 d => ⟨b, d, q H2 e2⟩
theorem et_not (h : EvT t σ H b) : EvT (tNot t) σ H (!b) := fun H1 e Q q => h H1 e _ fun H2 e2 => q H2 e2
theorem et_and (h1 : EvT t σ H b) (h2 : b = true → EvT u σ H c) : EvT (tAnd t u) σ H (b && c) := fun H1 e Q q => h1 H1 e _ fun H2 e2 => by
  cases b with
  | true =>
    show u σ H2 Q
    exact h2 rfl H2 (e.trans e2) Q fun H3 e3 => q H3 (e2.trans e3)
  | false =>
    show Q false H2
    exact q H2 e2
theorem et_or (h1 : EvT t σ H b) (h2 : b = false → EvT u σ H c) : EvT (tOr t u) σ H (b || c) := fun H1 e Q q => h1 H1 e _ fun H2 e2 => by
  cases b with
  | true =>
    show Q true H2
    exact q H2 e2
  | false =>
    show u σ H2 Q
    exact h2 rfl H2 (e.trans e2) Q fun H3 e3 => q H3 (e2.trans e3)
theorem ev_and (h1 : Ev ta σ H (dB b)) (h2 : b = true → Ev tb σ H (dB c)) : Ev (tAndV ta tb) σ H (dB (b && c)) := fun H1 e Q q => h1 H1 e _ fun v H2 e2 d => ⟨b, d, by
  cases b with
  | true =>
    show tb σ H2 Q
    exact h2 rfl H2 (e.trans e2) Q fun v H3 e3 => q v H3 (e2.trans e3)
  | false =>
    show Q (.bl false) H2
    exact q _ H2 e2 rfl⟩
theorem ev_not (h1 : Ev ta σ H (dB b)) : Ev (tNotV ta) σ H (dB (!b)) := fun H1 e Q q => h1 H1 e _ fun v H2 e2 d => ⟨b, d, q _ H2 e2 rfl⟩
theorem ev_if (h : EvT t σ H b) (h1 : b = true → Ev ta σ H r) (h2 : b = false → Ev tb σ H r) : Ev (tIf t ta tb) σ H r := fun H1 e Q q => h H1 e _ fun H2 e2 => by
  cases b with
  | true =>
    show ta σ H2 Q
    exact h1 rfl H2 (e.trans e2) Q fun v H3 e3 => q v H3 (e2.trans e3)
  | false =>
    show tb σ H2 Q
    exact h2 rfl H2 (e.trans e2) Q fun v H3 e3 => q v H3 (e2.trans e3)
/-! ### arguments, displays -/
theorem ea_nil : EvA tNil σ H [] := fun H1 _ _ q => q [] H1 (Same.refl H1) alls_nil
theorem ea_cons {tr : TA} [m : Mono r] (h : Ev te σ H r) (hr : EvA tr σ H rs) : EvA (tCons te tr) σ H (r :: rs) := fun H1 e Q q =>
  h H1 e _ fun v H2 e2 d => hr H2 (e.trans e2) _ fun vs H3 e3 a => q (v :: vs) H3 (e2.trans e3) (alls_cons (m.m v H2 H3 e3 d) a)
theorem sz_of {n : Nat} (h : n ≤ 100000) : n ≤ sizeLine := Nat.le_trans h (by decide)
theorem sz_lt {n : Nat} (h : n < 100000) : n < sizeLine := Nat.lt_of_lt_of_le h (by decide)
theorem ev_tup {t : TA} [Monos rs] (h : EvA t σ H rs) (hl : rs.length ≤ 100000 := by first | decide | (simp [dIs]; done)) : Ev (tTup t) σ H (dT rs) := fun H1 e Q q => h H1 e _ fun vs H2 e2 a =>
  ⟨by rw [a.len]; exact sz_of hl, fun p hp => q _ _ (e2.trans (same_new hp)) ⟨p, vs, rfl, upd_same, a.mono (same_new hp)⟩⟩
theorem ev_lst {t : TA} [Monos rs] (h : EvA t σ H rs) (hl : rs.length ≤ 100000 := by first | decide | (simp [dIs]; done)) : Ev (tLst t) σ H (dFr H (dL rs)) := fun H1 e Q q => h H1 e _ fun vs H2 e2 a =>
  ⟨by rw [a.len]; exact sz_of hl, fun p hp => q _ _ (e2.trans (same_new hp)) ⟨⟨p, rfl, (e.trans e2).free hp⟩, p, vs, rfl, upd_same, a.mono (same_new hp)⟩⟩
/-! ### built-in functions -/
def pLen (K : PySem.W.Frag) : List V → Hp → VK → Prop := fun xs H Q => ∃ p ys, xs = [.ref p] ∧ (SqL K H p ys ∨ SqT K H p ys) ∧ Q (.int ys.length) H
def pList (K : PySem.W.Frag) : List V → Hp → VK → Prop := fun xs H Q => ∃ p ys, xs = [.ref p] ∧ (SqL K H p ys ∨ SqT K H p ys) ∧ ∀ l, H l = none → Q (.ref l) (upd H l (.lst ys))
def pTuple (K : PySem.W.Frag) : List V → Hp → VK → Prop := fun xs H Q => ∃ p ys, xs = [.ref p] ∧ ((SqL K H p ys ∧ ∀ l, H l = none → Q (.ref l) (upd H l (.tup ys))) ∨ (SqT K H p ys ∧ Q (.ref p) H))
def pMax2 : List V → Hp → VK → Prop := fun xs H Q => ∃ i j, xs = [.int i, .int j] ∧ Q (.int (if j > i then j else i)) H
def pAbs : List V → Hp → VK → Prop := fun xs H Q => ∃ i, xs = [.int i] ∧ Q (.int (if i < 0 then -i else i)) H
def pInt1 : List V → Hp → VK → Prop := fun xs H Q => (∃ i, xs = [.int i] ∧ Q (.int i) H) ∨ ∃ k, xs = [.bl k] ∧ Q (.int (if k then 1 else 0)) H
theorem ev_len [s : SeqD r rs] (ha : Ev ta σ H r) : Ev (tCB (pLen K) (tCons ta tNil)) σ H (dI (rs.length : Int)) := fun H1 e Q q => ha H1 e _ fun v H2 e2 d => by
  obtain ⟨p, ys, rfl, hp, a⟩ := s.to v H2 d
  exact ⟨p, ys, rfl, sq_or hp, q _ H2 e2 (by show V.int _ = V.int _; rw [a.len])⟩
theorem ev_list [s : SeqD r rs] [Monos rs] (ha : Ev ta σ H r) : Ev (tCB (pList K) (tCons ta tNil)) σ H (dFr H (dL rs)) := fun H1 e Q q => ha H1 e _ fun v H2 e2 d => by
  obtain ⟨p, ys, rfl, hp, a⟩ := s.to v H2 d
  exact ⟨p, ys, rfl, sq_or hp, fun l hl => q _ _ (e2.trans (same_new hl)) ⟨⟨l, rfl, (e.trans e2).free hl⟩, l, ys, rfl, upd_same, a.mono (same_new hl)⟩⟩
theorem ev_tuple [s : SeqD r rs] [Monos rs] (ha : Ev ta σ H r) : Ev (tCB (pTuple K) (tCons ta tNil)) σ H (dT rs) := fun H1 e Q q => ha H1 e _ fun v H2 e2 d => by
  obtain ⟨p, ys, rfl, hp, a⟩ := s.to v H2 d
  rcases hp with hp | hp
  · exact ⟨p, ys, rfl, .inl ⟨SqL.of hp, fun l hl => q _ _ (e2.trans (same_new hl)) ⟨l, ys, rfl, upd_same, a.mono (same_new hl)⟩⟩⟩
  · exact ⟨p, ys, rfl, .inr ⟨SqT.of hp, q _ H2 e2 ⟨p, ys, rfl, hp, a⟩⟩⟩
theorem ev_max2 (ha : Ev ta σ H (dI i)) (hb : Ev tb σ H (dI j)) : Ev (tCB pMax2 (tCons ta (tCons tb tNil))) σ H (dI (if j > i then j else i)) := fun H1 e Q q =>
  ha H1 e _ fun x H2 e2 dx => hb H2 (e.trans e2) _ fun y H3 e3 dy => ⟨i, j, by rw [show x = .int i from dx, show y = .int j from dy], q _ H3 (e2.trans e3) rfl⟩
theorem ev_abs (ha : Ev ta σ H (dI i)) : Ev (tCB pAbs (tCons ta tNil)) σ H (dI (if i < 0 then -i else i)) := fun H1 e Q q =>
  ha H1 e _ fun x H2 e2 dx => ⟨i, by rw [show x = .int i from dx], q _ H2 e2 rfl⟩
theorem ev_int1 (ha : Ev ta σ H (dI i)) : Ev (tCB pInt1 (tCons ta tNil)) σ H (dI i) := fun H1 e Q q =>
  ha H1 e _ fun x H2 e2 dx => .inl ⟨i, by rw [show x = .int i from dx], q _ H2 e2 rfl⟩
/-! ### subscripts, slices, lists -/
theorem ev_ix {k : Nat} {d : Dn} [ma : Mono ra] [s : SeqD ra rs] (ha : Ev ta σ H ra) (hb : Ev tb σ H (dI (k : Int))) (hd : rs[k]? = some d) : Ev (tOp (rIx K) ta tb) σ H d := ev_op ha hb fun x y H1 e dx dy Q q => by
  obtain ⟨p, ys, rfl, hp, a⟩ := s.to x H1 dx
  obtain ⟨v, hv, dv⟩ := a.at hd
  rcases hp with hp | hp
  · exact .inl ⟨p, ys, _, v, rfl, dy, SqL.of hp, atI_nat hv, q _ H1 (Same.refl H1) dv⟩
  · exact .inr (.inl ⟨p, ys, _, v, rfl, dy, SqT.of hp, atI_nat hv, q _ H1 (Same.refl H1) dv⟩)
theorem ev_ixI {k : Nat} {d : Dn} [ma : Mono ra] [s : SeqD ra rs] (ha : Ev ta σ H ra) (hb : Ev tb σ H (dI i)) (hi : i = (k : Int)) (hd : rs[k]? = some d) : Ev (tOp (rIx K) ta tb) σ H d := ev_ix ha (hi ▸ hb) hd
theorem eo_none : EvO tNoPart σ H none := fun H1 _ _ q => q H1 (Same.refl H1)
theorem eo_some (h : Ev te σ H (dI i)) : EvO (tPart te) σ H (some i) := fun H1 e _ q => h H1 e _ fun v H2 e2 d => ⟨i, d, q H2 e2⟩
def cutD (xs : List Dn) (lo hi : Option Int) : List Dn := (xs.drop (HT.sIx xs.length 0 lo)).take (HT.sIx xs.length xs.length hi - HT.sIx xs.length 0 lo)
theorem alls_cut {vs : List V} (a : Alls H vs rs) (lo hi : Option Int) : Alls H (cutV vs lo hi) (cutD rs lo hi) := by
  unfold cutV cutD
  rw [a.len]
  exact (a.drop _).take _
def pSl (K : PySem.W.Frag) : V → Option Int → Option Int → Hp → VK → Prop := fun x lo hi H Q => rSlL K x lo hi H Q ∨ rSlA K x lo hi H Q
theorem ev_slL {tl th : TO} {lo hi : Option Int} {ss : List Dn} [ma : Mono ra] [s : LstD ra rs] [Monos rs] (ha : Ev ta σ H ra) (hl : EvO tl σ H lo) (hh : EvO th σ H hi) (hs : cutD rs lo hi = ss) : Ev (tSl (pSl K) ta tl th) σ H (dFr H (dL ss)) := fun H1 e Q q =>
  ha H1 e _ fun x H2 e2 dx => hl H2 (e.trans e2) _ fun H3 e3 => hh H3 ((e.trans e2).trans e3) _ fun H4 e4 => by
    obtain ⟨p, ys, rfl, hp, a⟩ := s.to x H4 (ma.m x H2 H4 (e3.trans e4) dx)
    have E := (e2.trans e3).trans e4
    refine .inl ⟨p, ys, rfl, SqL.of hp, fun l hl => q _ _ (E.trans (same_new hl)) ⟨⟨l, rfl, (e.trans E).free hl⟩, l, _, rfl, upd_same, ?_⟩⟩
    rw [← hs]
    exact alls_cut (a.mono (same_new hl)) lo hi
theorem ev_slT {tl th : TO} {lo hi : Option Int} {ss : List Dn} [ma : Mono ra] [s : TupD ra rs] [Monos rs] (ha : Ev ta σ H ra) (hl : EvO tl σ H lo) (hh : EvO th σ H hi) (hs : cutD rs lo hi = ss) : Ev (tSl (pSl K) ta tl th) σ H (dT ss) := fun H1 e Q q =>
  ha H1 e _ fun x H2 e2 dx => hl H2 (e.trans e2) _ fun H3 e3 => hh H3 ((e.trans e2).trans e3) _ fun H4 e4 => by
    obtain ⟨p, ys, rfl, hp, a⟩ := s.to x H4 (ma.m x H2 H4 (e3.trans e4) dx)
    have E := (e2.trans e3).trans e4
    refine .inr ⟨p, ys, rfl, SqT.of hp, fun hw => q _ _ E ⟨p, ys, rfl, hp, ?_⟩, fun _ l hl => q _ _ (E.trans (same_new hl)) ⟨l, _, rfl, upd_same, ?_⟩⟩
    · have z := alls_cut a lo hi
      have e0 : cutV ys lo hi = ys := by
        unfold cutV
        rw [hw.1, hw.2, List.drop_zero, Nat.sub_zero, List.take_length]
      rw [e0, hs] at z
      exact z
    · rw [← hs]
      exact alls_cut (a.mono (same_new hl)) lo hi
theorem cut_none_some {rs : List Dn} {k : Nat} : cutD rs none (some (k : Int)) = rs.take k := by
  unfold cutD
  rw [HT.sIx_none, HT.sIx_nat, List.drop_zero, Nat.sub_zero, Nat.min_comm]
  by_cases h : k ≤ rs.length
  · rw [Nat.min_eq_right h]
  · rw [Nat.min_eq_left (by omega), List.take_of_length_le (Nat.le_refl _), List.take_of_length_le (by omega)]
theorem cut_some_none {rs : List Dn} {k : Nat} : cutD rs (some (k : Int)) none = rs.drop k := by
  unfold cutD
  rw [HT.sIx_none, HT.sIx_nat]
  by_cases h : k ≤ rs.length
  · rw [Nat.min_eq_left h, List.take_of_length_le (by rw [List.length_drop]; exact Nat.le_refl _)]
  · rw [Nat.min_eq_right (by omega), List.drop_of_length_le (Nat.le_refl _), List.drop_of_length_le (by omega), List.take_nil]
theorem cut_some_some {rs : List Dn} {k n : Nat} (h : k + n ≤ rs.length) : cutD rs (some (k : Int)) (some ((k + n : Nat) : Int)) = (rs.drop k).take n := by
  unfold cutD
  rw [HT.sIx_nat, HT.sIx_nat, Nat.min_eq_left h, Nat.min_eq_left (show k ≤ rs.length by omega), Nat.add_sub_cancel_left]
/-- xs + ys; xs * k -/
theorem ev_cat {ra rb : Dn} {rs ss : List Dn} [ma : Mono ra] [s1 : LstD ra rs] [s2 : LstD rb ss] [Monos rs] [Monos ss] (ha : Ev ta σ H ra) (hb : Ev tb σ H rb) (hl : rs.length + ss.length ≤ 100000) : Ev (tOp rCat ta tb) σ H (dFr H (dL (rs ++ ss))) :=
  ev_op ha hb fun x y H1 e dx dy Q q => by
    obtain ⟨p, xs, rfl, hp, a⟩ := s1.to x H1 dx
    obtain ⟨p', ys, rfl, hp', a'⟩ := s2.to y H1 dy
    exact ⟨p, p', xs, ys, rfl, rfl, hp, hp', by rw [a.len, a'.len]; exact sz_of hl, fun l hl => q _ _ (same_new hl) ⟨⟨l, rfl, e.free hl⟩, l, _, rfl, upd_same, (a.append a').mono (same_new hl)⟩⟩
theorem flat_rep {α : Type} (x : α) : ∀ k : Nat, (List.replicate k [x]).flatten = List.replicate k x
  | 0 => rfl
  | k + 1 => by
    rw [List.replicate_succ, List.flatten_cons, flat_rep x k, List.replicate_succ]
    rfl
theorem alls_rep {v : V} {r : Dn} (h : r v H) (k : Nat) : Alls H (List.replicate k v) (List.replicate k r) := ⟨by rw [List.length_replicate, List.length_replicate], fun i w q h1 h2 => by
  have e1 := List.mem_of_getElem? h1
  have e2 := List.mem_of_getElem? h2
  rw [(List.mem_replicate.mp e1).2, (List.mem_replicate.mp e2).2]
  exact h⟩
theorem ev_rep {r0 : Dn} [ma : Mono ra] [s1 : LstD ra [r0]] [m : Mono r0] (ha : Ev ta σ H ra) (hb : Ev tb σ H (dI i)) (h1 : -100000 ≤ i) (h2 : i ≤ 100000) : Ev (tOp rRep ta tb) σ H (dFr H (dL (List.replicate i.toNat r0))) :=
  ev_op ha hb fun x y H1 e dx dy Q q => by
    obtain ⟨p, xs, rfl, hp, a⟩ := s1.to x H1 dx
    cases xs with
    | nil => cases a.len
    | cons z zs =>
      have ez : zs = [] := a.tail.nil_inv
      subst ez
      refine ⟨p, i, [z], rfl, dy, hp, by omega, by omega, by rw [List.length_singleton, Nat.one_mul]; exact sz_of (by omega), fun l hl => q _ _ (same_new hl) ⟨⟨l, rfl, e.free hl⟩, l, _, rfl, upd_same, ?_⟩⟩
      rw [flat_rep]
      exact alls_rep (m.m _ _ _ (same_new hl) a.head) _
end
end K35
set_option Elab.async false
set_option linter.all false
set_option maxRecDepth 100000
set_option maxHeartbeats 4000000
namespace K35
open PySem PySem.Spec L2
/-! ### what a for walks -/
structure Wk (J : It) (n : Nat) (G : Hp → Prop) (Y : Nat → Dn) : Prop where
  goes : ∀ i H, i < n → G H → J.go i H
  stops : ∀ H, G H → J.stop n H
  yields : ∀ i H x H', i < n → G H → J.yld i H x H' → Same H H' ∧ Y i x H'
/-- walked while all stands (EvI); while lists may change (EvJ) -/
def EvI (wi : TI) (σ : St) (H : Hp) (n : Nat) (Y : Nat → Dn) : Prop := ∀ H1, Same H H1 → ∀ R : It → Hp → Prop, (∀ J H2 G, Same H1 H2 → Wk J n G Y → G H2 → (∀ A B, Same A B → G A → G B) → R J H2) → wi σ H1 R
def EvJ (wi : TI) (σ : St) (H : Hp) (n : Nat) (Y : Nat → Dn) : Prop := ∀ H1, Same H H1 → ∀ R : It → Hp → Prop, (∀ J H2 G, Same H1 H2 → Wk J n G Y → G H2 → (∀ A B, Le A B → G A → G B) → R J H2) → wi σ H1 R
theorem EvJ.i {wi : TI} {σ : St} {H : Hp} {n : Nat} {Y : Nat → Dn} (h : EvJ wi σ H n Y) : EvI wi σ H n Y := fun H1 e R q => h H1 e R fun J H2 G e2 w g m => q J H2 G e2 w g fun A B s => m A B (le_of s)
def yAt (rs : List Dn) : Nat → Dn := fun i => rs.getD i (fun _ _ => False)
theorem yAt_some {rs : List Dn} {i : Nat} {r : Dn} (h : rs[i]? = some r) : yAt rs i = r := by
  unfold yAt
  rw [List.getD_eq_getElem?_getD, h]
  rfl
theorem yAt_lt {rs : List Dn} {i : Nat} (h : i < rs.length) : rs[i]? = some (yAt rs i) := by
  unfold yAt
  rw [List.getD_eq_getElem?_getD, List.getElem?_eq_getElem h]
  rfl
/-- the i-th two, as a new pair -/
def yPair (f g : Nat → Dn) : Nat → Dn := fun i => dT [f i, g i]
section
variable {K : PySem.W.Frag} {σ : St} {H H' : Hp} {ta tb te tc : TE} {t u : TT} {r ra rb : Dn} {rs ss : List Dn} {i j : Int} {b c : Bool} {D : Ends} {tz tu tw : TS} {wi : TI} {n : Nat} {Y : Nat → Dn}
theorem ei_list [s : LstD r rs] [Monos rs] (h : Ev te σ H r) : EvI (iList K te) σ H rs.length (yAt rs) := fun H1 e R q => h H1 e _ fun v H2 e2 d => by
  obtain ⟨p, ys, rfl, hp, a⟩ := s.to v H2 d
  refine ⟨p, rfl, ⟨ys, SqL.of hp⟩, q _ H2 (fun H' => H' p = some (.lst ys) ∧ Alls H' ys rs) e2 ⟨fun i H' hi g => ?_, fun H' g => ⟨ys, SqL.of g.1, by rw [g.2.len]; exact Nat.le_refl _⟩, fun i H' x H'' hi g y => ?_⟩ ⟨hp, a⟩ fun A B e g => ⟨e _ _ g.1, g.2.mono e⟩⟩
  · have hy : i < ys.length := by rw [g.2.len]; exact hi
    exact ⟨ys, ys[i], SqL.of g.1, List.getElem?_eq_getElem hy⟩
  · obtain ⟨rfl, y2⟩ := y
    exact ⟨Same.refl _, g.2.get i x _ (y2 ys (SqL.of g.1)) (yAt_lt hi)⟩
theorem ei_tup [s : TupD r rs] [Imms rs] (h : Ev te σ H r) : EvJ (iTup K te) σ H rs.length (yAt rs) := fun H1 e R q => h H1 e _ fun v H2 e2 d => by
  obtain ⟨p, ys, rfl, hp, a⟩ := s.to v H2 d
  refine ⟨p, rfl, ⟨ys, SqT.of hp⟩, q _ H2 (fun H' => H' p = some (.tup ys) ∧ Alls H' ys rs) e2 ⟨fun i H' hi g => ?_, fun H' g => ⟨ys, SqT.of g.1, by rw [g.2.len]; exact Nat.le_refl _⟩, fun i H' x H'' hi g y => ?_⟩ ⟨hp, a⟩ fun A B e g => ⟨e _ _ rfl g.1, g.2.imm e⟩⟩
  · have hy : i < ys.length := by rw [g.2.len]; exact hi
    exact ⟨ys, ys[i], SqT.of g.1, List.getElem?_eq_getElem hy⟩
  · obtain ⟨rfl, y2⟩ := y
    exact ⟨Same.refl _, g.2.get i x _ (y2 ys (SqT.of g.1)) (yAt_lt hi)⟩
theorem ei_rng1 (h : Ev te σ H (dI j)) (h1 : -100000 ≤ j) (h2 : j ≤ 100000) : EvJ (iRng1 (tCons te tNil)) σ H j.toNat (fun i => dI (i : Int)) := fun H1 e R q => h H1 e _ fun v H2 e2 d => by
  refine ⟨j, by rw [show v = .int j from d], by omega, by omega, q _ H2 (fun _ => True) e2 ⟨fun i H' hi _ => hi, fun H' _ => Nat.le_refl _, fun i H' x H'' hi _ y => ?_⟩ trivial fun _ _ _ _ => trivial⟩
  obtain ⟨rfl, y2⟩ := y
  exact ⟨Same.refl _, by rw [y2]; show V.int _ = V.int _; rw [Int.zero_add]⟩
theorem ei_rng2 (ha : Ev ta σ H (dI i)) (hb : Ev tb σ H (dI j)) (h1 : -100000 ≤ i ∧ i ≤ 100000) (h2 : -100000 ≤ j ∧ j ≤ 100000) : EvJ (iRng2 (tCons ta (tCons tb tNil))) σ H (j - i).toNat (fun k => dI (i + (k : Int))) := fun H1 e R q =>
  ha H1 e _ fun v H2 e2 d => hb H2 (e.trans e2) _ fun v' H3 e3 d' => by
    refine ⟨i, j, by rw [show v = .int i from d, show v' = .int j from d'], by omega, q _ H3 (fun _ => True) (e2.trans e3) ⟨fun i H' hi _ => hi, fun H' _ => Nat.le_refl _, fun i H' x H'' hi _ y => ?_⟩ trivial fun _ _ _ _ => trivial⟩
    obtain ⟨rfl, y2⟩ := y
    exact ⟨Same.refl _, y2⟩
/-- range(n - 1, -1, -1) -/
theorem ei_down {k : Nat} (ha : Ev ta σ H (dI ((k : Int) - 1))) (hb : Ev tb σ H (dI (-1))) (hc : Ev tc σ H (dI (-1))) (hk : k ≤ 100000) : EvJ (iRng3 (tCons ta (tCons tb (tCons tc tNil)))) σ H k (fun i => dI ((k : Int) - 1 - (i : Int))) := fun H1 e R q =>
  ha H1 e _ fun v H2 e2 d => hb H2 (e.trans e2) _ fun v' H3 e3 d' => hc H3 ((e.trans e2).trans e3) _ fun v'' H4 e4 d'' => by
    have rg : RgC ((k : Int) - 1) (-1) (-1) k := by
      have z := RgC.neg (i := (k : Int) - 1) (j := -1) (by omega) (by omega) (by omega) (by omega)
      rw [show ((k : Int) - 1 - -1).toNat = k by omega] at z
      exact z
    refine ⟨(k : Int) - 1, -1, -1, k, by rw [show v = _ from d, show v' = _ from d', show v'' = _ from d''], rg, q _ H4 (fun _ => True) ((e2.trans e3).trans e4) ⟨fun i H' hi _ => hi, fun H' _ => Nat.le_refl _, fun i H' x H'' hi _ y => ?_⟩ trivial fun _ _ _ _ => trivial⟩
    obtain ⟨rfl, y2⟩ := y
    exact ⟨Same.refl _, by rw [y2]; show V.int _ = V.int _; congr 1; omega⟩
end
end K35
set_option Elab.async false
set_option linter.all false
set_option maxRecDepth 100000
set_option maxHeartbeats 4000000
namespace K35
open PySem PySem.Spec L2
open Sem (wp)
/-! ### sequences of either kind (true: a tuple), their iterators -/
def SqX (K : PySem.W.Frag) (H : Hp) : Bool → Addr → List V → Prop
  | true, a, xs => SqT K H a xs
  | false, a, xs => SqL K H a xs
def IterX (h : Heap) : Bool → Addr → Addr → Nat → Prop
  | true, it, l, i => h.IsTupleIter it l i
  | false, it, l, i => h.IsListIter it l i
def SeqX (h : Heap) : Bool → Addr → Array Value → Prop
  | true, l, its => h.IsTuple l its
  | false, l, its => h.IsList l its
def iterCls : Bool → String
  | true => "tuple_iterator"
  | false => "list_iterator"
theorem drawsX {prog : Program} {w : World} {A : Around} (hh : A.handled = none) (it l : Addr) (hne : l ≠ it) (its : Array Value) : ∀ b : Bool, Draws prog w A it [it, l] its.size (fun i v => its[i]? = some v) (fun i h => IterX h b it l i ∧ SeqX h b l its)
  | true => Draws.tuple hh it l hne its
  | false => Draws.list hh it l hne its
theorem beginsX (l : Addr) (its : Array Value) : ∀ b : Bool, Begins (.ref l) { cls := .type (iterCls b), data := .fields #[.ref l, .int 0 0] } (fun h => SeqX h b l its)
  | true => begins_tuple l its
  | false => begins_list l its
theorem iterX_new {h : Heap} {it l : Addr} : ∀ {b : Bool}, h.get? it = some { cls := .type (iterCls b), data := .fields #[.ref l, .int 0 0] } → IterX h b it l 0
  | true, e => ⟨_, e, rfl, rfl⟩
  | false, e => ⟨_, e, rfl, rfl⟩
theorem iterX_at {h h' : Heap} {it l : Addr} {i : Nat} : ∀ {b : Bool}, IterX h b it l i → (∀ o, h.get? it = some o → h'.get? it = some o) → IterX h' b it l i
  | true, x, k => Heap.IsTupleIter.at x k
  | false, x, k => Heap.IsListIter.at x k
theorem iterX_obj {h : Heap} {it l : Addr} {i : Nat} : ∀ {b : Bool}, IterX h b it l i → ∃ o, h.get? it = some o ∧ ∀ v, o.data ≠ .cell v
  | true, ⟨o, e, _, d⟩ => ⟨o, e, fun v q => by rw [d] at q; cases q⟩
  | false, ⟨o, e, _, d⟩ => ⟨o, e, fun v q => by rw [d] at q; cases q⟩
theorem seqX_lt {h : Heap} {l : Addr} {its : Array Value} : ∀ {b : Bool}, SeqX h b l its → l < h.objs.size
  | true, ⟨_, e, _⟩ => Heap.lt_size e
  | false, ⟨_, e, _⟩ => Heap.lt_size e
section
variable {X : Cx} {pins : List (Addr × Obj)} {σ : St} {H : Hp} {s : Shared} {a : Addr} {xs ys : List V}
theorem inv_seqX (I : Inv X pins σ H s) : ∀ {b : Bool}, SqX X.K H b a xs → ∃ its : List Value, Vals xs its ∧ SeqX s.heap b a its.toArray
  | true, h => let ⟨its, rv, p, _⟩ := I.tuple h; ⟨its, rv, p⟩
  | false, h => let ⟨its, rv, p, _⟩ := I.list h; ⟨its, rv, p.isList⟩
theorem inv_injX (I : Inv X pins σ H s) : ∀ {b : Bool}, SqX X.K H b a xs → SqX X.K H b a ys → xs = ys
  | true, h, h' => I.tuple_inj h h'
  | false, h, h' => I.list_inj h h'
end
/-! ### enumerate -/
theorem meets_enum1 {v : Value} {o : Obj} {B : Heap → Prop} (b : Begins v o B) :
    Meets (Builtin.«enumerate.__new__» ⟨[.type "enumerate", v], []⟩) (fun _ R s => B s.heap ∧
      R (.ok (.ret (.ref (s.heap.push o).objs.size))) { s with heap := (s.heap.push o).push { cls := .type "enumerate", data := .fields #[.none, .bool false, .ref s.heap.objs.size, rawInt 0, .none, .none] } }) :=
  .of_wp fun prog w A R s h => by
    obtain ⟨hp, g, d, tk, os⟩ := s
    obtain ⟨h1, h⟩ := h
    have hsub := sub_enumerate
    have q1 : ∀ {A' : Around} {E : Value → Shared → Prop} {Q : Value → Shared → Prop}, Q (.ref hp.objs.size) ⟨hp.push o, g, d, tk, os⟩ → wpAny (model prog w) A' (pyIter v) Q E ⟨hp, g, d, tk, os⟩ :=
      fun q => b.iter prog w _ _ ⟨hp, g, d, tk, os⟩ _ h1 q
    wp_walk using q1
    refine wpAny_stack_any fun st => wpAny_pure ?_
    split
    · rename_i c _ _ _ _ _
      cases (c == Value.type "enumerate") <;> (wp_walk using q1; exact ⟨_, rfl, h⟩)
    · wp_walk using q1
      exact ⟨_, rfl, h⟩
section
variable {prog : Program} {w : World} {A : Around} {E : Value → Shared → Prop} {s : Shared}
theorem call_enum1 {v : Value} {o : Obj} {B : Heap → Prop} {Q : Value → Shared → Prop} (b : Begins v o B) (h1 : B s.heap)
    (h : ∀ h', IsEnum h' (s.heap.objs.size + 1) s.heap.objs.size 0 .none → h'.get? s.heap.objs.size = some o → (∀ c u, s.heap.get? c = some u → h'.get? c = some u) → Q (.ref (s.heap.objs.size + 1)) { s with heap := h' }) :
    wpAny (model prog w) A (call (.type "enumerate") [v]) Q E s := by
  refine callType_new F.called_enumerate (by decide) (F.typeCall_enumerate_1 _) (F.newCall_enumerate_1 _) (fun obj => F.args_object_init_2 obj _) F.entry_enumerate_new (meets_enum1 b) ⟨h1, ?_⟩
  have hz : (s.heap.push o).objs.size = s.heap.objs.size + 1 := Heap.size_push ..
  have he : IsEnum ((s.heap.push o).push { cls := .type "enumerate", data := .fields #[.none, .bool false, .ref s.heap.objs.size, rawInt 0, .none, .none] }) (s.heap.objs.size + 1) s.heap.objs.size 0 .none := by
    have z := Heap.get?_push_size (s.heap.push o) (o := { cls := .type "enumerate", data := .fields #[.none, .bool false, .ref s.heap.objs.size, rawInt 0, .none, .none] }) rfl
    rw [hz] at z
    exact z
  show _ ∧ _
  rw [hz]
  exact ⟨⟨_, he, rfl⟩, h _ he (Heap.get?_push_of_some _ (Heap.get?_push_size _ b.free)) fun c u x => Heap.get?_push_of_some _ (Heap.get?_push_of_some _ x)⟩
end
def Iex (K : PySem.W.Frag) (b : Bool) (a : Addr) : It :=
  ⟨fun i H => ∃ (xs : List V) (x : V), SqX K H b a xs ∧ xs[i]? = some x,
   fun i H v H' => ∃ T x, v = .ref T ∧ H T = none ∧ H' = upd H T (.tup [.int (i : Nat), x]) ∧ ∀ xs, SqX K H b a xs → xs[i]? = some x,
   fun i H => ∃ xs : List V, SqX K H b a xs ∧ xs.length = i⟩
theorem turn_enumX {P : Program} {w : World} {K : PySem.W.Frag} {elts : List Expr} {kk : Nat} {tpos : Pos} (b : Bool) {a e it : Addr} (hea : e ≠ a) (hia : it ≠ a) :
    Turn P w K (.Tuple elts kk tpos) (Iex K b a) [e, it] e (fun i h => (∃ old, IsEnum h e it ((i : Nat) : Int) old) ∧ IterX h b it a i ∧ e ≠ it) where
  mem := by simp
  obj := fun i h st c hc => by
    obtain ⟨⟨old, he⟩, hi, _⟩ := st
    rcases (show c = e ∨ c = it by simpa using hc) with q | q
    · subst q
      exact ⟨_, he, fun v q => nomatch q⟩
    · subst q
      exact iterX_obj hi
  keep := fun i h h' st k => let ⟨⟨old, he⟩, hi, ne⟩ := st; ⟨⟨old, k e (by simp) _ he⟩, iterX_at hi fun o q => k it (by simp) o q, ne⟩
  item := by
    intro X hP hw hK hc i pins s σ H E I hf st hg
    subst hP hw hK
    obtain ⟨⟨old, he⟩, hit, ne⟩ := st
    obtain ⟨xs, x, hq, hx⟩ := hg
    obtain ⟨its, rv, p⟩ := inv_seqX I hq
    have hlen := rv.length
    have hi : i < its.toArray.size := by
      rw [List.size_toArray, ← hlen]
      exact (List.getElem?_eq_some_iff.mp hx).1
    have hel : e < s.heap.objs.size := Heap.lt_size he
    have hil : it < s.heap.objs.size := by
      obtain ⟨_, q, _⟩ := iterX_obj hit
      exact Heap.lt_size q
    refine wpAny_pyNext_enum_itemD (drawsX (A := X.A.in1) (I.ok.hd hc) it a hia.symm its.toArray b) he ⟨hit, p⟩ hi ne (by simp [ne, hea]) fun u h' tk hu ho hst' hT _ hk => ?_
    obtain ⟨u', hu', ru'⟩ := rv.get hx
    have euu : u = u' := by
      have z : its[i]? = some u := by simpa using hu
      rw [z] at hu'
      exact Option.some.inj hu'
    subst euu
    refine ⟨_, rfl, wpAny_letOwnedTupleGo_enum (s := { s with heap := h', toks := tk + 1 }) ho fun h2 he2 sb => ?_⟩
    have hT2 : h2.get? s.heap.objs.size = some { cls := .type "tuple", data := .seq #[.int i tk, u] } := (sb.2 _ (Nat.ne_of_gt hel)).trans hT
    have I1 : Inv X pins σ (upd H s.heap.objs.size (.tup [.int (i : Nat), x])) { s with heap := h2, toks := tk + 1 } :=
      I.turnedNew (ch := [e, it]) (fun c o hb q => (sb.2 c fun z => hb (by simp [z])).trans (hk c o (fun z => hb (by simp [z])) (fun z => hb (by simp [z])) q)) hf (Nat.le_refl _)
        ⟨by show 2 ≤ sizeLine; decide, [.int i tk, u], .cons ⟨_, rfl⟩ (.cons ru' .nil), ⟨_, hT2, rfl, _, rfl⟩⟩
    refine ⟨.ref s.heap.objs.size, _, I1, rfl, ⟨_, x, rfl, I.hok.fresh (Nat.le_refl _), rfl, fun ys hy => by rw [inv_injX I hy hq]; exact hx⟩, ⟨⟨u, ?_⟩, iterX_at hst'.1 fun o q => (sb.2 it ne.symm).trans q, ne⟩, fun c hcm => ?_⟩
    · rw [show ((i + 1 : Nat) : Int) = (i : Int) + 1 by omega]
      exact he2
    · have hlt : c < s.heap.objs.size := by
        rcases (show c = e ∨ c = it by simpa using hcm) with q | q
        · rw [q]; exact hel
        · rw [q]; exact hil
      rw [upd_ne (Nat.ne_of_lt hlt)]
      exact (hf c hcm).1
  done := by
    intro X hP hw hK hc i pins s σ H E I hf st hg
    subst hP hw hK
    obtain ⟨⟨old, he⟩, hit, ne⟩ := st
    obtain ⟨xs, hq, hx⟩ := hg
    obtain ⟨its, rv, p⟩ := inv_seqX I hq
    have hn : i = its.toArray.size := by rw [List.size_toArray, ← rv.length, hx]
    obtain ⟨f0, f1, f2, f3, f4, f5⟩ := hf it (by simp)
    refine wpAny_pyNext_enum_endD (drawsX (A := X.A.in1) (I.ok.hd hc) it a hia.symm its.toArray b) he (hn ▸ ⟨hit, p⟩) fun h' eb => ⟨rfl, I.turned (t' := s.toks) (fun c o hb q => eb c o hb q) f0 f1 f3 f4 f5⟩
  self := fun A i s Q E st h => let ⟨⟨_, he⟩, _⟩ := st; wpAny_pyIter_enum he h
def iEnX (K : PySem.W.Frag) (ta : TA) : TI := fun σ H R => ta σ H fun vs H1 => ∃ b a xs, vs = [.ref a] ∧ SqX K H1 b a xs ∧ R (Iex K b a) H1
theorem pi_enX {X : Cx} {e : Expr} {ta : TA} {p pos tpos : Pos} {elts : List Expr} {kk : Nat} (hg : Gl X "enumerate") (hm : X.mg "enumerate" = none) (ha : PA X [e] ta) (hs : starEach [e] X.env = [(false, eval e X.env)] := by rfl) :
    PI X (.Tuple elts kk tpos) (.Call (.Name "enumerate" p) [e] [] pos) (iEnX X.K ta) := by
  refine ⟨fun pins s σ H R I h => ?_⟩
  refine PyProof.Rows.Call_ (ld_blt I hg hm PyProof.Rows.boot_enumerate (PyProof.Rows.callWith_type1 (thn (ha.run pos pins s σ H _ I h) fun us s1 ⟨vs, H1, I1, r1, q1⟩ => ?_) hs rfl))
  obtain ⟨b, a, xs, ex, hq, q⟩ := q1
  subst ex
  cases r1 with
  | cons r rr =>
    cases rr
    cases r
    obtain ⟨its, rv, p'⟩ := inv_seqX I1 hq
    have hlt : a < s1.heap.objs.size := seqX_lt p'
    refine call_enum1 (beginsX a its.toArray b) p' fun h' he hit hk => wpAny_pyIter_enum he ?_
    refine ⟨s1.heap.objs.size + 1, [s1.heap.objs.size + 1, s1.heap.objs.size], _, _, H1, rfl, I1.kept (t' := s1.toks) hk, turn_enumX b (Nat.ne_of_gt (Nat.lt_succ_of_lt hlt)) (Nat.ne_of_gt hlt), ⟨⟨.none, he⟩, iterX_new hit, Nat.succ_ne_self _⟩, fun c hc => ?_, q⟩
    have hle : s1.heap.objs.size ≤ c := by
      rcases (show c = s1.heap.objs.size + 1 ∨ c = s1.heap.objs.size by simpa using hc) with z | z
      · rw [z]; exact Nat.le_add_right _ _
      · rw [z]; exact Nat.le_refl _
    exact I1.fpOk hle (I1.hok.fresh hle)
/-! ### zip of two, of either kinds -/
def Izx (K : PySem.W.Frag) (b c : Bool) (l m : Addr) : It :=
  ⟨fun i H => ∃ (xs ys : List V) (x y : V), SqX K H b l xs ∧ SqX K H c m ys ∧ xs[i]? = some x ∧ ys[i]? = some y,
   fun i H v H' => ∃ T x y, v = .ref T ∧ H T = none ∧ H' = upd H T (.tup [x, y]) ∧ (∀ xs, SqX K H b l xs → xs[i]? = some x) ∧ ∀ ys, SqX K H c m ys → ys[i]? = some y,
   fun i H => ∃ xs ys : List V, SqX K H b l xs ∧ SqX K H c m ys ∧ i ≤ xs.length ∧ i ≤ ys.length ∧ (i = xs.length ∨ i = ys.length)⟩
theorem turn_zipX {P : Program} {w : World} {K : PySem.W.Frag} {elts : List Expr} {kk : Nat} {tpos : Pos} (b c : Bool) {l m z TI TO i1 i2 : Addr} (S : ZipSep2 z TI TO i1 i2 [i1, l] [i2, m]) (hl : l ≠ i1) (hm : m ≠ i2) :
    Turn P w K (.Tuple elts kk tpos) (Izx K b c l m) [z, TI, TO, i1, i2] z (fun i h => IsZip h z TI TO .none ∧ IsTupOf2 h TI (.ref i1) (.ref i2) ∧ (∃ x y, IsTupOf2 h TO x y) ∧ IterX h b i1 l i ∧ IterX h c i2 m i) where
  mem := by simp
  obj := fun i h st d hd => by
    obtain ⟨hz, hTI, ⟨x, y, hTO⟩, h1, h2⟩ := st
    rcases (show d = z ∨ d = TI ∨ d = TO ∨ d = i1 ∨ d = i2 by simpa using hd) with q | q | q | q | q <;> subst q
    · exact ⟨_, hz, fun v q => nomatch q⟩
    · exact ⟨_, hTI, fun v q => nomatch q⟩
    · exact ⟨_, hTO, fun v q => nomatch q⟩
    · exact iterX_obj h1
    · exact iterX_obj h2
  keep := fun i h h' st k => by
    obtain ⟨hz, hTI, ⟨x, y, hTO⟩, h1, h2⟩ := st
    exact ⟨k z (by simp) _ hz, k TI (by simp) _ hTI, ⟨x, y, k TO (by simp) _ hTO⟩, iterX_at h1 fun o q => k i1 (by simp) o q, iterX_at h2 fun o q => k i2 (by simp) o q⟩
  item := by
    intro X hP hw hK hc i pins s σ H E I hf st hg
    subst hP hw hK
    obtain ⟨hz, hTI, ⟨x0, y0, hTO⟩, h1, h2⟩ := st
    obtain ⟨xs, ys, x, y, hqx, hqy, hx, hy⟩ := hg
    obtain ⟨its, rv, p⟩ := inv_seqX I hqx
    obtain ⟨its2, rv2, p2⟩ := inv_seqX I hqy
    have hi1 : i < its.toArray.size := by
      rw [List.size_toArray, ← rv.length]
      exact (List.getElem?_eq_some_iff.mp hx).1
    have hi2 : i < its2.toArray.size := by
      rw [List.size_toArray, ← rv2.length]
      exact (List.getElem?_eq_some_iff.mp hy).1
    have hzl : z < s.heap.objs.size := Heap.lt_size hz
    refine wpAny_pyNext_zipD2_item S (drawsX (A := X.A.in1) (I.ok.hd hc) i1 l hl its.toArray b) (drawsX (A := X.A.in1) (I.ok.hd hc) i2 m hm its2.toArray c) hz hTI hTO ⟨h1, p⟩ ⟨h2, p2⟩ hi1 hi2 fun u u2 h' tk hu hu2 hz' hTO' st1 st2 hT _ hk => ?_
    obtain ⟨v1, hv1, r1⟩ := rv.get hx
    obtain ⟨v2, hv2, r2⟩ := rv2.get hy
    have e1 : u = v1 := by
      have q : its[i]? = some u := by simpa using hu
      rw [q] at hv1
      exact Option.some.inj hv1
    have e2 : u2 = v2 := by
      have q : its2[i]? = some u2 := by simpa using hu2
      rw [q] at hv2
      exact Option.some.inj hv2
    subst e1 e2
    refine ⟨_, rfl, wpAny_letOwnedTupleGo_zip (s := { s with heap := h', toks := tk }) hz' fun h3 hz3 sb => ?_⟩
    have hT2 : h3.get? s.heap.objs.size = some { cls := .type "tuple", data := .seq #[u, u2] } := (sb.2 _ (Nat.ne_of_gt hzl)).trans hT
    have I1 : Inv X pins σ (upd H s.heap.objs.size (.tup [x, y])) { s with heap := h3, toks := tk } :=
      I.turnedNew (ch := [z, TI, TO, i1, i2]) (fun d o hb q => (sb.2 d fun q' => hb (by simp [q'])).trans (hk d o (fun q' => hb (by simp [q'])) (fun q' => hb (by simp [q'])) (fun q' => hb (by simp [q'])) (fun q' => hb (by simp [q'])) q)) hf (Nat.le_refl _)
        ⟨by show 2 ≤ sizeLine; decide, [u, u2], .cons r1 (.cons r2 .nil), ⟨_, hT2, rfl, _, rfl⟩⟩
    refine ⟨.ref s.heap.objs.size, _, I1, rfl, ⟨_, x, y, rfl, I.hok.fresh (Nat.le_refl _), rfl, fun ws hq => by rw [inv_injX I hq hqx]; exact hx, fun ws hq => by rw [inv_injX I hq hqy]; exact hy⟩,
      ⟨hz3, (sb.2 _ S.TIz).trans (hk _ _ S.TIz S.TITO S.TIi1 S.TIi2 hTI), ⟨u, u2, (sb.2 _ S.TOz).trans hTO'⟩, iterX_at st1.1 fun o q => (sb.2 _ fun q' => S.zf1 (by simp [q'])).trans q, iterX_at st2.1 fun o q => (sb.2 _ fun q' => S.zf2 (by simp [q'])).trans q⟩, fun d hd => ?_⟩
    have hlt : d < s.heap.objs.size := by
      rcases (show d = z ∨ d = TI ∨ d = TO ∨ d = i1 ∨ d = i2 by simpa using hd) with q | q | q | q | q
      · rw [q]; exact hzl
      · rw [q]; exact Heap.lt_size hTI
      · rw [q]; exact Heap.lt_size hTO
      · rw [q]; obtain ⟨_, e, _⟩ := iterX_obj h1; exact Heap.lt_size e
      · rw [q]; obtain ⟨_, e, _⟩ := iterX_obj h2; exact Heap.lt_size e
    rw [upd_ne (Nat.ne_of_lt hlt)]
    exact (hf d hd).1
  done := by
    intro X hP hw hK hc i pins s σ H E I hf st hg
    subst hP hw hK
    obtain ⟨hz, hTI, ⟨x0, y0, hTO⟩, h1, h2⟩ := st
    obtain ⟨xs, ys, hqx, hqy, le1, le2, hend⟩ := hg
    obtain ⟨its, rv, p⟩ := inv_seqX I hqx
    obtain ⟨its2, rv2, p2⟩ := inv_seqX I hqy
    have n1 : its.toArray.size = xs.length := by rw [List.size_toArray, ← rv.length]
    have n2 : its2.toArray.size = ys.length := by rw [List.size_toArray, ← rv2.length]
    exact wpAny_pyNext_zipD2_end S (drawsX (A := X.A.in1) (I.ok.hd hc) i1 l hl its.toArray b) (drawsX (A := X.A.in1) (I.ok.hd hc) i2 m hm its2.toArray c) hz hTI hTO ⟨h1, p⟩ ⟨h2, p2⟩ (by omega) (by omega) (by omega) fun h' tk hk =>
      ⟨rfl, I.turnedL (t' := tk) (ch := [z, TI, TO, i1, i2]) (fun d o hb q => hk d o (fun q' => hb (by simp [q'])) (fun q' => hb (by simp [q'])) (fun q' => hb (by simp [q'])) (fun q' => hb (by simp [q'])) q) hf⟩
  self := fun A i s Q E st h => wpAny_pyIter_zip st.1 h
def iZpX (K : PySem.W.Frag) (ta : TA) : TI := fun σ H R => ta σ H fun vs H1 => ∃ b c l m xs ys, vs = [.ref l, .ref m] ∧ SqX K H1 b l xs ∧ SqX K H1 c m ys ∧ R (Izx K b c l m) H1
theorem pi_zpX {X : Cx} {e e2 : Expr} {ta : TA} {p pos tpos : Pos} {elts : List Expr} {kk : Nat} (hg : Gl X "zip") (hm : X.mg "zip" = none) (ha : PA X [e, e2] ta)
    (hs : starEach [e, e2] X.env = (false, eval e X.env) :: starEach [e2] X.env := by rfl) (hpl : (backTo pos (starEach [e2] X.env)).any (·.1) = false := by rfl) :
    PI X (.Tuple elts kk tpos) (.Call (.Name "zip" p) [e, e2] [] pos) (iZpX X.K ta) := by
  refine ⟨fun pins s σ H R I h => ?_⟩
  refine PyProof.Rows.Call_ (ld_blt I hg hm PyProof.Rows.boot_zip (PyProof.Rows.callWith_type1 (thn (ha.run pos pins s σ H _ I h) fun us s1 ⟨vs, H1, I1, r1, q1⟩ => ?_) hs hpl))
  obtain ⟨b, c, l, m, xs, ys, ex, hqx, hqy, q⟩ := q1
  subst ex
  cases r1 with
  | cons r rr =>
    cases rr with
    | cons r' rr =>
      cases rr
      cases r
      cases r'
      obtain ⟨its, rv, p1⟩ := inv_seqX I1 hqx
      obtain ⟨its2, rv2, p2⟩ := inv_seqX I1 hqy
      have ll : l < s1.heap.objs.size := seqX_lt p1
      have lm : m < s1.heap.objs.size := seqX_lt p2
      refine zip_begins2 (beginsX l its.toArray b) (beginsX m its2.toArray c) p1 p2 fun h' hz hTI hTO h1 h2 _ hk => wpAny_pyIter_zip hz ?_
      have sep := zip_sep2 (N := s1.heap.objs.size) (fp1 := [l]) (fp2 := [m]) (by simpa using ll) (by simpa using lm)
      refine ⟨s1.heap.objs.size + 4, [s1.heap.objs.size + 4, s1.heap.objs.size + 2, s1.heap.objs.size + 3, s1.heap.objs.size, s1.heap.objs.size + 1], _, _, H1, rfl, I1.kept (t' := s1.toks) hk, turn_zipX b c sep (Nat.ne_of_lt ll) (Nat.ne_of_lt (Nat.lt_succ_of_lt lm)), ⟨hz, hTI, ⟨_, _, hTO⟩, iterX_new h1, iterX_new h2⟩, fun d hd => ?_, q⟩
      have hle : s1.heap.objs.size ≤ d := by
        rcases (show d = s1.heap.objs.size + 4 ∨ d = s1.heap.objs.size + 2 ∨ d = s1.heap.objs.size + 3 ∨ d = s1.heap.objs.size ∨ d = s1.heap.objs.size + 1 by simpa using hd) with z | z | z | z | z <;> rw [z]
        · exact Nat.le_add_right _ _
        · exact Nat.le_add_right _ _
        · exact Nat.le_add_right _ _
        · exact Nat.le_refl _
        · exact Nat.le_add_right _ _
      exact I1.fpOk hle (I1.hok.fresh hle)
end K35
set_option Elab.async false
set_option linter.all false
set_option maxRecDepth 100000
set_option maxHeartbeats 4000000
namespace K35
open PySem PySem.Spec L2
theorem sqX_of {K : PySem.W.Frag} {H : Hp} {p : Addr} {ys : List V} (h : H p = some (.lst ys) ∨ H p = some (.tup ys)) : ∃ b, SqX K H b p ys ∧ ∀ H', Same H H' → SqX K H' b p ys := by
  rcases h with h | h
  · exact ⟨false, SqL.of h, fun H' e => SqL.of (e _ _ h)⟩
  · exact ⟨true, SqT.of h, fun H' e => SqT.of (e _ _ h)⟩
section
variable {K : PySem.W.Frag} {σ : St} {H H' : Hp} {ta tb te tc : TE} {t u : TT} {r ra rb : Dn} {rs ss : List Dn} {i j : Int} {b c : Bool} {D : Ends} {tz tu tw : TS} {wi : TI} {n : Nat} {Y : Nat → Dn}
/-! ### enumerate, zip -/
theorem ei_en [s : SeqD r rs] [Monos rs] (h : Ev te σ H r) : EvI (iEnX K (tCons te tNil)) σ H rs.length (yPair (fun i => dI (i : Int)) (yAt rs)) := fun H1 e R q => h H1 e _ fun v H2 e2 d => by
  obtain ⟨p, ys, rfl, hp, a⟩ := s.to v H2 d
  obtain ⟨b, sb, st⟩ := sqX_of (K := K) hp
  refine ⟨b, p, ys, rfl, sb, q _ H2 (fun H' => SqX K H' b p ys ∧ Alls H' ys rs ∧ Same H2 H') e2 ⟨fun i H' hi g => ?_, fun H' g => ⟨ys, g.1, g.2.1.len⟩, fun i H' x H'' hi g y => ?_⟩ ⟨sb, a, Same.refl _⟩ fun A B e g => ⟨st _ (g.2.2.trans e), g.2.1.mono e, g.2.2.trans e⟩⟩
  · have hy : i < ys.length := by rw [g.2.1.len]; exact hi
    exact ⟨ys, ys[i], g.1, List.getElem?_eq_getElem hy⟩
  · obtain ⟨T, w, rfl, hT, rfl, y2⟩ := y
    exact ⟨same_new hT, T, _, rfl, upd_same, alls_cons rfl (alls_cons ((g.2.1.mono (same_new hT)).get i w _ (y2 ys g.1) (yAt_lt hi)) alls_nil)⟩
theorem ej_en [s : TupD r rs] [Imms rs] (h : Ev te σ H r) : EvJ (iEnX K (tCons te tNil)) σ H rs.length (yPair (fun i => dI (i : Int)) (yAt rs)) := fun H1 e R q => h H1 e _ fun v H2 e2 d => by
  obtain ⟨p, ys, rfl, hp, a⟩ := s.to v H2 d
  refine ⟨true, p, ys, rfl, SqT.of hp, q _ H2 (fun H' => H' p = some (.tup ys) ∧ Alls H' ys rs) e2 ⟨fun i H' hi g => ?_, fun H' g => ⟨ys, SqT.of g.1, g.2.len⟩, fun i H' x H'' hi g y => ?_⟩ ⟨hp, a⟩ fun A B e g => ⟨e _ _ rfl g.1, g.2.imm e⟩⟩
  · have hy : i < ys.length := by rw [g.2.len]; exact hi
    exact ⟨ys, ys[i], SqT.of g.1, List.getElem?_eq_getElem hy⟩
  · obtain ⟨T, w, rfl, hT, rfl, y2⟩ := y
    exact ⟨same_new hT, T, _, rfl, upd_same, alls_cons rfl (alls_cons ((g.2.imm (le_of (same_new hT))).get i w _ (y2 ys (SqT.of g.1)) (yAt_lt hi)) alls_nil)⟩
theorem ei_zp [ma : Mono ra] [s1 : SeqD ra rs] [s2 : SeqD rb ss] [Monos rs] [Monos ss] (ha : Ev ta σ H ra) (hb : Ev tb σ H rb) : EvI (iZpX K (tCons ta (tCons tb tNil))) σ H (min rs.length ss.length) (yPair (yAt rs) (yAt ss)) := fun H1 e R q =>
  ha H1 e _ fun v H2 e2 d => hb H2 (e.trans e2) _ fun v' H3 e3 d' => by
    obtain ⟨p, xs, rfl, hp, a⟩ := s1.to v H3 (ma.m _ _ _ e3 d)
    obtain ⟨p', ys, rfl, hp', a'⟩ := s2.to v' H3 d'
    obtain ⟨b, sb, st⟩ := sqX_of (K := K) hp
    obtain ⟨c, sc, st'⟩ := sqX_of (K := K) hp'
    refine ⟨b, c, p, p', xs, ys, rfl, sb, sc, q _ H3 (fun H' => SqX K H' b p xs ∧ SqX K H' c p' ys ∧ Alls H' xs rs ∧ Alls H' ys ss ∧ Same H3 H') (e2.trans e3) ⟨fun i H' hi g => ?_, fun H' g => ⟨xs, ys, g.1, g.2.1, ?_⟩, fun i H' x H'' hi g y => ?_⟩ ⟨sb, sc, a, a', Same.refl _⟩
      fun A B e g => ⟨st _ (g.2.2.2.2.trans e), st' _ (g.2.2.2.2.trans e), g.2.2.1.mono e, g.2.2.2.1.mono e, g.2.2.2.2.trans e⟩⟩
    · have h1 : i < xs.length := by rw [g.2.2.1.len]; omega
      have h2 : i < ys.length := by rw [g.2.2.2.1.len]; omega
      exact ⟨xs, ys, xs[i], ys[i], g.1, g.2.1, List.getElem?_eq_getElem h1, List.getElem?_eq_getElem h2⟩
    · rw [g.2.2.1.len, g.2.2.2.1.len]
      omega
    · obtain ⟨T, w, w', rfl, hT, rfl, y2, y3⟩ := y
      exact ⟨same_new hT, T, _, rfl, upd_same, alls_cons ((g.2.2.1.mono (same_new hT)).get i w _ (y2 xs g.1) (yAt_lt (by omega))) (alls_cons ((g.2.2.2.1.mono (same_new hT)).get i w' _ (y3 ys g.2.1) (yAt_lt (by omega))) alls_nil)⟩
theorem ej_zp [s1 : TupD ra rs] [s2 : TupD rb ss] [Imms rs] [Imms ss] [ma : Mono ra] (ha : Ev ta σ H ra) (hb : Ev tb σ H rb) : EvJ (iZpX K (tCons ta (tCons tb tNil))) σ H (min rs.length ss.length) (yPair (yAt rs) (yAt ss)) := fun H1 e R q =>
  ha H1 e _ fun v H2 e2 d => hb H2 (e.trans e2) _ fun v' H3 e3 d' => by
    obtain ⟨p, xs, rfl, hp, a⟩ := s1.to v H3 (ma.m _ _ _ e3 d)
    obtain ⟨p', ys, rfl, hp', a'⟩ := s2.to v' H3 d'
    refine ⟨true, true, p, p', xs, ys, rfl, SqT.of hp, SqT.of hp', q _ H3 (fun H' => H' p = some (.tup xs) ∧ H' p' = some (.tup ys) ∧ Alls H' xs rs ∧ Alls H' ys ss) (e2.trans e3) ⟨fun i H' hi g => ?_, fun H' g => ⟨xs, ys, SqT.of g.1, SqT.of g.2.1, ?_⟩, fun i H' x H'' hi g y => ?_⟩ ⟨hp, hp', a, a'⟩
      fun A B e g => ⟨e _ _ rfl g.1, e _ _ rfl g.2.1, g.2.2.1.imm e, g.2.2.2.imm e⟩⟩
    · have h1 : i < xs.length := by rw [g.2.2.1.len]; omega
      have h2 : i < ys.length := by rw [g.2.2.2.len]; omega
      exact ⟨xs, ys, xs[i], ys[i], SqT.of g.1, SqT.of g.2.1, List.getElem?_eq_getElem h1, List.getElem?_eq_getElem h2⟩
    · rw [g.2.2.1.len, g.2.2.2.len]
      omega
    · obtain ⟨T, w, w', rfl, hT, rfl, y2, y3⟩ := y
      exact ⟨same_new hT, T, _, rfl, upd_same, alls_cons ((g.2.2.1.imm (le_of (same_new hT))).get i w _ (y2 xs (SqT.of g.1)) (yAt_lt (by omega))) (alls_cons ((g.2.2.2.imm (le_of (same_new hT))).get i w' _ (y3 ys (SqT.of g.2.1)) (yAt_lt (by omega))) alls_nil)⟩
/-- a pair taken apart by two names -/
theorem bd_pair {v : V} {k m : Nat} (d : dT [ra, rb] v H) : ∃ x y, ra x H ∧ rb y H ∧ ∀ Q : St → Hp → Prop, Q ((σ.set k (some x)).set m (some y)) H → gTup K 2 (gCons (gName k) (gCons (gName m) gNil)) v σ H Q := by
  obtain ⟨a, vs, rfl, h1, h2⟩ := d
  obtain ⟨x, ws, rfl, dx, h2⟩ := h2.cons_inv
  obtain ⟨y, zs, rfl, dy, h2⟩ := h2.cons_inv
  have e := h2.nil_inv
  subst e
  exact ⟨x, y, dx, dy, fun Q q => ⟨a, [x, y], rfl, SqT.of h1, rfl, x, [y], rfl, y, [], rfl, rfl, q⟩⟩
/-! ### comprehensions -/
/-- what is known of v outlives a store to the list at C -/
def Stb (C : Addr) (r : Dn) (v : V) : Prop := ∀ H xs ys, H C = some (.lst xs) → r v H → r v (upd H C (.lst ys))
/-- evaluates, and what comes out is not touched by a store to a list that stood ahead -/
def EvK (te : TE) (σ : St) (H : Hp) (r : Dn) : Prop := ∀ H1, Same H H1 → ∀ Q : VK, (∀ v H2, Same H1 H2 → r v H2 → (∀ C xs, H C = some (.lst xs) → Stb C r v) → Q v H2) → te σ H1 Q
theorem evk_imm [m : Imm r] (h : Ev te σ H r) : EvK te σ H r := fun H1 e Q q => h H1 e Q fun v H2 e2 d => q v H2 e2 d fun C _ _ H3 xs ys hC d' => m.m v _ _ (le_set hC) d'
theorem stb_lst [m : Imms rs] {H0 : Hp} {a C : Addr} (ne : a ≠ C) : Stb C (dFr H0 (dL rs)) (.ref a) := fun H xs ys hC d => by
  obtain ⟨f, a', vs, hv, h1, h2⟩ := d
  cases hv
  refine ⟨f, a, vs, rfl, ?_, h2.imm (le_set hC)⟩
  rw [upd_ne ne]
  exact h1
theorem evk_fr {H0 : Hp} [m : Imms rs] (e0 : Same H0 H) (h : Ev te σ H (dFr H (dL rs))) : EvK te σ H (dFr H0 (dL rs)) := fun H1 e Q q => h H1 e Q fun v H2 e2 d => by
  obtain ⟨⟨a, rfl, ha⟩, d⟩ := d
  refine q _ H2 e2 ⟨⟨a, rfl, e0.free ha⟩, d⟩ fun C xs hC => stb_lst fun z => ?_
  rw [z, hC] at ha
  cases ha
theorem filt_yes {f : Nat → Bool} {E : Nat → Dn} {i : Nat} (h : f i = true) : (((List.range (i + 1)).filter f).map E) = (((List.range i).filter f).map E) ++ [E i] := by
  rw [List.range_succ, List.filter_append, List.map_append, List.filter_cons, if_pos h]
  rfl
theorem filt_no {f : Nat → Bool} {E : Nat → Dn} {i : Nat} (h : f i = false) : (((List.range (i + 1)).filter f).map E) = (((List.range i).filter f).map E) := by
  rw [List.range_succ, List.filter_append, List.map_append, List.filter_cons, if_neg (by rw [h]; decide)]
  show _ ++ [] = _
  rw [List.append_nil]
theorem filt_len (f : Nat → Bool) (E : Nat → Dn) (i : Nat) : (((List.range i).filter f).map E).length ≤ i := by
  rw [List.length_map]
  have h := List.length_filter_le f (List.range i)
  rw [List.length_range] at h
  exact h
theorem ev_lc {g : TG} {vs : List Nat} (hI : EvI wi σ H n Y) (f : Nat → Bool) (E : Nat → Dn) (hn : n ≤ 100000)
    (stb : ∀ i v H1, E i v H1 → ∀ H2, Same H1 H2 → E i v H2)
    (he : ∀ i v H1, i < n → Same H H1 → Y i v H1 → ∃ σ2, (∀ Q : St → Hp → Prop, Q σ2 H1 → g v (wipe σ vs) H1 Q) ∧ wipe σ2 vs = wipe σ vs ∧ EvT t σ2 H1 (f i) ∧ (f i = true → EvK te σ2 H1 (E i))) :
    Ev (tLc wi g t te vs) σ H (dFr H (dL (((List.range n).filter f).map E))) := fun H1 e Q q => hI H1 e _ fun J H2 G e2 w g0 mono => by
  intro C hC
  have hCH : H C = none := (e.trans e2).free hC
  let E' : Nat → Dn := fun i v H' => E i v H' ∧ Stb C (E i) v
  let Pv : Nat → Hp → Prop := fun i H' => Same H2 H' ∧ G H' ∧ ∃ acc, H' C = some (.lst acc) ∧ Alls H' acc (((List.range i).filter f).map E')
  have move : ∀ {A B : Hp} {acc : List V} {i : Nat}, (∀ k v, E k v A → Stb C (E k) v → E k v B) → Alls A acc (((List.range i).filter f).map E') → Alls B acc (((List.range i).filter f).map E') := fun {A B acc i} hm al => ⟨al.len, fun k v r h1 h2 => by
    obtain ⟨z, _, hz⟩ := List.mem_map.mp (List.mem_of_getElem? h2)
    have q0 := al.get k v r h1 h2
    rw [← hz] at q0 ⊢
    exact ⟨hm z v q0.1 q0.2, q0.2⟩⟩
  refine ⟨fun i m H' => m = n - i ∧ i ≤ n ∧ Pv i H', ⟨n, rfl, Nat.zero_le _, same_new hC, mono _ _ (same_new hC) g0, [], upd_same, alls_nil⟩, ?_⟩
  rintro i m H' ⟨rfl, hi, sm, gg, acc, hacc, al⟩
  by_cases hlt : i < n
  · refine .inr ⟨w.goes i H' hlt gg, fun H'' => Pv (i + 1) H'', fun H'' p => ⟨n - (i + 1), by omega, rfl, hlt, p⟩, fun x H'' y => ?_⟩
    obtain ⟨s3, d3⟩ := w.yields i H' x H'' hlt gg y
    have S0 : Same H H'' := ((e.trans e2).trans sm).trans s3
    obtain ⟨σ2, bd, wp, ht, hk⟩ := he i x H'' hlt S0 d3
    refine bd _ ⟨wp, ht H'' (Same.refl _) _ fun H3 e3 => ?_⟩
    have hC3 : H3 C = some (.lst acc) := e3 _ _ (s3 _ _ hacc)
    have S3 : Same H2 H3 := (sm.trans s3).trans e3
    have al3 : Alls H3 acc (((List.range i).filter f).map E') := move (fun k v q0 _ => stb k v _ q0 _ (s3.trans e3)) al
    cases hf : f i with
    | false =>
      show Pv (i + 1) H3
      refine ⟨S3, mono _ _ (s3.trans e3) gg, acc, hC3, ?_⟩
      rw [filt_no hf]
      exact al3
    | true =>
      show te σ2 H3 fun y H4 => ∃ acc, H4 C = some (.lst acc) ∧ acc.length < sizeLine ∧ Pv (i + 1) (upd H4 C (.lst (acc ++ [y])))
      refine hk hf H3 e3 _ fun y H4 e4 dy st => ?_
      have hC4 : H4 C = some (.lst acc) := e4 _ _ hC3
      have sY : Stb C (E i) y := st C acc (s3 _ _ hacc)
      have hl : acc.length ≤ i := by
        rw [al.len]
        exact filt_len f E' i
      refine ⟨acc, hC4, sz_lt (by omega), same_mut (S3.trans e4) hC, mono _ _ (same_mut (S3.trans e4) hC) g0, acc ++ [y], upd_same, ?_⟩
      rw [filt_yes hf]
      exact (move (fun k v q0 s0 => s0 _ _ _ hC4 (stb k v _ q0 _ e4)) al3).append (alls_cons ⟨sY _ _ _ hC4 dy, sY⟩ alls_nil)
  · have ei : i = n := by omega
    subst ei
    refine .inl ⟨w.stops H' gg, q _ H' (e2.trans sm) ⟨⟨C, rfl, hCH⟩, C, acc, rfl, hacc, al.imp (by rw [List.length_map, List.length_map]) fun k r s v h1 h2 h3 => ?_⟩⟩
    rw [List.getElem?_map] at h1 h2
    cases hz : ((List.range i).filter f)[k]? with
    | none =>
      rw [hz] at h1
      cases h1
    | some z =>
      rw [hz] at h1 h2
      cases h1
      cases h2
      exact h3.1
end
end K35
set_option Elab.async false
set_option linter.all false
set_option maxRecDepth 100000
set_option maxHeartbeats 4000000
namespace K35
open PySem PySem.Spec L2
section
variable {K : PySem.W.Frag} {σ : St} {H H' : Hp} {ta tb te tc : TE} {t u : TT} {r ra rb : Dn} {rs ss : List Dn} {i j : Int} {b c : Bool} {D : Ends} {tz tu tw : TS} {wi : TI} {n : Nat} {Y : Nat → Dn}
theorem et_yes : EvT tYes σ H true := fun H1 _ Q q => q H1 (Same.refl H1)
theorem map_yAt (es : List Dn) : (((List.range es.length).filter fun _ => true).map (yAt es)) = es := by
  have e : (List.range es.length).filter (fun _ => true) = List.range es.length := List.filter_eq_self.mpr fun _ _ => rfl
  rw [e]
  refine List.ext_getElem? fun i => ?_
  rw [List.getElem?_map]
  by_cases h : i < es.length
  · rw [List.getElem?_range h, yAt_lt h]
    rfl
  · rw [List.getElem?_eq_none (by rw [List.length_range]; omega), List.getElem?_eq_none (by omega)]
    rfl
theorem ev_lcm {g : TG} {vs : List Nat} {es : List Dn} [ms : Monos es] (hI : EvI wi σ H n Y) (hl : es.length = n) (hn : n ≤ 100000)
    (he : ∀ i r v H1, es[i]? = some r → Same H H1 → Y i v H1 → ∃ σ2, (∀ Q : St → Hp → Prop, Q σ2 H1 → g v (wipe σ vs) H1 Q) ∧ wipe σ2 vs = wipe σ vs ∧ EvK te σ2 H1 r) :
    Ev (tLc wi g tYes te vs) σ H (dFr H (dL es)) := by
  subst hl
  have z := ev_lc (t := tYes) (te := te) (vs := vs) (g := g) hI (fun _ => true) (yAt es) hn (fun i v H1 d H2 e => ?_) fun i v H1 hi e y => ?_
  · rw [map_yAt] at z
    exact z
  · by_cases h : i < es.length
    · have q := yAt_lt h
      exact (ms.m _ (List.mem_of_getElem? q)).m v H1 H2 e d
    · unfold yAt at d
      rw [List.getD_eq_getElem?_getD, List.getElem?_eq_none (by omega)] at d
      exact d.elim
  · obtain ⟨σ2, h1, h2, h3⟩ := he i _ v H1 (yAt_lt hi) e y
    exact ⟨σ2, h1, h2, et_yes, fun _ => h3⟩
/-- one name -/
theorem ev_lc1 {k : Nat} {vs : List Nat} {es : List Dn} [ms : Imms es] (hI : EvI wi σ H n Y) (hl : es.length = n) (hn : n ≤ 100000) (hw : ∀ x, wipe ((wipe σ vs).set k (some x)) vs = wipe σ vs)
    (he : ∀ i r v H1, es[i]? = some r → Same H H1 → Y i v H1 → Ev te ((wipe σ vs).set k (some v)) H1 r) : Ev (tLc wi (gName k) tYes te vs) σ H (dFr H (dL es)) :=
  ev_lcm hI hl hn fun i r v H1 h e y => ⟨_, fun Q q => q, hw _, @evk_imm _ _ _ _ (ms.m r (List.mem_of_getElem? h)) (he i r v H1 h e y)⟩
instance monosFr {es : List (List Dn)} [m : ∀ l, Mono (dFr H (dL l))] : Monos (es.map fun l => dFr H (dL l)) := ⟨fun q h => by
  obtain ⟨x, _, e⟩ := List.mem_map.mp h
  rw [← e]
  exact m x⟩
theorem monosFrI {es : List (List Dn)} (h : ∀ l ∈ es, Imms l) : Monos (es.map fun l => dFr H (dL l)) := ⟨fun q hq => by
  obtain ⟨x, hx, e⟩ := List.mem_map.mp hq
  rw [← e]
  have := h x hx
  exact inferInstance⟩
theorem ev_lc1L {k : Nat} {vs : List Nat} {es : List (List Dn)} (him : ∀ l ∈ es, Imms l) (hI : EvI wi σ H n Y) (hl : es.length = n) (hn : n ≤ 100000) (hw : ∀ x, wipe ((wipe σ vs).set k (some x)) vs = wipe σ vs)
    (he : ∀ i l v H1, es[i]? = some l → Same H H1 → Y i v H1 → Ev te ((wipe σ vs).set k (some v)) H1 (dFr H1 (dL l))) : Ev (tLc wi (gName k) tYes te vs) σ H (dFr H (dL (es.map fun l => dFr H (dL l)))) := by
  have := monosFrI (H := H) him
  refine ev_lcm hI ((List.length_map ..).trans hl) hn fun i r v H1 h e y => ?_
  rw [List.getElem?_map] at h
  cases hz : es[i]? with
  | none =>
    rw [hz] at h
    cases h
  | some l =>
    rw [hz] at h
    cases h
    have := him l (List.mem_of_getElem? hz)
    exact ⟨_, fun Q q => q, hw _, evk_fr e (he i l v H1 hz e y)⟩
/-- two names over pairs -/
theorem ev_lc2 {k m : Nat} {vs : List Nat} {es : List Dn} [ms : Imms es] {f g : Nat → Dn} (hI : EvI wi σ H n (yPair f g)) (hl : es.length = n) (hn : n ≤ 100000) (hw : ∀ x y, wipe (((wipe σ vs).set k (some x)).set m (some y)) vs = wipe σ vs)
    (he : ∀ i r x y H1, es[i]? = some r → Same H H1 → f i x H1 → g i y H1 → Ev te (((wipe σ vs).set k (some x)).set m (some y)) H1 r) : Ev (tLc wi (gTup K 2 (gCons (gName k) (gCons (gName m) gNil))) tYes te vs) σ H (dFr H (dL es)) :=
  ev_lcm hI hl hn fun i r v H1 h e y => by
    obtain ⟨x, z, dx, dz, bd⟩ := bd_pair (K := K) (σ := wipe σ vs) (k := k) (m := m) y
    exact ⟨_, bd, hw _ _, @evk_imm _ _ _ _ (ms.m r (List.mem_of_getElem? h)) (he i r x z H1 h e dx dz)⟩
theorem ev_lc2L {k m : Nat} {vs : List Nat} {es : List (List Dn)} (him : ∀ l ∈ es, Imms l) {f g : Nat → Dn} (hI : EvI wi σ H n (yPair f g)) (hl : es.length = n) (hn : n ≤ 100000) (hw : ∀ x y, wipe (((wipe σ vs).set k (some x)).set m (some y)) vs = wipe σ vs)
    (he : ∀ i l x y H1, es[i]? = some l → Same H H1 → f i x H1 → g i y H1 → Ev te (((wipe σ vs).set k (some x)).set m (some y)) H1 (dFr H1 (dL l))) : Ev (tLc wi (gTup K 2 (gCons (gName k) (gCons (gName m) gNil))) tYes te vs) σ H (dFr H (dL (es.map fun l => dFr H (dL l)))) := by
  have := monosFrI (H := H) him
  refine ev_lcm hI ((List.length_map ..).trans hl) hn fun i r v H1 h e y => ?_
  rw [List.getElem?_map] at h
  cases hz : es[i]? with
  | none =>
    rw [hz] at h
    cases h
  | some l =>
    rw [hz] at h
    cases h
    have := him l (List.mem_of_getElem? hz)
    obtain ⟨x, z, dx, dz, bd⟩ := bd_pair (K := K) (σ := wipe σ vs) (k := k) (m := m) y
    exact ⟨_, bd, hw _ _, evk_fr e (he i l x z H1 hz e dx dz)⟩
/-- one name, a test; what is kept is the name's own value, or reckoned from it -/
theorem ev_lcf {k : Nat} {vs : List Nat} (hI : EvI wi σ H n Y) (f : Nat → Bool) (E : Nat → Dn) [ms : ∀ i, Imm (E i)] (hn : n ≤ 100000) (hw : ∀ x, wipe ((wipe σ vs).set k (some x)) vs = wipe σ vs)
    (ht : ∀ i v H1, i < n → Same H H1 → Y i v H1 → EvT t ((wipe σ vs).set k (some v)) H1 (f i)) (he : ∀ i v H1, i < n → Same H H1 → Y i v H1 → f i = true → Ev te ((wipe σ vs).set k (some v)) H1 (E i)) :
    Ev (tLc wi (gName k) t te vs) σ H (dFr H (dL (((List.range n).filter f).map E))) :=
  ev_lc hI f E hn (fun i v H1 d H2 e => (ms i).m v H1 H2 (le_of e) d) fun i v H1 hi e y => ⟨_, fun Q q => q, hw _, ht i v H1 hi e y, fun hf => evk_imm (he i v H1 hi e y hf)⟩
/-! ### statements -/
theorem q_asg {k : Nat} (h : Ev te σ H r) (q : ∀ v H1, Same H H1 → r v H1 → tz D (σ.set k (some v)) H1) : tSeq (tAsg te (gName k)) tz D σ H := h H (Same.refl H) _ fun v H1 e d => q v H1 e d
theorem s_asg {k : Nat} (h : Ev te σ H r) (q : ∀ v H1, Same H H1 → r v H1 → D.nx (σ.set k (some v)) H1) : tAsg te (gName k) D σ H := h H (Same.refl H) _ fun v H1 e d => q v H1 e d
theorem q_par {k m : Nat} [ma : Mono ra] (ha : Ev ta σ H ra) (hb : Ev tb σ H rb) (q : ∀ v w H1, Same H H1 → ra v H1 → rb w H1 → tz D ((σ.set k (some v)).set m (some w)) H1) : tSeq (tPar k m (tCons ta (tCons tb tNil))) tz D σ H :=
  ha H (Same.refl H) _ fun v H1 e d => hb H1 e _ fun w H2 e2 d2 => ⟨v, w, rfl, q v w H2 (e.trans e2) (ma.m _ _ _ e2 d) d2⟩
theorem s_par {k m : Nat} [ma : Mono ra] (ha : Ev ta σ H ra) (hb : Ev tb σ H rb) (q : ∀ v w H1, Same H H1 → ra v H1 → rb w H1 → D.nx ((σ.set k (some v)).set m (some w)) H1) : tPar k m (tCons ta (tCons tb tNil)) D σ H :=
  ha H (Same.refl H) _ fun v H1 e d => hb H1 e _ fun w H2 e2 d2 => ⟨v, w, rfl, q v w H2 (e.trans e2) (ma.m _ _ _ e2 d) d2⟩
theorem q_two {k m : Nat} (h : Ev te σ H (dT [ra, rb])) (q : ∀ v w H1, Same H H1 → ra v H1 → rb w H1 → tz D ((σ.set k (some v)).set m (some w)) H1) : tSeq (tAsg te (gTup K 2 (gCons (gName k) (gCons (gName m) gNil)))) tz D σ H :=
  h H (Same.refl H) _ fun v H1 e d => by
    obtain ⟨x, y, dx, dy, bd⟩ := bd_pair (K := K) (σ := σ) (k := k) (m := m) d
    exact bd _ (q x y H1 e dx dy)
theorem s_ret (h : Ev te σ H r) (q : ∀ v H1, Same H H1 → r v H1 → D.rt v H1) : tRet te D σ H := h H (Same.refl H) _ fun v H1 e d => q v H1 e d
theorem s_if (h : EvT t σ H b) (h1 : b = true → ∀ H1, Same H H1 → tu D σ H1) (h2 : b = false → ∀ H1, Same H H1 → tw D σ H1) : tIfS t tu tw D σ H := h H (Same.refl H) _ fun H1 e => by
  cases b with
  | true =>
    show tu D σ H1
    exact h1 rfl H1 e
  | false =>
    show tw D σ H1
    exact h2 rfl H1 e
theorem q_if (h : EvT t σ H b) (h1 : b = true → ∀ H1, Same H H1 → tu { D with nx := tz D } σ H1) (h2 : b = false → ∀ H1, Same H H1 → tw { D with nx := tz D } σ H1) : tSeq (tIfS t tu tw) tz D σ H := s_if (D := { D with nx := tz D }) h h1 h2
/-- an if that is not taken, without else -/
theorem q_no (h : EvT t σ H false) (q : ∀ H1, Same H H1 → tz D σ H1) : tSeq (tIfS t tu tNext) tz D σ H := q_if h (fun z => nomatch z) fun _ H1 e => q H1 e
theorem s_next (q : D.nx σ H) : tNext D σ H := q
theorem q_drop (h : Ev te σ H r) (q : ∀ H1, Same H H1 → tz D σ H1) : tSeq (tDrop te) tz D σ H := h H (Same.refl H) _ fun v H1 e _ => q H1 e
/-- xs.append(e), xs.pop(), xs[k] = e: the list at p -/
theorem e_app {k : Nat} {p : Addr} {vs : List V} {QH : Hp → Prop} (hv : σ[k]? = some (some (.ref p))) (hp : H p = some (.lst vs)) (hz : vs.length < 100000) (h : Ev te σ H r) (q : ∀ v H1, Same H H1 → r v H1 → H1 p = some (.lst vs) → QH (upd H1 p (.lst (vs ++ [v])))) :
    tBM K "list" rAppend (tVar k) (tCons te tNil) σ H fun _ H1 => QH H1 :=
  ⟨.ref p, hv, .inl ⟨rfl, vs, SqL.of hp⟩, h H (Same.refl H) _ fun v H1 e d => ⟨p, vs, v, rfl, rfl, e _ _ hp, sz_lt hz, q v H1 e d (e _ _ hp)⟩⟩
theorem q_app {k : Nat} {p : Addr} {vs : List V} (hv : σ[k]? = some (some (.ref p))) (hp : H p = some (.lst vs)) (hz : vs.length < 100000) (h : Ev te σ H r) (q : ∀ v H1, Same H H1 → r v H1 → H1 p = some (.lst vs) → tz D σ (upd H1 p (.lst (vs ++ [v])))) :
    tSeq (tDrop (tBM K "list" rAppend (tVar k) (tCons te tNil))) tz D σ H := e_app (QH := fun H1 => tz D σ H1) hv hp hz h q
theorem s_app {k : Nat} {p : Addr} {vs : List V} (hv : σ[k]? = some (some (.ref p))) (hp : H p = some (.lst vs)) (hz : vs.length < 100000) (h : Ev te σ H r) (q : ∀ v H1, Same H H1 → r v H1 → H1 p = some (.lst vs) → D.nx σ (upd H1 p (.lst (vs ++ [v])))) :
    tDrop (tBM K "list" rAppend (tVar k) (tCons te tNil)) D σ H := e_app (QH := fun H1 => D.nx σ H1) hv hp hz h q
theorem s_pop {k : Nat} {p : Addr} {vs : List V} (hv : σ[k]? = some (some (.ref p))) (hp : H p = some (.lst vs)) (hz : vs ≠ []) (q : D.nx σ (upd H p (.lst vs.dropLast))) : tDrop (tBM0 K "list" rPop (tVar k)) D σ H := by
  have hl : vs.length - 1 < vs.length := by
    have := List.length_pos_iff.mpr hz
    omega
  exact ⟨.ref p, hv, .inl ⟨rfl, vs, SqL.of hp⟩, p, vs, vs[vs.length - 1], rfl, rfl, hp, List.getElem?_eq_getElem hl, q⟩
theorem ixN_nat {m j : Nat} (h : j < m) : ixN m (j : Int) = some j := by
  unfold ixN
  rw [if_pos (by omega), if_pos (by omega), Int.toNat_natCast]
theorem e_set {k j : Nat} {p : Addr} {vs : List V} {QH : Hp → Prop} [ma : Mono r] (hv : σ[k]? = some (some (.ref p))) (hp : H p = some (.lst vs)) (h : Ev te σ H r) (hi : Ev ta σ H (dI (j : Int))) (hj : j < vs.length)
    (q : ∀ v H1, Same H H1 → r v H1 → H1 p = some (.lst vs) → QH (upd H1 p (.lst (vs.set j v)))) : te σ H fun x H1 => gSub (tVar k) ta rSetL x σ H1 fun σ' H2 => σ' = σ ∧ QH H2 :=
  h H (Same.refl H) _ fun v H1 e d => ⟨.ref p, hv, hi H1 e _ fun w H2 e2 d2 => ⟨p, vs, _, j, rfl, d2, e2 _ _ (e _ _ hp), ixN_nat hj, rfl, q v H2 (e.trans e2) (ma.m _ _ _ e2 d) (e2 _ _ (e _ _ hp))⟩⟩
theorem q_set {k j : Nat} {p : Addr} {vs : List V} [ma : Mono r] (hv : σ[k]? = some (some (.ref p))) (hp : H p = some (.lst vs)) (h : Ev te σ H r) (hi : Ev ta σ H (dI (j : Int))) (hj : j < vs.length)
    (q : ∀ v H1, Same H H1 → r v H1 → H1 p = some (.lst vs) → tz D σ (upd H1 p (.lst (vs.set j v)))) : tSeq (tAsg te (gSub (tVar k) ta rSetL)) tz D σ H :=
  h H (Same.refl H) _ fun v H1 e d => ⟨.ref p, hv, hi H1 e _ fun w H2 e2 d2 => ⟨p, vs, _, j, rfl, d2, e2 _ _ (e _ _ hp), ixN_nat hj, q v H2 (e.trans e2) (ma.m _ _ _ e2 d) (e2 _ _ (e _ _ hp))⟩⟩
theorem s_set {k j : Nat} {p : Addr} {vs : List V} [ma : Mono r] (hv : σ[k]? = some (some (.ref p))) (hp : H p = some (.lst vs)) (h : Ev te σ H r) (hi : Ev ta σ H (dI (j : Int))) (hj : j < vs.length)
    (q : ∀ v H1, Same H H1 → r v H1 → H1 p = some (.lst vs) → D.nx σ (upd H1 p (.lst (vs.set j v)))) : tAsg te (gSub (tVar k) ta rSetL) D σ H :=
  h H (Same.refl H) _ fun v H1 e d => ⟨.ref p, hv, hi H1 e _ fun w H2 e2 d2 => ⟨p, vs, _, j, rfl, d2, e2 _ _ (e _ _ hp), ixN_nat hj, q v H2 (e.trans e2) (ma.m _ _ _ e2 d) (e2 _ _ (e _ _ hp))⟩⟩
/-! ### loops -/
theorem s_forG {g : TG} {J : It} {G : Hp → Prop} {H2 : Hp} (w : Wk J n G Y) (Pv : Nat → St → Hp → Prop) (h0 : Pv 0 σ H2) (hG : ∀ i σ' H', i ≤ n → Pv i σ' H' → G H')
    (hs : ∀ i σ' H', i < n → Pv i σ' H' → ∀ x H'', Same H' H'' → Y i x H'' → g x σ' H'' fun σ2 H2 => tu { D with nx := Pv (i + 1), ct := Pv (i + 1), bk := D.nx } σ2 H2) (hd : ∀ σ' H', Pv n σ' H' → D.nx σ' H') :
    ∃ W : Nat → Nat → St → Hp → Prop, (∃ m, W 0 m σ H2) ∧ ∀ i m σ H, W i m σ H →
      (J.stop i H ∧ D.nx σ H) ∨ (J.go i H ∧ ∃ N : St → Hp → Prop, (∀ σ' H', N σ' H' → ∃ m', m' < m ∧ W (i + 1) m' σ' H') ∧ ∀ x H', J.yld i H x H' → g x σ H' fun σ2 H2 => tu { D with nx := N, ct := N, bk := D.nx } σ2 H2) := by
  refine ⟨fun i m σ H => m = n - i ∧ i ≤ n ∧ Pv i σ H, ⟨n, rfl, Nat.zero_le _, h0⟩, ?_⟩
  rintro i m σ' H' ⟨rfl, hi, p⟩
  have gg := hG i σ' H' hi p
  by_cases hlt : i < n
  · refine .inr ⟨w.goes i H' hlt gg, Pv (i + 1), fun σ2 H3 p2 => ⟨n - (i + 1), by omega, rfl, hlt, p2⟩, fun x H'' y => ?_⟩
    obtain ⟨s3, d3⟩ := w.yields i H' x H'' hlt gg y
    exact hs i σ' H' hlt p x H'' s3 d3
  · have e : i = n := by omega
    subst e
    exact .inl ⟨w.stops H' gg, hd σ' H' p⟩
/-- lists may change in the loop's body -/
theorem q_forJ {g : TG} (hI : EvJ wi σ H n Y) (q : ∀ H2, Same H H2 → ∃ Pv : Nat → St → Hp → Prop, Pv 0 σ H2 ∧ (∀ i σ' H', i ≤ n → Pv i σ' H' → Le H2 H') ∧
    (∀ i σ' H', i < n → Pv i σ' H' → ∀ x H'', Same H' H'' → Y i x H'' → g x σ' H'' fun σ2 H2 => tu { D with nx := Pv (i + 1), ct := Pv (i + 1), bk := tz D } σ2 H2) ∧ ∀ σ' H', Pv n σ' H' → tz D σ' H') : tSeq (tFor wi g tu) tz D σ H :=
  hI H (Same.refl H) _ fun J H2 G e w g0 mono => by
    obtain ⟨Pv, h0, hL, hs, hd⟩ := q H2 e
    exact s_forG (D := { D with nx := tz D }) w Pv h0 (fun i σ' H' hi p => mono _ _ (hL i σ' H' hi p) g0) hs hd
/-- nothing changes in the loop's body -/
theorem q_forI {g : TG} (hI : EvI wi σ H n Y) (q : ∀ H2, Same H H2 → ∃ Pv : Nat → St → Hp → Prop, Pv 0 σ H2 ∧ (∀ i σ' H', i ≤ n → Pv i σ' H' → Same H2 H') ∧
    (∀ i σ' H', i < n → Pv i σ' H' → ∀ x H'', Same H' H'' → Y i x H'' → g x σ' H'' fun σ2 H2 => tu { D with nx := Pv (i + 1), ct := Pv (i + 1), bk := tz D } σ2 H2) ∧ ∀ σ' H', Pv n σ' H' → tz D σ' H') : tSeq (tFor wi g tu) tz D σ H :=
  hI H (Same.refl H) _ fun J H2 G e w g0 mono => by
    obtain ⟨Pv, h0, hL, hs, hd⟩ := q H2 e
    exact s_forG (D := { D with nx := tz D }) w Pv h0 (fun i σ' H' hi p => mono _ _ (hL i σ' H' hi p) g0) hs hd
theorem s_forJ {g : TG} (hI : EvJ wi σ H n Y) (q : ∀ H2, Same H H2 → ∃ Pv : Nat → St → Hp → Prop, Pv 0 σ H2 ∧ (∀ i σ' H', i ≤ n → Pv i σ' H' → Le H2 H') ∧
    (∀ i σ' H', i < n → Pv i σ' H' → ∀ x H'', Same H' H'' → Y i x H'' → g x σ' H'' fun σ2 H2 => tu { D with nx := Pv (i + 1), ct := Pv (i + 1), bk := D.nx } σ2 H2) ∧ ∀ σ' H', Pv n σ' H' → D.nx σ' H') : tFor wi g tu D σ H :=
  hI H (Same.refl H) _ fun J H2 G e w g0 mono => by
    obtain ⟨Pv, h0, hL, hs, hd⟩ := q H2 e
    exact s_forG w Pv h0 (fun i σ' H' hi p => mono _ _ (hL i σ' H' hi p) g0) hs hd
theorem q_while (W : Nat → St → Hp → Prop) (m0 : Nat) (h0 : W m0 σ H)
    (hs : ∀ m σ' H', W m σ' H' → ∃ b, EvT t σ' H' b ∧ (b = true → ∀ H1, Same H' H1 → tu { D with nx := fun σ2 H2 => ∃ m', m' < m ∧ W m' σ2 H2, ct := fun σ2 H2 => ∃ m', m' < m ∧ W m' σ2 H2, bk := tz D } σ' H1) ∧ (b = false → ∀ H1, Same H' H1 → tz D σ' H1)) :
    tSeq (tWhile t tu) tz D σ H := by
  refine ⟨W, ⟨m0, h0⟩, fun m σ' H' w => ?_⟩
  obtain ⟨b, ht, h1, h2⟩ := hs m σ' H' w
  refine ht H' (Same.refl H') _ fun H1 e => ?_
  cases b with
  | true =>
    show ∃ N : St → Hp → Prop, _ ∧ _
    exact ⟨_, fun _ _ z => z, h1 rfl H1 e⟩
  | false =>
    show tz D σ' H1
    exact h2 rfl H1 e
end
end K35
set_option Elab.async false
set_option linter.all false
set_option maxRecDepth 100000
set_option maxHeartbeats 4000000
namespace K35
open PySem PySem.Spec L2
/-! ### what may be called: a def, a method, a class -/
section
variable (P : Program) (w : World) (K : PySem.W.Frag) (mg : Str → Option Value) (base : Heap)
structure Cal (k : Nat) (x : Str) (sp : Sp) : Prop where
  ex : ∃ (f : Addr) (fd : FuncData) (ps : List Str), FnOk P w K mg base CX0 k f fd ps sp ∧ mg x = some (.ref f) ∧ PySem.W.keepIn K (.ref f) = true ∧ Binds K fd ps []
structure Met (k : Nat) (C : Addr) (m : Str) (sp : Sp) : Prop where
  ex : ∃ (f : Addr) (fd : FuncData) (ps : List Str), Cls K C ∧ Meth K C m f ∧ FnOk P w K mg base CX0 k f fd ps sp ∧ Binds K fd ps []
structure Mak (k : Nat) (x : Str) (C : Addr) (sp : Sp) : Prop where
  ex : ∃ (f : Addr) (fd : FuncData) (ps : List Str), Mk K C f ∧ FnOk P w K mg base CX0 k f fd ps sp ∧ mg x = some (.ref C) ∧ Binds K fd ps []
end
section
variable {X : Cx} {k j : Nat} {C : Addr} {x m : Str} {sp : Sp} {p pos apos : Pos} {e o : Expr} {es : List Expr} {ta : TE} {t : TA}
theorem pe_cal (c : Cal X.prog X.w X.K X.mg X.base k x sp) (hr : Room j X.A) (hk : k ≤ j) (hg : Gl X x) (ha : PA X (e :: es) t)
    (hdb : (x == ("__debug__" : Str)) = false := by decide) (he : starEach (e :: es) X.env = (false, eval e X.env) :: starEach es X.env := by rfl) (hpl : (backTo pos (starEach es X.env)).any (·.1) = false := by rfl) :
    PE X (.Call (.Name x p) (e :: es) [] pos) (tCall sp [] E0 t) := by
  obtain ⟨f, fd, ps, F, hm, kp, b⟩ := c.ex
  exact pe_call F (hr.mono hk) hg hm kp b .nil pass0 ha hdb he hpl
theorem pe_mak (c : Mak X.prog X.w X.K X.mg X.base k x C sp) (hr : Room j X.A) (hk : k + 1 ≤ j) (hg : Gl X x) (ha : PA X (e :: es) t)
    (hdb : (x == ("__debug__" : Str)) = false := by decide) (he : starEach (e :: es) X.env = (false, eval e X.env) :: starEach es X.env := by rfl) (hpl : (backTo pos (starEach es X.env)).any (·.1) = false := by rfl) :
    PE X (.Call (.Name x p) (e :: es) [] pos) (tMake C sp [] E0 t) := by
  obtain ⟨f, fd, ps, M, F, hm, b⟩ := c.ex
  exact pe_make M F (hr.mono hk) hg hm b .nil pass0 ha hdb he hpl
theorem pe_met {pl : Sem Bool} (c : Met X.prog X.w X.K X.mg X.base k C m sp) (hr : Room j X.A) (hk : k ≤ j) (he : PE X o ta) (ha : PA X (e :: es) t)
    (hst : starEach (e :: es) X.env = (false, eval e X.env) :: starEach es X.env := by rfl) (hpl : (backTo pos (starEach es X.env)).any (·.1) = false := by rfl)
    (ht : eval (.Call (.Attribute o m apos) (e :: es) [] pos) X.env = (do
      let ov ← eval o X.env
      standAt apos.atName
      let (f, first) ← holding [ov] (getMethod ov m pl)
      callWith pos f first (backTo pos (starEach (e :: es) X.env)) (backToKw pos (keywordEach [] X.env))) := by rfl) :
    PE X (.Call (.Attribute o m apos) (e :: es) [] pos) (tMeth C m sp [] E0 ta t) := by
  obtain ⟨f, fd, ps, hc, hm, F, b⟩ := c.ex
  exact pe_meth (pl := pl) he hc hm F (hr.mono hk) b .nil pass0 ha hst hpl ht
theorem pe_met0 {pl : Sem Bool} (c : Met X.prog X.w X.K X.mg X.base k C m sp) (hr : Room j X.A) (hk : k ≤ j) (he : PE X o ta)
    (ht : eval (.Call (.Attribute o m apos) [] [] pos) X.env = (do
      let ov ← eval o X.env
      standAt apos.atName
      let (f, first) ← holding [ov] (getMethod ov m pl)
      callWith pos f first (backTo pos (starEach [] X.env)) (backToKw pos (keywordEach [] X.env))) := by rfl) :
    PE X (.Call (.Attribute o m apos) [] [] pos) (tMeth C m sp [] E0 ta tNil) := by
  obtain ⟨f, fd, ps, hc, hm, F, b⟩ := c.ex
  exact pe_meth0 (pl := pl) he hc hm F (hr.mono hk) b .nil pass0 ht
end
/-! ### own operators -/
section
variable {X : Cx} {k j : Nat} {C : Addr} {m : Str} {sp : Sp} {pins : List (Addr × Obj)} {σ : St} {H : Hp} {s : Shared} {fd : FuncData} {ps : List Str} {f : Addr}
theorem run_at {B : Around} {us : List Value} {vs : List V} {Q : VK} (F : FnOk X.prog X.w X.K X.mg X.base CX0 k f fd ps sp) (hr : Room k B) (hf : B.frames = X.A.frames) (hb : Binds X.K fd ps []) (I : Inv X pins σ H s) (r : Vals vs us) (h : sp vs H Q E0) :
    wpAny (model X.prog X.w) B (call (.ref f) us) (EP X pins σ Q) X.xe s := by
  have e := I.env0
  have e0 : Env0 X.prog X.w X.K X.mg X.base B X.stack s H := ⟨by rw [hf]; exact e.frames, e.mod, e.bs, e.bsz, e.funs, e.frf, e.hok, e.bare⟩
  have hl : us.length = ps.length := by rw [← r.length]; exact F.len _ _ _ _ h
  have hbi := hb s us I.kIn (by rw [List.append_nil]; exact hl)
  rw [List.append_nil] at hbi
  refine wpAny_call (codeAny_mono (F.run B X.stack s H ⟨us, []⟩ us vs Q E0 hr e0 hbi r h) fun rr s' hq => ?_)
  cases rr with
  | error e => exact False.elim hq
  | ok fl =>
    cases fl with
    | ret u => exact I.after hq
    | next => exact False.elim hq
    | brk => exact False.elim hq
    | cont => exact False.elim hq
def rOwn (C : Addr) (sp : Sp) : R2 := fun x y H Q => ∃ a dx fs b dy gs, x = .ref a ∧ y = .ref b ∧ H a = some (.ins C dx fs) ∧ H b = some (.ins C dy gs) ∧ sp [.ref a, .ref b] H Q E0
theorem back_of {Q : Value → Shared → Prop} {u : Value} {v : V} {s' : Shared} (r : RelV v u) (q : Q u s') : PySem.W.CmpBack Q u s' := by
  cases u with
  | notImplemented => cases v <;> first | (obtain ⟨_, e⟩ := r; cases e; done) | (cases r; done)
  | _ => exact q
theorem op_own {op : Operator} (c : Met X.prog X.w X.K X.mg X.base k C m sp) (hm : PySem.dunder op.info.2 = m) (hc : PySem.W.selfFirst X.K C = true) (hr : Room j X.A) (hk : k ≤ j) : OpR X (binaryOp op) (rOwn C sp) := by
  intro pins s σ H x y v u Q I rx ry h
  obtain ⟨a, dx, fs, b, dy, gs, rfl, rfl, ha, hb', hsp⟩ := h
  cases rx
  cases ry
  obtain ⟨f, fd, ps, _, hM, F, hb⟩ := c.ex
  obtain ⟨mA, J, _⟩ := ins_get I.hok ha
  obtain ⟨mB, J', _⟩ := ins_get I.hok hb'
  obtain ⟨od, J, _⟩ := J.look
  obtain ⟨od', J', _⟩ := J'.look
  obtain ⟨mm, hF⟩ := I.fr
  refine PySem.W.binop_K hF I.ok.mod.kin J J'.type hc (by rw [hm]; exact hM.at_) hM.fn (wpAny_mono (run_at F (hr.mono hk) rfl hb I (vs := [.ref a, .ref b]) (.cons rfl (.cons rfl .nil)) hsp) (fun u s' z => ?_) fun _ _ z => z)
  obtain ⟨v, H', I', rv, q⟩ := z
  exact back_of rv ⟨v, H', I', rv, q⟩
theorem op_eqO (c : Met X.prog X.w X.K X.mg X.base k C "__eq__" sp) (hr : Room j X.A) (hk : k ≤ j) : OpR X (compareOp .Eq) (rOwn C sp) := by
  intro pins s σ H x y v u Q I rx ry h
  obtain ⟨a, dx, fs, b, dy, gs, rfl, rfl, ha, hb', hsp⟩ := h
  cases rx
  cases ry
  obtain ⟨f, fd, ps, _, hM, F, hb⟩ := c.ex
  obtain ⟨mA, J, _⟩ := ins_get I.hok ha
  obtain ⟨mB, J', _⟩ := ins_get I.hok hb'
  obtain ⟨od, J, _⟩ := J.look
  obtain ⟨od', J', _⟩ := J'.look
  obtain ⟨mm, hF⟩ := I.fr
  show wpAny (model X.prog X.w) X.A (richCompare .Eq (.ref a) (.ref b)) (EP X pins σ Q) X.xe s
  refine PySem.W.cmp_K (op := .Eq) (tb := .ref C) hr.units0 hF I.ok.mod.kin J J'.type (by simp [PySem.W.notFirst]) hM.at_ hM.fn (wpAny_mono (run_at F (hr.mono hk) rfl hb I (vs := [.ref a, .ref b]) (.cons rfl (.cons rfl .nil)) hsp) (fun u s' z => ?_) fun _ _ z => z)
  obtain ⟨v, H', I', rv, q⟩ := z
  exact back_of rv ⟨v, H', I', rv, q⟩
/-- len(o), o with its own __len__ -/
def rLenO (C : Addr) (sp : Sp) : List V → Hp → VK → Prop := fun xs H Q => ∃ a dx fs, xs = [.ref a] ∧ H a = some (.ins C dx fs) ∧ sp [.ref a] H (fun v H' => ∃ n : Int, v = .int n ∧ 0 ≤ n ∧ n < 2 ^ 63 ∧ Q (.int n) H') E0
theorem call_lenO (c : Met X.prog X.w X.K X.mg X.base k C "__len__" sp) (hr : Room j X.A) (hk : k + 1 ≤ j) : CallR X (.builtin "len") (rLenO C sp) := by
  intro pins s σ H xs us Q I r h
  obtain ⟨a, dx, fs, rfl, ha, hsp⟩ := h
  cases r with
  | cons r rr =>
    cases rr
    cases r
    obtain ⟨f, fd, ps, _, hM, F, hb⟩ := c.ex
    obtain ⟨mA, J, _⟩ := ins_get I.hok ha
    obtain ⟨od, J, _⟩ := J.look
    obtain ⟨mm, hF⟩ := I.fr
    refine PySem.W.len_K hF I.ok.mod.kin J hM.at_ hM.fn (wpAny_mono (run_at F ((hr.mono hk).in1) rfl hb I (vs := [.ref a]) (.cons rfl .nil) hsp) (fun u s' z => ?_) fun _ _ z => z)
    obtain ⟨v, H', I', rv, n, rfl, h0, h1, q⟩ := z
    obtain ⟨t, rfl⟩ := rv
    exact ⟨⟨h0, h1⟩, .int n, H', I'.tok _, ⟨_, rfl⟩, q⟩
/-- x != y by the class's own __eq__, __ne__ being object's -/
def rNeO (C : Addr) (sp : Sp) : R2 := fun x y H Q => ∃ a dx fs b dy gs, x = .ref a ∧ y = .ref b ∧ H a = some (.ins C dx fs) ∧ H b = some (.ins C dy gs) ∧ sp [.ref a, .ref b] H (fun v H' => ∃ r : Bool, v = .bl r ∧ Q (.bl (!r)) H') E0
theorem op_neO (c : Met X.prog X.w X.K X.mg X.base k C "__eq__" sp) (hn : PySem.W.findIn X.K (.ref C) "__ne__" = some (some (.builtin "object.__ne__"))) (hr : Room j X.A) (hk : k + 1 ≤ j) : OpR X (compareOp .NotEq) (rNeO C sp) := by
  intro pins s σ H x y v u Q I rx ry h
  obtain ⟨a, dx, fs, b, dy, gs, rfl, rfl, ha, hb', hsp⟩ := h
  cases rx
  cases ry
  obtain ⟨f, fd, ps, hcls, hM, F, hb⟩ := c.ex
  obtain ⟨mA, J, _⟩ := ins_get I.hok ha
  obtain ⟨mB, J', _⟩ := ins_get I.hok hb'
  obtain ⟨od, J, _⟩ := J.look
  obtain ⟨od', J', _⟩ := J'.look
  have XK := I.kIn
  have hr1 : Room k X.A.in1 := (hr.mono hk).in1
  have hu1 : X.A.in1.units < cLine := hr1.units0
  obtain ⟨cd, hcd, ho⟩ := PySem.W.any_some hcls.po
  have ne : cd.mro.isEmpty = false := by
    cases q : cd.mro with
    | nil => rw [q] at ho; cases ho
    | cons _ _ => rfl
  have sub : PySem.W.Looks (model X.prog X.w) s.heap (isInstance (.ref a) (.type "object")) true := J.type.andThen (PySem.W.looks_mroIn XK (by unfold PySem.W.mroIn; rw [hcd, Option.bind_some, if_neg (by rw [ne]; decide), PySem.W.only_has ho]))
  have one : wpAny (model X.prog X.w) X.A (tryCompare (.ref a) "__ne__" (.ref b)) (fun r s' => ∃ v, r = some v ∧ EP X pins σ Q v s') X.xe s := by
    have inner : wpAny (model X.prog X.w) X.A (call (.builtin "object.__ne__") [.ref a, .ref b]) (fun v s' => ∃ r : Bool, v = .bool r ∧ EP X pins σ Q v s') X.xe s := by
      refine wpAny_call (codeAny_call_builtin PySem.F.cmp_object.ne.plain PySem.F.cmpEntry_ne (PySem.W.check_slot PySem.F.cmpKind_ne PySem.F.cmpSplit_ne sub (PySem.F.cmpArgs_ne _ _) ?_))
      have hcall := run_at (B := X.A.in1) F hr1 rfl hb I (vs := [.ref a, .ref b]) (us := [.ref a, .ref b]) (.cons rfl (.cons rfl .nil)) hsp
      unfold Builtin.«object.__ne__»
      iterate 6 (first | with_reducible refine wpAny_cRoomFor hu1 ?_ | wp_step)
      refine wpAny_cRoomFor hu1 (wpAny_bind (PySem.W.ifBound_K XK J hM.at_ hM.fn (wpAny_mono hcall (fun r s' hr => ?_) fun _ _ e => e)))
      obtain ⟨v, H', I', rv, r0, rfl, q⟩ := hr
      cases rv
      refine wpAny_bind (wpAny_truthy_bool ?_)
      exact wpAny_pure ⟨_, rfl, .bl (!r0), H', I', rfl, q⟩
    unfold tryCompare
    have fin : wpAny (model X.prog X.w) X.A (call (.builtin "object.__ne__") ([.ref a] ++ [.ref b]) >>= fun v => pure (some v)) (fun o s' => ∃ r : Bool, o = some (.bool r) ∧ EP X pins σ Q (.bool r) s') X.xe s :=
      wpAny_bind (wpAny_mono inner (fun v s' ⟨r, e, q⟩ => wpAny_pure ⟨r, by rw [e], by rw [← e]; exact q⟩) fun _ _ e => e)
    have mid : wpAny (model X.prog X.w) X.A (callSpecialIfBound? (.ref a) "__ne__" [.ref b]) (fun o s' => ∃ r : Bool, o = some (.bool r) ∧ EP X pins σ Q (.bool r) s') X.xe s := by
      simp only [callSpecialIfBound?, bindSpecialIfBound?]
      refine wpAny_holding (wpAny_bind (wpAny_bind (wpAny_bind (J.type.here ((PySem.W.looks_findIn XK hn).here ?_)))))
      simp only [PySem.F.cmp_object.ne.bind]
      refine wpAny_bind (wpAny_askSetting (wpAny_ite ?_))
      split
      · exact wpAny_bind (wpAny_pure (wpAny_pure fin))
      · exact wpAny_tryCatch (wpAny_bind (wpAny_pure (wpAny_pure fin)))
    refine wpAny_bind (wpAny_mono mid (fun o s' ⟨r, e, q⟩ => ?_) fun _ _ e => e)
    subst e
    exact wpAny_pure ⟨_, rfl, q⟩
  show wpAny (model X.prog X.w) X.A (richCompare .NotEq (.ref a) (.ref b)) (EP X pins σ Q) X.xe s
  unfold richCompare
  simp only [oneThing_ref]
  refine wpAny_holding (wpAny_bind (wpAny_cRoomFor hr.units0 ?_))
  refine wpAny_bind (J.type.here (wpAny_bind (J'.type.here ?_)))
  split
  · rename_i q
    simp at q
  · refine wpAny_bind (wpAny_pure ?_)
    simp only [Bool.false_eq_true, if_false]
    refine wpAny_bind (wpAny_mono one (fun r s' z => ?_) fun _ _ e => e)
    obtain ⟨v, rfl, hq⟩ := z
    exact wpAny_pure hq
end
end K35
set_option Elab.async false
set_option linter.all false
set_option maxRecDepth 100000
set_option maxHeartbeats 4000000
namespace K35
open PySem PySem.Spec L2
/-! ### promises -/
def spP (S : Hp → List Dn → Dn → Prop) : Sp := fun vs H Q _ => ∃ rs r, S H rs r ∧ Alls H vs rs ∧ ∀ v H1, Same H H1 → r v H1 → Q v H1
def spI (C : Addr) (S : List Dn → Dn → Prop) : Sp := fun vs H Q _ => ∃ x dx ws H0 rs r, vs = .ref x :: ws ∧ H = upd (upd H0 dx (.own x)) x (.ins C dx []) ∧ H0 x = none ∧ H0 dx = none ∧ dx ≠ x ∧ S rs r ∧ Alls H0 ws rs ∧ ∀ H1, Same H0 H1 → r (.ref x) H1 → Q .non H1
/-- what does not lean but on tuples -/
class TupO (r : Dn) : Prop where
  m : ∀ v (H H' : Hp), (∀ a xs, H a = some (.tup xs) → H' a = some (.tup xs)) → r v H → r v H'
class TupOs (rs : List Dn) : Prop where
  m : ∀ r ∈ rs, TupO r
instance toNil : TupOs [] := ⟨fun r h => by cases h⟩
instance toCons {r : Dn} {rs : List Dn} [a : TupO r] [b : TupOs rs] : TupOs (r :: rs) := ⟨fun q h => by
  rcases List.mem_cons.mp h with e | h
  · rw [e]; exact a
  · exact b.m q h⟩
instance toMap {α : Type} {f : α → Dn} {l : List α} [a : ∀ x, TupO (f x)] : TupOs (l.map f) := ⟨fun q h => by
  obtain ⟨x, _, e⟩ := List.mem_map.mp h
  rw [← e]; exact a x⟩
instance toI {i : Int} : TupO (dI i) := ⟨fun _ _ _ _ h => h⟩
instance toB {b : Bool} : TupO (dB b) := ⟨fun _ _ _ _ h => h⟩
instance toT {rs : List Dn} [m : TupOs rs] : TupO (dT rs) := ⟨fun v H H' e h => by
  obtain ⟨a, vs, hv, h1, h2⟩ := h
  exact ⟨a, vs, hv, e a _ h1, h2.len, fun i v r q1 q2 => (m.m r (List.mem_of_getElem? q2)).m v H H' e (h2.get i v r q1 q2)⟩⟩
instance toIs {l : List Int} : TupOs (dIs l) := toMap
instance toTI {l : List Int} : TupO (dTI l) := toT
/-! ### instances -/
def ixOf (f : Str) : List Str → Option Nat
  | [] => none
  | g :: r => if g = f then some 0 else (ixOf f r).map (· + 1)
theorem look_at {f : Str} : ∀ {ns : List Str} {ws : List V} {i : Nat} {w : V}, ixOf f ns = some i → ws[i]? = some w → ws.length = ns.length → (ns.zip ws).lookup f = some w
  | [], _, _, _, h, _, _ => by cases h
  | g :: r, [], _, _, _, _, hl => by cases hl
  | g :: r, z :: zs, i, w, h, hw, hl => by
    unfold ixOf at h
    show List.lookup f ((g, z) :: r.zip zs) = some w
    by_cases e : g = f
    · rw [if_pos e] at h
      cases h
      rw [← e, List.lookup_cons_self]
      simpa using hw
    · rw [if_neg e] at h
      cases q : ixOf f r with
      | none =>
        rw [q] at h
        cases h
      | some k =>
        rw [q] at h
        cases h
        have nb : (f == g) = false := beq_eq_false_iff_ne.mpr (Ne.symm e)
        rw [List.lookup_cons, nb]
        exact look_at q (by simpa using hw) (Nat.succ.inj hl)
theorem look_no {f : Str} : ∀ {ns : List Str} {ws : List V}, ixOf f ns = none → (ns.zip ws).lookup f = none
  | [], _, _ => rfl
  | g :: r, [], _ => rfl
  | g :: r, z :: zs, h => by
    unfold ixOf at h
    show List.lookup f ((g, z) :: r.zip zs) = none
    by_cases e : g = f
    · rw [if_pos e] at h
      cases h
    · rw [if_neg e] at h
      have nb : (f == g) = false := beq_eq_false_iff_ne.mpr (Ne.symm e)
      rw [List.lookup_cons, nb]
      exact look_no (Option.map_eq_none_iff.mp h)
theorem put_snoc {f : Str} {v : V} : ∀ {ns : List Str} {ws : List V}, ixOf f ns = none → ws.length = ns.length → putF f v (ns.zip ws) = (ns ++ [f]).zip (ws ++ [v])
  | [], [], _, _ => rfl
  | [], _ :: _, _, hl => by cases hl
  | g :: r, [], _, hl => by cases hl
  | g :: r, z :: zs, h, hl => by
    unfold ixOf at h
    by_cases e : g = f
    · rw [if_pos e] at h
      cases h
    · rw [if_neg e] at h
      show (if g = f then (g, v) :: r.zip zs else (g, z) :: putF f v (r.zip zs)) = (g, z) :: (r ++ [f]).zip (zs ++ [v])
      rw [if_neg e, put_snoc (Option.map_eq_none_iff.mp h) (Nat.succ.inj hl)]
/-- an instance of the class at C, its attributes by name -/
def dIns (C : Addr) (ns : List Str) (rs : List Dn) : Dn := fun v H => ∃ a dx ws, v = .ref a ∧ H a = some (.ins C dx (ns.zip ws)) ∧ Alls H ws rs
instance immIns {C : Addr} {ns : List Str} {rs : List Dn} [Imms rs] : Imm (dIns C ns rs) := ⟨fun v H H' e h => by
  obtain ⟨a, dx, ws, hv, h1, h2⟩ := h
  exact ⟨a, dx, ws, hv, e a _ rfl h1, h2.imm e⟩⟩
section
variable {K : PySem.W.Frag} {σ : St} {H H' : Hp} {ta tb te tc : TE} {t u : TT} {r ra rb : Dn} {rs ss : List Dn} {i j : Int} {b c : Bool} {D : Ends} {tz tu tw : TS} {C : Addr} {ns : List Str} {f m : Str} {S : Hp → List Dn → Dn → Prop} {tA : TA}
theorem ev_fld {k : Nat} [Imms rs] (h : Ev ta σ H (dIns C ns rs)) (hc : Cls K C) (hn : NoAttr K C f) (hi : ixOf f ns = some k) (hr : rs[k]? = some r) (hl : rs.length = ns.length := by rfl) : Ev (tFld K ta f) σ H r := fun H1 e Q q => h H1 e _ fun v H2 e2 d => by
  obtain ⟨a, dx, ws, rfl, h1, h2⟩ := d
  obtain ⟨w, hw, dw⟩ := h2.at hr
  exact ⟨a, C, dx, _, w, rfl, h1, hc, hn, look_at hi hw (h2.len.trans hl), q w H2 e2 dw⟩
theorem ev_cal (h : EvA tA σ H rs) (hs : ∀ H1, Same H H1 → ∃ r', S H1 rs r' ∧ ∀ v H2, Same H1 H2 → r' v H2 → r v H2) : Ev (tCall (spP S) [] E0 tA) σ H r := fun H1 e Q q => h H1 e _ fun vs H2 e2 a => by
  obtain ⟨r', s, im⟩ := hs H2 (e.trans e2)
  exact ⟨rs, r', s, by rw [List.append_nil]; exact a, fun v H3 e3 d => q v H3 (e2.trans e3) (im v H3 e3 d)⟩
theorem ev_call (h : EvA tA σ H rs) (hs : ∀ H1, S H1 rs r) : Ev (tCall (spP S) [] E0 tA) σ H r := ev_cal h fun H1 _ => ⟨r, hs H1, fun _ _ _ d => d⟩
/-- a call that hands back a new list -/
theorem ev_callF {r0 : Dn} (h : EvA tA σ H rs) (hs : ∀ H1, S H1 rs (dFr H1 r0)) : Ev (tCall (spP S) [] E0 tA) σ H (dFr H r0) := ev_cal h fun H1 e => ⟨_, hs H1, fun v H2 _ d => ⟨let ⟨a, hv, ha⟩ := d.1; ⟨a, hv, e.free ha⟩, d.2⟩⟩
theorem ev_met [Imms rs] (h0 : Ev ta σ H (dIns C ns rs)) (h : EvA tA σ H ss) (hm : ixOf m ns = none) (hs : ∀ H1, S H1 (dIns C ns rs :: ss) r) : Ev (tMeth C m (spP S) [] E0 ta tA) σ H r := fun H1 e Q q => h0 H1 e _ fun v H2 e2 d => by
  obtain ⟨a, dx, ws, rfl, h1, h2⟩ := id d
  refine ⟨a, dx, _, rfl, h1, look_no hm, h H2 (e.trans e2) _ fun vs H3 e3 al => ⟨_, r, hs H3, ?_, fun v H4 e4 dv => q v H4 ((e2.trans e3).trans e4) dv⟩⟩
  rw [List.append_nil]
  exact alls_cons (Mono.m _ _ _ e3 d) al
theorem ev_make {S : List Dn → Dn → Prop} (h : EvA tA σ H rs) (hs : S rs r) : Ev (tMake C (spI C S) [] E0 tA) σ H r := fun H1 e Q q => h H1 e _ fun vs H2 e2 a => fun x dx hx hdx ne =>
  ⟨x, dx, vs, H2, rs, r, by rw [List.append_nil], rfl, hx, hdx, ne, hs, a, fun H3 e3 d => ⟨rfl, q _ H3 (e2.trans e3) d⟩⟩
theorem ev_own {gs : List Str} [Imms rs] (ha : Ev ta σ H (dIns C ns rs)) (hb : Ev tb σ H (dIns C gs ss)) (hs : ∀ H1, S H1 [dIns C ns rs, dIns C gs ss] r) : Ev (tOp (rOwn C (spP S)) ta tb) σ H r :=
  ev_op ha hb fun x y H1 e dx dy Q q => by
    obtain ⟨a, da, ws, rfl, h1, h2⟩ := id dx
    obtain ⟨b, db, zs, rfl, h3, h4⟩ := id dy
    exact ⟨a, da, _, b, db, _, rfl, rfl, h1, h3, _, r, hs H1, alls_cons dx (alls_cons dy alls_nil), q⟩
theorem ev_neO {gs : List Str} [Imms rs] (ha : Ev ta σ H (dIns C ns rs)) (hb : Ev tb σ H (dIns C gs ss)) (hs : ∀ H1, S H1 [dIns C ns rs, dIns C gs ss] (dB b)) : Ev (tOp (rNeO C (spP S)) ta tb) σ H (dB (!b)) :=
  ev_op ha hb fun x y H1 e dx dy Q q => by
    obtain ⟨a, da, ws, rfl, h1, h2⟩ := id dx
    obtain ⟨b', db, zs, rfl, h3, h4⟩ := id dy
    exact ⟨a, da, _, b', db, _, rfl, rfl, h1, h3, _, _, hs H1, alls_cons dx (alls_cons dy alls_nil), fun v H2 e2 d => ⟨b, d, q _ H2 e2 rfl⟩⟩
theorem ev_lenO (ha : Ev ta σ H (dIns C ns rs)) {n : Nat} (hn : n ≤ 100000) (hs : ∀ H1, S H1 [dIns C ns rs] (dI (n : Int))) : Ev (tCB (rLenO C (spP S)) (tCons ta tNil)) σ H (dI (n : Int)) := fun H1 e Q q => ha H1 e _ fun v H2 e2 d => by
  obtain ⟨a, da, ws, rfl, h1, h2⟩ := id d
  exact ⟨a, da, _, rfl, h1, _, _, hs H2, alls_cons d alls_nil, fun v H3 e3 dv => ⟨(n : Int), dv, by omega, by omega, q _ H3 (e2.trans e3) rfl⟩⟩
theorem q_fld {x dx : Addr} {fs : List (Str × V)} {k : Nat} (hv : σ[k]? = some (some (.ref x))) (hx : H x = some (.ins C dx fs)) (hc : Cls K C) (hn : NoAttr K C f) (hl : fs.length < 1000) (h : Ev te σ H r)
    (q : ∀ v H1, Same H H1 → r v H1 → tz D σ (upd H1 x (.ins C dx (putF f v fs)))) : tSeq (sFld K (tVar k) te f) tz D σ H :=
  h H (Same.refl H) _ fun v H1 e d => ⟨.ref x, hv, x, C, dx, fs, rfl, e _ _ hx, hc, hn, hl, q v H1 e d⟩
theorem s_fld {x dx : Addr} {fs : List (Str × V)} {k : Nat} (hv : σ[k]? = some (some (.ref x))) (hx : H x = some (.ins C dx fs)) (hc : Cls K C) (hn : NoAttr K C f) (hl : fs.length < 1000) (h : Ev te σ H r)
    (q : ∀ v H1, Same H H1 → r v H1 → D.nx σ (upd H1 x (.ins C dx (putF f v fs)))) : sFld K (tVar k) te f D σ H :=
  h H (Same.refl H) _ fun v H1 e d => ⟨.ref x, hv, x, C, dx, fs, rfl, e _ _ hx, hc, hn, hl, q v H1 e d⟩
/-! ### isinstance -/
theorem ev_isi {T n : String} (ha : Ev ta σ H ra) (hty : ∀ v H1, ra v H1 → TyX K H1 v (.type T)) (hk : kitB T n = some b) : Ev (tCB (rIsi K) (tCons ta (tCons (tC (.ty n)) tNil))) σ H (dB b) := fun H1 e Q q =>
  ha H1 e _ fun v H2 e2 d => ⟨v, .ty n, .type T, .type n, b, rfl, .ty n, hty v H2 d, kit_ty hk, q _ H2 e2 rfl⟩
theorem ev_isiO (ha : Ev ta σ H ra) (hty : ∀ v H1, ra v H1 → TyX K H1 v (.ref C)) : Ev (tCB (rIsi K) (tCons ta (tCons (tC (.ref C)) tNil))) σ H (dB true) := fun H1 e Q q =>
  ha H1 e _ fun v H2 e2 d => ⟨v, .ref C, .ref C, .ref C, true, rfl, .own C, hty v H2 d, by unfold PySem.W.kitOne; rw [if_pos (beq_self_eq_true _)], q _ H2 e2 rfl⟩
theorem ev_isi2 {n1 n2 : String} [ma : Mono ra] (ha : Ev ta σ H ra) (hty : ∀ v H1, ra v H1 → TyX K H1 v (.type "tuple")) (hk : PySem.W.kitAny K (.type "tuple") [.type n1, .type n2] = some b) :
    Ev (tCB (rIsiT K) (tCons ta (tCons (tTup (tCons (tC (.ty n1)) (tCons (tC (.ty n2)) tNil))) tNil))) σ H (dB b) := fun H1 e Q q =>
  ha H1 e _ fun v H2 e2 d => ⟨by show 2 ≤ sizeLine; decide, fun p hp => ⟨v, p, _, .type "tuple", [.type n1, .type n2], b, rfl, upd_same, .cons (.ty n1) (.cons (.ty n2) .nil), hty v _ (ma.m _ _ _ (same_new hp) d), hk, q _ _ (e2.trans (same_new hp)) rfl⟩⟩
theorem tyX_tup {v : V} {rs : List Dn} (d : dT rs v H) : TyX K H v (.type "tuple") := by
  obtain ⟨a, vs, rfl, h, _⟩ := d
  exact .base (.tup h)
theorem tyX_int {v : V} (d : dI i v H) : TyX K H v (.type "int") := by
  rw [show v = .int i from d]
  exact .base (.int i)
/-! ### == of data -/
def pdI (l : List Int) : PyData := .tuple (l.map .int)
theorem dp_ints : ∀ l : List Int, DpAll K H (l.map V.int) (l.map .int)
  | [] => .nil
  | x :: l => .cons (.int x) (dp_ints l)
theorem dp_all {vs : List V} {l : List Int} (a : Alls H vs (dIs l)) : DpAll K H vs (l.map .int) := by
  rw [alls_ints_inv a]
  exact dp_ints l
theorem dp_TI {v : V} {l : List Int} (d : dTI l v H) : Dp K H v (pdI l) := by
  obtain ⟨a, vs, rfl, h1, h2⟩ := d
  exact .tup (SqT.of h1) (dp_all h2)
theorem lay_all : ∀ l : List Int, PyData.canLayAll0 (l.map .int) = true
  | [] => by rw [List.map_nil, PyData.canLayAll0]
  | x :: l => by rw [List.map_cons, PyData.canLayAll0, PyData.canLay0, lay_all l]; rfl
theorem dep_all : ∀ l : List Int, PyData.depthAll (l.map .int) = 0
  | [] => by rw [List.map_nil, PyData.depthAll]
  | x :: l => by rw [List.map_cons, PyData.depthAll, PyData.depth, dep_all l]; rfl
theorem shp_I (l : List Int) : SeqAt.shaped (pdI l) = true := by
  unfold SeqAt.shaped pdI
  rw [PyData.canLay0, PyData.depth, lay_all, dep_all]
  rfl
theorem eqv_all : ∀ l k : List Int, PyData.eqvAll (l.map .int) (k.map .int) = decide (l = k)
  | [], [] => by rw [List.map_nil, PyData.eqvAll]; rfl
  | [], x :: k => by rw [List.map_nil, List.map_cons, PyData.eqvAll]; rfl
  | x :: l, [] => by rw [List.map_nil, List.map_cons, PyData.eqvAll]; rfl
  | x :: l, y :: k => by
    rw [List.map_cons, List.map_cons, PyData.eqvAll, eqv_all l k, PyData.eqv]
    by_cases h : x = y
    · subst h
      by_cases h2 : l = k
      · subst h2
        simp
      · simp [h2]
    · simp [h]
theorem eqv_I (l k : List Int) : PyData.eqv (pdI l) (pdI k) = decide (l = k) := by
  unfold pdI
  rw [PyData.eqv, eqv_all]
theorem ev_eqT {l k : List Int} (ha : Ev ta σ H (dTI l)) (hb : Ev tb σ H (dTI k)) : Ev (tOp (rEqD K) ta tb) σ H (dB (decide (l = k))) :=
  ev_op ha hb fun x y H1 e dx dy Q q => ⟨pdI l, pdI k, dp_TI dx, dp_TI dy, shp_I l, shp_I k, q _ H1 (Same.refl H1) (by show V.bl _ = V.bl _; rw [eqv_I])⟩
theorem ev_neT {l k : List Int} (ha : Ev ta σ H (dTI l)) (hb : Ev tb σ H (dTI k)) : Ev (tOp (rNeD K) ta tb) σ H (dB (!decide (l = k))) :=
  ev_op ha hb fun x y H1 e dx dy Q q => ⟨pdI l, pdI k, dp_TI dx, dp_TI dy, shp_I l, shp_I k, q _ H1 (Same.refl H1) (by show V.bl _ = V.bl _; rw [eqv_I])⟩
def dTT (ls : List (List Int)) : Dn := dT (ls.map dTI)
instance immTT {ls : List (List Int)} : Imm (dTT ls) := immT
def pdT (ls : List (List Int)) : PyData := .tuple (ls.map pdI)
theorem dp_TT : ∀ {ls : List (List Int)} {vs : List V}, Alls H vs (ls.map dTI) → DpAll K H vs (ls.map pdI)
  | [], vs, a => by rw [a.nil_inv]; exact .nil
  | l :: ls, vs, a => by
    obtain ⟨v, ws, rfl, h1, h2⟩ := Alls.cons_inv (r := dTI l) (rs := ls.map dTI) a
    exact .cons (dp_TI h1) (dp_TT h2)
theorem lay_T : ∀ ls : List (List Int), PyData.canLayAll0 (ls.map pdI) = true
  | [] => by rw [List.map_nil, PyData.canLayAll0]
  | l :: ls => by
    rw [List.map_cons, PyData.canLayAll0, lay_T ls, Bool.and_true]
    unfold pdI
    rw [PyData.canLay0, lay_all]
theorem dep_T : ∀ ls : List (List Int), PyData.depthAll (ls.map pdI) ≤ 1
  | [] => by rw [List.map_nil, PyData.depthAll]; decide
  | l :: ls => by
    have h := dep_T ls
    have e : PyData.depth (pdI l) = 1 := by
      unfold pdI
      rw [PyData.depth, dep_all]
    rw [List.map_cons, PyData.depthAll, e]
    omega
theorem shp_T (ls : List (List Int)) : SeqAt.shaped (pdT ls) = true := by
  have h := dep_T ls
  unfold SeqAt.shaped pdT
  rw [PyData.canLay0, PyData.depth, lay_T, Bool.true_and]
  exact decide_eq_true (by omega)
theorem eqv_T : ∀ ls ks : List (List Int), PyData.eqvAll (ls.map pdI) (ks.map pdI) = decide (ls = ks)
  | [], [] => by rw [List.map_nil, PyData.eqvAll]; rfl
  | [], x :: k => by rw [List.map_nil, List.map_cons, PyData.eqvAll]; rfl
  | x :: l, [] => by rw [List.map_nil, List.map_cons, PyData.eqvAll]; rfl
  | x :: l, y :: k => by
    rw [List.map_cons, List.map_cons, PyData.eqvAll, eqv_T l k, eqv_I]
    by_cases h : x = y
    · subst h
      by_cases h2 : l = k
      · subst h2
        simp
      · simp [h2]
    · simp [h]
theorem ev_eqTT {ls ks : List (List Int)} (ha : Ev ta σ H (dTT ls)) (hb : Ev tb σ H (dTT ks)) : Ev (tOp (rEqD K) ta tb) σ H (dB (decide (ls = ks))) :=
  ev_op ha hb fun x y H1 e dx dy Q q => by
    obtain ⟨a, vs, rfl, h1, h2⟩ := dx
    obtain ⟨b, ws, rfl, h3, h4⟩ := dy
    exact ⟨pdT ls, pdT ks, .tup (SqT.of h1) (dp_TT h2), .tup (SqT.of h3) (dp_TT h4), shp_T ls, shp_T ks, q _ H1 (Same.refl H1) (by show V.bl _ = V.bl _; unfold pdT; rw [PyData.eqv, eqv_T])⟩
end
/-! ### the text's defs -/
section
variable {P : Program} {w : World} {K : PySem.W.Frag} {mg : Str → Option Value} {base : Heap}
def DefOk (K : PySem.W.Frag) (mg : Str → Option Value) (x : Str) (st : Stmt) (ps : List Str) : Prop :=
  ∃ f fd, mg x = some (.ref f) ∧ FunD K x x (defArgs st) (defBody st) (defScope st) [] [] f fd ∧ Binds K fd ps []
def MethOk (K : PySem.W.Frag) (C : Addr) (m qual : Str) (st : Stmt) (ps : List Str) : Prop :=
  ∃ f fd, Cls K C ∧ Meth K C m f ∧ FunD K m qual (defArgs st) (defBody st) (defScope st) [] [] f fd ∧ Binds K fd ps []
def InitOk (K : PySem.W.Frag) (mg : Str → Option Value) (x : Str) (C : Addr) (qual : Str) (st : Stmt) (ps : List Str) : Prop :=
  ∃ f fd dvs, Mk K C f ∧ mg x = some (.ref C) ∧ FunD K "__init__" qual (defArgs st) (defBody st) (defScope st) dvs [] f fd ∧ Binds K fd ps []
theorem cal_of {x : Str} {st : Stmt} {N ps : List Str} {k : Nat} {S : Hp → List Dn → Dn → Prop} (D : DefOk K mg x st ps) (sc : FnScope N ps (defScope st)) (len : ∀ H rs r, S H rs r → rs.length = ps.length)
    (hb : ∀ (f : Addr) (cdv : Value) (A : Around) (outer : List Env) (s : Shared) (H : Hp) (vs : List V) (Q : VK) (E : XK) (rs : List Dn) (r : Dn), Room k (A.deeper (PyProof.Rows.envOfC x (defScope st) s.heap.objs.size f cdv)) → S H rs r → Alls H vs rs → (∀ v H1, Same H H1 → r v H1 → Q v H1) →
      ∃ t, PSs (cxOf CX0 P w K mg base N x (defScope st) f cdv A outer s H E).nox (defBody st) t ∧ t { nx := fun _ H' => Q .non H', rt := Q } (start N vs) H) : Cal P w K mg base (k + 1) x (spP S) := by
  obtain ⟨f, fd, hm, F, b⟩ := D
  refine ⟨f, fd, ps, F.ok sc (fun vs H Q E h => ?_) (fun cdv A outer s H vs Q E hr h => ?_), hm, F.kp, b⟩
  · obtain ⟨rs, r, s, a, _⟩ := h
    rw [a.len, len H rs r s]
  · obtain ⟨rs, r, sS, a, q⟩ := h
    obtain ⟨t, h1, h2⟩ := hb f cdv A outer s H vs Q E rs r hr sS a q
    exact ⟨t, h1.nox, h2⟩
theorem met_of {C : Addr} {m qual : Str} {st : Stmt} {N ps : List Str} {k : Nat} {S : Hp → List Dn → Dn → Prop} (D : MethOk K C m qual st ps) (sc : FnScope N ps (defScope st)) (len : ∀ H rs r, S H rs r → rs.length = ps.length)
    (hb : ∀ (f : Addr) (cdv : Value) (A : Around) (outer : List Env) (s : Shared) (H : Hp) (vs : List V) (Q : VK) (E : XK) (rs : List Dn) (r : Dn), Room k (A.deeper (PyProof.Rows.envOfC qual (defScope st) s.heap.objs.size f cdv)) → S H rs r → Alls H vs rs → (∀ v H1, Same H H1 → r v H1 → Q v H1) →
      ∃ t, PSs (cxOf CX0 P w K mg base N qual (defScope st) f cdv A outer s H E).nox (defBody st) t ∧ t { nx := fun _ H' => Q .non H', rt := Q } (start N vs) H) : Met P w K mg base (k + 1) C m (spP S) := by
  obtain ⟨f, fd, hc, hm, F, b⟩ := D
  refine ⟨f, fd, ps, hc, hm, F.ok sc (fun vs H Q E h => ?_) (fun cdv A outer s H vs Q E hr h => ?_), b⟩
  · obtain ⟨rs, r, s, a, _⟩ := h
    rw [a.len, len H rs r s]
  · obtain ⟨rs, r, sS, a, q⟩ := h
    obtain ⟨t, h1, h2⟩ := hb f cdv A outer s H vs Q E rs r hr sS a q
    exact ⟨t, h1.nox, h2⟩
theorem mak_of {C : Addr} {x qual : Str} {st : Stmt} {N ps : List Str} {k : Nat} {S : List Dn → Dn → Prop} (D : InitOk K mg x C qual st ps) (sc : FnScope N ps (defScope st)) (len : ∀ rs r, S rs r → rs.length + 1 = ps.length)
    (hb : ∀ (f : Addr) (cdv : Value) (A : Around) (outer : List Env) (s : Shared) (H0 : Hp) (x' dx : Addr) (ws : List V) (Q : VK) (E : XK) (rs : List Dn) (r : Dn), Room k (A.deeper (PyProof.Rows.envOfC qual (defScope st) s.heap.objs.size f cdv)) → H0 x' = none → H0 dx = none → dx ≠ x' → S rs r → Alls H0 ws rs → (∀ H1, Same H0 H1 → r (.ref x') H1 → Q .non H1) →
      ∃ t, PSs (cxOf CX0 P w K mg base N qual (defScope st) f cdv A outer s (upd (upd H0 dx (.own x')) x' (.ins C dx [])) E).nox (defBody st) t ∧ t { nx := fun _ H' => Q .non H', rt := Q } (start N (.ref x' :: ws)) (upd (upd H0 dx (.own x')) x' (.ins C dx []))) : Mak P w K mg base (k + 1) x C (spI C S) := by
  obtain ⟨f, fd, dvs, hM, hm, F, b⟩ := D
  refine ⟨f, fd, ps, hM, F.ok sc (fun vs H Q E h => ?_) (fun cdv A outer s H vs Q E hr h => ?_), hm, b⟩
  · obtain ⟨x', dx, ws, H0, rs, r, rfl, _, _, _, _, s, a, _⟩ := h
    rw [List.length_cons, a.len, len rs r s]
  · obtain ⟨x', dx, ws, H0, rs, r, rfl, rfl, h1, h2, h3, sS, a, q⟩ := h
    obtain ⟨t, g1, g2⟩ := hb f cdv A outer s H0 x' dx ws Q E rs r hr h1 h2 h3 sS a q
    exact ⟨t, g1.nox, g2⟩
end
end K35
set_option Elab.async false
set_option linter.all false
set_option maxRecDepth 100000
set_option maxHeartbeats 4000000
namespace K35
open PySem PySem.Spec L2
theorem b_int : bootBuiltins "int" = some (.type "int") := by decide +kernel
theorem b_bool : bootBuiltins "bool" = some (.type "bool") := by decide +kernel
theorem b_tuple : bootBuiltins "tuple" = some (.type "tuple") := by decide +kernel
theorem b_list : bootBuiltins "list" = some (.type "list") := by decide +kernel
theorem b_max : bootBuiltins "max" = some (.builtin "max") := by decide +kernel
theorem b_abs : bootBuiltins "abs" = some (.builtin "abs") := by decide +kernel
theorem b_isinstance : bootBuiltins "isinstance" = some (.builtin "isinstance") := by decide +kernel
section
variable {X : Cx}
theorem c_add : OpR X (binaryOp .Add) pAdd := op_add
theorem c_sub : OpR X (binaryOp .Sub) pSub := op_sub
theorem c_mul : OpR X (binaryOp .Mult) pMul := op_mul
theorem c_mod : OpR X (binaryOp .Mod) pMod := op_mod
theorem c_div : OpR X (binaryOp .FloorDiv) pDiv := op_fdiv
theorem c_lt : OpR X (compareOp .Lt) pLt := op_lt
theorem c_le : OpR X (compareOp .LtE) pLe := op_le
theorem c_gt : OpR X (compareOp .Gt) pGt := op_gt
theorem c_ge : OpR X (compareOp .GtE) pGe := op_ge
theorem c_isN : OpR X (compareOp .Is) pIsN := op_isN
theorem c_notN : OpR X (compareOp .IsNot) pNotN := op_notN
theorem c_neg : UnR X (unaryOp .USub) pNeg := un_neg
theorem c_len : CallR X (.builtin "len") (pLen X.K) := call_len_seq
theorem c_list : CallR X (.type "list") (pList X.K) := call_list_of
theorem c_tuple : CallR X (.type "tuple") (pTuple X.K) := call_tuple_of
theorem c_max2 (hc : X.calm = true) : CallR X (.builtin "max") pMax2 := call_max2 hc
theorem c_abs : CallR X (.builtin "abs") pAbs := call_abs
theorem c_int1 : CallR X (.type "int") pInt1 := call_int1
theorem c_sl : SlR X (pSl X.K) := SlR.or sl_list sl_tupA
/-- for over a list or a tuple -/
def iSq (K : PySem.W.Frag) (tl : TE) : TI := fun σ H R => tl σ H fun x H1 => ∃ a, x = .ref a ∧ (((∃ xs, SqL K H1 a xs) ∧ R (Itl K a) H1) ∨ ((∃ xs, SqT K H1 a xs) ∧ R (Itt K a) H1))
theorem pi_sq {tg l : Expr} {tl : TE} (hl : PE X l tl) : PI X tg l (iSq X.K tl) := by
  refine ⟨fun pins s σ H R I h => ?_⟩
  refine thn (hl.run pins s σ H _ I h) fun v s1 ⟨x, H1, I1, r1, q1⟩ => ?_
  obtain ⟨a, rfl, q⟩ := q1
  cases r1
  have fresh : ∀ b ∈ [s1.heap.objs.size], FpOk X pins H1 b := fun b hb => by
    rw [show b = s1.heap.objs.size by simpa using hb]
    exact I1.fpOk (Nat.le_refl _) (I1.hok.fresh (Nat.le_refl _))
  rcases q with ⟨⟨xs, hx⟩, q⟩ | ⟨⟨xs, hx⟩, q⟩
  · obtain ⟨its, rv, p⟩ := inv_seqX (b := false) I1 hx
    exact (beginsX a its.toArray false).iter _ _ _ _ _ _ p ⟨s1.heap.objs.size, [s1.heap.objs.size], _, _, H1, rfl, I1.kept (t' := s1.toks) fun b o e => Heap.get?_push_of_some _ e, turn_list a _, ⟨_, Heap.get?_push_size _ rfl, rfl, rfl⟩, fresh, q⟩
  · obtain ⟨its, rv, p⟩ := inv_seqX (b := true) I1 hx
    exact (beginsX a its.toArray true).iter _ _ _ _ _ _ p ⟨s1.heap.objs.size, [s1.heap.objs.size], _, _, H1, rfl, I1.kept (t' := s1.toks) fun b o e => Heap.get?_push_of_some _ e, turn_tuple a _, ⟨_, Heap.get?_push_size _ rfl, rfl, rfl⟩, fresh, q⟩
end
section
variable {K : PySem.W.Frag} {σ : St} {H H' : Hp} {te : TE} {r : Dn} {rs : List Dn}
theorem ei_sq [s : SeqD r rs] [Monos rs] (h : Ev te σ H r) : EvI (iSq K te) σ H rs.length (yAt rs) := fun H1 e R q => h H1 e _ fun v H2 e2 d => by
  obtain ⟨p, ys, rfl, hp, a⟩ := s.to v H2 d
  rcases hp with hp | hp
  · refine ⟨p, rfl, .inl ⟨⟨ys, SqL.of hp⟩, q _ H2 (fun H' => H' p = some (.lst ys) ∧ Alls H' ys rs) e2 ⟨fun i H' hi g => ?_, fun H' g => ⟨ys, SqL.of g.1, by rw [g.2.len]; exact Nat.le_refl _⟩, fun i H' x H'' hi g y => ?_⟩ ⟨hp, a⟩ fun A B e g => ⟨e _ _ g.1, g.2.mono e⟩⟩⟩
    · have hy : i < ys.length := by rw [g.2.len]; exact hi
      exact ⟨ys, ys[i], SqL.of g.1, List.getElem?_eq_getElem hy⟩
    · obtain ⟨rfl, y2⟩ := y
      exact ⟨Same.refl _, g.2.get i x _ (y2 ys (SqL.of g.1)) (yAt_lt hi)⟩
  · refine ⟨p, rfl, .inr ⟨⟨ys, SqT.of hp⟩, q _ H2 (fun H' => H' p = some (.tup ys) ∧ Alls H' ys rs) e2 ⟨fun i H' hi g => ?_, fun H' g => ⟨ys, SqT.of g.1, by rw [g.2.len]; exact Nat.le_refl _⟩, fun i H' x H'' hi g y => ?_⟩ ⟨hp, a⟩ fun A B e g => ⟨e _ _ g.1, g.2.mono e⟩⟩⟩
    · have hy : i < ys.length := by rw [g.2.len]; exact hi
      exact ⟨ys, ys[i], SqT.of g.1, List.getElem?_eq_getElem hy⟩
    · obtain ⟨rfl, y2⟩ := y
      exact ⟨Same.refl _, g.2.get i x _ (y2 ys (SqT.of g.1)) (yAt_lt hi)⟩
end
end K35
set_option Elab.async false
set_option linter.all false
set_option maxRecDepth 100000
set_option maxHeartbeats 4000000
namespace K35
open PySem PySem.Spec L2
/-! ### the text by places -/
def top (i : Nat) : Stmt := PySem.Challenge.pw_fieldmaps_k35_whole_least_recurrence_of.main.body.getD i (.Pass ⟨0, 0, 0, 0⟩)
abbrev s_f_subtract : Stmt := top 7
abbrev n_f_subtract : List Str := ["field", "a", "b"]
theorem sc_f_subtract : FnScope n_f_subtract ["field", "a", "b"] (defScope s_f_subtract) := ⟨rfl, rfl, rfl, by decide +kernel, rfl, by decide +kernel, by decide +kernel⟩
abbrev s_f_dot : Stmt := top 8
abbrev n_f_dot : List Str := ["field", "a", "b", "total", "x", "y"]
theorem sc_f_dot : FnScope n_f_dot ["field", "a", "b"] (defScope s_f_dot) := ⟨rfl, rfl, rfl, by decide +kernel, rfl, by decide +kernel, by decide +kernel⟩
abbrev s_f_cleared : Stmt := top 9
abbrev n_f_cleared : List Str := ["field", "row", "lead", "at", "factor", "x", "y"]
theorem sc_f_cleared : FnScope n_f_cleared ["field", "row", "lead", "at"] (defScope s_f_cleared) := ⟨rfl, rfl, rfl, by decide +kernel, rfl, by decide +kernel, by decide +kernel⟩
abbrev s_f_reduced : Stmt := top 10
abbrev n_f_reduced : List Str := ["field", "rows", "width", "rest", "done", "pivots", "at", "chosen", "row", "scale", "lead", "others", "k", "x"]
theorem sc_f_reduced : FnScope n_f_reduced ["field", "rows", "width"] (defScope s_f_reduced) := ⟨rfl, rfl, rfl, by decide +kernel, rfl, by decide +kernel, by decide +kernel⟩
abbrev s_f_solve : Stmt := top 11
abbrev n_f_solve : List Str := ["field", "rows", "width", "right", "lines", "vector", "found", "pivots", "line", "pivot", "_", "row", "item"]
theorem sc_f_solve : FnScope n_f_solve ["field", "rows", "width", "right"] (defScope s_f_solve) := ⟨rfl, rfl, rfl, by decide +kernel, rfl, by decide +kernel, by decide +kernel⟩
abbrev s_f_is_integer : Stmt := top 13
abbrev n_f_is_integer : List Str := ["value"]
theorem sc_f_is_integer : FnScope n_f_is_integer ["value"] (defScope s_f_is_integer) := ⟨rfl, rfl, rfl, by decide +kernel, rfl, by decide +kernel, by decide +kernel⟩
abbrev s_f_prime_powers : Stmt := top 14
abbrev n_f_prime_powers : List Str := ["n", "found", "p", "k"]
theorem sc_f_prime_powers : FnScope n_f_prime_powers ["n"] (defScope s_f_prime_powers) := ⟨rfl, rfl, rfl, by decide +kernel, rfl, by decide +kernel, by decide +kernel⟩
abbrev s_f_is_prime : Stmt := top 15
abbrev n_f_is_prime : List Str := ["n"]
theorem sc_f_is_prime : FnScope n_f_is_prime ["n"] (defScope s_f_is_prime) := ⟨rfl, rfl, rfl, by decide +kernel, rfl, by decide +kernel, by decide +kernel⟩
abbrev s_f_inverse_modulo : Stmt := top 16
abbrev n_f_inverse_modulo : List Str := ["a", "p", "old", "new", "u", "v", "q"]
theorem sc_f_inverse_modulo : FnScope n_f_inverse_modulo ["a", "p"] (defScope s_f_inverse_modulo) := ⟨rfl, rfl, rfl, by decide +kernel, rfl, by decide +kernel, by decide +kernel⟩
abbrev s_f_trimmed : Stmt := top 18
abbrev n_f_trimmed : List Str := ["row", "p", "out", "x"]
theorem sc_f_trimmed : FnScope n_f_trimmed ["row", "p"] (defScope s_f_trimmed) := ⟨rfl, rfl, rfl, by decide +kernel, rfl, by decide +kernel, by decide +kernel⟩
abbrev s_f_add_rows : Stmt := top 19
abbrev n_f_add_rows : List Str := ["a", "b", "p", "size", "low", "high", "x", "y"]
theorem sc_f_add_rows : FnScope n_f_add_rows ["a", "b", "p"] (defScope s_f_add_rows) := ⟨rfl, rfl, rfl, by decide +kernel, rfl, by decide +kernel, by decide +kernel⟩
abbrev s_f_subtract_rows : Stmt := top 20
abbrev n_f_subtract_rows : List Str := ["a", "b", "p", "x"]
theorem sc_f_subtract_rows : FnScope n_f_subtract_rows ["a", "b", "p"] (defScope s_f_subtract_rows) := ⟨rfl, rfl, rfl, by decide +kernel, rfl, by decide +kernel, by decide +kernel⟩
abbrev s_f_multiply_rows : Stmt := top 21
abbrev n_f_multiply_rows : List Str := ["a", "b", "p", "out", "i", "x", "_", "k", "y"]
theorem sc_f_multiply_rows : FnScope n_f_multiply_rows ["a", "b", "p"] (defScope s_f_multiply_rows) := ⟨rfl, rfl, rfl, by decide +kernel, rfl, by decide +kernel, by decide +kernel⟩
abbrev s_f_divide_rows : Stmt := top 22
abbrev n_f_divide_rows : List Str := ["a", "b", "p", "rest", "last", "quotient", "k", "factor", "_", "i", "y"]
theorem sc_f_divide_rows : FnScope n_f_divide_rows ["a", "b", "p"] (defScope s_f_divide_rows) := ⟨rfl, rfl, rfl, by decide +kernel, rfl, by decide +kernel, by decide +kernel⟩
abbrev s_f_common_row : Stmt := top 23
abbrev n_f_common_row : List Str := ["a", "b", "p"]
theorem sc_f_common_row : FnScope n_f_common_row ["a", "b", "p"] (defScope s_f_common_row) := ⟨rfl, rfl, rfl, by decide +kernel, rfl, by decide +kernel, by decide +kernel⟩
abbrev s_f_power_row : Stmt := top 24
abbrev n_f_power_row : List Str := ["a", "k", "m", "p", "out", "base"]
theorem sc_f_power_row : FnScope n_f_power_row ["a", "k", "m", "p"] (defScope s_f_power_row) := ⟨rfl, rfl, rfl, by decide +kernel, rfl, by decide +kernel, by decide +kernel⟩
abbrev s_f_is_irreducible_row : Stmt := top 25
abbrev n_f_is_irreducible_row : List Str := ["m", "p", "n", "power", "_"]
theorem sc_f_is_irreducible_row : FnScope n_f_is_irreducible_row ["m", "p"] (defScope s_f_is_irreducible_row) := ⟨rfl, rfl, rfl, by decide +kernel, rfl, by decide +kernel, by decide +kernel⟩
abbrev s_f_is_member_row : Stmt := top 26
abbrev n_f_is_member_row : List Str := ["value", "n", "p", "x"]
theorem sc_f_is_member_row : FnScope n_f_is_member_row ["value", "n", "p"] (defScope s_f_is_member_row) := ⟨rfl, rfl, rfl, by decide +kernel, rfl, by decide +kernel, by decide +kernel⟩
abbrev s_f_member_of : Stmt := top 27
abbrev n_f_member_of : List Str := ["row", "n"]
theorem sc_f_member_of : FnScope n_f_member_of ["row", "n"] (defScope s_f_member_of) := ⟨rfl, rfl, rfl, by decide +kernel, rfl, by decide +kernel, by decide +kernel⟩
abbrev s_f_member_sum : Stmt := top 28
abbrev n_f_member_sum : List Str := ["a", "b", "p", "x", "y"]
theorem sc_f_member_sum : FnScope n_f_member_sum ["a", "b", "p"] (defScope s_f_member_sum) := ⟨rfl, rfl, rfl, by decide +kernel, rfl, by decide +kernel, by decide +kernel⟩
abbrev s_f_member_negative : Stmt := top 29
abbrev n_f_member_negative : List Str := ["a", "p", "x"]
theorem sc_f_member_negative : FnScope n_f_member_negative ["a", "p"] (defScope s_f_member_negative) := ⟨rfl, rfl, rfl, by decide +kernel, rfl, by decide +kernel, by decide +kernel⟩
abbrev s_f_member_product : Stmt := top 30
abbrev n_f_member_product : List Str := ["a", "b", "modulus", "p", "row"]
theorem sc_f_member_product : FnScope n_f_member_product ["a", "b", "modulus", "p"] (defScope s_f_member_product) := ⟨rfl, rfl, rfl, by decide +kernel, rfl, by decide +kernel, by decide +kernel⟩
abbrev s_f_member_inverse : Stmt := top 31
abbrev n_f_member_inverse : List Str := ["a", "modulus", "p", "first", "second", "u", "v", "quotient", "rest"]
theorem sc_f_member_inverse : FnScope n_f_member_inverse ["a", "modulus", "p"] (defScope s_f_member_inverse) := ⟨rfl, rfl, rfl, by decide +kernel, rfl, by decide +kernel, by decide +kernel⟩
abbrev s_f_u_trimmed : Stmt := top 34
abbrev n_f_u_trimmed : List Str := ["row", "field", "zero", "size"]
theorem sc_f_u_trimmed : FnScope n_f_u_trimmed ["row", "field"] (defScope s_f_u_trimmed) := ⟨rfl, rfl, rfl, by decide +kernel, rfl, by decide +kernel, by decide +kernel⟩
abbrev s_f_add : Stmt := top 35
abbrev n_f_add : List Str := ["a", "b", "field", "zero", "low", "high", "x", "y"]
theorem sc_f_add : FnScope n_f_add ["a", "b", "field"] (defScope s_f_add) := ⟨rfl, rfl, rfl, by decide +kernel, rfl, by decide +kernel, by decide +kernel⟩
abbrev s_f_negative : Stmt := top 36
abbrev n_f_negative : List Str := ["a", "field", "x"]
theorem sc_f_negative : FnScope n_f_negative ["a", "field"] (defScope s_f_negative) := ⟨rfl, rfl, rfl, by decide +kernel, rfl, by decide +kernel, by decide +kernel⟩
abbrev s_f_multiply : Stmt := top 37
abbrev n_f_multiply : List Str := ["a", "b", "field", "out", "i", "x", "_", "k", "y"]
theorem sc_f_multiply : FnScope n_f_multiply ["a", "b", "field"] (defScope s_f_multiply) := ⟨rfl, rfl, rfl, by decide +kernel, rfl, by decide +kernel, by decide +kernel⟩
abbrev s_f_divide : Stmt := top 38
abbrev n_f_divide : List Str := ["a", "b", "field", "rest", "last", "quotient", "k", "factor", "_", "i", "y", "less"]
theorem sc_f_divide : FnScope n_f_divide ["a", "b", "field"] (defScope s_f_divide) := ⟨rfl, rfl, rfl, by decide +kernel, rfl, by decide +kernel, by decide +kernel⟩
abbrev s_m_Poly_init : Stmt := inClass (top 39) 0
abbrev n_m_Poly_init : List Str := ["self", "field", "row", "a"]
theorem sc_m_Poly_init : FnScope n_m_Poly_init ["self", "field", "row"] (defScope s_m_Poly_init) := ⟨rfl, rfl, rfl, by decide +kernel, rfl, by decide +kernel, by decide +kernel⟩
abbrev s_m_Poly_sub : Stmt := inClass (top 39) 3
abbrev n_m_Poly_sub : List Str := ["self", "other"]
theorem sc_m_Poly_sub : FnScope n_m_Poly_sub ["self", "other"] (defScope s_m_Poly_sub) := ⟨rfl, rfl, rfl, by decide +kernel, rfl, by decide +kernel, by decide +kernel⟩
abbrev s_m_Poly_mul : Stmt := inClass (top 39) 5
abbrev n_m_Poly_mul : List Str := ["self", "other"]
theorem sc_m_Poly_mul : FnScope n_m_Poly_mul ["self", "other"] (defScope s_m_Poly_mul) := ⟨rfl, rfl, rfl, by decide +kernel, rfl, by decide +kernel, by decide +kernel⟩
abbrev s_m_Poly_mod : Stmt := inClass (top 39) 7
abbrev n_m_Poly_mod : List Str := ["self", "other"]
theorem sc_m_Poly_mod : FnScope n_m_Poly_mod ["self", "other"] (defScope s_m_Poly_mod) := ⟨rfl, rfl, rfl, by decide +kernel, rfl, by decide +kernel, by decide +kernel⟩
abbrev s_m_Poly_is_zero : Stmt := inClass (top 39) 11
abbrev n_m_Poly_is_zero : List Str := ["self"]
theorem sc_m_Poly_is_zero : FnScope n_m_Poly_is_zero ["self"] (defScope s_m_Poly_is_zero) := ⟨rfl, rfl, rfl, by decide +kernel, rfl, by decide +kernel, by decide +kernel⟩
abbrev s_f_monomial : Stmt := top 40
abbrev n_f_monomial : List Str := ["field", "a", "k"]
theorem sc_f_monomial : FnScope n_f_monomial ["field", "a", "k"] (defScope s_f_monomial) := ⟨rfl, rfl, rfl, by decide +kernel, rfl, by decide +kernel, by decide +kernel⟩
abbrev s_m_Recurrence_init : Stmt := inClass (top 43) 0
abbrev n_m_Recurrence_init : List Str := ["self", "field", "multiples", "c"]
theorem sc_m_Recurrence_init : FnScope n_m_Recurrence_init ["self", "field", "multiples"] (defScope s_m_Recurrence_init) := ⟨rfl, rfl, rfl, by decide +kernel, rfl, by decide +kernel, by decide +kernel⟩
abbrev s_m_Recurrence_eq : Stmt := inClass (top 43) 1
abbrev n_m_Recurrence_eq : List Str := ["self", "other"]
theorem sc_m_Recurrence_eq : FnScope n_m_Recurrence_eq ["self", "other"] (defScope s_m_Recurrence_eq) := ⟨rfl, rfl, rfl, by decide +kernel, rfl, by decide +kernel, by decide +kernel⟩
abbrev s_m_Recurrence_len : Stmt := inClass (top 43) 2
abbrev n_m_Recurrence_len : List Str := ["self"]
theorem sc_m_Recurrence_len : FnScope n_m_Recurrence_len ["self"] (defScope s_m_Recurrence_len) := ⟨rfl, rfl, rfl, by decide +kernel, rfl, by decide +kernel, by decide +kernel⟩
abbrev s_m_Recurrence_polynomial : Stmt := inClass (top 43) 3
abbrev n_m_Recurrence_polynomial : List Str := ["self", "top"]
theorem sc_m_Recurrence_polynomial : FnScope n_m_Recurrence_polynomial ["self"] (defScope s_m_Recurrence_polynomial) := ⟨rfl, rfl, rfl, by decide +kernel, rfl, by decide +kernel, by decide +kernel⟩
abbrev s_m_Recurrence_checked : Stmt := inClass (top 43) 4
abbrev n_m_Recurrence_checked : List Str := ["self", "first", "a"]
theorem sc_m_Recurrence_checked : FnScope n_m_Recurrence_checked ["self", "first"] (defScope s_m_Recurrence_checked) := ⟨rfl, rfl, rfl, by decide +kernel, rfl, by decide +kernel, by decide +kernel⟩
abbrev s_m_Recurrence_row : Stmt := inClass (top 43) 5
abbrev n_m_Recurrence_row : List Str := ["self", "first", "count", "out", "last"]
theorem sc_m_Recurrence_row : FnScope n_m_Recurrence_row ["self", "first", "count"] (defScope s_m_Recurrence_row) := ⟨rfl, rfl, rfl, by decide +kernel, rfl, by decide +kernel, by decide +kernel⟩
abbrev s_m_Recurrence_is_satisfied : Stmt := inClass (top 43) 8
abbrev n_m_Recurrence_is_satisfied : List Str := ["self", "row", "size", "k"]
theorem sc_m_Recurrence_is_satisfied : FnScope n_m_Recurrence_is_satisfied ["self", "row"] (defScope s_m_Recurrence_is_satisfied) := ⟨rfl, rfl, rfl, by decide +kernel, rfl, by decide +kernel, by decide +kernel⟩
abbrev s_m_Recurrence_least : Stmt := inClass (top 43) 9
abbrev n_m_Recurrence_least : List Str := ["self", "first", "row"]
theorem sc_m_Recurrence_least : FnScope n_m_Recurrence_least ["self", "first"] (defScope s_m_Recurrence_least) := ⟨rfl, rfl, rfl, by decide +kernel, rfl, by decide +kernel, by decide +kernel⟩
abbrev s_f_least_recurrence : Stmt := top 44
abbrev n_f_least_recurrence : List Str := ["field", "terms", "count", "size", "rows", "found", "k"]
theorem sc_f_least_recurrence : FnScope n_f_least_recurrence ["field", "terms"] (defScope s_f_least_recurrence) := ⟨rfl, rfl, rfl, by decide +kernel, rfl, by decide +kernel, by decide +kernel⟩
abbrev s_f_checked_modulus : Stmt := top 47
abbrev n_f_checked_modulus : List Str := ["p", "modulus", "x", "size", "_"]
theorem sc_f_checked_modulus : FnScope n_f_checked_modulus ["p", "modulus"] (defScope s_f_checked_modulus) := ⟨rfl, rfl, rfl, by decide +kernel, rfl, by decide +kernel, by decide +kernel⟩
abbrev s_m_Field_init : Stmt := inClass (top 48) 0
abbrev n_m_Field_init : List Str := ["self", "p", "modulus", "q", "_"]
theorem sc_m_Field_init : FnScope n_m_Field_init ["self", "p", "modulus"] (defScope s_m_Field_init) := ⟨rfl, rfl, rfl, by decide +kernel, rfl, by decide +kernel, by decide +kernel⟩
abbrev s_m_Field_eq : Stmt := inClass (top 48) 1
abbrev n_m_Field_eq : List Str := ["self", "other"]
theorem sc_m_Field_eq : FnScope n_m_Field_eq ["self", "other"] (defScope s_m_Field_eq) := ⟨rfl, rfl, rfl, by decide +kernel, rfl, by decide +kernel, by decide +kernel⟩
abbrev s_m_Field_is_member : Stmt := inClass (top 48) 2
abbrev n_m_Field_is_member : List Str := ["self", "value"]
theorem sc_m_Field_is_member : FnScope n_m_Field_is_member ["self", "value"] (defScope s_m_Field_is_member) := ⟨rfl, rfl, rfl, by decide +kernel, rfl, by decide +kernel, by decide +kernel⟩
abbrev s_m_Field_integer : Stmt := inClass (top 48) 3
abbrev n_m_Field_integer : List Str := ["self", "k"]
theorem sc_m_Field_integer : FnScope n_m_Field_integer ["self", "k"] (defScope s_m_Field_integer) := ⟨rfl, rfl, rfl, by decide +kernel, rfl, by decide +kernel, by decide +kernel⟩
abbrev s_m_Field_zero : Stmt := inClass (top 48) 4
abbrev n_m_Field_zero : List Str := ["self"]
theorem sc_m_Field_zero : FnScope n_m_Field_zero ["self"] (defScope s_m_Field_zero) := ⟨rfl, rfl, rfl, by decide +kernel, rfl, by decide +kernel, by decide +kernel⟩
abbrev s_m_Field_one : Stmt := inClass (top 48) 5
abbrev n_m_Field_one : List Str := ["self"]
theorem sc_m_Field_one : FnScope n_m_Field_one ["self"] (defScope s_m_Field_one) := ⟨rfl, rfl, rfl, by decide +kernel, rfl, by decide +kernel, by decide +kernel⟩
abbrev s_m_Field_add : Stmt := inClass (top 48) 7
abbrev n_m_Field_add : List Str := ["self", "a", "b"]
theorem sc_m_Field_add : FnScope n_m_Field_add ["self", "a", "b"] (defScope s_m_Field_add) := ⟨rfl, rfl, rfl, by decide +kernel, rfl, by decide +kernel, by decide +kernel⟩
abbrev s_m_Field_negative : Stmt := inClass (top 48) 8
abbrev n_m_Field_negative : List Str := ["self", "a"]
theorem sc_m_Field_negative : FnScope n_m_Field_negative ["self", "a"] (defScope s_m_Field_negative) := ⟨rfl, rfl, rfl, by decide +kernel, rfl, by decide +kernel, by decide +kernel⟩
abbrev s_m_Field_multiply : Stmt := inClass (top 48) 10
abbrev n_m_Field_multiply : List Str := ["self", "a", "b"]
theorem sc_m_Field_multiply : FnScope n_m_Field_multiply ["self", "a", "b"] (defScope s_m_Field_multiply) := ⟨rfl, rfl, rfl, by decide +kernel, rfl, by decide +kernel, by decide +kernel⟩
abbrev s_m_Field_inverse : Stmt := inClass (top 48) 11
abbrev n_m_Field_inverse : List Str := ["self", "a"]
theorem sc_m_Field_inverse : FnScope n_m_Field_inverse ["self", "a"] (defScope s_m_Field_inverse) := ⟨rfl, rfl, rfl, by decide +kernel, rfl, by decide +kernel, by decide +kernel⟩
abbrev s_m_Field_member : Stmt := inClass (top 48) 16
abbrev n_m_Field_member : List Str := ["self", "number", "out", "left", "_"]
theorem sc_m_Field_member : FnScope n_m_Field_member ["self", "number"] (defScope s_m_Field_member) := ⟨rfl, rfl, rfl, by decide +kernel, rfl, by decide +kernel, by decide +kernel⟩
abbrev s_f_law_state : Stmt := top 50
abbrev n_f_law_state : List Str := ["_law_script", "_law_seed", "_law_total", "_law_cell"]
theorem sc_f_law_state : FnScope n_f_law_state ["_law_script"] (defScope s_f_law_state) := ⟨rfl, rfl, rfl, by decide +kernel, rfl, by decide +kernel, by decide +kernel⟩
abbrev s_f_law_take : Stmt := top 51
abbrev n_f_law_take : List Str := ["_law_state_here", "_law_m", "_law_value"]
theorem sc_f_law_take : FnScope n_f_law_take ["_law_state_here", "_law_m"] (defScope s_f_law_take) := ⟨rfl, rfl, rfl, by decide +kernel, rfl, by decide +kernel, by decide +kernel⟩
abbrev s_f_law_field : Stmt := top 52
abbrev n_f_law_field : List Str := ["_law_state_here", "_law_plans", "_law_plan"]
theorem sc_f_law_field : FnScope n_f_law_field ["_law_state_here"] (defScope s_f_law_field) := ⟨rfl, rfl, rfl, by decide +kernel, rfl, by decide +kernel, by decide +kernel⟩
abbrev s_f_law_drawn : Stmt := top 53
abbrev n_f_law_drawn : List Str := ["_law_state_here", "_law_field_here"]
theorem sc_f_law_drawn : FnScope n_f_law_drawn ["_law_state_here", "_law_field_here"] (defScope s_f_law_drawn) := ⟨rfl, rfl, rfl, by decide +kernel, rfl, by decide +kernel, by decide +kernel⟩
abbrev s_f_law_next : Stmt := top 54
abbrev n_f_law_next : List Str := ["_law_field_here", "_law_multiples", "_law_row_here", "_law_total", "_law_start", "_law_i"]
theorem sc_f_law_next : FnScope n_f_law_next ["_law_field_here", "_law_multiples", "_law_row_here"] (defScope s_f_law_next) := ⟨rfl, rfl, rfl, by decide +kernel, rfl, by decide +kernel, by decide +kernel⟩
abbrev s_f_law_row : Stmt := top 55
abbrev n_f_law_row : List Str := ["_law_field_here", "_law_multiples", "_law_first", "_law_count", "_law_out"]
theorem sc_f_law_row : FnScope n_f_law_row ["_law_field_here", "_law_multiples", "_law_first", "_law_count"] (defScope s_f_law_row) := ⟨rfl, rfl, rfl, by decide +kernel, rfl, by decide +kernel, by decide +kernel⟩
abbrev s_f_law_solution : Stmt := top 56
abbrev n_f_law_solution : List Str := ["_law_field_here", "_law_rows", "_law_right", "_law_width", "_law_table", "_law_pivots", "_law_column", "_law_k", "_law_out", "_law_done", "_law_chosen", "_law_head", "_law_back", "_law_x", "_law_factor", "_law_j"]
theorem sc_f_law_solution : FnScope n_f_law_solution ["_law_field_here", "_law_rows", "_law_right", "_law_width"] (defScope s_f_law_solution) := ⟨rfl, rfl, rfl, by decide +kernel, rfl, by decide +kernel, by decide +kernel⟩
abbrev s_f_law_annihilates : Stmt := top 57
abbrev n_f_law_annihilates : List Str := ["_law_field_here", "_law_row_here", "_law_terms", "_law_k", "_law_total", "_law_i"]
theorem sc_f_law_annihilates : FnScope n_f_law_annihilates ["_law_field_here", "_law_row_here", "_law_terms"] (defScope s_f_law_annihilates) := ⟨rfl, rfl, rfl, by decide +kernel, rfl, by decide +kernel, by decide +kernel⟩
abbrev s_f_law : Stmt := top 58
abbrev n_f_law : List Str := ["_law_script", "_law_state_here", "_law_field_here", "_law_size", "_law_multiples", "_law_first", "_law_r", "_law_told", "_law_terms", "_law_f", "_law_g", "_law_many", "_law_table", "_law_k", "_law_unit", "_law_i"]
theorem sc_f_law : FnScope n_f_law ["_law_script"] (defScope s_f_law) := ⟨rfl, rfl, rfl, by decide +kernel, rfl, by decide +kernel, by decide +kernel⟩
def cF (K : PySem.W.Frag) : Addr := He.ga K "Field"
def cP (K : PySem.W.Frag) : Addr := He.ga K "Poly"
def cR (K : PySem.W.Frag) : Addr := He.ga K "Recurrence"
/-- what the text's top has left -/
structure Tx (K : PySem.W.Frag) (mg : Str → Option Value) : Prop where
  d_f_subtract : DefOk K mg "subtract" s_f_subtract ["field", "a", "b"]
  d_f_dot : DefOk K mg "dot" s_f_dot ["field", "a", "b"]
  d_f_cleared : DefOk K mg "cleared" s_f_cleared ["field", "row", "lead", "at"]
  d_f_reduced : DefOk K mg "reduced" s_f_reduced ["field", "rows", "width"]
  d_f_solve : DefOk K mg "solve" s_f_solve ["field", "rows", "width", "right"]
  d_f_is_integer : DefOk K mg "is_integer" s_f_is_integer ["value"]
  d_f_prime_powers : DefOk K mg "prime_powers" s_f_prime_powers ["n"]
  d_f_is_prime : DefOk K mg "is_prime" s_f_is_prime ["n"]
  d_f_inverse_modulo : DefOk K mg "inverse_modulo" s_f_inverse_modulo ["a", "p"]
  d_f_trimmed : DefOk K mg "trimmed" s_f_trimmed ["row", "p"]
  d_f_add_rows : DefOk K mg "add_rows" s_f_add_rows ["a", "b", "p"]
  d_f_subtract_rows : DefOk K mg "subtract_rows" s_f_subtract_rows ["a", "b", "p"]
  d_f_multiply_rows : DefOk K mg "multiply_rows" s_f_multiply_rows ["a", "b", "p"]
  d_f_divide_rows : DefOk K mg "divide_rows" s_f_divide_rows ["a", "b", "p"]
  d_f_common_row : DefOk K mg "common_row" s_f_common_row ["a", "b", "p"]
  d_f_power_row : DefOk K mg "power_row" s_f_power_row ["a", "k", "m", "p"]
  d_f_is_irreducible_row : DefOk K mg "is_irreducible_row" s_f_is_irreducible_row ["m", "p"]
  d_f_is_member_row : DefOk K mg "is_member_row" s_f_is_member_row ["value", "n", "p"]
  d_f_member_of : DefOk K mg "member_of" s_f_member_of ["row", "n"]
  d_f_member_sum : DefOk K mg "member_sum" s_f_member_sum ["a", "b", "p"]
  d_f_member_negative : DefOk K mg "member_negative" s_f_member_negative ["a", "p"]
  d_f_member_product : DefOk K mg "member_product" s_f_member_product ["a", "b", "modulus", "p"]
  d_f_member_inverse : DefOk K mg "member_inverse" s_f_member_inverse ["a", "modulus", "p"]
  d_f_u_trimmed : DefOk K mg "_trimmed" s_f_u_trimmed ["row", "field"]
  d_f_add : DefOk K mg "_add" s_f_add ["a", "b", "field"]
  d_f_negative : DefOk K mg "_negative" s_f_negative ["a", "field"]
  d_f_multiply : DefOk K mg "_multiply" s_f_multiply ["a", "b", "field"]
  d_f_divide : DefOk K mg "_divide" s_f_divide ["a", "b", "field"]
  d_m_Poly_init : InitOk K mg "Poly" (cP K) "Poly.__init__" s_m_Poly_init ["self", "field", "row"]
  d_m_Poly_sub : MethOk K (cP K) "__sub__" "Poly.__sub__" s_m_Poly_sub ["self", "other"]
  d_m_Poly_mul : MethOk K (cP K) "__mul__" "Poly.__mul__" s_m_Poly_mul ["self", "other"]
  d_m_Poly_mod : MethOk K (cP K) "__mod__" "Poly.__mod__" s_m_Poly_mod ["self", "other"]
  d_m_Poly_is_zero : MethOk K (cP K) "is_zero" "Poly.is_zero" s_m_Poly_is_zero ["self"]
  d_f_monomial : DefOk K mg "monomial" s_f_monomial ["field", "a", "k"]
  d_m_Recurrence_init : InitOk K mg "Recurrence" (cR K) "Recurrence.__init__" s_m_Recurrence_init ["self", "field", "multiples"]
  d_m_Recurrence_eq : MethOk K (cR K) "__eq__" "Recurrence.__eq__" s_m_Recurrence_eq ["self", "other"]
  d_m_Recurrence_len : MethOk K (cR K) "__len__" "Recurrence.__len__" s_m_Recurrence_len ["self"]
  d_m_Recurrence_polynomial : MethOk K (cR K) "polynomial" "Recurrence.polynomial" s_m_Recurrence_polynomial ["self"]
  d_m_Recurrence_checked : MethOk K (cR K) "_checked" "Recurrence._checked" s_m_Recurrence_checked ["self", "first"]
  d_m_Recurrence_row : MethOk K (cR K) "_row" "Recurrence._row" s_m_Recurrence_row ["self", "first", "count"]
  d_m_Recurrence_is_satisfied : MethOk K (cR K) "is_satisfied" "Recurrence.is_satisfied" s_m_Recurrence_is_satisfied ["self", "row"]
  d_m_Recurrence_least : MethOk K (cR K) "least" "Recurrence.least" s_m_Recurrence_least ["self", "first"]
  d_f_least_recurrence : DefOk K mg "least_recurrence" s_f_least_recurrence ["field", "terms"]
  d_f_checked_modulus : DefOk K mg "_checked_modulus" s_f_checked_modulus ["p", "modulus"]
  d_m_Field_init : InitOk K mg "Field" (cF K) "Field.__init__" s_m_Field_init ["self", "p", "modulus"]
  d_m_Field_eq : MethOk K (cF K) "__eq__" "Field.__eq__" s_m_Field_eq ["self", "other"]
  d_m_Field_is_member : MethOk K (cF K) "is_member" "Field.is_member" s_m_Field_is_member ["self", "value"]
  d_m_Field_integer : MethOk K (cF K) "integer" "Field.integer" s_m_Field_integer ["self", "k"]
  d_m_Field_zero : MethOk K (cF K) "zero" "Field.zero" s_m_Field_zero ["self"]
  d_m_Field_one : MethOk K (cF K) "one" "Field.one" s_m_Field_one ["self"]
  d_m_Field_add : MethOk K (cF K) "add" "Field.add" s_m_Field_add ["self", "a", "b"]
  d_m_Field_negative : MethOk K (cF K) "negative" "Field.negative" s_m_Field_negative ["self", "a"]
  d_m_Field_multiply : MethOk K (cF K) "multiply" "Field.multiply" s_m_Field_multiply ["self", "a", "b"]
  d_m_Field_inverse : MethOk K (cF K) "inverse" "Field.inverse" s_m_Field_inverse ["self", "a"]
  d_m_Field_member : MethOk K (cF K) "member" "Field.member" s_m_Field_member ["self", "number"]
  d_f_law_state : DefOk K mg "_law_state" s_f_law_state ["_law_script"]
  d_f_law_take : DefOk K mg "_law_take" s_f_law_take ["_law_state_here", "_law_m"]
  d_f_law_field : DefOk K mg "_law_field" s_f_law_field ["_law_state_here"]
  d_f_law_drawn : DefOk K mg "_law_drawn" s_f_law_drawn ["_law_state_here", "_law_field_here"]
  d_f_law_next : DefOk K mg "_law_next" s_f_law_next ["_law_field_here", "_law_multiples", "_law_row_here"]
  d_f_law_row : DefOk K mg "_law_row" s_f_law_row ["_law_field_here", "_law_multiples", "_law_first", "_law_count"]
  d_f_law_solution : DefOk K mg "_law_solution" s_f_law_solution ["_law_field_here", "_law_rows", "_law_right", "_law_width"]
  d_f_law_annihilates : DefOk K mg "_law_annihilates" s_f_law_annihilates ["_law_field_here", "_law_row_here", "_law_terms"]
  d_f_law : DefOk K mg "law" s_f_law ["_law_script"]
  g_Field : mg "Field" = some (.ref (cF K))
  c_Field : Cls K (cF K)
  g_Poly : mg "Poly" = some (.ref (cP K))
  c_Poly : Cls K (cP K)
  g_Recurrence : mg "Recurrence" = some (.ref (cR K))
  c_Recurrence : Cls K (cR K)
  n_Field_modulus : NoAttr K (cF K) "modulus"
  n_Field_p : NoAttr K (cF K) "p"
  n_Field_n : NoAttr K (cF K) "n"
  n_Field_q : NoAttr K (cF K) "q"
  n_Poly_field : NoAttr K (cP K) "field"
  n_Poly_row : NoAttr K (cP K) "row"
  n_Recurrence_field : NoAttr K (cR K) "field"
  n_Recurrence_multiples : NoAttr K (cR K) "multiples"
  z_len : mg "len" = none
  z_range : mg "range" = none
  z_zip : mg "zip" = none
  z_enumerate : mg "enumerate" = none
  z_isinstance : mg "isinstance" = none
  z_tuple : mg "tuple" = none
  z_list : mg "list" = none
  z_max : mg "max" = none
  z_abs : mg "abs" = none
  z_int : mg "int" = none
  z_bool : mg "bool" = none
  x_most : ∃ t, mg "MOST" = some (.int 400 t)
  x_first : PySem.W.selfFirst K (cP K) = true
  x_ne : PySem.W.findIn K (.ref (cF K)) "__ne__" = some (some (.builtin "object.__ne__"))
  x_tyF : ∀ (H : Hp) (a dx : Addr) (fs : List (Str × V)), H a = some (.ins (cF K) dx fs) → TyX K H (.ref a) (.ref (cF K))
  x_tyR : ∀ (H : Hp) (a dx : Addr) (fs : List (Str × V)), H a = some (.ins (cR K) dx fs) → TyX K H (.ref a) (.ref (cR K))
end K35
set_option Elab.async false
set_option linter.all false
set_option maxRecDepth 100000
set_option maxHeartbeats 0
namespace K35
open PySem PySem.Spec PyProof.Rows L2
def d_f_subtract : He.DefD := ⟨("subtract", none), "subtract", "subtract", defArgs s_f_subtract, defBody s_f_subtract, defScope s_f_subtract, [], []⟩
def d_f_dot : He.DefD := ⟨("dot", none), "dot", "dot", defArgs s_f_dot, defBody s_f_dot, defScope s_f_dot, [], []⟩
def d_f_cleared : He.DefD := ⟨("cleared", none), "cleared", "cleared", defArgs s_f_cleared, defBody s_f_cleared, defScope s_f_cleared, [], []⟩
def d_f_reduced : He.DefD := ⟨("reduced", none), "reduced", "reduced", defArgs s_f_reduced, defBody s_f_reduced, defScope s_f_reduced, [], []⟩
def d_f_solve : He.DefD := ⟨("solve", none), "solve", "solve", defArgs s_f_solve, defBody s_f_solve, defScope s_f_solve, [], []⟩
def d_f_is_integer : He.DefD := ⟨("is_integer", none), "is_integer", "is_integer", defArgs s_f_is_integer, defBody s_f_is_integer, defScope s_f_is_integer, [], []⟩
def d_f_prime_powers : He.DefD := ⟨("prime_powers", none), "prime_powers", "prime_powers", defArgs s_f_prime_powers, defBody s_f_prime_powers, defScope s_f_prime_powers, [], []⟩
def d_f_is_prime : He.DefD := ⟨("is_prime", none), "is_prime", "is_prime", defArgs s_f_is_prime, defBody s_f_is_prime, defScope s_f_is_prime, [], []⟩
def d_f_inverse_modulo : He.DefD := ⟨("inverse_modulo", none), "inverse_modulo", "inverse_modulo", defArgs s_f_inverse_modulo, defBody s_f_inverse_modulo, defScope s_f_inverse_modulo, [], []⟩
def d_f_trimmed : He.DefD := ⟨("trimmed", none), "trimmed", "trimmed", defArgs s_f_trimmed, defBody s_f_trimmed, defScope s_f_trimmed, [], []⟩
def d_f_add_rows : He.DefD := ⟨("add_rows", none), "add_rows", "add_rows", defArgs s_f_add_rows, defBody s_f_add_rows, defScope s_f_add_rows, [], []⟩
def d_f_subtract_rows : He.DefD := ⟨("subtract_rows", none), "subtract_rows", "subtract_rows", defArgs s_f_subtract_rows, defBody s_f_subtract_rows, defScope s_f_subtract_rows, [], []⟩
def d_f_multiply_rows : He.DefD := ⟨("multiply_rows", none), "multiply_rows", "multiply_rows", defArgs s_f_multiply_rows, defBody s_f_multiply_rows, defScope s_f_multiply_rows, [], []⟩
def d_f_divide_rows : He.DefD := ⟨("divide_rows", none), "divide_rows", "divide_rows", defArgs s_f_divide_rows, defBody s_f_divide_rows, defScope s_f_divide_rows, [], []⟩
def d_f_common_row : He.DefD := ⟨("common_row", none), "common_row", "common_row", defArgs s_f_common_row, defBody s_f_common_row, defScope s_f_common_row, [], []⟩
def d_f_power_row : He.DefD := ⟨("power_row", none), "power_row", "power_row", defArgs s_f_power_row, defBody s_f_power_row, defScope s_f_power_row, [], []⟩
def d_f_is_irreducible_row : He.DefD := ⟨("is_irreducible_row", none), "is_irreducible_row", "is_irreducible_row", defArgs s_f_is_irreducible_row, defBody s_f_is_irreducible_row, defScope s_f_is_irreducible_row, [], []⟩
def d_f_is_member_row : He.DefD := ⟨("is_member_row", none), "is_member_row", "is_member_row", defArgs s_f_is_member_row, defBody s_f_is_member_row, defScope s_f_is_member_row, [], []⟩
def d_f_member_of : He.DefD := ⟨("member_of", none), "member_of", "member_of", defArgs s_f_member_of, defBody s_f_member_of, defScope s_f_member_of, [], []⟩
def d_f_member_sum : He.DefD := ⟨("member_sum", none), "member_sum", "member_sum", defArgs s_f_member_sum, defBody s_f_member_sum, defScope s_f_member_sum, [], []⟩
def d_f_member_negative : He.DefD := ⟨("member_negative", none), "member_negative", "member_negative", defArgs s_f_member_negative, defBody s_f_member_negative, defScope s_f_member_negative, [], []⟩
def d_f_member_product : He.DefD := ⟨("member_product", none), "member_product", "member_product", defArgs s_f_member_product, defBody s_f_member_product, defScope s_f_member_product, [], []⟩
def d_f_member_inverse : He.DefD := ⟨("member_inverse", none), "member_inverse", "member_inverse", defArgs s_f_member_inverse, defBody s_f_member_inverse, defScope s_f_member_inverse, [], []⟩
def d_f_u_trimmed : He.DefD := ⟨("_trimmed", none), "_trimmed", "_trimmed", defArgs s_f_u_trimmed, defBody s_f_u_trimmed, defScope s_f_u_trimmed, [], []⟩
def d_f_add : He.DefD := ⟨("_add", none), "_add", "_add", defArgs s_f_add, defBody s_f_add, defScope s_f_add, [], []⟩
def d_f_negative : He.DefD := ⟨("_negative", none), "_negative", "_negative", defArgs s_f_negative, defBody s_f_negative, defScope s_f_negative, [], []⟩
def d_f_multiply : He.DefD := ⟨("_multiply", none), "_multiply", "_multiply", defArgs s_f_multiply, defBody s_f_multiply, defScope s_f_multiply, [], []⟩
def d_f_divide : He.DefD := ⟨("_divide", none), "_divide", "_divide", defArgs s_f_divide, defBody s_f_divide, defScope s_f_divide, [], []⟩
def d_m_Poly_init : He.DefD := ⟨("Poly", some "__init__"), "__init__", "Poly.__init__", defArgs s_m_Poly_init, defBody s_m_Poly_init, defScope s_m_Poly_init, [], []⟩
def d_m_Poly_sub : He.DefD := ⟨("Poly", some "__sub__"), "__sub__", "Poly.__sub__", defArgs s_m_Poly_sub, defBody s_m_Poly_sub, defScope s_m_Poly_sub, [], []⟩
def d_m_Poly_mul : He.DefD := ⟨("Poly", some "__mul__"), "__mul__", "Poly.__mul__", defArgs s_m_Poly_mul, defBody s_m_Poly_mul, defScope s_m_Poly_mul, [], []⟩
def d_m_Poly_mod : He.DefD := ⟨("Poly", some "__mod__"), "__mod__", "Poly.__mod__", defArgs s_m_Poly_mod, defBody s_m_Poly_mod, defScope s_m_Poly_mod, [], []⟩
def d_m_Poly_is_zero : He.DefD := ⟨("Poly", some "is_zero"), "is_zero", "Poly.is_zero", defArgs s_m_Poly_is_zero, defBody s_m_Poly_is_zero, defScope s_m_Poly_is_zero, [], []⟩
def d_f_monomial : He.DefD := ⟨("monomial", none), "monomial", "monomial", defArgs s_f_monomial, defBody s_f_monomial, defScope s_f_monomial, [], []⟩
def d_m_Recurrence_init : He.DefD := ⟨("Recurrence", some "__init__"), "__init__", "Recurrence.__init__", defArgs s_m_Recurrence_init, defBody s_m_Recurrence_init, defScope s_m_Recurrence_init, [], []⟩
def d_m_Recurrence_eq : He.DefD := ⟨("Recurrence", some "__eq__"), "__eq__", "Recurrence.__eq__", defArgs s_m_Recurrence_eq, defBody s_m_Recurrence_eq, defScope s_m_Recurrence_eq, [], []⟩
def d_m_Recurrence_len : He.DefD := ⟨("Recurrence", some "__len__"), "__len__", "Recurrence.__len__", defArgs s_m_Recurrence_len, defBody s_m_Recurrence_len, defScope s_m_Recurrence_len, [], []⟩
def d_m_Recurrence_polynomial : He.DefD := ⟨("Recurrence", some "polynomial"), "polynomial", "Recurrence.polynomial", defArgs s_m_Recurrence_polynomial, defBody s_m_Recurrence_polynomial, defScope s_m_Recurrence_polynomial, [], []⟩
def d_m_Recurrence_checked : He.DefD := ⟨("Recurrence", some "_checked"), "_checked", "Recurrence._checked", defArgs s_m_Recurrence_checked, defBody s_m_Recurrence_checked, defScope s_m_Recurrence_checked, [], []⟩
def d_m_Recurrence_row : He.DefD := ⟨("Recurrence", some "_row"), "_row", "Recurrence._row", defArgs s_m_Recurrence_row, defBody s_m_Recurrence_row, defScope s_m_Recurrence_row, [], []⟩
def d_m_Recurrence_is_satisfied : He.DefD := ⟨("Recurrence", some "is_satisfied"), "is_satisfied", "Recurrence.is_satisfied", defArgs s_m_Recurrence_is_satisfied, defBody s_m_Recurrence_is_satisfied, defScope s_m_Recurrence_is_satisfied, [], []⟩
def d_m_Recurrence_least : He.DefD := ⟨("Recurrence", some "least"), "least", "Recurrence.least", defArgs s_m_Recurrence_least, defBody s_m_Recurrence_least, defScope s_m_Recurrence_least, [], []⟩
def d_f_least_recurrence : He.DefD := ⟨("least_recurrence", none), "least_recurrence", "least_recurrence", defArgs s_f_least_recurrence, defBody s_f_least_recurrence, defScope s_f_least_recurrence, [], []⟩
def d_f_checked_modulus : He.DefD := ⟨("_checked_modulus", none), "_checked_modulus", "_checked_modulus", defArgs s_f_checked_modulus, defBody s_f_checked_modulus, defScope s_f_checked_modulus, [], []⟩
def d_m_Field_init : He.DefD := ⟨("Field", some "__init__"), "__init__", "Field.__init__", defArgs s_m_Field_init, defBody s_m_Field_init, defScope s_m_Field_init, [.adr (He.dflAt ("Field", some "__init__") 0)], []⟩
def d_m_Field_eq : He.DefD := ⟨("Field", some "__eq__"), "__eq__", "Field.__eq__", defArgs s_m_Field_eq, defBody s_m_Field_eq, defScope s_m_Field_eq, [], []⟩
def d_m_Field_is_member : He.DefD := ⟨("Field", some "is_member"), "is_member", "Field.is_member", defArgs s_m_Field_is_member, defBody s_m_Field_is_member, defScope s_m_Field_is_member, [], []⟩
def d_m_Field_integer : He.DefD := ⟨("Field", some "integer"), "integer", "Field.integer", defArgs s_m_Field_integer, defBody s_m_Field_integer, defScope s_m_Field_integer, [], []⟩
def d_m_Field_zero : He.DefD := ⟨("Field", some "zero"), "zero", "Field.zero", defArgs s_m_Field_zero, defBody s_m_Field_zero, defScope s_m_Field_zero, [], []⟩
def d_m_Field_one : He.DefD := ⟨("Field", some "one"), "one", "Field.one", defArgs s_m_Field_one, defBody s_m_Field_one, defScope s_m_Field_one, [], []⟩
def d_m_Field_add : He.DefD := ⟨("Field", some "add"), "add", "Field.add", defArgs s_m_Field_add, defBody s_m_Field_add, defScope s_m_Field_add, [], []⟩
def d_m_Field_negative : He.DefD := ⟨("Field", some "negative"), "negative", "Field.negative", defArgs s_m_Field_negative, defBody s_m_Field_negative, defScope s_m_Field_negative, [], []⟩
def d_m_Field_multiply : He.DefD := ⟨("Field", some "multiply"), "multiply", "Field.multiply", defArgs s_m_Field_multiply, defBody s_m_Field_multiply, defScope s_m_Field_multiply, [], []⟩
def d_m_Field_inverse : He.DefD := ⟨("Field", some "inverse"), "inverse", "Field.inverse", defArgs s_m_Field_inverse, defBody s_m_Field_inverse, defScope s_m_Field_inverse, [], []⟩
def d_m_Field_member : He.DefD := ⟨("Field", some "member"), "member", "Field.member", defArgs s_m_Field_member, defBody s_m_Field_member, defScope s_m_Field_member, [], []⟩
def d_f_law_state : He.DefD := ⟨("_law_state", none), "_law_state", "_law_state", defArgs s_f_law_state, defBody s_f_law_state, defScope s_f_law_state, [], []⟩
def d_f_law_take : He.DefD := ⟨("_law_take", none), "_law_take", "_law_take", defArgs s_f_law_take, defBody s_f_law_take, defScope s_f_law_take, [], []⟩
def d_f_law_field : He.DefD := ⟨("_law_field", none), "_law_field", "_law_field", defArgs s_f_law_field, defBody s_f_law_field, defScope s_f_law_field, [], []⟩
def d_f_law_drawn : He.DefD := ⟨("_law_drawn", none), "_law_drawn", "_law_drawn", defArgs s_f_law_drawn, defBody s_f_law_drawn, defScope s_f_law_drawn, [], []⟩
def d_f_law_next : He.DefD := ⟨("_law_next", none), "_law_next", "_law_next", defArgs s_f_law_next, defBody s_f_law_next, defScope s_f_law_next, [], []⟩
def d_f_law_row : He.DefD := ⟨("_law_row", none), "_law_row", "_law_row", defArgs s_f_law_row, defBody s_f_law_row, defScope s_f_law_row, [], []⟩
def d_f_law_solution : He.DefD := ⟨("_law_solution", none), "_law_solution", "_law_solution", defArgs s_f_law_solution, defBody s_f_law_solution, defScope s_f_law_solution, [], []⟩
def d_f_law_annihilates : He.DefD := ⟨("_law_annihilates", none), "_law_annihilates", "_law_annihilates", defArgs s_f_law_annihilates, defBody s_f_law_annihilates, defScope s_f_law_annihilates, [], []⟩
def d_f_law : He.DefD := ⟨("law", none), "law", "law", defArgs s_f_law, defBody s_f_law, defScope s_f_law, [], []⟩
def fn : List He.DefD := [d_f_subtract, d_f_dot, d_f_cleared, d_f_reduced, d_f_solve, d_f_is_integer, d_f_prime_powers, d_f_is_prime, d_f_inverse_modulo, d_f_trimmed, d_f_add_rows, d_f_subtract_rows, d_f_multiply_rows, d_f_divide_rows, d_f_common_row, d_f_power_row, d_f_is_irreducible_row, d_f_is_member_row, d_f_member_of, d_f_member_sum, d_f_member_negative, d_f_member_product, d_f_member_inverse, d_f_u_trimmed, d_f_add, d_f_negative, d_f_multiply, d_f_divide, d_m_Poly_init, d_m_Poly_sub, d_m_Poly_mul, d_m_Poly_mod, d_m_Poly_is_zero, d_f_monomial, d_m_Recurrence_init, d_m_Recurrence_eq, d_m_Recurrence_len, d_m_Recurrence_polynomial, d_m_Recurrence_checked, d_m_Recurrence_row, d_m_Recurrence_is_satisfied, d_m_Recurrence_least, d_f_least_recurrence, d_f_checked_modulus, d_m_Field_init, d_m_Field_eq, d_m_Field_is_member, d_m_Field_integer, d_m_Field_zero, d_m_Field_one, d_m_Field_add, d_m_Field_negative, d_m_Field_multiply, d_m_Field_inverse, d_m_Field_member, d_f_law_state, d_f_law_take, d_f_law_field, d_f_law_drawn, d_f_law_next, d_f_law_row, d_f_law_solution, d_f_law_annihilates, d_f_law]
def fa1 : List He.Fa := [.glo "subtract", .glo "dot", .glo "cleared", .glo "reduced", .glo "solve", .glo "is_integer", .glo "prime_powers", .glo "is_prime", .glo "inverse_modulo", .glo "trimmed", .glo "add_rows", .glo "subtract_rows", .glo "multiply_rows", .glo "divide_rows", .glo "common_row", .glo "power_row", .glo "is_irreducible_row", .glo "is_member_row", .glo "member_of", .glo "member_sum", .glo "member_negative", .glo "member_product", .glo "member_inverse", .glo "_trimmed", .glo "_add"]
def fa2 : List He.Fa := [.glo "_negative", .glo "_multiply", .glo "_divide", .glo "monomial", .glo "least_recurrence", .glo "_checked_modulus", .glo "_law_state", .glo "_law_take", .glo "_law_field", .glo "_law_drawn", .glo "_law_next", .glo "_law_row", .glo "_law_solution", .glo "_law_annihilates", .glo "law", .glo "Poly", .cls "Poly", .mkr "Poly", .glo "Recurrence", .cls "Recurrence", .mkr "Recurrence", .glo "Field", .cls "Field", .mkr "Field", .noat "Field" "modulus"]
def fa3 : List He.Fa := [.noat "Field" "p", .noat "Field" "n", .noat "Field" "q", .noat "Poly" "field", .noat "Poly" "row", .noat "Recurrence" "field", .noat "Recurrence" "multiples", .meth "Poly" "__init__", .meth "Poly" "__sub__", .meth "Poly" "__mul__", .meth "Poly" "__mod__", .meth "Poly" "is_zero", .meth "Recurrence" "__init__", .meth "Recurrence" "__eq__", .meth "Recurrence" "__len__", .meth "Recurrence" "polynomial", .meth "Recurrence" "_checked", .meth "Recurrence" "_row", .meth "Recurrence" "is_satisfied", .meth "Recurrence" "least", .meth "Field" "__init__", .meth "Field" "__eq__", .meth "Field" "is_member", .meth "Field" "integer", .meth "Field" "zero"]
def fa4 : List He.Fa := [.meth "Field" "one", .meth "Field" "add", .meth "Field" "negative", .meth "Field" "multiply", .meth "Field" "inverse", .meth "Field" "member", .free "len", .free "range", .free "zip", .free "enumerate", .free "isinstance", .free "tuple", .free "list", .free "max", .free "abs", .free "int", .free "bool", .int "MOST" 400]
def fa : List He.Fa := fa1 ++ (fa2 ++ (fa3 ++ (fa4)))
def nm1 : List PySem.Str := ["_wall", "Fault", "ZeroDivisor", "Malformed", "Refused", "subtract", "dot", "cleared", "reduced", "solve", "is_integer", "prime_powers"]
def nm2 : List PySem.Str := ["is_prime", "inverse_modulo", "trimmed", "add_rows", "subtract_rows", "multiply_rows", "divide_rows", "common_row", "power_row", "is_irreducible_row", "is_member_row", "member_of"]
def nm3 : List PySem.Str := ["member_sum", "member_negative", "member_product", "member_inverse", "member_text", "_trimmed", "_add", "_negative", "_multiply", "_divide", "Poly", "monomial"]
def nm4 : List PySem.Str := ["variable", "Recurrence", "least_recurrence", "MOST", "_checked_modulus", "Field", "_law_state", "_law_take", "_law_field", "_law_drawn", "_law_next", "_law_row"]
def nm5 : List PySem.Str := ["_law_solution", "_law_annihilates"]
def nms : List PySem.Str := nm1 ++ (nm2 ++ (nm3 ++ (nm4 ++ (nm5))))
/-! ### own facts beside -/
def isB (K : PySem.W.Frag) (C : Addr) : Bool := He.eqO (PySem.W.findIn K (.ref C) "__class__") (some (some (.builtin "object.__class__"))) && (decide (PySem.W.specialIn K (.builtin "object.__class__") "__get__" = some (some (.builtin "getset_descriptor.__get__"))) && (decide (PySem.W.takesIn K (.builtin "object.__class__") = some true) && decide (PySem.W.mroIn K C (.type "object") = some true)))
def exB (K : PySem.W.Frag) : Bool := PySem.W.selfFirst K (He.ga K "Field") && (PySem.W.selfFirst K (He.ga K "Poly") && (PySem.W.selfFirst K (He.ga K "Recurrence") && (isB K (He.ga K "Field") && (isB K (He.ga K "Recurrence") && He.eqO (PySem.W.findIn K (.ref (He.ga K "Field")) "__ne__") (some (some (.builtin "object.__ne__")))))))
def obX (n : Nat) (g : Addr → Option Obj) : He.AlD × Bool := (He.obsDG n fa fn g, exB (He.frG g (He.asD g n)))
def hkX (n : Nat) : PySem.W.Hook where
  α := He.AlD × Bool
  obs := fun s => obX n s.heap.get?
  val := fun _ => (He.valD fn, true)
  says := fun _ h => ∃ K : PySem.W.Frag, K.In h ∧ He.SaysD fa fn K ∧ exB K = true
  of := fun _ _ e => ⟨_, He.frG_in, congrArg Prod.fst e, congrArg Prod.snd e⟩
  keeps := fun _ _ _ ⟨K, hK, c⟩ k => ⟨K, PySem.W.Frag.In.keeps hK k, c⟩
abbrev R : PySem.W.OpenRow := PySem.W.OpenLaw.row PySem.Challenge.rw_fieldmaps_k35_whole_least_recurrence_of
def ob (s : PySem.W.SharedT) : He.AlD × Bool := obX 4 (HandSHeadRun.getT s)
theorem ob_eq (s : PySem.W.SharedT) : ob s = (hkX 4).obs s.abs := by
  have e : HandSHeadRun.getT s = s.abs.heap.get? := funext (HandSHeadRun.getT_eq s)
  show obX 4 (HandSHeadRun.getT s) = obX 4 s.abs.heap.get?
  rw [e]
theorem run (w : World) : HandSHeadRun.RunEq R (PySem.W.view R.prog [58]) (hkX 4) ob 6000 nms w := by
  intro os
  kernel_rfl
end K35
set_option Elab.async false
set_option linter.all false
set_option maxRecDepth 100000
set_option maxHeartbeats 4000000
/-! The mirrors: what each def of the text computes on plain lists. -/
namespace K35
/-! ### rows of ints modulo p -/
def trimZ (l : List Int) : List Int := (l.reverse.dropWhile fun x => x == 0).reverse
def mTrim (row : List Int) (p : Int) : List Int := trimZ (row.map fun x => x % p)
def okP (p : Int) : Bool := decide (0 < p) && decide (p ≤ 400)
def okL (p : Int) (l : List Int) : Bool := decide (l.length ≤ 100) && l.all fun x => decide (0 ≤ x) && decide (x < p)
def padZ (l : List Int) (n : Nat) : List Int := l ++ List.replicate (n - l.length) 0
def mAdd (a b : List Int) (p : Int) : List Int := mTrim (List.zipWith (fun x y => x + y) (padZ a (max a.length b.length)) (padZ b (max a.length b.length))) p
def mSub (a b : List Int) (p : Int) : List Int := mAdd a (b.map fun x => -x) p
/-- out[i + k] = op out[i + k] x b[k], k below m -/
def mulIn {A : Type} (op : A → A → A → A) (z : A) (x : A) (i : Nat) (b : List A) (m : Nat) (o : List A) : List A := (List.range m).foldl (fun o k => o.set (i + k) (op (o.getD (i + k) z) x (b.getD k z))) o
def mulOut {A : Type} (op : A → A → A → A) (z : A) (a b : List A) (n : Nat) : List A := (List.range n).foldl (fun o i => mulIn op z (a.getD i z) i b b.length o) (List.replicate (a.length + b.length) z)
def iMA (o x y : Int) : Int := o + x * y
def mMul (a b : List Int) (p : Int) : Option (List Int) := if okP p && (okL p a && okL p b) then some (mTrim (mulOut iMA 0 a b a.length) p) else none
def invL : Nat → Int → Int → Int → Int → Option (Int × Int)
  | k, old, new, u, v => if new = 0 then some (old, u) else match k with
    | 0 => none
    | k + 1 => invL k new (old - old / new * new) v (u - old / new * v)
def mInvM (a p : Int) : Option Int := if okP p then (match invL 64 p (a % p) 0 1 with
  | some (old, u) => if old = 1 then some (u % p) else none
  | none => none) else none
/-- r[k + i] = op r[k + i] factor b[i], i below m -/
def divIn {A : Type} (op : A → A → A → A) (z : A) (factor : A) (b : List A) (k m : Nat) (r : List A) : List A := (List.range m).foldl (fun r i => r.set (k + i) (op (r.getD (k + i) z) factor (b.getD i z))) r
def divStep {A : Type} (op : A → A → A → A) (fac : A → A) (z : A) (b : List A) (k : Nat) (s : List A × List A) : List A × List A :=
  (s.1.set k (fac (s.2.getD (k + b.length - 1) z)), divIn op z (fac (s.2.getD (k + b.length - 1) z)) b k b.length s.2)
def divOut {A : Type} (op : A → A → A → A) (fac : A → A) (z : A) (a b : List A) (n t : Nat) : List A × List A := (List.range t).foldl (fun s i => divStep op fac z b (n - 1 - i) s) (List.replicate n z, a)
def iDS (p : Int) (r f y : Int) : Int := (r - f * y) % p
def iFac (last p : Int) (r : Int) : Int := r * last % p
def mDiv (a b : List Int) (p : Int) : Option (List Int × List Int) :=
  if okP p && (okL p a && (okL p b && !b.isEmpty)) then (match mInvM (b.getD (b.length - 1) 0) p with
    | some last => let s := divOut (iDS p) (iFac last p) 0 a b (a.length + 1 - b.length) (a.length + 1 - b.length)
      some (mTrim s.1 p, mTrim s.2 p)
    | none => none) else none
def mCommon (p : Int) : Nat → List Int → List Int → Option (List Int)
  | k, a, b => if b.isEmpty then (if a.isEmpty then some [] else match mInvM (a.getD (a.length - 1) 0) p with
      | some v => mMul a [v] p
      | none => none) else match k with
    | 0 => none
    | k + 1 => match mDiv a b p with
      | some s => mCommon p k b s.2
      | none => none
def mRem (a m : List Int) (p : Int) : Option (List Int) := (mDiv a m p).map fun s => s.2
def mMulRem (a b m : List Int) (p : Int) : Option (List Int) := (mMul a b p).bind fun c => mRem c m p
def mPowL (m : List Int) (p : Int) : Nat → Int → List Int → List Int → Option (List Int)
  | n, k, out, bs => if k ≤ 0 then some out else match n with
    | 0 => none
    | n + 1 => match (if k % 2 = 1 then mMulRem out bs m p else some out) with
      | some out' => (match mMulRem bs bs m p with
        | some bs' => mPowL m p n (k / 2) out' bs'
        | none => none)
      | none => none
def mPow (a : List Int) (k : Int) (m : List Int) (p : Int) : Option (List Int) := match mRem [1] m p with
  | some out => (match mRem a m p with
    | some bs => mPowL m p 64 k out bs
    | none => none)
  | none => none
def mIrrL (m : List Int) (p : Int) : Nat → List Int → Option Bool
  | 0, _ => some true
  | k + 1, pw => match mPow pw p m p with
    | some pw' => (match mCommon p 64 m (mSub pw' [0, 1] p) with
      | some g => if g.length = 1 then mIrrL m p k pw' else some false
      | none => none)
    | none => none
def mIrr (m : List Int) (p : Int) : Option Bool := if m.length < 2 then some false else match mRem [0, 1] m p with
  | some pw => mIrrL m p ((m.length - 1) / 2) pw
  | none => none
/-! ### members -/
def memOf (row : List Int) (n : Nat) : List Int := row ++ List.replicate (n - row.length) 0
def memSum (a b : List Int) (p : Int) : List Int := List.zipWith (fun x y => (x + y) % p) a b
def memNeg (a : List Int) (p : Int) : List Int := a.map fun x => -x % p
def memMul (a b m : List Int) (p : Int) : Option (List Int) := match mMul (mTrim a p) (mTrim b p) p with
  | some c => (mRem c m p).map fun r => memOf r (m.length - 1)
  | none => none
def invLoop (p : Int) : Nat → List Int → List Int → List Int → List Int → Option (List Int × List Int)
  | n, first, second, u, v => if second.length ≤ 1 then some (second, v) else match n with
    | 0 => none
    | n + 1 => match mDiv first second p with
      | some s => (match mMul s.1 v p with
        | some c => invLoop p n second s.2 v (mSub u c p)
        | none => none)
      | none => none
def memInv (a m : List Int) (p : Int) : Option (List Int) := if (mTrim a p).isEmpty then none else match invLoop p 64 m (mTrim a p) [] [1] with
  | some (second, v) => (match second with
    | x :: _ => (match mInvM x p with
      | some y => (mMul v [y] p).map fun r => memOf r (m.length - 1)
      | none => none)
    | [] => none)
  | none => none
/-! ### the six fields -/
structure Fx where
  p : Int
  m : List Int
  n : Nat
  q : Nat
  ta : List Nat
  tm : List Nat
  tn : List Nat
  ti : List Nat
def fx0 : Fx := ⟨2, [0, 1], 1, 2, [0, 1, 1, 0], [0, 0, 0, 1], [0, 1], [0, 1]⟩
def fx1 : Fx := ⟨3, [0, 1], 1, 3, [0, 1, 2, 1, 2, 0, 2, 0, 1], [0, 0, 0, 0, 1, 2, 0, 2, 1], [0, 2, 1], [0, 1, 2]⟩
def fx2 : Fx := ⟨5, [0, 1], 1, 5, [0, 1, 2, 3, 4, 1, 2, 3, 4, 0, 2, 3, 4, 0, 1, 3, 4, 0, 1, 2, 4, 0, 1, 2, 3], [0, 0, 0, 0, 0, 0, 1, 2, 3, 4, 0, 2, 4, 1, 3, 0, 3, 1, 4, 2, 0, 4, 3, 2, 1], [0, 4, 3, 2, 1], [0, 1, 3, 2, 4]⟩
def fx3 : Fx := ⟨2, [1, 1, 1], 2, 4, [0, 1, 2, 3, 1, 0, 3, 2, 2, 3, 0, 1, 3, 2, 1, 0], [0, 0, 0, 0, 0, 1, 2, 3, 0, 2, 3, 1, 0, 3, 1, 2], [0, 1, 2, 3], [0, 1, 3, 2]⟩
def fx4 : Fx := ⟨3, [1, 0, 1], 2, 9, [0, 1, 2, 3, 4, 5, 6, 7, 8, 1, 2, 0, 4, 5, 3, 7, 8, 6, 2, 0, 1, 5, 3, 4, 8, 6, 7, 3, 4, 5, 6, 7, 8, 0, 1, 2, 4, 5, 3, 7, 8, 6, 1, 2, 0, 5, 3, 4, 8, 6, 7, 2, 0, 1, 6, 7, 8, 0, 1, 2, 3, 4, 5, 7, 8, 6, 1, 2, 0, 4, 5, 3, 8, 6, 7, 2, 0, 1, 5, 3, 4], [0, 0, 0, 0, 0, 0, 0, 0, 0, 0, 1, 2, 3, 4, 5, 6, 7, 8, 0, 2, 1, 6, 8, 7, 3, 5, 4, 0, 3, 6, 2, 5, 8, 1, 4, 7, 0, 4, 8, 5, 6, 1, 7, 2, 3, 0, 5, 7, 8, 1, 3, 4, 6, 2, 0, 6, 3, 1, 7, 4, 2, 8, 5, 0, 7, 5, 4, 2, 6, 8, 3, 1, 0, 8, 4, 7, 3, 2, 5, 1, 6], [0, 2, 1, 6, 8, 7, 3, 5, 4], [0, 1, 2, 6, 5, 4, 3, 8, 7]⟩
def fx5 : Fx := ⟨2, [1, 1, 0, 1], 3, 8, [0, 1, 2, 3, 4, 5, 6, 7, 1, 0, 3, 2, 5, 4, 7, 6, 2, 3, 0, 1, 6, 7, 4, 5, 3, 2, 1, 0, 7, 6, 5, 4, 4, 5, 6, 7, 0, 1, 2, 3, 5, 4, 7, 6, 1, 0, 3, 2, 6, 7, 4, 5, 2, 3, 0, 1, 7, 6, 5, 4, 3, 2, 1, 0], [0, 0, 0, 0, 0, 0, 0, 0, 0, 1, 2, 3, 4, 5, 6, 7, 0, 2, 4, 6, 3, 1, 7, 5, 0, 3, 6, 5, 7, 4, 1, 2, 0, 4, 3, 7, 6, 2, 5, 1, 0, 5, 1, 4, 2, 7, 3, 6, 0, 6, 7, 1, 5, 3, 2, 4, 0, 7, 5, 2, 1, 6, 4, 3], [0, 1, 2, 3, 4, 5, 6, 7], [0, 1, 5, 6, 7, 2, 3, 4]⟩
def fx : Fin 6 → Fx
  | 0 => fx0
  | 1 => fx1
  | 2 => fx2
  | 3 => fx3
  | 4 => fx4
  | 5 => fx5
def qs (i : Fin 6) : Nat := (fx i).q
theorem q_pos (i : Fin 6) : 1 < qs i := by revert i; decide
abbrev El (i : Fin 6) : Type := Fin (qs i)
def digits (p : Int) : Nat → Nat → List Int
  | 0, _ => []
  | n + 1, k => ((k : Int) % p) :: digits p n (k / p.toNat)
def dec {i : Fin 6} (a : El i) : List Int := digits (fx i).p (fx i).n a.val
def elt (i : Fin 6) (k : Nat) : El i := ⟨k % qs i, Nat.mod_lt _ (Nat.lt_trans Nat.zero_lt_one (q_pos i))⟩
class Fld (F : Type) where
  zero : F
  one : F
  add : F → F → F
  mul : F → F → F
  neg : F → F
  inv : F → F
  deq : DecidableEq F
  add_assoc : ∀ a b c, add (add a b) c = add a (add b c)
  add_comm : ∀ a b, add a b = add b a
  zero_add : ∀ a, add zero a = a
  neg_add : ∀ a, add (neg a) a = zero
  mul_assoc : ∀ a b c, mul (mul a b) c = mul a (mul b c)
  mul_comm : ∀ a b, mul a b = mul b a
  one_mul : ∀ a, mul one a = a
  inv_mul : ∀ a, a ≠ zero → mul (inv a) a = one
  mul_add : ∀ a b c, mul a (add b c) = add (mul a b) (mul a c)
  one_ne : one ≠ zero
def eAdd (i : Fin 6) (a b : El i) : El i := elt i ((fx i).ta.getD (a.val * qs i + b.val) 0)
def eMul (i : Fin 6) (a b : El i) : El i := elt i ((fx i).tm.getD (a.val * qs i + b.val) 0)
def eNeg (i : Fin 6) (a : El i) : El i := elt i ((fx i).tn.getD a.val 0)
def eInv (i : Fin 6) (a : El i) : El i := elt i ((fx i).ti.getD a.val 0)

end K35
set_option Elab.async false
set_option linter.all false
set_option maxRecDepth 100000
set_option maxHeartbeats 4000000
namespace K35
def z0 (i : Fin 6) : El i := elt i 0
def o1 (i : Fin 6) : El i := elt i 1
theorem t_add_assoc : ∀ (i : Fin 6) (a b c : Fin (qs i)), eAdd i (eAdd i a b) c = eAdd i a (eAdd i b c) := by decide +kernel
theorem t_add_comm : ∀ (i : Fin 6) (a b : Fin (qs i)), eAdd i a b = eAdd i b a := by decide +kernel
theorem t_zero_add : ∀ (i : Fin 6) (a : Fin (qs i)), eAdd i (z0 i) a = a := by decide +kernel
theorem t_neg_add : ∀ (i : Fin 6) (a : Fin (qs i)), eAdd i (eNeg i a) a = z0 i := by decide +kernel
theorem t_mul_assoc : ∀ (i : Fin 6) (a b c : Fin (qs i)), eMul i (eMul i a b) c = eMul i a (eMul i b c) := by decide +kernel
theorem t_mul_comm : ∀ (i : Fin 6) (a b : Fin (qs i)), eMul i a b = eMul i b a := by decide +kernel
theorem t_one_mul : ∀ (i : Fin 6) (a : Fin (qs i)), eMul i (o1 i) a = a := by decide +kernel
theorem t_inv_mul : ∀ (i : Fin 6) (a : Fin (qs i)), a ≠ z0 i → eMul i (eInv i a) a = o1 i := by decide +kernel
theorem t_mul_add : ∀ (i : Fin 6) (a b c : Fin (qs i)), eMul i a (eAdd i b c) = eAdd i (eMul i a b) (eMul i a c) := by decide +kernel
theorem t_one_ne : ∀ (i : Fin 6), o1 i ≠ z0 i := by decide +kernel
instance fldEl (i : Fin 6) : Fld (El i) where
  zero := z0 i
  one := o1 i
  add := eAdd i
  mul := eMul i
  neg := eNeg i
  inv := eInv i
  deq := inferInstance
  add_assoc := t_add_assoc i
  add_comm := t_add_comm i
  zero_add := t_zero_add i
  neg_add := t_neg_add i
  mul_assoc := t_mul_assoc i
  mul_comm := t_mul_comm i
  one_mul := t_one_mul i
  inv_mul := t_inv_mul i
  mul_add := t_mul_add i
  one_ne := t_one_ne i
/-! ### the members' tuples do as the tables say -/
theorem r_sum : ∀ (i : Fin 6) (a b : Fin (qs i)), memSum (dec (i := i) a) (dec (i := i) b) (fx i).p = dec (eAdd i a b) := by decide +kernel
theorem r_neg : ∀ (i : Fin 6) (a : Fin (qs i)), memNeg (dec (i := i) a) (fx i).p = dec (eNeg i a) := by decide +kernel
theorem r_mul : ∀ (i : Fin 6) (a b : Fin (qs i)), memMul (dec (i := i) a) (dec (i := i) b) (fx i).m (fx i).p = some (dec (eMul i a b)) := by decide +kernel
theorem r_inv : ∀ (i : Fin 6) (a : Fin (qs i)), a ≠ z0 i → memInv (dec (i := i) a) (fx i).m (fx i).p = some (dec (eInv i a)) := by decide +kernel
theorem r_inj : ∀ (i : Fin 6) (a b : Fin (qs i)), dec (i := i) a = dec (i := i) b → a = b := by decide +kernel
theorem r_len : ∀ (i : Fin 6) (a : Fin (qs i)), (dec (i := i) a).length = (fx i).n := by decide +kernel
theorem r_in : ∀ (i : Fin 6) (a : Fin (qs i)), ((dec (i := i) a).all fun x => decide (0 ≤ x) && decide (x < (fx i).p)) = true := by decide +kernel
theorem r_zero : ∀ (i : Fin 6), memOf [0 % (fx i).p] (fx i).n = dec (z0 i) := by decide +kernel
theorem r_zero0 : ∀ (i : Fin 6), memOf [] (fx i).n = dec (z0 i) := by decide +kernel
theorem r_one : ∀ (i : Fin 6), memOf [1 % (fx i).p] (fx i).n = dec (o1 i) := by decide +kernel
theorem r_irr : ∀ (i : Fin 6), mIrr (fx i).m (fx i).p = some true := by decide +kernel
theorem r_bnd : ∀ (i : Fin 6), (fx i).p ∈ [2, 3, 5] ∧ 1 ≤ (fx i).n ∧ (fx i).n ≤ 3 ∧ (fx i).m.length = (fx i).n + 1 ∧ qs i ≤ 9 ∧ okL (fx i).p (fx i).m = true ∧ (fx i).m.getD (fx i).n 0 = 1 := by decide +kernel
theorem r_q : ∀ (i : Fin 6), (fx i).p ^ (fx i).n = (qs i : Int) := by decide +kernel
end K35
set_option Elab.async false
set_option linter.all false
set_option maxRecDepth 100000
set_option maxHeartbeats 4000000
/-! The mirrors over a field: linear equations, polynomials, recurrences, the law's own defs. -/
namespace K35
open Fld
section
variable {F : Type} [Fld F]
instance fdec : DecidableEq F := Fld.deq
def fdot (a b : List F) : F := (List.zip a b).foldl (fun t x => add t (mul x.1 x.2)) zero
def fclear (row lead : List F) (at_ : Nat) : List F := List.zipWith (fun x y => add x (neg (mul (row.getD at_ zero) y))) row lead
structure Red (F : Type) where
  rest : List (List F)
  done : List (List F)
  piv : List Nat
def pick (rest : List (List F)) (at_ : Nat) : List Nat := (List.range rest.length).filter fun k => !decide ((rest.getD k []).getD at_ zero = zero)
def lead (row : List F) (at_ : Nat) : List F := row.map fun x => mul (inv (row.getD at_ zero)) x
def redStep (s : Red F) (at_ : Nat) : Red F := match pick s.rest at_ with
  | [] => s
  | k :: _ => ⟨(s.rest.take k ++ s.rest.drop (k + 1)).map fun row => fclear row (lead (s.rest.getD k []) at_) at_, (s.done.map fun row => fclear row (lead (s.rest.getD k []) at_) at_) ++ [lead (s.rest.getD k []) at_], s.piv ++ [at_]⟩
def fred (rows : List (List F)) (n : Nat) : Red F := (List.range n).foldl redStep ⟨rows, [], []⟩
def fvec (done : List (List F)) (piv : List Nat) (width : Nat) : List F := (done.zip piv).foldl (fun v x => v.set x.2 (x.1.getD width zero)) (List.replicate width zero)
def flines (rows : List (List F)) (right : List F) : List (List F) := List.zipWith (fun r b => r ++ [b]) rows right
def fsolve (rows : List (List F)) (width : Nat) (right : List F) : Option (List F) :=
  if width ∈ (fred (flines rows right) (width + 1)).piv then none else some (fvec (fred (flines rows right) (width + 1)).done (fred (flines rows right) (width + 1)).piv width)
/-! polynomials -/
def ftrim (l : List F) : List F := (l.reverse.dropWhile fun x => decide (x = zero)).reverse
def fpad (l : List F) (n : Nat) : List F := l ++ List.replicate (n - l.length) zero
def faddl (a b : List F) : List F := List.zipWith add (fpad a b.length) (fpad b a.length)
def fMA (o x y : F) : F := add o (mul x y)
def fmul (a b : List F) : List F := mulOut fMA zero a b a.length
def fDS (r f y : F) : F := add r (neg (mul f y))
def fdiv (a b : List F) : List F × List F := divOut fDS (fun x => mul x (inv (b.getD (b.length - 1) zero))) zero a b (a.length + 1 - b.length) (a.length + 1 - b.length)
def fmod (a b : List F) : List F := ftrim (fdiv a b).2
def fpoly (c : List F) : List F := ftrim (faddl (ftrim (List.replicate c.length zero ++ [one])) ((ftrim c).map neg))
/-! recurrences -/
def fnext (c out : List F) : F := fdot c (out.drop (out.length - c.length))
def fext (c : List F) : Nat → List F → List F
  | 0, out => out
  | k + 1, out => fext c k (out ++ [fnext c out])
def frow (c first : List F) (count : Nat) : List F := (fext c (count - first.length) first).take count
def fsat (c row : List F) : Bool := (List.range (row.length - c.length)).all fun k => decide (fdot c ((row.drop k).take c.length) = row.getD (k + c.length) zero)
def fsolveAt (terms : List F) (size : Nat) : Option (List F) := fsolve ((List.range (terms.length - size)).map fun k => (terms.drop k).take size) size (terms.drop size)
def fleastRec (terms : List F) : List F := match (List.range terms.length).findSome? (fsolveAt terms) with
  | some c => c
  | none => List.replicate terms.length zero
def fleast (c first : List F) : List F := fleastRec (frow c first (2 * c.length))
/-! the law's own -/
def lchos (table : List (List F)) (done col : Nat) : List Nat := ((List.range (table.length - done)).map (fun j => done + j)).filter fun k => !decide ((table.getD k []).getD col zero = zero)
def lrowStep (head : List F) (done col width : Nat) (t : List (List F)) (k : Nat) : List (List F) :=
  if k = done then t else t.set k ((List.range (width + 1)).map fun j => add ((t.getD k []).getD j zero) (mul (neg ((t.getD k []).getD col zero)) (head.getD j zero)))
def lstep (width : Nat) (s : List (List F) × List Nat) (col : Nat) : List (List F) × List Nat := match lchos s.1 s.2.length col with
  | [] => s
  | k :: _ =>
    let hd := lead (s.1.getD k []) col
    ((List.range s.1.length).foldl (lrowStep hd s.2.length col width) ((s.1.set k (s.1.getD s.2.length [])).set s.2.length hd), s.2 ++ [col])
def lsol (rows : List (List F)) (right : List F) (width n : Nat) : List (List F) × List Nat := (List.range n).foldl (lstep width) (flines rows right, [])
def lok (rows : List (List F)) (right : List F) (width : Nat) : Bool :=
  (List.range ((lsol rows right width width).1.length - (lsol rows right width width).2.length)).all fun j => decide ((((lsol rows right width width).1.getD ((lsol rows right width width).2.length + j) []).getD width zero) = zero)
def lsum (row terms : List F) (k n : Nat) : F := (List.range n).foldl (fun t i => add t (mul (row.getD i zero) (terms.getD (k + i) zero))) zero
def lann (row terms : List F) : Bool := (List.range (terms.length + 1 - row.length)).all fun k => decide (lsum row terms k row.length = zero)
end
end K35
set_option Elab.async false
set_option linter.all false
set_option maxRecDepth 100000
set_option maxHeartbeats 4000000
namespace K35
open PySem PySem.Spec L2
open Fld
instance monosRep {r : Dn} {n : Nat} [a : Mono r] : Monos (List.replicate n r) := ⟨fun q h => by rw [(List.mem_replicate.mp h).2]; exact a⟩
instance immsRep {r : Dn} {n : Nat} [a : Imm r] : Imms (List.replicate n r) := ⟨fun q h => by rw [(List.mem_replicate.mp h).2]; exact a⟩
instance monosTake {rs : List Dn} {n : Nat} [a : Monos rs] : Monos (rs.take n) := ⟨fun q h => a.m q (List.mem_of_mem_take h)⟩
instance immsTake {rs : List Dn} {n : Nat} [a : Imms rs] : Imms (rs.take n) := ⟨fun q h => a.m q (List.mem_of_mem_take h)⟩
instance monosDrop {rs : List Dn} {n : Nat} [a : Monos rs] : Monos (rs.drop n) := ⟨fun q h => a.m q (List.mem_of_mem_drop h)⟩
instance immsDrop {rs : List Dn} {n : Nat} [a : Imms rs] : Imms (rs.drop n) := ⟨fun q h => a.m q (List.mem_of_mem_drop h)⟩
/-! ### data of the program -/
structure IsSq (s : Dn) (rs : List Dn) : Prop where
  sq : SeqD s rs
  mo : Mono s
structure IsLs (s : Dn) (rs : List Dn) : Prop where
  ls : LstD s rs
  mo : Mono s
theorem IsLs.sq {s : Dn} {rs : List Dn} (h : IsLs s rs) : IsSq s rs := ⟨⟨fun v H d => let ⟨p, ys, a, b, c⟩ := h.ls.to v H d; ⟨p, ys, a, .inl b, c⟩⟩, h.mo⟩
theorem isSq {s : Dn} {rs : List Dn} [a : SeqD s rs] [b : Mono s] : IsSq s rs := ⟨a, b⟩
theorem isLs {s : Dn} {rs : List Dn} [a : LstD s rs] [b : Mono s] : IsLs s rs := ⟨a, b⟩
abbrev dM {i : Fin 6} (a : El i) : Dn := dTI (dec a)
def dV {i : Fin 6} (l : List (El i)) : List Dn := l.map dM
instance immsV {i : Fin 6} {l : List (El i)} : Imms (dV l) := immsMap
instance tosV {i : Fin 6} {l : List (El i)} : TupOs (dV l) := toMap
theorem dV_len {i : Fin 6} (l : List (El i)) : (dV l).length = l.length := List.length_map ..
theorem dV_get {i : Fin 6} {l : List (El i)} {k : Nat} {x : El i} (h : l[k]? = some x) : (dV l)[k]? = some (dM x) := by
  unfold dV
  rw [List.getElem?_map, h]
  rfl
theorem dV_inv {i : Fin 6} {l : List (El i)} {k : Nat} {d : Dn} (h : (dV l)[k]? = some d) : ∃ x, l[k]? = some x ∧ d = dM x := by
  unfold dV at h
  rw [List.getElem?_map] at h
  cases e : l[k]? with
  | none => rw [e] at h; cases h
  | some x =>
    rw [e] at h
    cases h
    exact ⟨x, rfl, rfl⟩
def dRows {i : Fin 6} (ls : List (List (El i))) : List Dn := ls.map fun l => dT (dV l)
instance immsRows {i : Fin 6} {ls : List (List (El i))} : Imms (dRows ls) := immsMap
def dNs (l : List Nat) : List Dn := l.map fun k : Nat => dI (k : Int)
instance immsNs {l : List Nat} : Imms (dNs l) := immsMap
abbrev nsF : List Str := ["modulus", "p", "n", "q"]
abbrev nsP : List Str := ["field", "row"]
abbrev nsR : List Str := ["field", "multiples"]
abbrev dFld (K : PySem.W.Frag) (i : Fin 6) : Dn := dIns (cF K) nsF [dTI (fx i).m, dI (fx i).p, dI ((fx i).n : Int), dI ((qs i : Nat) : Int)]
abbrev dPol (K : PySem.W.Frag) {i : Fin 6} (l : List (El i)) : Dn := dIns (cP K) nsP [dFld K i, dT (dV l)]
abbrev dRec (K : PySem.W.Frag) {i : Fin 6} (l : List (El i)) : Dn := dIns (cR K) nsR [dFld K i, dT (dV l)]
def dAny : Dn := fun _ _ => True
instance immAny : Imm dAny := ⟨fun _ _ _ _ _ => trivial⟩
/-- None exactly if b is false -/
def dOpt (b : Bool) : Dn := fun v _ => decide (v = .non) = !b
instance immOpt {b : Bool} : Imm (dOpt b) := ⟨fun _ _ _ _ h => h⟩
def dMay {i : Fin 6} : Option (List (El i)) → Dn
  | none => dN
  | some l => dT (dV l)
/-! ### the promises -/
abbrev SP := Hp → List Dn → Dn → Prop
section
variable (K : PySem.W.Frag)
def S_f_is_integer : SP := fun _ rs r => ∃ n, rs = [dI n] ∧ r = dB true
def S_f_prime_powers : SP := fun _ rs r => ∃ n, (n = 2 ∨ n = 3 ∨ n = 5) ∧ rs = [dI n] ∧ r = dTT [[n, 1]]
def S_f_is_prime : SP := fun _ rs r => ∃ n, (n = 2 ∨ n = 3 ∨ n = 5) ∧ rs = [dI n] ∧ r = dB true
def S_f_inverse_modulo : SP := fun _ rs r => ∃ a p v, mInvM a p = some v ∧ rs = [dI a, dI p] ∧ r = dI v
def S_f_trimmed : SP := fun _ rs r => ∃ s l p, okP p = true ∧ l.length ≤ 1000 ∧ IsSq s (dIs l) ∧ rs = [s, dI p] ∧ r = dTI (mTrim l p)
def S_f_add_rows : SP := fun _ rs r => ∃ a s b p, okP p = true ∧ a.length ≤ 400 ∧ b.length ≤ 400 ∧ IsSq s (dIs b) ∧ rs = [dTI a, s, dI p] ∧ r = dTI (mAdd a b p)
def S_f_subtract_rows : SP := fun _ rs r => ∃ a b p, okP p = true ∧ a.length ≤ 400 ∧ b.length ≤ 400 ∧ rs = [dTI a, dTI b, dI p] ∧ r = dTI (mSub a b p)
def S_f_multiply_rows : SP := fun _ rs r => ∃ a b p c, mMul a b p = some c ∧ rs = [dTI a, dTI b, dI p] ∧ r = dTI c
def S_f_divide_rows : SP := fun _ rs r => ∃ a b p q, mDiv a b p = some q ∧ rs = [dTI a, dTI b, dI p] ∧ r = dT [dTI q.1, dTI q.2]
def S_f_common_row : SP := fun _ rs r => ∃ k a b p g, mCommon p k a b = some g ∧ rs = [dTI a, dTI b, dI p] ∧ r = dTI g
def S_f_power_row : SP := fun _ rs r => ∃ a k m p g, mPow a k m p = some g ∧ rs = [dTI a, dI k, dTI m, dI p] ∧ r = dTI g
def S_f_is_irreducible_row : SP := fun _ rs r => ∃ m p b, mIrr m p = some b ∧ m.length ≤ 100 ∧ okP p = true ∧ rs = [dTI m, dI p] ∧ r = dB b
def S_f_is_member_row : SP := fun _ rs r => ∃ (i : Fin 6) (a : El i), rs = [dM a, dI ((fx i).n : Int), dI (fx i).p] ∧ r = dB true
def S_f_member_of : SP := fun _ rs r => ∃ (l : List Int) (n : Nat), l.length ≤ 400 ∧ n ≤ 400 ∧ rs = [dTI l, dI (n : Int)] ∧ r = dTI (memOf l n)
def S_f_member_sum : SP := fun _ rs r => ∃ a b p, okP p = true ∧ a.length ≤ 400 ∧ a.length = b.length ∧ rs = [dTI a, dTI b, dI p] ∧ r = dTI (memSum a b p)
def S_f_member_negative : SP := fun _ rs r => ∃ a p, okP p = true ∧ a.length ≤ 400 ∧ rs = [dTI a, dI p] ∧ r = dTI (memNeg a p)
def S_f_member_product : SP := fun _ rs r => ∃ a b m p c, memMul a b m p = some c ∧ a.length ≤ 400 ∧ b.length ≤ 400 ∧ rs = [dTI a, dTI b, dTI m, dI p] ∧ r = dTI c
def S_f_member_inverse : SP := fun _ rs r => ∃ a m p c, memInv a m p = some c ∧ a.length ≤ 400 ∧ 1 ≤ m.length ∧ m.length ≤ 400 ∧ okP p = true ∧ rs = [dTI a, dTI m, dI p] ∧ r = dTI c
def S_f_subtract : SP := fun _ rs r => ∃ (i : Fin 6) (a b : El i), rs = [dFld K i, dM a, dM b] ∧ r = dM (add a (neg b))
def S_f_dot : SP := fun _ rs r => ∃ (i : Fin 6) (a b : List (El i)) (s : Dn), a.length ≤ 1000 ∧ IsSq s (dV b) ∧ rs = [dFld K i, dT (dV a), s] ∧ r = dM (fdot a b)
def S_f_cleared : SP := fun H rs r => ∃ (i : Fin 6) (a b : List (El i)) (s t : Dn) (k : Nat), a.length ≤ 1000 ∧ a.length = b.length ∧ k < a.length ∧ IsLs s (dV a) ∧ IsLs t (dV b) ∧ rs = [dFld K i, s, t, dI (k : Int)] ∧ r = dFr H (dL (dV (fclear a b k)))
/-- a list of lists -/
def AllLs {i : Fin 6} (es : List Dn) (rows : List (List (El i))) : Prop := es.length = rows.length ∧ ∀ (k : Nat) (e : Dn) (row : List (El i)), es[k]? = some e → rows[k]? = some row → IsLs e (dV row)
def S_f_reduced : SP := fun _ rs r => ∃ (i : Fin 6) (rows : List (List (El i))) (width : Nat) (s : Dn) (es : List Dn), width ≤ 200 ∧ rows.length ≤ 200 ∧ (∀ row ∈ rows, row.length = width) ∧ IsLs s es ∧ AllLs es rows ∧ rs = [dFld K i, s, dI (width : Int)] ∧
  r = dT [dT (dRows (fred rows width).done), dT (dNs (fred rows width).piv)]
def S_f_solve : SP := fun _ rs r => ∃ (i : Fin 6) (rows : List (List (El i))) (width : Nat) (right : List (El i)), width ≤ 100 ∧ rows.length ≤ 100 ∧ rows.length = right.length ∧ (∀ row ∈ rows, row.length = width) ∧ rs = [dFld K i, dT (dRows rows), dI (width : Int), dT (dV right)] ∧
  r = dMay (fsolve rows width right)
def S_f_u_trimmed : SP := fun _ rs r => ∃ (i : Fin 6) (l : List (El i)) (s : Dn), l.length ≤ 1000 ∧ IsLs s (dV l) ∧ rs = [s, dFld K i] ∧ r = dT (dV (ftrim l))
def S_f_add : SP := fun H rs r => ∃ (i : Fin 6) (a b : List (El i)) (s : Dn), a.length ≤ 1000 ∧ b.length ≤ 1000 ∧ IsSq s (dV b) ∧ rs = [dT (dV a), s, dFld K i] ∧ r = dFr H (dL (dV (faddl a b)))
def S_f_negative : SP := fun H rs r => ∃ (i : Fin 6) (a : List (El i)), a.length ≤ 1000 ∧ rs = [dT (dV a), dFld K i] ∧ r = dFr H (dL (dV (a.map neg)))
def S_f_multiply : SP := fun H rs r => ∃ (i : Fin 6) (a b : List (El i)), a.length ≤ 1000 ∧ b.length ≤ 1000 ∧ rs = [dT (dV a), dT (dV b), dFld K i] ∧ r = dFr H (dL (dV (fmul a b)))
def S_f_divide : SP := fun _ rs r => ∃ (i : Fin 6) (a b : List (El i)), a.length ≤ 1000 ∧ b.length ≤ 1000 ∧ b ≠ [] ∧ b.getD (b.length - 1) zero ≠ zero ∧ rs = [dT (dV a), dT (dV b), dFld K i] ∧ r = dT [dAny, dL (dV (fdiv a b).2)]
def S_m_Poly_init : List Dn → Dn → Prop := fun rs r => ∃ (i : Fin 6) (l : List (El i)) (s : Dn), l.length ≤ 1000 ∧ IsSq s (dV l) ∧ rs = [dFld K i, s] ∧ r = dPol K (ftrim l)
def S_m_Poly_sub : SP := fun _ rs r => ∃ (i : Fin 6) (a b : List (El i)), a.length ≤ 400 ∧ b.length ≤ 400 ∧ rs = [dPol K a, dPol K b] ∧ r = dPol K (ftrim (faddl a (b.map neg)))
def S_m_Poly_mul : SP := fun _ rs r => ∃ (i : Fin 6) (a b : List (El i)), a.length ≤ 400 ∧ b.length ≤ 400 ∧ rs = [dPol K a, dPol K b] ∧ r = dPol K (ftrim (fmul a b))
def S_m_Poly_mod : SP := fun _ rs r => ∃ (i : Fin 6) (a b : List (El i)), a.length ≤ 1000 ∧ b.length ≤ 1000 ∧ b ≠ [] ∧ b.getD (b.length - 1) zero ≠ zero ∧ rs = [dPol K a, dPol K b] ∧ r = dPol K (fmod a b)
def S_m_Poly_is_zero : SP := fun _ rs r => ∃ (i : Fin 6) (a : List (El i)), rs = [dPol K a] ∧ r = dB a.isEmpty
def S_f_monomial : SP := fun _ rs r => ∃ (i : Fin 6) (a : El i) (k : Nat), k ≤ 100 ∧ rs = [dFld K i, dM a, dI (k : Int)] ∧ r = dPol K (ftrim (List.replicate k zero ++ [a]))
def S_m_Recurrence_init : List Dn → Dn → Prop := fun rs r => ∃ (i : Fin 6) (c : List (El i)), rs = [dFld K i, dT (dV c)] ∧ r = dRec K c
def S_m_Recurrence_eq : SP := fun _ rs r => ∃ (i : Fin 6) (c d : List (El i)), rs = [dRec K c, dRec K d] ∧ r = dB (decide (c = d))
def S_m_Recurrence_len : SP := fun _ rs r => ∃ (i : Fin 6) (c : List (El i)), rs = [dRec K c] ∧ r = dI ((c.length : Nat) : Int)
def S_m_Recurrence_polynomial : SP := fun _ rs r => ∃ (i : Fin 6) (c : List (El i)), c.length ≤ 100 ∧ rs = [dRec K c] ∧ r = dPol K (fpoly c)
def S_m_Recurrence_checked : SP := fun _ rs r => ∃ (i : Fin 6) (c f : List (El i)), f.length = c.length ∧ rs = [dRec K c, dT (dV f)] ∧ r = dT (dV f)
def S_m_Recurrence_row : SP := fun H rs r => ∃ (i : Fin 6) (c f : List (El i)) (n : Nat), c.length ≤ 400 ∧ f.length = c.length ∧ n ≤ 400 ∧ rs = [dRec K c, dT (dV f), dI (n : Int)] ∧ r = dFr H (dL (dV (frow c f n)))
def S_m_Recurrence_is_satisfied : SP := fun _ rs r => ∃ (i : Fin 6) (c row : List (El i)), c.length ≤ 400 ∧ row.length ≤ 400 ∧ c.length ≤ row.length ∧ rs = [dRec K c, dT (dV row)] ∧ r = dB (fsat c row)
def S_f_least_recurrence : SP := fun _ rs r => ∃ (i : Fin 6) (t : List (El i)), t.length ≤ 90 ∧ rs = [dFld K i, dT (dV t)] ∧ r = dT (dV (fleastRec t))
def S_m_Recurrence_least : SP := fun _ rs r => ∃ (i : Fin 6) (c f : List (El i)), c.length ≤ 40 ∧ f.length = c.length ∧ rs = [dRec K c, dT (dV f)] ∧ r = dRec K (fleast c f)
def S_f_checked_modulus : SP := fun _ rs r => ∃ i : Fin 6, rs = [dI (fx i).p, dTI (fx i).m] ∧ r = dTI (fx i).m
def S_m_Field_init : List Dn → Dn → Prop := fun rs r => ∃ i : Fin 6, rs = [dI (fx i).p, dTI (fx i).m] ∧ r = dFld K i
def S_m_Field_eq : SP := fun _ rs r => ∃ i : Fin 6, rs = [dFld K i, dFld K i] ∧ r = dB true
def S_m_Field_is_member : SP := fun _ rs r => ∃ (i : Fin 6) (a : El i), rs = [dFld K i, dM a] ∧ r = dB true
def S_m_Field_integer : SP := fun _ rs r => ∃ (i : Fin 6) (k : Int), rs = [dFld K i, dI k] ∧ r = dTI (memOf [k % (fx i).p] (fx i).n)
def S_m_Field_zero : SP := fun _ rs r => ∃ i : Fin 6, rs = [dFld K i] ∧ r = dM (zero : El i)
def S_m_Field_one : SP := fun _ rs r => ∃ i : Fin 6, rs = [dFld K i] ∧ r = dM (one : El i)
def S_m_Field_add : SP := fun _ rs r => ∃ (i : Fin 6) (a b : El i), rs = [dFld K i, dM a, dM b] ∧ r = dM (add a b)
def S_m_Field_negative : SP := fun _ rs r => ∃ (i : Fin 6) (a : El i), rs = [dFld K i, dM a] ∧ r = dM (neg a)
def S_m_Field_multiply : SP := fun _ rs r => ∃ (i : Fin 6) (a b : El i), rs = [dFld K i, dM a, dM b] ∧ r = dM (mul a b)
def S_m_Field_inverse : SP := fun _ rs r => ∃ (i : Fin 6) (a : El i), a ≠ zero ∧ rs = [dFld K i, dM a] ∧ r = dM (inv a)
def S_m_Field_member : SP := fun _ rs r => ∃ (i : Fin 6) (k : Nat), k < qs i ∧ rs = [dFld K i, dI (k : Int)] ∧ r = dM (elt i k)
def S_f_law_next : SP := fun _ rs r => ∃ (i : Fin 6) (c o : List (El i)) (s : Dn), c.length ≤ 400 ∧ o.length ≤ 400 ∧ c.length ≤ o.length ∧ IsLs s (dV o) ∧ rs = [dFld K i, dT (dV c), s] ∧ r = dM (fnext c o)
def S_f_law_row : SP := fun _ rs r => ∃ (i : Fin 6) (c f : List (El i)) (n : Nat), c.length ≤ 400 ∧ f.length = c.length ∧ n ≤ 400 ∧ rs = [dFld K i, dT (dV c), dT (dV f), dI (n : Int)] ∧ r = dT (dV (frow c f n))
def S_f_law_solution : SP := fun _ rs r => ∃ (i : Fin 6) (rows : List (List (El i))) (right : List (El i)) (n : Nat) (s t : Dn), n ≤ 100 ∧ rows.length = n ∧ right.length = n ∧ (∀ row ∈ rows, row.length = n) ∧ IsLs s (dRows rows) ∧ IsLs t (dV right) ∧ rs = [dFld K i, s, t, dI (n : Int)] ∧ r = dOpt (lok rows right n)
def S_f_law_annihilates : SP := fun _ rs r => ∃ (i : Fin 6) (row terms : List (El i)), row.length ≤ 400 ∧ terms.length ≤ 400 ∧ row.length ≤ terms.length + 1 ∧ rs = [dFld K i, dT (dV row), dT (dV terms)] ∧ r = dB (lann row terms)
end
end K35
namespace K35
open PySem PySem.Spec L2
theorem okP_pos {p : Int} (h : okP p = true) : 0 < p := of_decide_eq_true (Bool.and_eq_true_iff.mp h).1
theorem okP_le {p : Int} (h : okP p = true) : p ≤ 400 := of_decide_eq_true (Bool.and_eq_true_iff.mp h).2
theorem dIs_inv {l : List Int} {i : Nat} {d : Dn} (h : (dIs l)[i]? = some d) : ∃ c, l[i]? = some c ∧ d = dI c := by
  unfold dIs at h
  rw [List.getElem?_map] at h
  cases e : l[i]? with
  | none => rw [e] at h; cases h
  | some x =>
    rw [e] at h
    cases h
    exact ⟨x, rfl, rfl⟩
theorem map_inv {A B : Type} {f : A → B} {l : List A} {i : Nat} {d : B} (h : (l.map f)[i]? = some d) : ∃ c, l[i]? = some c ∧ d = f c := by
  rw [List.getElem?_map] at h
  cases e : l[i]? with
  | none => rw [e] at h; cases h
  | some x =>
    rw [e] at h
    cases h
    exact ⟨x, rfl, rfl⟩
theorem zipWith_inv {A B C : Type} {f : A → B → C} {l : List A} {m : List B} {i : Nat} {d : C} (h : (List.zipWith f l m)[i]? = some d) : ∃ x y, l[i]? = some x ∧ m[i]? = some y ∧ d = f x y := by
  rw [List.getElem?_zipWith] at h
  cases e : l[i]? with
  | none => rw [e] at h; cases h
  | some x =>
    cases e2 : m[i]? with
    | none => rw [e, e2] at h; cases h
    | some y =>
      rw [e, e2] at h
      cases h
      exact ⟨x, y, rfl, rfl, rfl⟩
end K35
set_option Elab.async false
set_option linter.all false
set_option maxRecDepth 100000
set_option maxHeartbeats 4000000
namespace K35
open PySem PySem.Spec L2
/-! ### the rows' two nested loops -/
section
variable {A : Type} {op : A → A → A → A} {z x : A} {i m : Nat} {b o a : List A}
theorem mulIn_succ : mulIn op z x i b (m + 1) o = (mulIn op z x i b m o).set (i + m) (op ((mulIn op z x i b m o).getD (i + m) z) x (b.getD m z)) := by
  unfold mulIn
  rw [List.range_succ, List.foldl_append]
  rfl
theorem mulIn_len : (mulIn op z x i b m o).length = o.length := by
  induction m with
  | zero => rfl
  | succ m ih => rw [mulIn_succ, List.length_set, ih]
theorem mulOut_succ {n : Nat} : mulOut op z a b (n + 1) = mulIn op z (a.getD n z) n b b.length (mulOut op z a b n) := by
  unfold mulOut
  rw [List.range_succ, List.foldl_append]
  rfl
theorem mulOut_len {n : Nat} : (mulOut op z a b n).length = a.length + b.length := by
  induction n with
  | zero => exact List.length_replicate ..
  | succ n ih => rw [mulOut_succ, mulIn_len, ih]
theorem getD_at {l : List A} {j : Nat} (h : j < l.length) : l[j]? = some (l.getD j z) := by
  rw [List.getD_eq_getElem?_getD, List.getElem?_eq_getElem h]
  rfl
theorem map_set {f : A → Dn} {l : List A} {j : Nat} {c : A} : (l.map f).set j (f c) = (l.set j c).map f := (List.map_set ..).symm
end
section
variable {K : PySem.W.Frag} {A : Type} {enc : A → Dn} {op : A → A → A → A} {z : A} {a b : List A} {te : TE} {va vb vp : V} {o : Addr} {H0 H : Hp} {us : List V} {tz : TS} {D : Ends} {rp : Dn}
theorem yAt_map {l : List A} {j : Nat} (h : j < l.length) : yAt (l.map enc) j = enc (l.getD j z) := yAt_some (by rw [List.getElem?_map, getD_at (z := z) h]; rfl)
/-- reading a list of known items -/
theorem ev_at [∀ x, Imm (enc x)] {l : List A} {te ti : TE} {σ : St} {j : Nat} {n : Int} {r : Dn} [Mono r] [SeqD r (l.map enc)] (h1 : Ev te σ H r) (h2 : Ev ti σ H (dI n)) (hn : n = (j : Int)) (hj : j < l.length) : Ev (tOp (rIx K) te ti) σ H (enc (l.getD j z)) :=
  ev_ixI h1 h2 hn (by rw [List.getElem?_map, getD_at (z := z) hj]; rfl)
theorem mul_loops [ie : ∀ x, Imm (enc x)] [ip : Imm rp] (da : dT (a.map enc) va H) (db : dT (b.map enc) vb H) (dp : rp vp H) (hs : Same H0 H) (ho : H0 o = none) (hO : H o = some (.lst us)) (al : Alls H us ((List.replicate (a.length + b.length) z).map enc)) 
    (he : ∀ (c x y : A) (σ : St) (H1 : Hp), x ∈ a → y ∈ b → Ev (tOp (rIx K) (tVar 3) (tOp pAdd (tVar 4) (tVar 7))) σ H1 (enc c) → Ev (tVar 5) σ H1 (enc x) → Ev (tVar 8) σ H1 (enc y) → Ev (tVar 2) σ H1 rp → Ev te σ H1 (enc (op c x y)))
    (q : ∀ x5 x6 x7 x8 H' us', Same H0 H' → Le H H' → H' o = some (.lst us') → Alls H' us' ((mulOut op z a b a.length).map enc) → tz D [some va, some vb, some vp, some (.ref o), x5, x6, none, x7, x8] H') :
    tSeq (tFor (iEnX K (tCons (tVar 0) tNil)) (gTup K 2 (gCons (gName 4) (gCons (gName 5) gNil))) (tFor (iEnX K (tCons (tVar 1) tNil)) (gTup K 2 (gCons (gName 7) (gCons (gName 8) gNil))) (tAsg te (gSub (tVar 3) (tOp pAdd (tVar 4) (tVar 7)) rSetL)))) tz D
      [some va, some vb, some vp, some (.ref o), none, none, none, none, none] H := by
  refine q_forJ (ej_en (ev_var rfl da)) fun H2 e2 => ⟨fun i σ' H' => ∃ x5 x6 x7 x8 us, σ' = [some va, some vb, some vp, some (.ref o), x5, x6, none, x7, x8] ∧ Same H0 H' ∧ Le H2 H' ∧ H' o = some (.lst us) ∧ Alls H' us ((mulOut op z a b i).map enc),
    ⟨_, _, _, _, us, rfl, hs.trans e2, le_refl _, e2 _ _ hO, al.imm (le_of e2)⟩, fun i σ' H' hi h => (by obtain ⟨_, _, _, _, _, _, _, h, _⟩ := h; exact h), fun i σ' H' hi h xx H'' s'' y => ?_, fun σ' H' h => ?_⟩
  · obtain ⟨x5, x6, x7, x8, us, rfl, sm, le, hO, al⟩ := h
    rw [List.length_map] at hi
    obtain ⟨vi, vx, di, dx, bd⟩ := bd_pair (K := K) (σ := [some va, some vb, some vp, some (.ref o), x5, x6, none, x7, x8]) (k := 4) (m := 5) y
    refine bd _ ?_
    have ev : vi = .int i := di
    subst ev
    rw [yAt_map (z := z) hi] at dx
    have LH : Le H H'' := le_trans (le_of e2) (le_trans le (le_of s''))
    refine s_forJ (ej_en (ev_var rfl (Imm.m _ _ _ LH db))) fun H3 e3 => ⟨fun m σ' H' => ∃ x7 x8 us, σ' = [some va, some vb, some vp, some (.ref o), some (.int i), some vx, none, x7, x8] ∧ Same H0 H' ∧ Le H3 H' ∧ H' o = some (.lst us) ∧ Alls H' us ((mulIn op z (a.getD i z) i b m (mulOut op z a b i)).map enc),
      ⟨_, _, us, rfl, (sm.trans s'').trans e3, le_refl _, e3 _ _ (s'' _ _ hO), al.imm (le_of (s''.trans e3))⟩, fun i σ' H' hi h => (by obtain ⟨_, _, _, _, _, h, _⟩ := h; exact h), fun m σ' H' hm h xx H4 s4 y => ?_, fun σ' H' h => ?_⟩
    · obtain ⟨x7, x8, us, rfl, sm', le', hO, al⟩ := h
      rw [List.length_map] at hm
      obtain ⟨vi, vy, di, dy, bd⟩ := bd_pair (K := K) (σ := [some va, some vb, some vp, some (.ref o), some (.int i), some vx, none, x7, x8]) (k := 7) (m := 8) y
      refine bd _ ?_
      have ev : vi = .int m := di
      subst ev
      rw [yAt_map (z := z) hm] at dy
      have L4 : Le H'' H4 := le_trans (le_of e3) (le_trans le' (le_of s4))
      have hl : i + m < (mulIn op z (a.getD i z) i b m (mulOut op z a b i)).length := by
        rw [mulIn_len, mulOut_len]
        omega
      have hO4 := s4 _ _ hO
      have al4 := al.imm (le_of s4)
      have hu : i + m < us.length := by
        rw [al.len, List.length_map]
        exact hl
      have hix : Ev (tOp pAdd (tVar 4) (tVar 7)) [some va, some vb, some vp, some (.ref o), some (.int i), some vx, none, some (.int m), some vy] H4 (dI ((i + m : Nat) : Int)) := (ev_add (ev_var (r := dI (i : Int)) rfl rfl) (ev_var (r := dI (m : Int)) rfl rfl)).eq (by rw [Int.natCast_add])
      refine s_set (p := o) (vs := us) rfl hO4 (he _ (a.getD i z) (b.getD m z) _ H4 (List.mem_of_getElem? (getD_at (z := z) hi)) (List.mem_of_getElem? (getD_at (z := z) hm)) (ev_at (enc := enc) (z := z) (ev_var (r := dL _) rfl ⟨o, us, rfl, hO4, al4⟩) hix rfl hl) (ev_var rfl (Imm.m _ _ _ L4 dx)) (ev_var rfl dy) (ev_var rfl (Imm.m _ _ _ (le_trans LH L4) dp))) hix hu fun v H5 e5 d5 hO5 => ?_
      refine ⟨_, _, us.set (i + m) v, rfl, same_mut ((sm'.trans s4).trans e5) ho, le_trans le' (le_trans (le_of (s4.trans e5)) (le_set hO5)), upd_same, ?_⟩
      rw [mulIn_succ, ← map_set]
      exact (al4.imm (le_trans (le_of e5) (le_set hO5))).set (Imm.m _ _ _ (le_set hO5) d5) _
    · obtain ⟨x7, x8, us, rfl, sm', le', hO, al⟩ := h
      rw [List.length_map] at al
      refine ⟨_, _, _, _, us, rfl, sm', le_trans le (le_trans (le_of (s''.trans e3)) le'), hO, ?_⟩
      rw [mulOut_succ]
      exact al
  · obtain ⟨x5, x6, x7, x8, us, rfl, sm, le, hO, al⟩ := h
    rw [List.length_map] at al
    exact q _ _ _ _ _ _ sm (le_trans (le_of e2) le) hO al
end
section
variable {A : Type} {op : A → A → A → A} {fac : A → A} {z f : A} {k m n : Nat} {b r a : List A} {s : List A × List A}
theorem divIn_succ : divIn op z f b k (m + 1) r = (divIn op z f b k m r).set (k + m) (op ((divIn op z f b k m r).getD (k + m) z) f (b.getD m z)) := by
  unfold divIn
  rw [List.range_succ, List.foldl_append]
  rfl
theorem divIn_len : (divIn op z f b k m r).length = r.length := by
  induction m with
  | zero => rfl
  | succ m ih => rw [divIn_succ, List.length_set, ih]
theorem divOut_succ {t : Nat} : divOut op fac z a b n (t + 1) = divStep op fac z b (n - 1 - t) (divOut op fac z a b n t) := by
  unfold divOut
  rw [List.range_succ, List.foldl_append]
  rfl
theorem divOut_len {t : Nat} : (divOut op fac z a b n t).1.length = n ∧ (divOut op fac z a b n t).2.length = a.length := by
  induction t with
  | zero => exact ⟨List.length_replicate .., rfl⟩
  | succ t ih =>
    rw [divOut_succ]
    unfold divStep
    exact ⟨by rw [List.length_set]; exact ih.1, by rw [divIn_len]; exact ih.2⟩
end
section
variable {K : PySem.W.Frag} {A : Type} {enc : A → Dn} {op : A → A → A → A} {fac : A → A} {z : A} {a b : List A} {tf : TE} {tb : TS} {va vb vp vl : V} {o qd : Addr} {H0 H : Hp} {us ws : List V} {tz : TS} {D : Ends} {rp rl : Dn} {n w : Nat}
theorem upd_keep {H : Hp} {p q : Addr} {ob x : HO} (h : p ≠ q) (e : H p = some x) : (upd H q ob) p = some x := by rw [upd_ne h]; exact e
theorem div_loops [ie : ∀ x, Imm (enc x)] [ip : Imm rp] [il : Imm rl] {tl : St} (htl : tl.length = w) (hb0 : 1 ≤ b.length) (hn : n = a.length + 1 - b.length) (hla : a.length ≤ 1000)
    (db : dT (b.map enc) vb H) (dp : rp vp H) (dl : rl vl H) (hs : Same H0 H) (ho : H0 o = none) (hq : H0 qd = none) (hne : o ≠ qd)
    (hO : H o = some (.lst us)) (hQ : H qd = some (.lst ws)) (al : Alls H us (a.map enc)) (aq : Alls H ws ((List.replicate n z).map enc))
    (hf : ∀ (c : A) (σ : St) (H1 : Hp), Ev (tOp (rIx K) (tVar 3) (tOp pSub (tOp pAdd (tVar 6) (tCB (pLen K) (tCons (tVar 1) tNil))) (tC (.int 1)))) σ H1 (enc c) → Ev (tVar 4) σ H1 rl → Ev (tVar 2) σ H1 rp → Ev tf σ H1 (enc (fac c)))
    (hb : ∀ (D : Ends) (c f y : A) (i j : Nat) (vf vy : V) (tl : St) (H1 : Hp) (us : List V), y ∈ b → tl.length = w → rp vp H1 → enc f vf H1 → enc y vy H1 → H1 o = some (.lst us) → i + j < us.length →
      (∀ tl H2, Same H1 H2 → Ev (tOp (rIx K) (tVar 3) (tOp pAdd (tVar 6) (tVar 9))) (some va :: some vb :: some vp :: some (.ref o) :: some vl :: some (.ref qd) :: some (.int i) :: some vf :: none :: some (.int j) :: some vy :: tl) H2 (enc c)) →
      (∀ tl H2, Same H1 H2 → Ev (tOp pAdd (tVar 6) (tVar 9)) (some va :: some vb :: some vp :: some (.ref o) :: some vl :: some (.ref qd) :: some (.int i) :: some vf :: none :: some (.int j) :: some vy :: tl) H2 (dI ((i + j : Nat) : Int))) →
      (∀ tl v H2, tl.length = w → Same H1 H2 → enc (op c f y) v H2 → H2 o = some (.lst us) → D.nx (some va :: some vb :: some vp :: some (.ref o) :: some vl :: some (.ref qd) :: some (.int i) :: some vf :: none :: some (.int j) :: some vy :: tl) (upd H2 o (.lst (us.set (i + j) v)))) →
      tb D (some va :: some vb :: some vp :: some (.ref o) :: some vl :: some (.ref qd) :: some (.int i) :: some vf :: none :: some (.int j) :: some vy :: tl) H1)
    (q : ∀ x6 x7 x9 x10 tl H' us' ws', Same H0 H' → Le H H' → H' o = some (.lst us') → H' qd = some (.lst ws') → Alls H' us' ((divOut op fac z a b n n).2.map enc) → Alls H' ws' ((divOut op fac z a b n n).1.map enc) → tl.length = w →
      tz D (some va :: some vb :: some vp :: some (.ref o) :: some vl :: some (.ref qd) :: x6 :: x7 :: none :: x9 :: x10 :: tl) H') :
    tSeq (tFor (iRng3 (tCons (tOp pSub (tCB (pLen K) (tCons (tVar 5) tNil)) (tC (.int 1))) (tCons (tUn pNeg (tC (.int 1))) (tCons (tUn pNeg (tC (.int 1))) tNil)))) (gName 6)
      (tSeq (tAsg tf (gName 7)) (tSeq (tAsg (tVar 7) (gSub (tVar 5) (tVar 6) rSetL)) (tFor (iEnX K (tCons (tVar 1) tNil)) (gTup K 2 (gCons (gName 9) (gCons (gName 10) gNil))) tb)))) tz D
      (some va :: some vb :: some vp :: some (.ref o) :: some vl :: some (.ref qd) :: none :: none :: none :: none :: none :: tl) H := by
  have hlq : ((List.replicate n z).map enc).length = n := by rw [List.length_map, List.length_replicate]
  have hev := ev_len (K := K) (H := H) (ta := tVar 5) (σ := some va :: some vb :: some vp :: some (.ref o) :: some vl :: some (.ref qd) :: none :: none :: none :: none :: none :: tl) (ev_var (r := dL ((List.replicate n z).map enc)) rfl ⟨qd, ws, rfl, hQ, aq⟩)
  rw [hlq] at hev
  refine q_forJ (ei_down (k := n) (ev_sub hev (ev_int (i := 1))) (ev_neg ev_int) (ev_neg ev_int) (by omega)) fun H2 e2 => ⟨fun i σ' H' => ∃ x6 x7 x9 x10 tl us ws, σ' = (some va :: some vb :: some vp :: some (.ref o) :: some vl :: some (.ref qd) :: x6 :: x7 :: none :: x9 :: x10 :: tl) ∧ Same H0 H' ∧ Le H2 H' ∧ H' o = some (.lst us) ∧ H' qd = some (.lst ws) ∧ Alls H' us ((divOut op fac z a b n i).2.map enc) ∧ Alls H' ws ((divOut op fac z a b n i).1.map enc) ∧ tl.length = w,
    ⟨_, _, _, _, tl, us, ws, rfl, hs.trans e2, le_refl _, e2 _ _ hO, e2 _ _ hQ, al.imm (le_of e2), aq.imm (le_of e2), htl⟩, fun i σ' H' hi h => (by obtain ⟨_, _, _, _, _, _, _, _, _, h, _⟩ := h; exact h), fun i σ' H' hi h xx H'' s'' y => ?_, fun σ' H' h => ?_⟩
  · obtain ⟨x6, x7, x9, x10, tl, us, ws, rfl, sm, le, hO, hQ, al, aq, htl⟩ := h
    obtain ⟨l1, l2⟩ := divOut_len (op := op) (fac := fac) (z := z) (a := a) (b := b) (n := n) (t := i)
    have ek : (n : Int) - 1 - (i : Int) = ((n - 1 - i : Nat) : Int) := by omega
    rw [ek] at y
    have ev : xx = .int ((n - 1 - i : Nat) : Int) := y
    subst ev
    generalize hkk : n - 1 - i = kk at *
    have LH : Le H H'' := le_trans (le_of e2) (le_trans le (le_of s''))
    have db' := Imm.m _ _ _ LH db
    have hO' := s'' _ _ hO
    have hQ' := s'' _ _ hQ
    have al' := al.imm (le_of s'')
    have hlb : (b.map enc).length = b.length := List.length_map ..
    show tSeq (tAsg tf (gName 7)) _ _ (some va :: some vb :: some vp :: some (.ref o) :: some vl :: some (.ref qd) :: some (.int (kk : Int)) :: x7 :: none :: x9 :: x10 :: tl) H''
    have hc : Ev (tOp (rIx K) (tVar 3) (tOp pSub (tOp pAdd (tVar 6) (tCB (pLen K) (tCons (tVar 1) tNil))) (tC (.int 1)))) (some va :: some vb :: some vp :: some (.ref o) :: some vl :: some (.ref qd) :: some (.int (kk : Int)) :: x7 :: none :: x9 :: x10 :: tl) H'' (enc ((divOut op fac z a b n i).2.getD (kk + b.length - 1) z)) :=
      ev_at (enc := enc) (z := z) (ev_var (r := dL _) rfl ⟨o, us, rfl, hO', al'⟩) (ev_sub (ev_add (ev_var (r := dI (kk : Int)) rfl rfl) (ev_len (K := K) (ev_var rfl db'))) (ev_int (i := 1))) (by rw [hlb]; omega) (by omega)
    refine q_asg (hf _ _ _ hc (ev_var rfl (Imm.m _ _ _ LH dl)) (ev_var rfl (Imm.m _ _ _ LH dp))) fun vf H3 e3 df => ?_
    refine q_set (p := qd) (vs := ws) (j := kk) rfl (e3 _ _ hQ') (ev_var rfl df) (ev_var (r := dI (kk : Int)) rfl rfl) (by rw [aq.len, List.length_map, l1]; omega) fun v H4 e4 d4 hQ4 => ?_
    have e34 := s''.trans (e3.trans e4)
    have LQ := le_set (ys := ws.set kk v) hQ4
    have hO4 : (upd H4 qd (.lst (ws.set kk v))) o = some (.lst us) := upd_keep hne (e4 _ _ (e3 _ _ hO'))
    have al4 := al.imm (le_trans (le_of e34) LQ)
    have aq4 := (aq.imm (le_trans (le_of e34) LQ)).set (Imm.m _ _ _ LQ d4) kk
    rw [map_set] at aq4
    have df4 := Imm.m _ _ _ (le_trans (le_of e4) LQ) df
    have sm4 : Same H0 (upd H4 qd (.lst (ws.set kk v))) := same_mut (sm.trans e34) hq
    have LH4 := le_trans LH (le_trans (le_of (e3.trans e4)) LQ)
    have hQ5 : (upd H4 qd (.lst (ws.set kk v))) qd = some (.lst (ws.set kk v)) := upd_same
    have Lall := le_trans le (le_trans (le_of e34) LQ)
    generalize hH5 : upd H4 qd (.lst (ws.set kk v)) = H5 at *
    refine s_forJ (ej_en (ev_var rfl (Imm.m _ _ _ LH4 db))) fun H6 e6 => ⟨fun m σ' H' => ∃ x9 x10 tl us, σ' = (some va :: some vb :: some vp :: some (.ref o) :: some vl :: some (.ref qd) :: some (.int (kk : Int)) :: some vf :: none :: x9 :: x10 :: tl) ∧ Same H0 H' ∧ Le H6 H' ∧ H' o = some (.lst us) ∧ H' qd = some (.lst (ws.set kk v)) ∧ Alls H' us ((divIn op z (fac ((divOut op fac z a b n i).2.getD (kk + b.length - 1) z)) b kk m (divOut op fac z a b n i).2).map enc) ∧ tl.length = w,
      ⟨_, _, tl, us, rfl, sm4.trans e6, le_refl _, e6 _ _ hO4, e6 _ _ hQ5, al4.imm (le_of e6), htl⟩, fun i σ' H' hi h => (by obtain ⟨_, _, _, _, _, _, h, _⟩ := h; exact h), fun m σ' H' hm h xx H7 s7 y => ?_, fun σ' H' h => ?_⟩
    · obtain ⟨x9, x10, tl, us, rfl, sm', le', hO, hQ, al, htl⟩ := h
      rw [hlb] at hm
      obtain ⟨vi, vy, di, dy, bd⟩ := bd_pair (K := K) (σ := some va :: some vb :: some vp :: some (.ref o) :: some vl :: some (.ref qd) :: some (.int (kk : Int)) :: some vf :: none :: x9 :: x10 :: tl) (k := 9) (m := 10) y
      refine bd _ ?_
      have ev : vi = .int m := di
      subst ev
      rw [yAt_map (z := z) hm] at dy
      have L7 := le_trans (le_of e6) (le_trans le' (le_of s7))
      have hl : kk + m < (divIn op z (fac ((divOut op fac z a b n i).2.getD (kk + b.length - 1) z)) b kk m (divOut op fac z a b n i).2).length := by
        rw [divIn_len, l2]
        omega
      have hO7 := s7 _ _ hO
      have hQ7 := s7 _ _ hQ
      have al7 := al.imm (le_of s7)
      have hu : kk + m < us.length := by
        rw [al.len, List.length_map]
        exact hl
      have hadd : ∀ tl H2, Same H7 H2 → Ev (tOp pAdd (tVar 6) (tVar 9)) (some va :: some vb :: some vp :: some (.ref o) :: some vl :: some (.ref qd) :: some (.int (kk : Int)) :: some vf :: none :: some (.int m) :: some vy :: tl) H2 (dI ((kk + m : Nat) : Int)) := fun tl H2 _ =>
        (ev_add (ev_var (r := dI (kk : Int)) rfl rfl) (ev_var (r := dI (m : Int)) rfl rfl)).eq (by rw [Int.natCast_add])
      refine hb _ _ _ (b.getD m z) kk m vf vy tl H7 us (List.mem_of_getElem? (getD_at (z := z) hm)) htl (Imm.m _ _ _ (le_trans LH4 L7) dp) (Imm.m _ _ _ L7 df4) dy hO7 hu (fun tl H2 e => ev_at (enc := enc) (z := z) (ev_var (r := dL _) rfl ⟨o, us, rfl, e _ _ hO7, al7.imm (le_of e)⟩) (hadd tl H2 e) rfl hl) hadd fun tl v8 H8 htl e8 d8 hO8 => ?_
      refine ⟨_, _, tl, _, rfl, same_mut ((sm'.trans s7).trans e8) ho, le_trans le' (le_trans (le_of (s7.trans e8)) (le_set hO8)), upd_same, upd_keep (Ne.symm hne) (e8 _ _ hQ7), ?_, htl⟩
      rw [divIn_succ, ← map_set]
      exact (al7.imm (le_trans (le_of e8) (le_set hO8))).set (Imm.m _ _ _ (le_set hO8) d8) _
    · obtain ⟨x9, x10, tl, us, rfl, sm', le', hO, hQ, al, htl⟩ := h
      rw [hlb] at al
      refine ⟨_, _, _, _, tl, us, _, rfl, sm', le_trans Lall (le_trans (le_of e6) le'), hO, hQ, ?_, ?_, htl⟩
      · rw [divOut_succ, hkk]
        exact al
      · rw [divOut_succ, hkk]
        exact aq4.imm (le_trans (le_of e6) le')
  · obtain ⟨x6, x7, x9, x10, tl, us, ws, rfl, sm, le, hO, hQ, al, aq, htl⟩ := h
    exact q _ _ _ _ tl _ us ws sm (le_trans (le_of e2) le) hO hQ al aq htl
end
/-! ### what the mirrors' answers say -/
theorem invL_zero {n : Nat} {old u u' v : Int} {r : Int × Int} (h : invL n old 0 u v = some r) : r = (old, u) := by
  unfold invL at h
  rw [if_pos rfl] at h
  exact (Option.some.inj h).symm
theorem invL_step {n : Nat} {old new u v : Int} {r : Int × Int} (h0 : new ≠ 0) (h : invL n old new u v = some r) : ∃ m, n = m + 1 ∧ invL m new (old - old / new * new) v (u - old / new * v) = some r := by
  unfold invL at h
  rw [if_neg h0] at h
  cases n with
  | zero => cases h
  | succ m => exact ⟨m, rfl, h⟩
theorem mInvM_inv {a p v : Int} (h : mInvM a p = some v) : okP p = true ∧ ∃ u, invL 64 p (a % p) 0 1 = some (1, u) ∧ v = u % p := by
  unfold mInvM at h
  by_cases hp : okP p = true
  · rw [if_pos hp] at h
    refine ⟨hp, ?_⟩
    cases e : invL 64 p (a % p) 0 1 with
    | none => rw [e] at h; cases h
    | some r =>
      obtain ⟨old, u⟩ := r
      rw [e] at h
      have h2 : (if old = 1 then some (u % p) else none) = some v := h
      by_cases h1 : old = 1
      · rw [if_pos h1] at h2
        subst h1
        exact ⟨u, rfl, (Option.some.inj h2).symm⟩
      · rw [if_neg h1] at h2
        cases h2
  · rw [if_neg hp] at h
    cases h
theorem mMul_inv {a b c : List Int} {p : Int} (h : mMul a b p = some c) : okP p = true ∧ okL p a = true ∧ okL p b = true ∧ c = mTrim (mulOut iMA 0 a b a.length) p := by
  unfold mMul at h
  by_cases hp : (okP p && (okL p a && okL p b)) = true
  · rw [if_pos hp] at h
    rw [Bool.and_eq_true, Bool.and_eq_true] at hp
    exact ⟨hp.1, hp.2.1, hp.2.2, (Option.some.inj h).symm⟩
  · rw [if_neg hp] at h
    cases h
theorem okL_len {p : Int} {l : List Int} (h : okL p l = true) : l.length ≤ 100 := of_decide_eq_true (Bool.and_eq_true_iff.mp h).1
theorem okL_mem {p x : Int} {l : List Int} (h : okL p l = true) (hx : x ∈ l) : 0 ≤ x ∧ x < p := by
  have := List.all_eq_true.mp (Bool.and_eq_true_iff.mp h).2 x hx
  rw [Bool.and_eq_true] at this
  exact ⟨of_decide_eq_true this.1, of_decide_eq_true this.2⟩
theorem mDiv_inv {a b : List Int} {p : Int} {q : List Int × List Int} (h : mDiv a b p = some q) : okP p = true ∧ okL p a = true ∧ okL p b = true ∧ 1 ≤ b.length ∧ ∃ last, mInvM (b.getD (b.length - 1) 0) p = some last ∧
    q = (mTrim (divOut (iDS p) (iFac last p) 0 a b (a.length + 1 - b.length) (a.length + 1 - b.length)).1 p, mTrim (divOut (iDS p) (iFac last p) 0 a b (a.length + 1 - b.length) (a.length + 1 - b.length)).2 p) := by
  unfold mDiv at h
  by_cases hp : (okP p && (okL p a && (okL p b && !b.isEmpty))) = true
  · rw [if_pos hp] at h
    rw [Bool.and_eq_true, Bool.and_eq_true, Bool.and_eq_true] at hp
    refine ⟨hp.1, hp.2.1, hp.2.2.1, ?_, ?_⟩
    · cases b with
      | nil => exact absurd hp.2.2.2 (by decide)
      | cons x l => exact Nat.succ_pos _
    · cases e : mInvM (b.getD (b.length - 1) 0) p with
      | none => rw [e] at h; cases h
      | some last =>
        rw [e] at h
        exact ⟨last, rfl, (Option.some.inj h).symm⟩
  · rw [if_neg hp] at h
    cases h
theorem mInvM_bnd {a p v : Int} (h : mInvM a p = some v) : 0 ≤ v ∧ v < p := by
  obtain ⟨hp, u, _, rfl⟩ := mInvM_inv h
  have := okP_pos hp
  exact ⟨Int.emod_nonneg _ (by omega), Int.emod_lt_of_pos _ this⟩
theorem mTrim_len (l : List Int) (p : Int) : (mTrim l p).length ≤ l.length := by
  unfold mTrim trimZ
  rw [List.length_reverse]
  have h := (List.dropWhile_sublist (fun x => x == (0 : Int)) (l := (l.map fun x => x % p).reverse)).length_le
  rw [List.length_reverse, List.length_map] at h
  exact h
theorem mRem_inv {a m r : List Int} {p : Int} (h : mRem a m p = some r) : r.length ≤ 100 ∧ ∃ s, mDiv a m p = some s ∧ r = s.2 := by
  unfold mRem at h
  cases e : mDiv a m p with
  | none => rw [e] at h; cases h
  | some s =>
    rw [e] at h
    have e2 : s.2 = r := Option.some.inj h
    refine ⟨?_, s, rfl, e2.symm⟩
    obtain ⟨_, ha, _, _, last, _, rfl⟩ := mDiv_inv e
    rw [← e2]
    refine Nat.le_trans (mTrim_len _ _) ?_
    rw [(divOut_len ..).2]
    exact okL_len ha
theorem mMulRem_inv {a b m r : List Int} {p : Int} (h : mMulRem a b m p = some r) : ∃ c, mMul a b p = some c ∧ mRem c m p = some r := by
  unfold mMulRem at h
  cases e : mMul a b p with
  | none => rw [e] at h; cases h
  | some c => rw [e] at h; exact ⟨c, rfl, h⟩
theorem mCommon_nil {p : Int} {k : Nat} {a g : List Int} (h : mCommon p k a [] = some g) : (a = [] ∧ g = []) ∨ (1 ≤ a.length ∧ ∃ v, mInvM (a.getD (a.length - 1) 0) p = some v ∧ mMul a [v] p = some g) := by
  unfold mCommon at h
  rw [if_pos (show ([] : List Int).isEmpty = true from rfl)] at h
  cases a with
  | nil => exact .inl ⟨rfl, (Option.some.inj h).symm⟩
  | cons x l =>
    rw [if_neg (show ¬ ((x :: l).isEmpty = true) by simp)] at h
    cases e : mInvM ((x :: l).getD ((x :: l).length - 1) 0) p with
    | none => rw [e] at h; cases h
    | some v => rw [e] at h; exact .inr ⟨Nat.succ_pos _, v, rfl, h⟩
theorem mCommon_step {p : Int} {k : Nat} {a b g : List Int} (hb : b ≠ []) (h : mCommon p k a b = some g) : ∃ k' s, k = k' + 1 ∧ mDiv a b p = some s ∧ mCommon p k' b s.2 = some g := by
  unfold mCommon at h
  rw [if_neg (by simpa using hb)] at h
  cases k with
  | zero => cases h
  | succ k' =>
    cases e : mDiv a b p with
    | none => simp only [e] at h; cases h
    | some s => simp only [e] at h; exact ⟨k', s, rfl, rfl, h⟩
theorem mPowL_done {m out bs g : List Int} {p k : Int} {n : Nat} (hk : k ≤ 0) (h : mPowL m p n k out bs = some g) : g = out := by
  unfold mPowL at h
  rw [if_pos hk] at h
  exact (Option.some.inj h).symm
theorem mPowL_step {m out bs g : List Int} {p k : Int} {n : Nat} (hk : ¬ k ≤ 0) (h : mPowL m p n k out bs = some g) : ∃ n' out' bs', n = n' + 1 ∧ (if k % 2 = 1 then mMulRem out bs m p else some out) = some out' ∧ mMulRem bs bs m p = some bs' ∧ mPowL m p n' (k / 2) out' bs' = some g := by
  unfold mPowL at h
  rw [if_neg hk] at h
  cases n with
  | zero => cases h
  | succ n' =>
    cases e : (if k % 2 = 1 then mMulRem out bs m p else some out) with
    | none => simp only [e] at h; cases h
    | some o' =>
      simp only [e] at h
      cases e2 : mMulRem bs bs m p with
      | none => simp only [e2] at h; cases h
      | some b' => simp only [e2] at h; exact ⟨n', o', b', rfl, rfl, rfl, h⟩
theorem mPowL_len {m : List Int} {p : Int} : ∀ {n : Nat} {k : Int} {out bs g : List Int}, out.length ≤ 100 → mPowL m p n k out bs = some g → g.length ≤ 100 := by
  intro n
  induction n with
  | zero =>
    intro k out bs g ho h
    by_cases hk : k ≤ 0
    · rw [mPowL_done hk h]; exact ho
    · obtain ⟨n', _, _, hn, _⟩ := mPowL_step hk h
      cases hn
  | succ n ih =>
    intro k out bs g ho h
    by_cases hk : k ≤ 0
    · rw [mPowL_done hk h]; exact ho
    · obtain ⟨n', o', b', hn, h1, h2, h3⟩ := mPowL_step hk h
      cases hn
      refine ih ?_ h3
      by_cases ho2 : k % 2 = 1
      · rw [if_pos ho2] at h1
        obtain ⟨c, _, hr⟩ := mMulRem_inv h1
        exact (mRem_inv hr).1
      · rw [if_neg ho2] at h1
        rw [← Option.some.inj h1]
        exact ho
theorem mPow_inv {a m g : List Int} {k p : Int} (h : mPow a k m p = some g) : g.length ≤ 100 ∧ ∃ out bs, mRem [1] m p = some out ∧ mRem a m p = some bs ∧ mPowL m p 64 k out bs = some g := by
  unfold mPow at h
  cases e : mRem [1] m p with
  | none => rw [e] at h; cases h
  | some out =>
    rw [e] at h
    cases e2 : mRem a m p with
    | none => simp only [e2] at h; cases h
    | some bs =>
      simp only [e2] at h
      exact ⟨mPowL_len (mRem_inv e).1 h, out, bs, rfl, rfl, h⟩
theorem mIrrL_step {m pw : List Int} {p : Int} {k : Nat} {b : Bool} (h : mIrrL m p (k + 1) pw = some b) : ∃ pw' g, mPow pw p m p = some pw' ∧ mCommon p 64 m (mSub pw' [0, 1] p) = some g ∧ ((g.length = 1 ∧ mIrrL m p k pw' = some b) ∨ (g.length ≠ 1 ∧ b = false)) := by
  unfold mIrrL at h
  cases e : mPow pw p m p with
  | none => rw [e] at h; cases h
  | some pw' =>
    simp only [e] at h
    cases e2 : mCommon p 64 m (mSub pw' [0, 1] p) with
    | none => simp only [e2] at h; cases h
    | some g =>
      simp only [e2] at h
      refine ⟨pw', g, rfl, e2, ?_⟩
      by_cases h1 : g.length = 1
      · rw [if_pos h1] at h
        exact .inl ⟨h1, h⟩
      · rw [if_neg h1] at h
        exact .inr ⟨h1, (Option.some.inj h).symm⟩
theorem memMul_inv {a b m c : List Int} {p : Int} (h : memMul a b m p = some c) : ∃ d r, mMul (mTrim a p) (mTrim b p) p = some d ∧ mRem d m p = some r ∧ c = memOf r (m.length - 1) := by
  unfold memMul at h
  cases e : mMul (mTrim a p) (mTrim b p) p with
  | none => rw [e] at h; cases h
  | some d =>
    rw [e] at h
    cases e2 : mRem d m p with
    | none => simp only [e2] at h; cases h
    | some r => simp only [e2] at h; exact ⟨d, r, rfl, e2, (Option.some.inj h).symm⟩
theorem invLoop_done {p : Int} {n : Nat} {first second u v : List Int} {r : List Int × List Int} (hs : second.length ≤ 1) (h : invLoop p n first second u v = some r) : r = (second, v) := by
  unfold invLoop at h
  rw [if_pos hs] at h
  exact (Option.some.inj h).symm
theorem invLoop_step {p : Int} {n : Nat} {first second u v : List Int} {r : List Int × List Int} (hs : ¬ second.length ≤ 1) (h : invLoop p n first second u v = some r) : ∃ n' s c, n = n' + 1 ∧ mDiv first second p = some s ∧ mMul s.1 v p = some c ∧ invLoop p n' second s.2 v (mSub u c p) = some r := by
  unfold invLoop at h
  rw [if_neg hs] at h
  cases n with
  | zero => cases h
  | succ n' =>
    cases e : mDiv first second p with
    | none => simp only [e] at h; cases h
    | some s =>
      simp only [e] at h
      cases e2 : mMul s.1 v p with
      | none => simp only [e2] at h; cases h
      | some c => simp only [e2] at h; exact ⟨n', s, c, rfl, rfl, e2, h⟩
theorem mMul_len {a b c : List Int} {p : Int} (h : mMul a b p = some c) : c.length ≤ 200 := by
  obtain ⟨_, ha, hb, rfl⟩ := mMul_inv h
  refine Nat.le_trans (mTrim_len _ _) ?_
  rw [mulOut_len]
  have := okL_len ha
  have := okL_len hb
  omega
theorem memInv_inv {a m c : List Int} {p : Int} (h : memInv a m p = some c) : mTrim a p ≠ [] ∧ ∃ x l v y r, invLoop p 64 m (mTrim a p) [] [1] = some (x :: l, v) ∧ mInvM x p = some y ∧ mMul v [y] p = some r ∧ c = memOf r (m.length - 1) := by
  unfold memInv at h
  by_cases he : (mTrim a p).isEmpty = true
  · rw [if_pos he] at h
    cases h
  · rw [if_neg he] at h
    refine ⟨fun z => he (by rw [z]; rfl), ?_⟩
    cases e : invLoop p 64 m (mTrim a p) [] [1] with
    | none => rw [e] at h; cases h
    | some sv =>
      obtain ⟨sec, v⟩ := sv
      simp only [e] at h
      cases sec with
      | nil => cases h
      | cons x l =>
        simp only at h
        cases e2 : mInvM x p with
        | none => simp only [e2] at h; cases h
        | some y =>
          simp only [e2] at h
          cases e3 : mMul v [y] p with
          | none => simp only [e3] at h; cases h
          | some r =>
            simp only [e3] at h
            exact ⟨x, l, v, y, r, rfl, e2, e3, (Option.some.inj h).symm⟩
end K35
set_option Elab.async false
set_option linter.all false
set_option maxRecDepth 100000
set_option maxHeartbeats 4000000
namespace K35
open PySem PySem.Spec L2
open Fld
/-! ### members at work -/
theorem okP_fx : ∀ i : Fin 6, okP (fx i).p = true := by decide +kernel
theorem len_fx : ∀ i : Fin 6, (fx i).n ≤ 3 ∧ (fx i).m.length = (fx i).n + 1 := by decide +kernel
section
variable {K : PySem.W.Frag} {mg : Str → Option Value} {σ : St} {H : Hp} {i : Fin 6} {ta tb tf : TE} {a b : El i}
theorem ev_fm (T : Tx K mg) (h : Ev ta σ H (dFld K i)) : Ev (tFld K ta "modulus") σ H (dTI (fx i).m) := ev_fld (k := 0) h T.c_Field T.n_Field_modulus rfl rfl
theorem ev_fp (T : Tx K mg) (h : Ev ta σ H (dFld K i)) : Ev (tFld K ta "p") σ H (dI (fx i).p) := ev_fld (k := 1) h T.c_Field T.n_Field_p rfl rfl
theorem ev_fn (T : Tx K mg) (h : Ev ta σ H (dFld K i)) : Ev (tFld K ta "n") σ H (dI ((fx i).n : Int)) := ev_fld (k := 2) h T.c_Field T.n_Field_n rfl rfl
theorem ev_fq (T : Tx K mg) (h : Ev ta σ H (dFld K i)) : Ev (tFld K ta "q") σ H (dI ((qs i : Nat) : Int)) := ev_fld (k := 3) h T.c_Field T.n_Field_q rfl rfl
theorem ev_pf (T : Tx K mg) {l : List (El i)} (h : Ev ta σ H (dPol K l)) : Ev (tFld K ta "field") σ H (dFld K i) := ev_fld (k := 0) h T.c_Poly T.n_Poly_field rfl rfl
theorem ev_pr (T : Tx K mg) {l : List (El i)} (h : Ev ta σ H (dPol K l)) : Ev (tFld K ta "row") σ H (dT (dV l)) := ev_fld (k := 1) h T.c_Poly T.n_Poly_row rfl rfl
theorem ev_rf (T : Tx K mg) {l : List (El i)} (h : Ev ta σ H (dRec K l)) : Ev (tFld K ta "field") σ H (dFld K i) := ev_fld (k := 0) h T.c_Recurrence T.n_Recurrence_field rfl rfl
theorem ev_rm (T : Tx K mg) {l : List (El i)} (h : Ev ta σ H (dRec K l)) : Ev (tFld K ta "multiples") σ H (dT (dV l)) := ev_fld (k := 1) h T.c_Recurrence T.n_Recurrence_multiples rfl rfl
theorem dec_len : (dec a).length ≤ 400 := by
  rw [r_len]
  have := (len_fx i).1
  omega
theorem ev_mz (T : Tx K mg) (h : Ev tf σ H (dFld K i)) : Ev (tCall (spP S_f_member_of) [] E0 (tCons (tTup tNil) (tCons (tFld K tf "n") tNil))) σ H (dM (zero : El i)) := by
  have := (len_fx i).1
  have z := ev_call (S := S_f_member_of) (r := dTI (memOf [] (fx i).n)) (ea_cons (ev_tup (rs := []) (ea_nil (σ := σ) (H := H))) (ea_cons (ev_fn T h) ea_nil)) fun H1 => ⟨[], (fx i).n, by decide, by omega, rfl, rfl⟩
  rw [r_zero0] at z
  exact z
theorem ev_ms (T : Tx K mg) (h1 : Ev ta σ H (dM a)) (h2 : Ev tb σ H (dM b)) (h : Ev tf σ H (dFld K i)) : Ev (tCall (spP S_f_member_sum) [] E0 (tCons ta (tCons tb (tCons (tFld K tf "p") tNil)))) σ H (dM (add a b)) :=
  (ev_call (S := S_f_member_sum) (ea_cons h1 (ea_cons h2 (ea_cons (ev_fp T h) ea_nil))) fun H1 => ⟨_, _, _, okP_fx i, dec_len, by rw [r_len, r_len], rfl, rfl⟩).eq (by rw [r_sum]; rfl)
theorem ev_mn (T : Tx K mg) (h1 : Ev ta σ H (dM a)) (h : Ev tf σ H (dFld K i)) : Ev (tCall (spP S_f_member_negative) [] E0 (tCons ta (tCons (tFld K tf "p") tNil))) σ H (dM (neg a)) :=
  (ev_call (S := S_f_member_negative) (ea_cons h1 (ea_cons (ev_fp T h) ea_nil)) fun H1 => ⟨_, _, okP_fx i, dec_len, rfl, rfl⟩).eq (by rw [r_neg]; rfl)
theorem ev_mp (T : Tx K mg) (h1 : Ev ta σ H (dM a)) (h2 : Ev tb σ H (dM b)) (h : Ev tf σ H (dFld K i)) : Ev (tCall (spP S_f_member_product) [] E0 (tCons ta (tCons tb (tCons (tFld K tf "modulus") (tCons (tFld K tf "p") tNil))))) σ H (dM (mul a b)) :=
  ev_call (S := S_f_member_product) (ea_cons h1 (ea_cons h2 (ea_cons (ev_fm T h) (ea_cons (ev_fp T h) ea_nil)))) fun H1 => ⟨_, _, _, _, _, r_mul i a b, dec_len, dec_len, rfl, rfl⟩
theorem ev_mi (T : Tx K mg) (h0 : a ≠ zero) (h1 : Ev ta σ H (dM a)) (h : Ev tf σ H (dFld K i)) : Ev (tCall (spP S_f_member_inverse) [] E0 (tCons ta (tCons (tFld K tf "modulus") (tCons (tFld K tf "p") tNil)))) σ H (dM (inv a)) := by
  have := len_fx i
  exact ev_call (S := S_f_member_inverse) (ea_cons h1 (ea_cons (ev_fm T h) (ea_cons (ev_fp T h) ea_nil))) fun H1 => ⟨_, _, _, _, r_inv i a h0, dec_len, by omega, by omega, okP_fx i, rfl, rfl⟩
/-! the field's own methods -/
theorem ev_F0 (h : Ev tf σ H (dFld K i)) : Ev (tMeth (cF K) "zero" (spP (S_m_Field_zero K)) [] E0 tf tNil) σ H (dM (zero : El i)) := ev_met h ea_nil (by decide) fun H1 => ⟨i, rfl, rfl⟩
theorem ev_F1 (h : Ev tf σ H (dFld K i)) : Ev (tMeth (cF K) "one" (spP (S_m_Field_one K)) [] E0 tf tNil) σ H (dM (one : El i)) := ev_met h ea_nil (by decide) fun H1 => ⟨i, rfl, rfl⟩
theorem ev_Fa (h : Ev tf σ H (dFld K i)) (h1 : Ev ta σ H (dM a)) (h2 : Ev tb σ H (dM b)) : Ev (tMeth (cF K) "add" (spP (S_m_Field_add K)) [] E0 tf (tCons ta (tCons tb tNil))) σ H (dM (add a b)) := ev_met h (ea_cons h1 (ea_cons h2 ea_nil)) (by decide) fun H1 => ⟨i, a, b, rfl, rfl⟩
theorem ev_Fm (h : Ev tf σ H (dFld K i)) (h1 : Ev ta σ H (dM a)) (h2 : Ev tb σ H (dM b)) : Ev (tMeth (cF K) "multiply" (spP (S_m_Field_multiply K)) [] E0 tf (tCons ta (tCons tb tNil))) σ H (dM (mul a b)) := ev_met h (ea_cons h1 (ea_cons h2 ea_nil)) (by decide) fun H1 => ⟨i, a, b, rfl, rfl⟩
theorem ev_Fg (h : Ev tf σ H (dFld K i)) (h1 : Ev ta σ H (dM a)) : Ev (tMeth (cF K) "negative" (spP (S_m_Field_negative K)) [] E0 tf (tCons ta tNil)) σ H (dM (neg a)) := ev_met h (ea_cons h1 ea_nil) (by decide) fun H1 => ⟨i, a, rfl, rfl⟩
theorem ev_Fi (h : Ev tf σ H (dFld K i)) (h0 : a ≠ zero) (h1 : Ev ta σ H (dM a)) : Ev (tMeth (cF K) "inverse" (spP (S_m_Field_inverse K)) [] E0 tf (tCons ta tNil)) σ H (dM (inv a)) := ev_met h (ea_cons h1 ea_nil) (by decide) fun H1 => ⟨i, a, h0, rfl, rfl⟩
theorem ev_Fs (h : Ev tf σ H (dFld K i)) (h1 : Ev ta σ H (dM a)) (h2 : Ev tb σ H (dM b)) : Ev (tCall (spP (S_f_subtract K)) [] E0 (tCons tf (tCons ta (tCons tb tNil)))) σ H (dM (add a (neg b))) := ev_call (ea_cons h (ea_cons h1 (ea_cons h2 ea_nil))) fun H1 => ⟨i, a, b, rfl, rfl⟩
theorem dec_eq : decide (dec a = dec b) = decide (a = b) := by
  by_cases h : a = b
  · subst h
    simp
  · rw [decide_eq_false h, decide_eq_false fun z => h (r_inj i a b z)]
theorem ev_eqM (h1 : Ev ta σ H (dM a)) (h2 : Ev tb σ H (dM b)) : Ev (tOp (rEqD K) ta tb) σ H (dB (decide (a = b))) := (ev_eqT h1 h2).eq (by rw [dec_eq])
theorem ev_neM (h1 : Ev ta σ H (dM a)) (h2 : Ev tb σ H (dM b)) : Ev (tOp (rNeD K) ta tb) σ H (dB (!decide (a = b))) := (ev_neT h1 h2).eq (by rw [dec_eq])
end
section
variable {K : PySem.W.Frag} {mg : Str → Option Value} {σ : St} {H : Hp} {i : Fin 6} {te ti : TE}
/-- an item of a row -/
theorem ev_atM {l : List (El i)} {j : Nat} {n : Int} {r : Dn} [Mono r] [SeqD r (dV l)] (h1 : Ev te σ H r) (h2 : Ev ti σ H (dI n)) (hn : n = (j : Int)) (hj : j < l.length) : Ev (tOp (rIx K) te ti) σ H (dM (l.getD j zero)) :=
  ev_ixI h1 h2 hn (dV_get (getD_at hj))
theorem dV_map {A : Type} {f : A → El i} {l : List A} : dV (l.map f) = l.map fun x => dM (f x) := List.map_map ..
theorem dV_rep {n : Nat} {a : El i} : dV (List.replicate n a) = List.replicate n (dM a) := List.map_replicate ..
theorem dV_app {l m : List (El i)} : dV (l ++ m) = dV l ++ dV m := List.map_append ..
theorem dV_take {l : List (El i)} {n : Nat} : (dV l).take n = dV (l.take n) := (List.map_take ..).symm
theorem dV_drop {l : List (El i)} {n : Nat} : (dV l).drop n = dV (l.drop n) := (List.map_drop ..).symm
theorem yAt_V {l : List (El i)} {j : Nat} (h : j < l.length) : yAt (dV l) j = dM (l.getD j zero) := yAt_some (dV_get (getD_at h))
end
/-! ### a new instance gets its attributes -/
/-- known of a value in the heap H0 -/
def dAt (H0 : Hp) (r : Dn) : Dn := fun v _ => r v H0
instance immAt {H0 : Hp} {r : Dn} : Imm (dAt H0 r) := ⟨fun _ _ _ _ h => h⟩
instance toAt {H0 : Hp} {r : Dn} : TupO (dAt H0 r) := ⟨fun _ _ _ _ h => h⟩
instance toApp {rs ss : List Dn} [a : TupOs rs] [b : TupOs ss] : TupOs (rs ++ ss) := ⟨fun q h => by
  rcases List.mem_append.mp h with h | h
  · exact a.m q h
  · exact b.m q h⟩
theorem allsTup {H H' : Hp} {vs : List V} {rs : List Dn} [m : TupOs rs] (e : ∀ a xs, H a = some (.tup xs) → H' a = some (.tup xs)) (al : Alls H vs rs) : Alls H' vs rs := ⟨al.len, fun i v r q1 q2 => (m.m r (List.mem_of_getElem? q2)).m v H H' e (al.get i v r q1 q2)⟩
def InsAt (H : Hp) (x : Addr) (C dx : Addr) (ns : List Str) (rs : List Dn) : Prop := ∃ ws, H x = some (.ins C dx (ns.zip ws)) ∧ Alls H ws rs
section
variable {K : PySem.W.Frag} {σ : St} {H H0 : Hp} {te : TE} {tz : TS} {D : Ends} {x dx C : Addr} {ns : List Str} {rs : List Dn} {r : Dn} {f : Str} {k : Nat}
theorem InsAt.ins (h : InsAt H x C dx ns rs) : dIns C ns rs (.ref x) H := ⟨x, dx, h.choose, rfl, h.choose_spec.1, h.choose_spec.2⟩
theorem InsAt.mono {H' : Hp} [TupOs rs] (h : InsAt H x C dx ns rs) (e : Same H H') : InsAt H' x C dx ns rs := by
  obtain ⟨ws, h1, h2⟩ := h
  exact ⟨ws, e _ _ h1, allsTup (fun a xs h => e _ _ h) h2⟩
theorem ins_put [TupOs rs] [tr : TupO r] {v : V} {H1 : Hp} {ws : List V} (hS : Same H0 H) (hx0 : H0 x = none) (h1 : H x = some (.ins C dx (ns.zip ws))) (h2 : Alls H ws rs) (hl : rs.length = ns.length) (hi : ixOf f ns = none) (e : Same H H1) (d : r v H1) :
    Same H0 (upd H1 x (.ins C dx (putF f v (ns.zip ws)))) ∧ (∀ a xs, H a = some (.tup xs) → (upd H1 x (.ins C dx (putF f v (ns.zip ws)))) a = some (.tup xs)) ∧ InsAt (upd H1 x (.ins C dx (putF f v (ns.zip ws)))) x C dx (ns ++ [f]) (rs ++ [r]) := by
  have kp : ∀ a xs, H1 a = some (.tup xs) → (upd H1 x (.ins C dx (putF f v (ns.zip ws)))) a = some (.tup xs) := fun a xs ha => by
    have ne : a ≠ x := fun z => by
      rw [z, e _ _ h1] at ha
      cases ha
    rw [upd_ne ne]
    exact ha
  refine ⟨same_mut (hS.trans e) hx0, fun a xs ha => kp a xs (e _ _ ha), ws ++ [v], ?_, ?_⟩
  · rw [← put_snoc hi (h2.len.trans hl)]
    exact upd_same
  · exact (allsTup (fun a xs ha => kp a xs (e _ _ ha)) h2).append (alls_cons (tr.m v H1 _ kp d) alls_nil)
theorem q_fldS [TupOs rs] [TupO r] (hv : σ[k]? = some (some (.ref x))) (hS : Same H0 H) (hx0 : H0 x = none) (d : InsAt H x C dx ns rs) (hl : rs.length = ns.length) (hc : Cls K C) (hn : NoAttr K C f) (hi : ixOf f ns = none) (hz : ns.length < 1000) (h : Ev te σ H r)
    (q : ∀ (v : V) (H1 : Hp), Same H0 H1 → (∀ a xs, H a = some (.tup xs) → H1 a = some (.tup xs)) → InsAt H1 x C dx (ns ++ [f]) (rs ++ [r]) → tz D σ H1) : tSeq (sFld K (tVar k) te f) tz D σ H := by
  obtain ⟨ws, h1, h2⟩ := d
  refine q_fld hv h1 hc hn (by rw [List.length_zip, h2.len, hl]; omega) h fun v H1 e d => ?_
  obtain ⟨a1, a2, a3⟩ := ins_put hS hx0 h1 h2 hl hi e d
  exact q v _ a1 a2 a3
theorem s_fldS [TupOs rs] [TupO r] (hv : σ[k]? = some (some (.ref x))) (hS : Same H0 H) (hx0 : H0 x = none) (d : InsAt H x C dx ns rs) (hl : rs.length = ns.length) (hc : Cls K C) (hn : NoAttr K C f) (hi : ixOf f ns = none) (hz : ns.length < 1000) (h : Ev te σ H r)
    (q : ∀ (v : V) (H1 : Hp), Same H0 H1 → (∀ a xs, H a = some (.tup xs) → H1 a = some (.tup xs)) → InsAt H1 x C dx (ns ++ [f]) (rs ++ [r]) → D.nx σ H1) : sFld K (tVar k) te f D σ H := by
  obtain ⟨ws, h1, h2⟩ := d
  refine s_fld hv h1 hc hn (by rw [List.length_zip, h2.len, hl]; omega) h fun v H1 e d => ?_
  obtain ⟨a1, a2, a3⟩ := ins_put hS hx0 h1 h2 hl hi e d
  exact q v _ a1 a2 a3
theorem ins0 (hx : H0 x = none) (hdx : H0 dx = none) : Same H0 (upd (upd H0 dx (.own x)) x (.ins C dx [])) ∧ InsAt (upd (upd H0 dx (.own x)) x (.ins C dx [])) x C dx [] [] :=
  ⟨same_mut (same_new hdx) hx, [], upd_same, alls_nil⟩
end
/-! ### the rules, K by name (within a comprehension) -/
section
variable {X : Cx} {K : PySem.W.Frag}
theorem pe_fldK {e : Expr} {ta : TE} {f : Str} {pos : Pos} (hK : X.K = K) (he : PE X e ta) (hb : attributeBase e f X.env (eval e X.env) = eval e X.env) : PE X (.Attribute e f pos) (tFld K ta f) := hK ▸ pe_fld he hb
theorem ix_seqK (hK : X.K = K) : IxR X (rIx K) := hK ▸ ix_seq
theorem c_lenK (hK : X.K = K) : CallR X (.builtin "len") (pLen K) := hK ▸ c_len
theorem c_listK (hK : X.K = K) : CallR X (.type "list") (pList K) := hK ▸ c_list
theorem c_tupleK (hK : X.K = K) : CallR X (.type "tuple") (pTuple K) := hK ▸ c_tuple
theorem c_slK (hK : X.K = K) : SlR X (pSl K) := hK ▸ c_sl
theorem op_neDK (hK : X.K = K) (h : X.A.units + 64 < cLine) : OpR X (compareOp .NotEq) (rNeD K) := hK ▸ op_neD h
end
end K35
set_option Elab.async false
set_option linter.all false
set_option maxRecDepth 100000
set_option maxHeartbeats 4000000
namespace K35
open PySem PySem.Spec L2
open Fld
/-! ### lists of lists beside a list that changes -/
class Stp (p : Addr) (r : Dn) : Prop where
  m : ∀ v (H : Hp) xs ys, H p = some (.lst xs) → r v H → r v (upd H p (.lst ys))
class Stps (p : Addr) (rs : List Dn) : Prop where
  m : ∀ r ∈ rs, Stp p r
instance stpImm {p : Addr} {r : Dn} [Imm r] : Stp p r := ⟨fun v H xs ys h d => Imm.m v _ _ (le_set h) d⟩
instance stpsMap {p : Addr} {α : Type} {f : α → Dn} {l : List α} [a : ∀ x, Stp p (f x)] : Stps p (l.map f) := ⟨fun q h => by
  obtain ⟨x, _, e⟩ := List.mem_map.mp h
  rw [← e]; exact a x⟩
instance (priority := low) stpsImms {p : Addr} {rs : List Dn} [a : Imms rs] : Stps p rs := ⟨fun r h => @stpImm p r (a.m r h)⟩
theorem Alls.stp {H : Hp} {p : Addr} {vs xs ys : List V} {rs : List Dn} [m : Stps p rs] (hp : H p = some (.lst xs)) (a : Alls H vs rs) : Alls (upd H p (.lst ys)) vs rs :=
  ⟨a.len, fun i v r h1 h2 => (m.m r (List.mem_of_getElem? h2)).m v H xs ys hp (a.get i v r h1 h2)⟩
instance stpAv {p : Addr} {rs : List Dn} [Stps p rs] : Stp p (dAv [p] (dL rs)) := ⟨fun v H xs ys hp d => by
  obtain ⟨⟨a, rfl, na⟩, a', vs, hv, h1, h2⟩ := d
  cases hv
  have ne : a ≠ p := fun z => na (by rw [z]; exact List.mem_singleton.mpr rfl)
  exact ⟨⟨a, rfl, na⟩, a, vs, rfl, by rw [upd_ne ne]; exact h1, h2.stp hp⟩⟩
abbrev dAL {i : Fin 6} (p : Addr) (l : List (El i)) : Dn := dAv [p] (dL (dV l))
abbrev dLL {i : Fin 6} (p : Addr) (rows : List (List (El i))) : Dn := dAv [p] (dL (rows.map fun l => dAL p l))
section
variable {i : Fin 6} {H H' : Hp} {p : Addr} {vs : List V} {rs ss : List Dn} {rows : List (List (El i))} {v : V} {r : Dn}
theorem av_of {o : HO} (hp : H p = some o) (d : dFr H r v H') : dAv [p] r v H' := by
  obtain ⟨⟨a, rfl, ha⟩, d⟩ := d
  refine ⟨⟨a, rfl, fun z => ?_⟩, d⟩
  rw [List.mem_singleton.mp z, hp] at ha
  cases ha
theorem av_new (hp : H p = none) (d : dL rs v H) : dAv [p] (dL rs) v H := by
  obtain ⟨a, vs, rfl, h1, h2⟩ := d
  refine ⟨⟨a, rfl, fun z => ?_⟩, a, vs, rfl, h1, h2⟩
  rw [List.mem_singleton.mp z, hp] at h1
  cases h1
theorem alls_conv {α : Type} {f g : α → Dn} {l : List α} (h : ∀ x v, f x v H → g x v H') (a : Alls H vs (l.map f)) : Alls H' vs (l.map g) :=
  ⟨by rw [a.len, List.length_map, List.length_map], fun k v r h1 h2 => by
    obtain ⟨c, hc, rfl⟩ := map_inv h2
    exact h c v (a.get k v (f c) h1 (by rw [List.getElem?_map, hc]; rfl))⟩
theorem alls_app_inv (a : Alls H vs (rs ++ ss)) : ∃ us ws, vs = us ++ ws ∧ Alls H us rs ∧ Alls H ws ss := by
  have h1 := a.take rs.length
  have h2 := a.drop rs.length
  rw [List.take_left' rfl] at h1
  rw [List.drop_left' rfl] at h2
  exact ⟨_, _, (List.take_append_drop rs.length vs).symm, h1, h2⟩
theorem ll_of {o : HO} (hp : H p = some o) (d : dFr H (dL ((rows.map dV).map fun l => dFr H (dL l))) v H') : dLL p rows v H' := by
  obtain ⟨f, a, vs, rfl, h1, h2⟩ := d
  rw [List.map_map] at h2
  exact av_of hp ⟨f, a, vs, rfl, h1, alls_conv (fun x v d => av_of hp d) h2⟩
theorem ll_new (hp : H p = none) (d : dL (rows.map fun l => dL (dV l)) v H) : dLL p rows v H := by
  obtain ⟨a, vs, rfl, h1, h2⟩ := d
  exact av_new hp ⟨a, vs, rfl, h1, alls_conv (fun x v d => av_new hp d) h2⟩
theorem map_getD {F : Type} {g : List F → Dn} {ls : List (List F)} {k : Nat} (h : k < ls.length) : (ls.map g)[k]? = some (g (ls.getD k [])) := by
  rw [List.getElem?_map, getD_at (z := []) h]
  rfl
theorem mem_getD {F : Type} {ls : List (List F)} {k : Nat} (h : k < ls.length) : ls.getD k [] ∈ ls := List.mem_of_getElem? (getD_at (z := []) h)
theorem dNs_app {a b : List Nat} : dNs (a ++ b) = dNs a ++ dNs b := List.map_append ..
theorem dNs_len {a : List Nat} : (dNs a).length = a.length := List.length_map ..
end
section
variable {F : Type} [Fld F] {rows : List (List F)} {w : Nat}
theorem fred_succ {n : Nat} : fred rows (n + 1) = redStep (fred rows n) n := by
  unfold fred
  rw [List.range_succ, List.foldl_append]
  rfl
theorem redStep_nil {s : Red F} {n : Nat} (h : pick s.rest n = []) : redStep s n = s := by
  unfold redStep
  rw [h]
theorem redStep_cons {s : Red F} {n k : Nat} {ks : List Nat} (h : pick s.rest n = k :: ks) : redStep s n = ⟨(s.rest.take k ++ s.rest.drop (k + 1)).map fun row => fclear row (lead (s.rest.getD k []) n) n, (s.done.map fun row => fclear row (lead (s.rest.getD k []) n) n) ++ [lead (s.rest.getD k []) n], s.piv ++ [n]⟩ := by
  unfold redStep
  rw [h]
theorem pick_mem {rest : List (List F)} {n k : Nat} {ks : List Nat} (h : pick rest n = k :: ks) : k < rest.length ∧ (rest.getD k []).getD n zero ≠ zero := by
  have hm : k ∈ pick rest n := by rw [h]; exact List.mem_cons_self
  unfold pick at hm
  rw [List.mem_filter, List.mem_range] at hm
  exact ⟨hm.1, fun z => by rw [decide_eq_true z] at hm; exact absurd hm.2 (by decide)⟩
theorem lead_len (row : List F) (n : Nat) : (lead row n).length = row.length := List.length_map ..
theorem fclear_len {row ld : List F} {n : Nat} (h : row.length = w) (h2 : ld.length = w) : (fclear row ld n).length = w := by
  unfold fclear
  rw [List.length_zipWith, h, h2, Nat.min_self]
structure RedOk (rows : List (List F)) (w n : Nat) (s : Red F) : Prop where
  rl : ∀ row ∈ s.rest, row.length = w
  dl : ∀ row ∈ s.done, row.length = w
  ct : s.rest.length + s.done.length = rows.length
  dp : s.done.length = s.piv.length
  pn : ∀ q ∈ s.piv, q < n
theorem red_ok (hr : ∀ row ∈ rows, row.length = w) : ∀ n, RedOk rows w n (fred rows n)
  | 0 => ⟨hr, fun _ h => (by cases h), rfl, rfl, fun _ h => (by cases h)⟩
  | n + 1 => by
    have ih := red_ok hr n
    rw [fred_succ]
    cases hp : pick (fred rows n).rest n with
    | nil =>
      rw [redStep_nil hp]
      exact ⟨ih.rl, ih.dl, ih.ct, ih.dp, fun q h => Nat.lt_succ_of_lt (ih.pn q h)⟩
    | cons k ks =>
      rw [redStep_cons hp]
      obtain ⟨hk, _⟩ := pick_mem hp
      have ll : (lead ((fred rows n).rest.getD k []) n).length = w := by rw [lead_len]; exact ih.rl _ (mem_getD hk)
      refine ⟨fun row h => ?_, fun row h => ?_, ?_, ?_, fun q h => ?_⟩
      · obtain ⟨x, hx, rfl⟩ := List.mem_map.mp h
        refine fclear_len (ih.rl x ?_) ll
        rcases List.mem_append.mp hx with hx | hx
        · exact List.mem_of_mem_take hx
        · exact List.mem_of_mem_drop hx
      · rcases List.mem_append.mp h with h | h
        · obtain ⟨x, hx, rfl⟩ := List.mem_map.mp h
          exact fclear_len (ih.dl x hx) ll
        · rw [List.mem_singleton.mp h]
          exact ll
      · have := ih.ct
        show (List.map _ _).length + (List.map _ _ ++ [_]).length = _
        rw [List.length_map, List.length_append, List.length_append, List.length_map, List.length_take, List.length_drop, List.length_singleton]
        omega
      · have := ih.dp
        show (List.map _ _ ++ [_]).length = (_ ++ [_]).length
        rw [List.length_append, List.length_append, List.length_map, List.length_singleton, List.length_singleton, this]
      · rcases List.mem_append.mp h with h | h
        · exact Nat.lt_succ_of_lt (ih.pn q h)
        · rw [List.mem_singleton.mp h]
          exact Nat.lt_succ_self n
end
end K35
namespace K35
open PySem PySem.Spec L2
open Fld
section
variable {K : PySem.W.Frag} {σ : St} {H : Hp} {ta tb : TE} {r : Dn} {l : List Nat} {k : Nat}
theorem inV_nat {H : Hp} : ∀ {vs : List V} {l : List Nat}, Alls H vs (dNs l) → inV (.int (k : Int)) vs = decide (k ∈ l) ∧ vs.all flatV = true := by
  intro vs l
  induction l generalizing vs with
  | nil =>
    intro a
    rw [a.nil_inv]
    exact ⟨rfl, rfl⟩
  | cons x l ih =>
    intro a
    obtain ⟨v, ws, rfl, h1, h2⟩ := Alls.cons_inv (r := dI (x : Int)) (rs := dNs l) a
    have ev : v = .int (x : Int) := h1
    subst ev
    obtain ⟨i1, i2⟩ := ih h2
    refine ⟨?_, ?_⟩
    · unfold inV at i1 ⊢
      rw [List.any_cons, i1]
      show (decide ((x : Int) = (k : Int)) || decide (k ∈ l)) = decide (k ∈ x :: l)
      by_cases hx : x = k
      · subst hx
        simp
      · have h3 : ¬ (x : Int) = (k : Int) := fun z => hx (by omega)
        rw [decide_eq_false h3, Bool.false_or]
        simp [Ne.symm hx]
    · rw [List.all_cons, i2]
      rfl
theorem ev_in [s : SeqD r (dNs l)] (ha : Ev ta σ H (dI (k : Int))) (hb : Ev tb σ H r) : Ev (tOp (rIn K false) ta tb) σ H (dB (decide (k ∈ l))) :=
  ev_op ha hb fun x y H1 e dx dy Q q => by
    obtain ⟨p, ys, rfl, hp, a⟩ := s.to y H1 dy
    obtain ⟨h1, h2⟩ := inV_nat (k := k) a
    have ex : x = .int (k : Int) := dx
    subst ex
    exact ⟨p, ys, rfl, sq_or hp, rfl, h2, q _ H1 (Same.refl H1) (by show V.bl _ = V.bl _; rw [h1]; rfl)⟩
end
section
variable {F : Type} [Fld F]
def fvecN (done : List (List F)) (piv : List Nat) (width n : Nat) : List F := ((done.zip piv).take n).foldl (fun v x => v.set x.2 (x.1.getD width zero)) (List.replicate width zero)
theorem fvecN_succ {done : List (List F)} {piv : List Nat} {width n : Nat} (h1 : n < done.length) (h2 : n < piv.length) : fvecN done piv width (n + 1) = (fvecN done piv width n).set (piv.getD n 0) ((done.getD n []).getD width zero) := by
  have hz : (List.zip done piv)[n]? = some (done.getD n [], piv.getD n 0) := List.getElem?_zip_eq_some.mpr ⟨getD_at h1, getD_at h2⟩
  unfold fvecN
  rw [List.take_add_one, hz, Option.toList_some, List.foldl_append]
  rfl
theorem fvecN_len {done : List (List F)} {piv : List Nat} {width n : Nat} : (fvecN done piv width n).length = width := by
  unfold fvecN
  generalize (done.zip piv).take n = l
  suffices h : ∀ v : List F, v.length = width → (l.foldl (fun v x => v.set x.2 (x.1.getD width zero)) v).length = width from h _ (List.length_replicate ..)
  induction l with
  | nil => exact fun v h => h
  | cons x l ih => exact fun v h => ih _ (by rw [List.length_set]; exact h)
theorem fvecN_all {done : List (List F)} {piv : List Nat} {width n : Nat} (h : min done.length piv.length ≤ n) : fvecN done piv width n = fvec done piv width := by
  unfold fvecN fvec
  rw [List.take_of_length_le (by rw [List.length_zip]; exact h)]
end
def fdotN {F : Type} [Fld F] (a b : List F) (n : Nat) : F := ((List.zip a b).take n).foldl (fun t x => add t (mul x.1 x.2)) zero
theorem fdotN_succ {F : Type} [Fld F] {a b : List F} {n : Nat} (h1 : n < a.length) (h2 : n < b.length) : fdotN a b (n + 1) = add (fdotN a b n) (mul (a.getD n zero) (b.getD n zero)) := by
  have hz : (List.zip a b)[n]? = some (a.getD n zero, b.getD n zero) := List.getElem?_zip_eq_some.mpr ⟨getD_at h1, getD_at h2⟩
  unfold fdotN
  rw [List.take_add_one, hz, Option.toList_some, List.foldl_append]
  rfl
theorem fdotN_all {F : Type} [Fld F] {a b : List F} {n : Nat} (h : min a.length b.length ≤ n) : fdotN a b n = fdot a b := by
  unfold fdotN fdot
  rw [List.take_of_length_le (by rw [List.length_zip]; exact h)]
theorem getD_drop {F : Type} {l : List F} {s n : Nat} {z : F} : (l.drop s).getD n z = l.getD (s + n) z := by
  rw [List.getD_eq_getElem?_getD, List.getD_eq_getElem?_getD, List.getElem?_drop]
theorem lsum_succ {F : Type} [Fld F] {row terms : List F} {k n : Nat} : lsum row terms k (n + 1) = add (lsum row terms k n) (mul (row.getD n zero) (terms.getD (k + n) zero)) := by
  unfold lsum
  rw [List.range_succ, List.foldl_append]
  rfl
theorem findSome_hit {A : Type} {f : Nat → Option A} {n j : Nat} {c : A} (h0 : ∀ k, k < j → f k = none) (hj : f j = some c) (hn : j < n) : (List.range n).findSome? f = some c := by
  induction n with
  | zero => cases hn
  | succ n ih =>
    rw [List.range_succ, List.findSome?_append]
    by_cases h : j < n
    · rw [ih h]
      rfl
    · have e : j = n := by omega
      subst e
      have : (List.range j).findSome? f = none := List.findSome?_eq_none_iff.mpr fun x hx => h0 x (List.mem_range.mp hx)
      rw [this]
      show List.findSome? f [j] = some c
      rw [List.findSome?_cons, hj]
section
variable {σ : St} {H : Hp} {ta : TE} {rs ss : List Dn} {C : Addr} {ns : List Str} {m : Str} {S : Hp → List Dn → Dn → Prop} {tA : TA}
/-- a method that hands back a new list -/
theorem ev_metF {r0 : Dn} [Imms rs] (h0 : Ev ta σ H (dIns C ns rs)) (h : EvA tA σ H ss) (hm : ixOf m ns = none) (hs : ∀ H1, S H1 (dIns C ns rs :: ss) (dFr H1 r0)) : Ev (tMeth C m (spP S) [] E0 ta tA) σ H (dFr H r0) := fun H1 e Q q => h0 H1 e _ fun v H2 e2 d => by
  obtain ⟨a, dx, ws, rfl, h1, h2⟩ := id d
  refine ⟨a, dx, _, rfl, h1, look_no hm, h H2 (e.trans e2) _ fun vs H3 e3 al => ⟨_, _, hs H3, ?_, fun v H4 e4 dv => q v H4 ((e2.trans e3).trans e4) ⟨let ⟨a, hv, ha⟩ := dv.1; ⟨a, hv, ((e.trans e2).trans e3).free ha⟩, dv.2⟩⟩⟩
  rw [List.append_nil]
  exact alls_cons (Mono.m _ _ _ e3 d) al
end
end K35
set_option Elab.async false
set_option linter.all false
set_option maxRecDepth 100000
set_option maxHeartbeats 4000000
namespace K35
open PySem PySem.Spec L2
/-! ### the drawer: a list of two ints that each draw changes -/
def St2 (st : Addr) (H : Hp) : Prop := ∃ s t : Int, H st = some (.lst [.int s, .int t])
structure Kp (st : Addr) (H H' : Hp) : Prop where
  kp : ∀ a o, a ≠ st → H a = some o → H' a = some o
  s2 : St2 st H'
def dLt (m : Int) : Dn := fun v _ => ∃ n : Nat, (n : Int) < m ∧ v = .int n
instance immLt {m : Int} : Imm (dLt m) := ⟨fun _ _ _ _ h => h⟩
def dElt (i : Fin 6) : Dn := fun v H => ∃ x : El i, dM x v H
instance immElt {i : Fin 6} : Imm (dElt i) := ⟨fun v H H' e h => let ⟨x, d⟩ := h; ⟨x, Imm.m v H H' e d⟩⟩
def dLn (P : Nat → Prop) (i : Fin 6) : Dn := fun v H => ∃ l : List (El i), P l.length ∧ dL (dV l) v H
def dTn (P : Nat → Prop) (i : Fin 6) : Dn := fun v H => ∃ l : List (El i), P l.length ∧ dT (dV l) v H
def dPn (K : PySem.W.Frag) (P : Nat → Prop) (i : Fin 6) : Dn := fun v H => ∃ l : List (El i), P l.length ∧ dPol K (ftrim l) v H
def dNP (P : Nat → Prop) : Dn := fun v _ => ∃ n : Nat, P n ∧ v = .int n
/-- the promises -/
def spTake : Sp := fun vs H Q _ => ∃ st m, vs = [.ref st, .int m] ∧ 0 < m ∧ m ≤ 1000 ∧ St2 st H ∧ ∀ n : Nat, (n : Int) < m → ∀ H1, Kp st H H1 → Q (.int n) H1
def spFld (K : PySem.W.Frag) : Sp := fun vs H Q _ => ∃ st, vs = [.ref st] ∧ St2 st H ∧ ∀ (i : Fin 6) v H1, Kp st H H1 → dFld K i v H1 → Q v H1
def spDrawn (K : PySem.W.Frag) : Sp := fun vs H Q _ => ∃ st fv i, vs = [.ref st, fv] ∧ St2 st H ∧ dFld K i fv H ∧ ∀ v H1, Kp st H H1 → dElt i v H1 → Q v H1
def dScr (K : PySem.W.Frag) (ns : List Int) : Dn := fun v H => ∃ a, v = .ref a ∧ SqL K H a (ns.map V.int)
theorem sqL_same {K : PySem.W.Frag} {H H' : Hp} {a : Addr} {xs : List V} (h : SqL K H a xs) (e : Same H H') : SqL K H' a xs :=
  h.elim (fun h => .inl (h.elim (fun h => .inl (e _ _ h)) fun ⟨o, h⟩ => .inr ⟨o, e _ _ h⟩)) fun h => .inr h
instance monoScr {K : PySem.W.Frag} {ns : List Int} : Mono (dScr K ns) := ⟨fun v H H' e h => let ⟨a, hv, s⟩ := h; ⟨a, hv, sqL_same s e⟩⟩
def dSt : Dn := fun v H => ∃ p, v = .ref p ∧ St2 p H
def S_f_law_state (K : PySem.W.Frag) : Hp → List Dn → Dn → Prop := fun _ rs r => ∃ ns : List Int, rs = [dScr K ns] ∧ r = dSt
def spLaw (K : PySem.W.Frag) : Sp := fun vs H Q _ => ∃ v ns, vs = [v] ∧ ns.length ≤ 63 ∧ dScr K ns v H ∧ ∀ H1, Q (.bl true) H1
section
variable {K : PySem.W.Frag} {st : Addr} {H H' H'' : Hp} {r : Dn} {v : V} {p : Addr}
theorem St2.same (h : St2 st H) (e : Same H H') : St2 st H' := let ⟨s, t, x⟩ := h; ⟨s, t, e _ _ x⟩
theorem Kp.refl (h : St2 st H) : Kp st H H := ⟨fun _ _ _ x => x, h⟩
theorem Kp.trans (a : Kp st H H') (b : Kp st H' H'') : Kp st H H'' := ⟨fun x o n h => b.kp x o n (a.kp x o n h), b.s2⟩
theorem kp_same (h : St2 st H) (e : Same H H') : Kp st H H' := ⟨fun a o _ x => e a o x, h.same e⟩
theorem Kp.le (h : St2 st H) (k : Kp st H H') : Le H H' := fun a o n x => by
  refine k.kp a o (fun z => ?_) x
  obtain ⟨s, t, e⟩ := h
  rw [z, e] at x
  cases x
  cases n
theorem Kp.imm [Imm r] (h : St2 st H) (k : Kp st H H') (d : r v H) : r v H' := Imm.m v H H' (k.le h) d
theorem Kp.free (h : St2 st H) (k : Kp st H H') (hp : H' p = none) : H p = none := by
  cases e : H p with
  | none => rfl
  | some o =>
    by_cases z : p = st
    · obtain ⟨s, t, q⟩ := k.s2
      rw [z, q] at hp
      cases hp
    · rw [k.kp p o z e] at hp
      cases hp
theorem kp_set {s t : Int} (hH : St2 st H) (e : Same H H') : Kp st H (upd H' st (.lst [.int s, .int t])) := ⟨fun a o n x => by rw [upd_ne n]; exact e a o x, s, t, upd_same⟩
theorem kp_new {o : HO} (h : Kp st H H') (hp : H' p = none) : Kp st H (upd H' p o) := by
  have ne : st ≠ p := fun z => by
    obtain ⟨s, t, q⟩ := h.s2
    rw [z, hp] at q
    cases q
  refine ⟨fun a u n x => ?_, ?_⟩
  · have := h.kp a u n x
    exact same_new hp a u this
  · obtain ⟨s, t, q⟩ := h.s2
    exact ⟨s, t, by rw [upd_ne ne]; exact q⟩
end
/-! ### evaluation that draws -/
def EvS (st : Addr) (te : TE) (σ : St) (H : Hp) (r : Dn) : Prop := ∀ H1, Kp st H H1 → ∀ Q : VK, (∀ v H2, Kp st H1 H2 → r v H2 → Q v H2) → te σ H1 Q
def EvBS (st : Addr) (t : TT) (σ : St) (H : Hp) : Prop := ∀ H1, Kp st H H1 → ∀ Q : Bool → Hp → Prop, (∀ b H2, Kp st H1 H2 → Q b H2) → t σ H1 Q
section
variable {K : PySem.W.Frag} {st : Addr} {σ : St} {H H' : Hp} {ta tb te tf tm tn : TE} {t : TT} {r ra : Dn} {i : Fin 6} {D : Ends} {tz tu tw : TS} {P P' : Nat → Prop} {k : Nat} {m : Int}
theorem es_of (h : ∀ H1, Kp st H H1 → Ev te σ H1 r) : EvS st te σ H r := fun H1 e Q q => h H1 e H1 (Same.refl H1) Q fun v H2 e2 d => q v H2 (kp_same e.s2 e2) d
theorem EvS.to (h : EvS st te σ H ra) (f : ∀ v H1, ra v H1 → r v H1) : EvS st te σ H r := fun H1 e Q q => h H1 e Q fun v H2 e2 d => q v H2 e2 (f v H2 d)
theorem q_asgS {k : Nat} (s : St2 st H) (h : EvS st te σ H r) (q : ∀ v H1, Kp st H H1 → r v H1 → tz D (σ.set k (some v)) H1) : tSeq (tAsg te (gName k)) tz D σ H := h H (Kp.refl s) _ fun v H1 e d => q v H1 e d
theorem s_asgS {k : Nat} (s : St2 st H) (h : EvS st te σ H r) (q : ∀ v H1, Kp st H H1 → r v H1 → D.nx (σ.set k (some v)) H1) : tAsg te (gName k) D σ H := h H (Kp.refl s) _ fun v H1 e d => q v H1 e d
theorem q_ifS (s : St2 st H) (h : EvBS st t σ H) (h1 : ∀ H1, Kp st H H1 → tu { D with nx := tz D } σ H1) (h2 : ∀ H1, Kp st H H1 → tw { D with nx := tz D } σ H1) : tSeq (tIfS t tu tw) tz D σ H := h H (Kp.refl s) _ fun b H1 e => by
  cases b with
  | true =>
    show tu { D with nx := tz D } σ H1
    exact h1 H1 e
  | false =>
    show tw { D with nx := tz D } σ H1
    exact h2 H1 e
theorem es_take (hs : σ[k]? = some (some (.ref st))) (h0 : 0 < m) (h1 : m ≤ 1000) (hm : ∀ H1, Kp st H H1 → Ev tm σ H1 (dI m)) : EvS st (tCall spTake [] E0 (tCons (tVar k) (tCons tm tNil))) σ H (dLt m) := fun H1 e Q q =>
  ⟨.ref st, hs, hm H1 e H1 (Same.refl H1) _ fun v H2 e2 d => ⟨st, m, by rw [show v = .int m from d]; rfl, h0, h1, e.s2.same e2, fun n hn H3 e3 => q _ H3 ((kp_same e.s2 e2).trans e3) ⟨n, hn, rfl⟩⟩⟩
theorem es_drawn (hs : σ[k]? = some (some (.ref st))) (hf : ∀ H1, Kp st H H1 → Ev tf σ H1 (dFld K i)) : EvS st (tCall (spDrawn K) [] E0 (tCons (tVar k) (tCons tf tNil))) σ H (dElt i) := fun H1 e Q q =>
  ⟨.ref st, hs, hf H1 e H1 (Same.refl H1) _ fun v H2 e2 d => ⟨st, v, i, rfl, e.s2.same e2, d, fun w H3 e3 d3 => q w H3 ((kp_same e.s2 e2).trans e3) d3⟩⟩
theorem es_eq0 (h : EvS st ta σ H (dLt m)) : EvBS st (tTest (tOp rEq ta (tC (.int 0)))) σ H := fun H1 e Q q => h H1 e _ fun v H2 e2 d => by
  obtain ⟨n, hn, rfl⟩ := d
  exact ⟨rfl, _, rfl, q _ H2 e2⟩
theorem dLn_of {n : Nat} : ∀ {vs : List V}, Alls H vs (List.replicate n (dElt i)) → ∃ l : List (El i), l.length = n ∧ Alls H vs (dV l) := by
  induction n with
  | zero => exact fun {vs} a => ⟨[], rfl, a⟩
  | succ n ih =>
    intro vs a
    rw [List.replicate_succ] at a
    obtain ⟨v, ws, rfl, ⟨x, d⟩, a⟩ := a.cons_inv
    obtain ⟨l, hl, a⟩ := ih a
    exact ⟨x :: l, by rw [List.length_cons, hl], alls_cons d a⟩
/-- [.. for _ in range(n)], drawing -/
theorem es_lc {vs : List Nat} (hn : EvS st tn σ H (dNP P)) (hP : ∀ n, P n → n ≤ 1000) (hw : ∀ x, wipe ((wipe σ vs).set k (some x)) vs = wipe σ vs)
    (he : ∀ v H1, Kp st H H1 → EvS st te ((wipe σ vs).set k (some v)) H1 (dElt i)) : EvS st (tLc (iRng1 (tCons tn tNil)) (gName k) tYes te vs) σ H (dLn P i) := fun H1 e1 Q q => hn H1 e1 _ fun v H2 e2 d => by
  obtain ⟨n, hPn, rfl⟩ := d
  have hn2 := hP n hPn
  refine ⟨(n : Int), rfl, by omega, by omega, ?_⟩
  rw [Int.toNat_natCast]
  intro C hC
  refine ⟨fun j m H' => m = n - j ∧ j ≤ n ∧ Kp st H1 H' ∧ ∃ acc, H' C = some (.lst acc) ∧ Alls H' acc (List.replicate j (dElt i)), ⟨n, rfl, Nat.zero_le _, kp_new e2 hC, [], upd_same, alls_nil⟩, ?_⟩
  rintro j m H' ⟨rfl, hj, kp, acc, hacc, al⟩
  have hneC : C ≠ st := fun z => by
    obtain ⟨s, t, q0⟩ := e2.s2
    rw [← z, hC] at q0
    cases q0
  by_cases hlt : j < n
  · refine .inr ⟨hlt, fun H'' => Kp st H1 H'' ∧ ∃ acc, H'' C = some (.lst acc) ∧ Alls H'' acc (List.replicate (j + 1) (dElt i)), fun H'' p => ⟨n - (j + 1), by omega, rfl, hlt, p⟩, fun x H'' y => ?_⟩
    obtain ⟨rfl, y2⟩ := y
    show wipe ((wipe σ vs).set k (some x)) vs = wipe σ vs ∧ te ((wipe σ vs).set k (some x)) H'' _
    refine ⟨hw _, he x H'' (e1.trans kp) H'' (Kp.refl kp.s2) _ fun w H3 e3 d3 => ?_⟩
    have hacc3 := e3.kp C _ hneC hacc
    have L3 := e3.le kp.s2
    have hl : acc.length = j := by rw [al.len, List.length_replicate]
    refine ⟨acc, hacc3, sz_lt (by omega), ⟨fun a o n x => ?_, ?_⟩, acc ++ [w], upd_same, ?_⟩
    · have z := (kp.trans e3).kp a o n x
      by_cases ha : a = C
      · rw [ha] at x
        have hC1 : H1 C = none := e2.free e1.s2 hC
        rw [hC1] at x
        cases x
      · rw [upd_ne ha]
        exact z
    · obtain ⟨s, t, q0⟩ := e3.s2
      exact ⟨s, t, by rw [upd_ne (Ne.symm hneC)]; exact q0⟩
    · rw [List.replicate_succ', ]
      exact (al.imm (le_trans L3 (le_set hacc3))).append (alls_cons (Imm.m _ _ _ (le_set hacc3) d3) alls_nil)
  · have ej : j = n := by omega
    subst ej
    obtain ⟨l, hl, a⟩ := dLn_of al
    exact .inl ⟨Nat.le_refl _, q _ H' kp ⟨l, by rw [hl]; exact hPn, C, acc, rfl, hacc, a⟩⟩
theorem es_tuple (h : EvS st te σ H (dLn P i)) : EvS st (tCB (pTuple K) (tCons te tNil)) σ H (dTn P i) := fun H1 e Q q => h H1 e _ fun v H2 e2 d => by
  obtain ⟨l, hl, p, ys, rfl, hp, a⟩ := d
  exact ⟨p, ys, rfl, .inl ⟨SqL.of hp, fun l' hl' => q _ _ (kp_new e2 hl') ⟨l, hl, l', ys, rfl, upd_same, a.mono (same_new hl')⟩⟩⟩
theorem es_poly (hP : ∀ n, P n → n ≤ 1000) (hf : ∀ H1, Kp st H H1 → Ev tf σ H1 (dFld K i)) (h : EvS st te σ H (dLn P i)) : EvS st (tMake (cP K) (spI (cP K) (S_m_Poly_init K)) [] E0 (tCons tf (tCons te tNil))) σ H (dPn K P i) := fun H1 e Q q =>
  hf H1 e H1 (Same.refl H1) _ fun fv H2 e2 df => h H2 (e.trans (kp_same e.s2 e2)) _ fun v H3 e3 d => fun x dx hx hdx ne => by
    have s2 := e.s2.same e2
    obtain ⟨l, hl, d⟩ := d
    refine ⟨x, dx, _, H3, [dFld K i, dL (dV l)], dPol K (ftrim l), by rw [List.append_nil], rfl, hx, hdx, ne, ⟨i, l, _, hP _ hl, isSq, rfl, rfl⟩, alls_cons (e3.imm s2 df) (alls_cons d alls_nil), fun H4 e4 d4 => ⟨rfl, q _ H4 (((kp_same e.s2 e2).trans e3).trans (kp_same e3.s2 e4)) ⟨l, hl, d4⟩⟩⟩
theorem es_mul {g : List (El i)} (hP : ∀ n, P n → n ≤ 400 ∧ P' (n + g.length)) (hg : g.length ≤ 400) (h : EvS st ta σ H (dPn K P i)) (hb : ∀ H1, Kp st H H1 → Ev tb σ H1 (dPol K g)) : EvS st (tOp (rOwn (cP K) (spP (S_m_Poly_mul K))) ta tb) σ H (fun v H => ∃ l : List (El i), P l.length ∧ dPol K (ftrim (fmul (ftrim l) g)) v H) := fun H1 e Q q =>
  h H1 e _ fun v H2 e2 d => hb H2 (e.trans e2) H2 (Same.refl H2) _ fun w H3 e3 dw => by
    obtain ⟨l, hl, d⟩ := d
    have d := Mono.m _ _ _ e3 d
    obtain ⟨a, da, ws, rfl, h1, h2⟩ := id d
    obtain ⟨b, db, zs, rfl, h3, h4⟩ := id dw
    have hfl : (ftrim l).length ≤ l.length := by
      unfold ftrim
      rw [List.length_reverse]
      have h := (List.dropWhile_sublist (fun x => decide (x = Fld.zero)) (l := l.reverse)).length_le
      rw [List.length_reverse] at h
      exact h
    exact ⟨a, da, _, b, db, _, rfl, rfl, h1, h3, _, _, ⟨i, ftrim l, g, by have := (hP _ hl).1; omega, hg, rfl, rfl⟩, alls_cons d (alls_cons dw alls_nil), fun v4 H4 e4 d4 => q v4 H4 (e2.trans (kp_same e2.s2 (e3.trans e4))) ⟨l, hl, d4⟩⟩
end
section
variable {st : Addr} {σ : St} {H : Hp} {ta te : TE} {r r1 : Dn} {rs : List Dn} {C : Addr} {ns : List Str} {m : Str} {S : Hp → List Dn → Dn → Prop} {D : Ends}
theorem s_retS (s : St2 st H) (h : EvS st te σ H r) (q : ∀ v H1, Kp st H H1 → r v H1 → D.rt v H1) : tRet te D σ H := h H (Kp.refl s) _ q
theorem es_met1 [Imms rs] (h0 : ∀ H1, Kp st H H1 → Ev ta σ H1 (dIns C ns rs)) (h : EvS st te σ H r1) (hm : ixOf m ns = none) (hs : ∀ v H1, r1 v H1 → ∃ r2 r', r2 v H1 ∧ S H1 [dIns C ns rs, r2] r' ∧ ∀ w H2, r' w H2 → r w H2) :
    EvS st (tMeth C m (spP S) [] E0 ta (tCons te tNil)) σ H r := fun H1 e Q q => h0 H1 e H1 (Same.refl H1) _ fun v H2 e2 d => by
  have s2 := e.s2.same e2
  obtain ⟨a, dx, ws, rfl, h1, h2⟩ := id d
  refine ⟨a, dx, _, rfl, h1, look_no hm, h H2 (e.trans (kp_same e.s2 e2)) _ fun w H3 e3 d3 => ?_⟩
  obtain ⟨r2, r', d4, s, im⟩ := hs w H3 d3
  refine ⟨_, r', s, ?_, fun v H4 e4 dv => q v H4 ((kp_same e.s2 e2).trans (e3.trans (kp_same e3.s2 e4))) (im v H4 dv)⟩
  rw [List.append_nil]
  exact alls_cons (e3.imm s2 d) (alls_cons d4 alls_nil)
end
section
variable {K : PySem.W.Frag} {st : Addr} {σ : St} {H : Hp} {te : TE} {t : TT} {r : Dn} {D : Ends} {tz : TS} {k : Nat}
def dSomeF (K : PySem.W.Frag) : Dn := fun v H => ∃ i : Fin 6, dFld K i v H
theorem es_fld (hs : σ[k]? = some (some (.ref st))) : EvS st (tCall (spFld K) [] E0 (tCons (tVar k) tNil)) σ H (dSomeF K) := fun H1 e Q q => ⟨.ref st, hs, ⟨st, rfl, e.s2, fun i v H2 k2 d => q v H2 k2 ⟨i, d⟩⟩⟩
/-- if t: x = e, x known either way -/
theorem q_if2S {v0 : V} (s : St2 st H) (h : EvBS st t σ H) (h1 : EvS st te σ H r) (h0 : ∀ H1, Kp st H H1 → r v0 H1) (hs : σ.set k (some v0) = σ) (q : ∀ v H1, Kp st H H1 → r v H1 → tz D (σ.set k (some v)) H1) : tSeq (tIfS t (tAsg te (gName k)) tNext) tz D σ H :=
  q_ifS s h (fun H1 k1 => h1 H1 k1 _ fun v H2 k2 d => q v H2 (k1.trans k2) d) fun H1 k1 => by
    have z := q v0 H1 k1 (h0 H1 k1)
    rw [hs] at z
    exact z
end
/-! ### a def with a promise of its own -/
section
variable {P : Program} {w : World} {K : PySem.W.Frag} {mg : Str → Option Value} {base : Heap}
theorem cal_ofG {x : Str} {st : Stmt} {N ps : List Str} {k : Nat} {sp : Sp} (D : DefOk K mg x st ps) (sc : FnScope N ps (defScope st)) (len : ∀ vs H Q E, sp vs H Q E → vs.length = ps.length)
    (hb : ∀ (f : Addr) (cdv : Value) (A : Around) (outer : List Env) (s : Shared) (H : Hp) (vs : List V) (Q : VK) (E : XK), Room k (A.deeper (PyProof.Rows.envOfC x (defScope st) s.heap.objs.size f cdv)) → sp vs H Q E →
      ∃ t, PSs (cxOf CX0 P w K mg base N x (defScope st) f cdv A outer s H E).nox (defBody st) t ∧ t { nx := fun _ H' => Q .non H', rt := Q } (start N vs) H) : Cal P w K mg base (k + 1) x sp := by
  obtain ⟨f, fd, hm, F, b⟩ := D
  exact ⟨f, fd, ps, F.ok sc len fun cdv A outer s H vs Q E hr h => (by
    obtain ⟨t, h1, h2⟩ := hb f cdv A outer s H vs Q E hr h
    exact ⟨t, h1.nox, h2⟩), hm, F.kp, b⟩
theorem fn_ofG {x : Str} {st : Stmt} {N ps : List Str} {k : Nat} {sp : Sp} {f0 : Addr} {fd0 : FuncData} (F : FunD K x x (defArgs st) (defBody st) (defScope st) [] [] f0 fd0) (sc : FnScope N ps (defScope st)) (len : ∀ vs H Q E, sp vs H Q E → vs.length = ps.length)
    (hb : ∀ (f : Addr) (cdv : Value) (A : Around) (outer : List Env) (s : Shared) (H : Hp) (vs : List V) (Q : VK) (E : XK), Room k (A.deeper (PyProof.Rows.envOfC x (defScope st) s.heap.objs.size f cdv)) → sp vs H Q E →
      ∃ t, PSs (cxOf CX0 P w K mg base N x (defScope st) f cdv A outer s H E).nox (defBody st) t ∧ t { nx := fun _ H' => Q .non H', rt := Q } (start N vs) H) : FnOk P w K mg base CX0 (k + 1) f0 fd0 ps sp :=
  F.ok sc len fun cdv A outer s H vs Q E hr h => (by
    obtain ⟨t, h1, h2⟩ := hb f0 cdv A outer s H vs Q E hr h
    exact ⟨t, h1.nox, h2⟩)
end
end K35
set_option Elab.async false
set_option linter.all false
set_option maxRecDepth 100000
set_option maxHeartbeats 4000000
namespace K35
open Fld
/-! ### the plain law: reckoning in a field -/
section
variable {F : Type} [Fld F]
theorem f_add_zero (a : F) : add a zero = a := by rw [Fld.add_comm, Fld.zero_add]
theorem f_add_neg (a : F) : add a (neg a) = zero := by rw [Fld.add_comm, Fld.neg_add]
theorem f_cancel {a b c : F} (h : add a b = add a c) : b = c := by
  have h := congrArg (add (neg a)) h
  rw [← Fld.add_assoc, ← Fld.add_assoc, Fld.neg_add, Fld.zero_add, Fld.zero_add] at h
  exact h
theorem f_mul_zero (a : F) : mul a zero = zero := f_cancel (a := mul a zero) (by rw [← Fld.mul_add, Fld.zero_add, f_add_zero])
theorem f_zero_mul (a : F) : mul zero a = zero := by rw [Fld.mul_comm, f_mul_zero]
theorem f_neg_u {a b : F} (h : add a b = zero) : b = neg a := f_cancel (a := a) (by rw [h, f_add_neg])
theorem f_mul_neg (a b : F) : mul a (neg b) = neg (mul a b) := f_neg_u (by rw [← Fld.mul_add, f_add_neg, f_mul_zero])
theorem f_neg_mul (a b : F) : mul (neg a) b = neg (mul a b) := by rw [Fld.mul_comm, f_mul_neg, Fld.mul_comm]
theorem f_neg_neg (a : F) : neg (neg a) = a := (f_neg_u (Fld.neg_add a)).symm
theorem f_add_mul (a b c : F) : mul (add a b) c = add (mul a c) (mul b c) := by rw [Fld.mul_comm, Fld.mul_add, Fld.mul_comm c a, Fld.mul_comm c b]
theorem f_mul_one (a : F) : mul a one = a := by rw [Fld.mul_comm, Fld.one_mul]
theorem f_neg_zero : neg (zero : F) = zero := (f_neg_u (Fld.zero_add zero)).symm
theorem f_add4 (a b c d : F) : add (add a b) (add c d) = add (add a c) (add b d) := by
  rw [Fld.add_assoc, ← Fld.add_assoc b c d, Fld.add_comm b c, Fld.add_assoc c b d, ← Fld.add_assoc]
theorem f_neg_add (a b : F) : neg (add a b) = add (neg a) (neg b) := (f_neg_u (by rw [f_add4, f_add_neg, f_add_neg, f_add_zero])).symm
theorem f_sub {a b : F} (h : add a (neg b) = zero) : a = b := by
  have h := f_neg_u h
  have h2 := congrArg neg h
  rw [f_neg_neg, f_neg_neg] at h2
  exact h2.symm
theorem f_no_zero {a b : F} (h : mul a b = zero) (ha : a ≠ zero) : b = zero := by
  rw [← Fld.one_mul b, ← Fld.inv_mul a ha, Fld.mul_assoc, h, f_mul_zero]
theorem f_inv_ne {a : F} (ha : a ≠ zero) : inv a ≠ zero := fun z => Fld.one_ne (F := F) (by rw [← Fld.inv_mul a ha, z, f_zero_mul])
/-! sums -/
def sm : Nat → (Nat → F) → F
  | 0, _ => zero
  | n + 1, f => add (sm n f) (f n)
theorem sm_congr {n : Nat} {f g : Nat → F} (h : ∀ i, i < n → f i = g i) : sm n f = sm n g := by
  induction n with
  | zero => rfl
  | succ n ih =>
    show add _ _ = add _ _
    rw [ih fun i hi => h i (Nat.lt_succ_of_lt hi), h n (Nat.lt_succ_self n)]
theorem sm_add {n : Nat} {f g : Nat → F} : sm n (fun i => add (f i) (g i)) = add (sm n f) (sm n g) := by
  induction n with
  | zero => exact (Fld.zero_add _).symm
  | succ n ih =>
    show add (sm n _) _ = add (add _ _) (add _ _)
    rw [ih, f_add4]
theorem sm_mul {n : Nat} {a : F} {f : Nat → F} : sm n (fun i => mul a (f i)) = mul a (sm n f) := by
  induction n with
  | zero => exact (f_mul_zero a).symm
  | succ n ih =>
    show add (sm n _) _ = mul a (add _ _)
    rw [ih, Fld.mul_add]
theorem sm_zero {n : Nat} {f : Nat → F} (h : ∀ i, i < n → f i = zero) : sm n f = zero := by
  induction n with
  | zero => rfl
  | succ n ih =>
    show add (sm n f) (f n) = zero
    rw [ih fun i hi => h i (Nat.lt_succ_of_lt hi), h n (Nat.lt_succ_self n), f_add_zero]
theorem sm_neg {n : Nat} {f : Nat → F} : sm n (fun i => neg (f i)) = neg (sm n f) := by
  induction n with
  | zero => exact f_neg_zero.symm
  | succ n ih =>
    show add (sm n _) _ = neg (add _ _)
    rw [ih, f_neg_add]
theorem sm_single {n j : Nat} {f : Nat → F} (hj : j < n) (h : ∀ i, i < n → i ≠ j → f i = zero) : sm n f = f j := by
  induction n with
  | zero => cases hj
  | succ n ih =>
    show add (sm n f) (f n) = f j
    by_cases e : j = n
    · subst e
      rw [sm_zero fun i hi => h i (Nat.lt_succ_of_lt hi) (Nat.ne_of_lt hi), Fld.zero_add]
    · rw [ih (by omega) fun i hi hn => h i (Nat.lt_succ_of_lt hi) hn, h n (Nat.lt_succ_self n) (fun z => e z.symm), f_add_zero]
theorem sm_swap {m n : Nat} {g : Nat → Nat → F} : sm m (fun i => sm n (fun j => g i j)) = sm n (fun j => sm m (fun i => g i j)) := by
  induction m with
  | zero => exact (sm_zero fun _ _ => rfl).symm
  | succ m ih =>
    show add (sm m _) _ = _
    rw [ih, ← sm_add]
    rfl
theorem sm_more {n m : Nat} {f : Nat → F} (hnm : n ≤ m) (h : ∀ i, n ≤ i → i < m → f i = zero) : sm m f = sm n f := by
  induction m with
  | zero =>
    have : n = 0 := by omega
    rw [this]
  | succ m ih =>
    by_cases e : n = m + 1
    · rw [e]
    · show add (sm m f) (f m) = _
      rw [h m (by omega) (Nat.lt_succ_self m), f_add_zero, ih (by omega) fun i h1 h2 => h i h1 (by omega)]
theorem sm_upd {n p : Nat} {y : F} {f : Nat → F} (hp : p < n) : sm n (fun i => if i = p then add (f i) y else f i) = add (sm n f) y := by
  induction n with
  | zero => cases hp
  | succ n ih =>
    show add (sm n _) (if n = p then add (f n) y else f n) = add (add (sm n f) (f n)) y
    by_cases e : n = p
    · rw [if_pos e, Fld.add_assoc]
      congr 1
      exact sm_congr fun i hi => if_neg (by omega)
    · rw [if_neg e, ih (by omega), Fld.add_assoc, Fld.add_assoc, Fld.add_comm y]
theorem fdotN_sm {a b : List F} {n : Nat} (h1 : n ≤ a.length) (h2 : n ≤ b.length) : fdotN a b n = sm n (fun i => mul (a.getD i zero) (b.getD i zero)) := by
  induction n with
  | zero => rfl
  | succ n ih =>
    rw [fdotN_succ (by omega) (by omega), ih (by omega) (by omega)]
    rfl
theorem fdot_sm {a b : List F} (h : a.length = b.length) : fdot a b = sm a.length (fun i => mul (a.getD i zero) (b.getD i zero)) := by
  rw [← fdotN_all (n := a.length) (by omega), fdotN_sm (Nat.le_refl _) (by omega)]
theorem lsum_sm {row terms : List F} {k n : Nat} : lsum row terms k n = sm n (fun i => mul (row.getD i zero) (terms.getD (k + i) zero)) := by
  induction n with
  | zero => rfl
  | succ n ih =>
    rw [lsum_succ, ih]
    rfl
theorem getD_take {F : Type} {l : List F} {n k : Nat} {z : F} (h : k < n) : (l.take n).getD k z = l.getD k z := by
  rw [List.getD_eq_getElem?_getD, List.getD_eq_getElem?_getD, List.getElem?_take_of_lt h]
theorem getD_app {F : Type} {l m : List F} {k : Nat} {z : F} (h : k < l.length) : (l ++ m).getD k z = l.getD k z := by
  rw [List.getD_eq_getElem?_getD, List.getD_eq_getElem?_getD, List.getElem?_append_left h]
theorem getD_app_r {F : Type} {l m : List F} {k : Nat} {z : F} (h : l.length ≤ k) : (l ++ m).getD k z = m.getD (k - l.length) z := by
  rw [List.getD_eq_getElem?_getD, List.getD_eq_getElem?_getD, List.getElem?_append_right h]
theorem getD_out {F : Type} {l : List F} {k : Nat} {z : F} (h : l.length ≤ k) : l.getD k z = z := by
  rw [List.getD_eq_getElem?_getD, List.getElem?_eq_none h]
  rfl
theorem getD_set {F : Type} {l : List F} {k p : Nat} {z v : F} (h : p < l.length) : (l.set p v).getD k z = if k = p then v else l.getD k z := by
  rw [List.getD_eq_getElem?_getD, List.getD_eq_getElem?_getD, List.getElem?_set]
  by_cases e : p = k
  · subst e
    rw [if_pos rfl, if_pos h, if_pos rfl]
    rfl
  · rw [if_neg e, if_neg (fun z => e z.symm)]
theorem getD_map_range {F : Type} {f : Nat → F} {n k : Nat} {z : F} (h : k < n) : ((List.range n).map f).getD k z = f k := by
  rw [List.getD_eq_getElem?_getD, List.getElem?_map, List.getElem?_range h]
  rfl
theorem ext_getD {F : Type} {l m : List F} {z : F} (h : l.length = m.length) (e : ∀ k, k < l.length → l.getD k z = m.getD k z) : l = m := by
  refine List.ext_getElem? fun k => ?_
  by_cases hk : k < l.length
  · rw [getD_at (z := z) hk, getD_at (z := z) (by omega), e k hk]
  · rw [List.getElem?_eq_none (by omega), List.getElem?_eq_none (by omega)]
/-! sequences and what they satisfy -/
def Rec (s c : Nat → F) (n : Nat) : Prop := ∀ k, sm n (fun i => mul (c i) (s (k + i))) = s (k + n)
def Min (s : Nat → F) (L : Nat) : Prop := ∀ D, D < L → ∀ d : Nat → F, ¬ Rec s d D
theorem rec_zero {t c : Nat → F} {n : Nat} (h : Rec t c n) (h0 : ∀ k, k < n → t k = zero) : ∀ k, t k = zero := by
  intro k
  induction k using Nat.strongRecOn with
  | _ k ih =>
    by_cases hk : k < n
    · exact h0 k hk
    · have z := h (k - n)
      rw [show k - n + n = k by omega] at z
      rw [← z]
      exact sm_zero fun i hi => by rw [ih (k - n + i) (by omega), f_mul_zero]
theorem act_rec {s c x : Nat → F} {n m : Nat} (h : Rec s c n) : Rec (fun k => sm m (fun i => mul (x i) (s (k + i)))) c n := by
  intro k
  show sm n (fun j => mul (c j) (sm m (fun i => mul (x i) (s (k + j + i))))) = sm m (fun i => mul (x i) (s (k + n + i)))
  have e1 : ∀ j, j < n → mul (c j) (sm m (fun i => mul (x i) (s (k + j + i)))) = sm m (fun i => mul (x i) (mul (c j) (s (k + i + j)))) := fun j _ => by
    rw [← sm_mul]
    refine sm_congr fun i _ => ?_
    rw [← Fld.mul_assoc, Fld.mul_comm (c j), Fld.mul_assoc, show k + j + i = k + i + j by omega]
  rw [sm_congr e1, ← sm_swap]
  refine sm_congr fun i _ => ?_
  rw [sm_mul, h (k + i), show k + i + n = k + n + i by omega]
/-- what acts as zero at the start acts as zero everywhere -/
theorem act_zero {s c x : Nat → F} {n m : Nat} (h : Rec s c n) (h0 : ∀ k, k < n → sm m (fun i => mul (x i) (s (k + i))) = zero) : ∀ k, sm m (fun i => mul (x i) (s (k + i))) = zero := rec_zero (act_rec h) h0
/-- a relation of order D, as what acts as zero -/
def relx (d : Nat → F) (D : Nat) : Nat → F := fun i => if i < D then d i else neg one
theorem rel_act {s d : Nat → F} {D k : Nat} : sm (D + 1) (fun i => mul (relx d D i) (s (k + i))) = zero ↔ sm D (fun i => mul (d i) (s (k + i))) = s (k + D) := by
  have e : sm (D + 1) (fun i => mul (relx d D i) (s (k + i))) = add (sm D (fun i => mul (d i) (s (k + i)))) (neg (s (k + D))) := by
    show add (sm D _) (mul (relx d D D) (s (k + D))) = _
    rw [show relx d D D = neg one from if_neg (by omega), f_neg_mul, Fld.one_mul]
    congr 1
    exact sm_congr fun i hi => by rw [show relx d D i = d i from if_pos hi]
  rw [e]
  exact ⟨f_sub, fun h => by rw [h, f_add_neg]⟩
theorem rec_all {s c d : Nat → F} {n D M : Nat} (h : Rec s c n) (hM : n ≤ M) (h0 : ∀ k, k < M → sm D (fun i => mul (d i) (s (k + i))) = s (k + D)) : Rec s d D := fun k =>
  rel_act.mp (act_zero (m := D + 1) (x := relx d D) h (fun k hk => rel_act.mpr (h0 k (by omega))) k)
theorem kill_zero {s : Nat → F} {L : Nat} (hm : Min s L) {x : Nat → F} : ∀ m, m ≤ L → (∀ k, sm m (fun i => mul (x i) (s (k + i))) = zero) → ∀ i, i < m → x i = zero := by
  intro m
  induction m with
  | zero => exact fun _ _ i hi => absurd hi (Nat.not_lt_zero i)
  | succ m ih =>
    intro hmL h i hi
    by_cases hx : x m = zero
    · have h2 : ∀ k, sm m (fun i => mul (x i) (s (k + i))) = zero := fun k => by
        have z := h k
        have e : sm (m + 1) (fun i => mul (x i) (s (k + i))) = add (sm m (fun i => mul (x i) (s (k + i)))) (mul (x m) (s (k + m))) := rfl
        rw [e, hx, f_zero_mul, f_add_zero] at z
        exact z
      by_cases e : i = m
      · rw [e]; exact hx
      · exact ih (by omega) h2 i (by omega)
    · refine absurd (fun k => ?_) (hm m (by omega) fun i => mul (neg (inv (x m))) (x i))
      have z := h k
      have e : sm (m + 1) (fun i => mul (x i) (s (k + i))) = add (sm m (fun i => mul (x i) (s (k + i)))) (mul (x m) (s (k + m))) := rfl
      rw [e, Fld.add_comm] at z
      have z2 := f_neg_u z
      rw [sm_congr fun i _ => Fld.mul_assoc .., sm_mul, z2, f_neg_mul, f_mul_neg, f_neg_neg, ← Fld.mul_assoc, Fld.inv_mul _ hx, Fld.one_mul]
theorem rec_same {s t d : Nat → F} {n : Nat} (h : Rec s d n) (g : Rec t d n) (h0 : ∀ k, k < n → s k = t k) : ∀ k, s k = t k := by
  intro k
  induction k using Nat.strongRecOn with
  | _ k ih =>
    by_cases hk : k < n
    · exact h0 k hk
    · have z1 := h (k - n)
      have z2 := g (k - n)
      rw [show k - n + n = k by omega] at z1 z2
      rw [← z1, ← z2]
      exact sm_congr fun i hi => by rw [ih (k - n + i) (by omega)]
end
end K35
set_option Elab.async false
set_option linter.all false
set_option maxRecDepth 100000
set_option maxHeartbeats 4000000
namespace K35
open Fld
section
variable {F : Type} [Fld F] {c first out : List F} {m : Nat}
theorem fext_snoc : fext c (m + 1) out = fext c m out ++ [fnext c (fext c m out)] := by
  induction m generalizing out with
  | zero => rfl
  | succ m ih =>
    show fext c (m + 1) (out ++ [fnext c out]) = _
    rw [ih]
    rfl
theorem fext_len : (fext c m out).length = out.length + m := by
  induction m with
  | zero => rfl
  | succ m ih =>
    rw [fext_snoc, List.length_append, ih]
    rfl
theorem fext_get {k j : Nat} (hk : k < out.length + m) : (fext c (m + j) out).getD k zero = (fext c m out).getD k zero := by
  induction j with
  | zero => rfl
  | succ j ih =>
    rw [← Nat.add_assoc, fext_snoc, getD_app (by rw [fext_len]; omega), ih]
/-- the endless row -/
def seq (c first : List F) (k : Nat) : F := (fext c (k + 1) first).getD k zero
theorem seq_get {k : Nat} (hk : k < first.length + m) : (fext c m first).getD k zero = seq c first k := by
  unfold seq
  rw [← fext_get (j := k + 1) hk, ← fext_get (c := c) (out := first) (m := k + 1) (j := m) (by omega), Nat.add_comm]
theorem seq_first {k : Nat} (hk : k < first.length) : seq c first k = first.getD k zero := (seq_get (m := 0) (by omega)).symm
theorem seq_rec (hl : first.length = c.length) : Rec (seq c first) (fun i => c.getD i zero) c.length := by
  intro k
  have e : seq c first (k + c.length) = fnext c (fext c k first) := by
    rw [← seq_get (m := k + 1) (by omega), fext_snoc, getD_app_r (by rw [fext_len]; omega), show k + c.length - (fext c k first).length = 0 by rw [fext_len]; omega]
    rfl
  rw [e]
  unfold fnext
  rw [fext_len, hl, show c.length + k - c.length = k by omega, fdot_sm (by rw [List.length_drop, fext_len]; omega)]
  refine sm_congr fun i hi => ?_
  rw [getD_drop, seq_get (m := k) (by omega)]
theorem frow_len {N : Nat} : (frow c first N).length = N := by
  unfold frow
  rw [List.length_take, fext_len]
  omega
theorem frow_get {N k : Nat} (hk : k < N) : (frow c first N).getD k zero = seq c first k := by
  unfold frow
  rw [getD_take hk, seq_get (by omega)]
end
end K35
set_option Elab.async false
set_option linter.all false
set_option maxRecDepth 100000
set_option maxHeartbeats 4000000
namespace K35
open Fld
/-! ### linear equations -/
section
variable {F : Type} [Fld F]
/-- row times x, over the first n -/
def rx (n : Nat) (row : List F) (x : Nat → F) : F := sm n (fun i => mul (row.getD i zero) (x i))
def Sol (n : Nat) (rows : List (List F)) (x : Nat → F) : Prop := ∀ row ∈ rows, rx n row x = zero
theorem lead_get {row : List F} {at_ j : Nat} : (lead row at_).getD j zero = mul (inv (row.getD at_ zero)) (row.getD j zero) := by
  by_cases h : j < row.length
  · unfold lead
    rw [List.getD_eq_getElem?_getD, List.getElem?_map, getD_at (z := zero) h]
    rfl
  · rw [getD_out (by rw [lead_len]; omega), getD_out (l := row) (k := j) (by omega), f_mul_zero]
theorem fclear_get {row ld : List F} {at_ j : Nat} (h : row.length = ld.length) : (fclear row ld at_).getD j zero = add (row.getD j zero) (neg (mul (row.getD at_ zero) (ld.getD j zero))) := by
  by_cases hj : j < row.length
  · unfold fclear
    rw [List.getD_eq_getElem?_getD, List.getElem?_zipWith, getD_at (z := zero) hj, getD_at (z := zero) (l := ld) (by omega)]
    rfl
  · rw [getD_out (by rw [fclear_len (w := row.length) rfl h.symm]; omega), getD_out (l := row) (k := j) (by omega), getD_out (l := ld) (k := j) (by omega), f_mul_zero, f_neg_zero, f_add_zero]
theorem rx_lead {n : Nat} {row : List F} {at_ : Nat} {x : Nat → F} : rx n (lead row at_) x = mul (inv (row.getD at_ zero)) (rx n row x) := by
  unfold rx
  rw [← sm_mul]
  exact sm_congr fun i _ => by rw [lead_get, Fld.mul_assoc]
theorem rx_clear {n : Nat} {row ld : List F} {at_ : Nat} {x : Nat → F} (h : row.length = ld.length) : rx n (fclear row ld at_) x = add (rx n row x) (neg (mul (row.getD at_ zero) (rx n ld x))) := by
  unfold rx
  rw [← sm_mul, ← sm_neg, ← sm_add]
  exact sm_congr fun i _ => by rw [fclear_get h, f_add_mul, f_neg_mul, Fld.mul_assoc]
structure RedInv (rows : List (List F)) (w n : Nat) (s : Red F) : Prop where
  sol : ∀ x : Nat → F, (Sol w s.rest x ∧ Sol w s.done x) ↔ Sol w rows x
  rz : ∀ row ∈ s.rest, ∀ j, j < n → row.getD j zero = zero
  dd : ∀ a b, a < s.done.length → b < s.done.length → (s.done.getD a []).getD (s.piv.getD b 0) zero = if a = b then one else zero
  lz : n ∈ s.piv.map (· + 1) → ∃ row ∈ s.done, (∀ j, j + 1 < n → row.getD j zero = zero) ∧ row.getD (n - 1) zero = one
theorem red_inv {rows : List (List F)} {w : Nat} (hr : ∀ row ∈ rows, row.length = w) : ∀ n, n ≤ w → RedInv rows w n (fred rows n)
  | 0, _ => ⟨fun x => ⟨fun h => h.1, fun h => ⟨h, fun _ h => (by cases h)⟩⟩, fun _ _ j h => absurd h (Nat.not_lt_zero j), fun a b h => absurd h (Nat.not_lt_zero a), fun h => (by cases h)⟩
  | n + 1, hn => by
    have ih := red_inv hr n (by omega)
    have ok := red_ok hr n
    rw [fred_succ]
    generalize fred rows n = s at ih ok
    cases hp : pick s.rest n with
    | nil =>
      rw [redStep_nil hp]
      refine ⟨ih.sol, fun row hrow j hj => ?_, ih.dd, fun h => ?_⟩
      · by_cases e : j = n
        · rw [e]
          obtain ⟨k, hk⟩ := List.getElem?_of_mem hrow
          have hkl := (List.getElem?_eq_some_iff.mp hk).1
          have hk2 : s.rest.getD k [] = row := by rw [List.getD_eq_getElem?_getD, hk]; rfl
          refine Decidable.byContradiction fun hne => ?_
          have hm : k ∈ pick s.rest n := by
            unfold pick
            rw [List.mem_filter, List.mem_range]
            exact ⟨hkl, by rw [hk2, decide_eq_false hne]; rfl⟩
          rw [hp] at hm
          cases hm
        · exact ih.rz row hrow j (by omega)
      · obtain ⟨q, hq, e⟩ := List.mem_map.mp h
        have e : q + 1 = n + 1 := e
        have := ok.pn q hq
        omega
    | cons k ks =>
      rw [redStep_cons hp]
      obtain ⟨hk, hnz⟩ := pick_mem hp
      have hkm := mem_getD hk
      have hkl := ok.rl _ hkm
      generalize hrk : s.rest.getD k [] = rk at *
      have hll : (lead rk n).length = w := by rw [lead_len]; exact hkl
      have ln : (lead rk n).getD n zero = one := by rw [lead_get, Fld.inv_mul _ hnz]
      have lz : ∀ j, j < n → (lead rk n).getD j zero = zero := fun j hj => by rw [lead_get, ih.rz rk hkm j hj, f_mul_zero]
      have oth : ∀ row ∈ s.rest.take k ++ s.rest.drop (k + 1), row ∈ s.rest := fun row h => by
        rcases List.mem_append.mp h with h | h
        · exact List.mem_of_mem_take h
        · exact List.mem_of_mem_drop h
      have hsplit : ∀ row ∈ s.rest, row = rk ∨ row ∈ s.rest.take k ++ s.rest.drop (k + 1) := fun row h => by
        obtain ⟨j, hj⟩ := List.getElem?_of_mem h
        by_cases e : j = k
        · left
          rw [← hrk, List.getD_eq_getElem?_getD, ← e, hj]
          rfl
        · right
          rw [List.mem_append]
          by_cases h2 : j < k
          · left
            exact List.mem_of_getElem? (i := j) (by rw [List.getElem?_take_of_lt h2]; exact hj)
          · right
            exact List.mem_of_getElem? (i := j - (k + 1)) (by rw [List.getElem?_drop, show k + 1 + (j - (k + 1)) = j by omega]; exact hj)
      have hlen : ∀ row ∈ s.rest, row.length = (lead rk n).length := fun row h => by rw [ok.rl row h, hll]
      have hdlen : ∀ row ∈ s.done, row.length = (lead rk n).length := fun row h => by rw [ok.dl row h, hll]
      refine ⟨fun x => ?_, fun row hrow j hj => ?_, fun a b ha hb => ?_, fun h => ?_⟩
      · rw [← ih.sol x]
        constructor
        · rintro ⟨h1, h2⟩
          have hL : rx w (lead rk n) x = zero := h2 _ (List.mem_append_right _ (List.mem_singleton.mpr rfl))
          have hR : rx w rk x = zero := by
            rw [rx_lead] at hL
            exact f_no_zero hL (f_inv_ne hnz)
          refine ⟨fun row hrow => ?_, fun row hrow => ?_⟩
          · rcases hsplit row hrow with e | hrow'
            · rw [e]; exact hR
            · have z := h1 _ (List.mem_map.mpr ⟨row, hrow', rfl⟩)
              rw [rx_clear (hlen row hrow), hL, f_mul_zero, f_neg_zero, f_add_zero] at z
              exact z
          · have z := h2 _ (List.mem_append_left _ (List.mem_map.mpr ⟨row, hrow, rfl⟩))
            rw [rx_clear (hdlen row hrow), hL, f_mul_zero, f_neg_zero, f_add_zero] at z
            exact z
        · rintro ⟨h1, h2⟩
          have hL : rx w (lead rk n) x = zero := by rw [rx_lead, h1 rk hkm, f_mul_zero]
          refine ⟨fun row hrow => ?_, fun row hrow => ?_⟩
          · obtain ⟨r0, hr0, rfl⟩ := List.mem_map.mp hrow
            rw [rx_clear (hlen r0 (oth r0 hr0)), hL, f_mul_zero, f_neg_zero, f_add_zero]
            exact h1 r0 (oth r0 hr0)
          · rcases List.mem_append.mp hrow with hrow | hrow
            · obtain ⟨r0, hr0, rfl⟩ := List.mem_map.mp hrow
              rw [rx_clear (hdlen r0 hr0), hL, f_mul_zero, f_neg_zero, f_add_zero]
              exact h2 r0 hr0
            · rw [List.mem_singleton.mp hrow]
              exact hL
      · obtain ⟨r0, hr0, rfl⟩ := List.mem_map.mp hrow
        rw [fclear_get (hlen r0 (oth r0 hr0))]
        by_cases e : j = n
        · rw [e, ln, f_mul_one, f_add_neg]
        · rw [lz j (by omega), f_mul_zero, f_neg_zero, f_add_zero]
          exact ih.rz r0 (oth r0 hr0) j (by omega)
      · have hdp := ok.dp
        have hda : ∀ a, a < s.done.length → ((s.done.map fun row => fclear row (lead rk n) n) ++ [lead rk n]).getD a [] = fclear (s.done.getD a []) (lead rk n) n := fun a ha => by
          rw [getD_app (by rw [List.length_map]; exact ha), List.getD_eq_getElem?_getD, List.getElem?_map, getD_at (z := []) ha]
          rfl
        have hdL : ((s.done.map fun row => fclear row (lead rk n) n) ++ [lead rk n]).getD s.done.length [] = lead rk n := by
          rw [getD_app_r (by rw [List.length_map]; exact Nat.le_refl _), List.length_map, Nat.sub_self]
          rfl
        have hpb : ∀ b, b < s.done.length → (s.piv ++ [n]).getD b 0 = s.piv.getD b 0 := fun b hb => getD_app (by omega)
        have hpL : (s.piv ++ [n]).getD s.done.length 0 = n := by
          rw [getD_app_r (by omega), hdp, Nat.sub_self]
          rfl
        have hpn : ∀ b, b < s.done.length → s.piv.getD b 0 < n := fun b hb => ok.pn _ (List.mem_of_getElem? (getD_at (z := 0) (by omega)))
        have ha : a < s.done.length + 1 := by
          have ha : a < ((s.done.map fun row => fclear row (lead rk n) n) ++ [lead rk n]).length := ha
          rw [List.length_append, List.length_map] at ha
          exact ha
        have hb : b < s.done.length + 1 := by
          have hb : b < ((s.done.map fun row => fclear row (lead rk n) n) ++ [lead rk n]).length := hb
          rw [List.length_append, List.length_map] at hb
          exact hb
        show (((s.done.map fun row => fclear row (lead rk n) n) ++ [lead rk n]).getD a []).getD ((s.piv ++ [n]).getD b 0) zero = _
        by_cases ea : a = s.done.length
        · rw [ea, hdL]
          by_cases eb : b = s.done.length
          · rw [eb, hpL, ln, if_pos rfl]
          · rw [hpb b (by omega), lz _ (hpn b (by omega)), if_neg (fun z => eb z.symm)]
        · rw [hda a (by omega), fclear_get (hdlen _ (mem_getD (by omega)))]
          by_cases eb : b = s.done.length
          · rw [eb, hpL, ln, f_mul_one, f_add_neg, if_neg ea]
          · rw [hpb b (by omega), lz _ (hpn b (by omega)), f_mul_zero, f_neg_zero, f_add_zero]
            exact ih.dd a b (by omega) (by omega)
      · exact ⟨lead rk n, List.mem_append_right _ (List.mem_singleton.mpr rfl), fun j hj => lz j (by omega), ln⟩

theorem vec_get {done : List (List F)} {piv : List Nat} {width m : Nat} (hm : m = done.length) (hp : piv.length = done.length) (hw : ∀ q ∈ piv, q < width) (dd : ∀ a b, a < done.length → b < done.length → (done.getD a []).getD (piv.getD b 0) zero = if a = b then one else zero) : ∀ n, n ≤ m →
    (∀ i, (∀ b, b < n → i ≠ piv.getD b 0) → (fvecN done piv width n).getD i zero = zero) ∧ ∀ b, b < n → (fvecN done piv width n).getD (piv.getD b 0) zero = (done.getD b []).getD width zero
  | 0, _ => ⟨fun i _ => by
      show (List.replicate width zero).getD i zero = zero
      rw [List.getD_eq_getElem?_getD, List.getElem?_replicate]
      split <;> rfl, fun b h => absurd h (Nat.not_lt_zero b)⟩
  | n + 1, hn => by
    obtain ⟨h1, h2⟩ := vec_get hm hp hw dd n (by omega)
    have hpn : piv.getD n 0 < (fvecN done piv width n).length := by
      rw [fvecN_len]
      exact hw _ (List.mem_of_getElem? (getD_at (z := 0) (by omega)))
    rw [fvecN_succ (by omega) (by omega)]
    refine ⟨fun i h => ?_, fun b hb => ?_⟩
    · rw [getD_set hpn, if_neg (h n (Nat.lt_succ_self n))]
      exact h1 i fun b hb => h b (Nat.lt_succ_of_lt hb)
    · rw [getD_set hpn]
      by_cases e : b = n
      · rw [e, if_pos rfl]
      · have hne : piv.getD b 0 ≠ piv.getD n 0 := fun z => by
          have d1 := dd b b (by omega) (by omega)
          have d2 := dd b n (by omega) (by omega)
          rw [if_pos rfl, z] at d1
          rw [if_neg e] at d2
          exact Fld.one_ne (F := F) (d1.symm.trans d2)
        rw [if_neg hne]
        exact h2 b (by omega)
theorem fl_len {rows : List (List F)} {right : List F} (h : rows.length = right.length) : (flines rows right).length = rows.length := by
  unfold flines
  rw [List.length_zipWith]
  omega
theorem fl_sol {rows : List (List F)} {right : List F} {w : Nat} {x : Nat → F} (h : rows.length = right.length) (hr : ∀ row ∈ rows, row.length = w) : Sol (w + 1) (flines rows right) (relx x w) ↔ ∀ k, k < rows.length → sm w (fun i => mul ((rows.getD k []).getD i zero) (x i)) = right.getD k zero := by
  have key : ∀ k, k < rows.length → rx (w + 1) ((rows.getD k []) ++ [right.getD k zero]) (relx x w) = add (sm w (fun i => mul ((rows.getD k []).getD i zero) (x i))) (neg (right.getD k zero)) := fun k hk => by
    have hl := hr _ (mem_getD hk)
    show add (sm w _) (mul _ (relx x w w)) = _
    rw [show relx x w w = neg one from if_neg (by omega), getD_app_r (by omega), hl, Nat.sub_self, f_mul_neg]
    show add _ (neg (mul (right.getD k zero) one)) = _
    rw [f_mul_one]
    congr 1
    exact sm_congr fun i hi => by rw [getD_app (by omega), show relx x w i = x i from if_pos hi]
  have hat : ∀ k, k < rows.length → (flines rows right)[k]? = some (rows.getD k [] ++ [right.getD k zero]) := fun k hk => by
    unfold flines
    rw [List.getElem?_zipWith, getD_at (z := []) hk, getD_at (z := zero) (l := right) (by omega)]
  constructor
  · intro hs k hk
    have z := hs _ (List.mem_of_getElem? (hat k hk))
    rw [key k hk] at z
    exact f_sub z
  · intro hs row hrow
    obtain ⟨k, hk⟩ := List.getElem?_of_mem hrow
    have hkl := (List.getElem?_eq_some_iff.mp hk).1
    rw [fl_len h] at hkl
    rw [hat k hkl] at hk
    cases hk
    rw [key k hkl, hs k hkl, f_add_neg]
theorem fl_rl {rows : List (List F)} {right : List F} {w : Nat} (hr : ∀ row ∈ rows, row.length = w) : ∀ row ∈ flines rows right, row.length = w + 1 := fun row h => by
  obtain ⟨n, hn⟩ := List.getElem?_of_mem h
  unfold flines at hn
  rw [List.getElem?_zipWith] at hn
  cases e : rows[n]? with
  | none => rw [e] at hn; cases hn
  | some x =>
    cases e2 : right[n]? with
    | none => rw [e, e2] at hn; cases hn
    | some y =>
      rw [e, e2] at hn
      cases hn
      rw [List.length_append, hr x (List.mem_of_getElem? e)]
      rfl
theorem solve_some {rows : List (List F)} {right v : List F} {w : Nat} (h : rows.length = right.length) (hr : ∀ row ∈ rows, row.length = w) (hv : fsolve rows w right = some v) : v.length = w ∧ ∀ k, k < rows.length → sm w (fun i => mul ((rows.getD k []).getD i zero) (v.getD i zero)) = right.getD k zero := by
  unfold fsolve at hv
  have ok := red_ok (fl_rl (right := right) hr) (w + 1)
  have inv := red_inv (fl_rl (right := right) hr) (w + 1) (Nat.le_refl _)
  generalize fred (flines rows right) (w + 1) = s at hv ok inv
  by_cases hp : w ∈ s.piv
  · rw [if_pos hp] at hv
    cases hv
  · rw [if_neg hp] at hv
    have hv := Option.some.inj hv
    have hdp := ok.dp
    have hw : ∀ q ∈ s.piv, q < w := fun q hq => by
      have := ok.pn q hq
      have : q ≠ w := fun z => hp (z ▸ hq)
      omega
    have hvN : v = fvecN s.done s.piv w s.done.length := by rw [← hv]; exact (fvecN_all (by omega)).symm
    obtain ⟨g1, g2⟩ := vec_get (width := w) rfl hdp.symm hw inv.dd s.done.length (Nat.le_refl _)
    rw [← hvN] at g1 g2
    refine ⟨by rw [hvN, fvecN_len], (fl_sol h hr).mp ((inv.sol _).mp ⟨fun row hrow => sm_zero fun i hi => by rw [inv.rz row hrow i hi, f_zero_mul], fun row hrow => ?_⟩)⟩
    obtain ⟨a, ha⟩ := List.getElem?_of_mem hrow
    have hal := (List.getElem?_eq_some_iff.mp ha).1
    have har : s.done.getD a [] = row := by rw [List.getD_eq_getElem?_getD, ha]; rfl
    have hpa : s.piv.getD a 0 < w := hw _ (List.mem_of_getElem? (getD_at (z := 0) (by omega)))
    have hone := inv.dd a a hal hal
    rw [if_pos rfl, har] at hone
    have hva := g2 a hal
    rw [har] at hva
    show add (sm w _) (mul _ (relx (fun i => v.getD i zero) w w)) = zero
    rw [show relx (fun i => v.getD i zero) w w = neg one from if_neg (by omega), f_mul_neg, f_mul_one]
    rw [sm_single (j := s.piv.getD a 0) hpa fun i hi hne => ?_]
    · rw [show relx (fun i => v.getD i zero) w (s.piv.getD a 0) = v.getD (s.piv.getD a 0) zero from if_pos hpa, hone, Fld.one_mul, hva, f_add_neg]
    · rw [show relx (fun i => v.getD i zero) w i = v.getD i zero from if_pos hi]
      by_cases hb : ∃ b, b < s.done.length ∧ i = s.piv.getD b 0
      · obtain ⟨b, hb, rfl⟩ := hb
        have d := inv.dd a b hal hb
        rw [har, if_neg (fun z => hne (by rw [z]))] at d
        rw [d, f_zero_mul]
      · rw [g1 i (fun b hb' z => hb ⟨b, hb', z⟩), f_mul_zero]
theorem solve_none {rows : List (List F)} {right : List F} {w : Nat} (h : rows.length = right.length) (hr : ∀ row ∈ rows, row.length = w) (hv : fsolve rows w right = none) (x : Nat → F) : ¬ ∀ k, k < rows.length → sm w (fun i => mul ((rows.getD k []).getD i zero) (x i)) = right.getD k zero := fun hx => by
  unfold fsolve at hv
  have inv := red_inv (fl_rl (right := right) hr) (w + 1) (Nat.le_refl _)
  generalize fred (flines rows right) (w + 1) = s at hv inv
  by_cases hp : w ∈ s.piv
  · obtain ⟨row, hrow, h1, h2⟩ := inv.lz (List.mem_map.mpr ⟨w, hp, rfl⟩)
    have z := ((inv.sol _).mpr ((fl_sol h hr).mpr hx)).2 row hrow
    have e : rx (w + 1) row (relx x w) = add (sm w (fun i => mul (row.getD i zero) (relx x w i))) (mul (row.getD w zero) (relx x w w)) := rfl
    rw [e, show relx x w w = neg one from if_neg (by omega), show row.getD w zero = one from h2, Fld.one_mul, sm_zero fun i hi => by rw [h1 i (by omega), f_zero_mul], Fld.zero_add] at z
    have z2 := congrArg neg z
    rw [f_neg_neg, f_neg_zero] at z2
    exact Fld.one_ne z2
  · rw [if_neg hp] at hv
    cases hv
/-! the rows of a sequence -/
def Eqn (s d : Nat → F) (D M : Nat) : Prop := ∀ k, k < M → sm D (fun i => mul (d i) (s (k + i))) = s (k + D)
section
variable {T : List F} {s : Nat → F} {D : Nat}
theorem at_len (hD : D ≤ T.length) : ((List.range (T.length - D)).map fun k => (T.drop k).take D).length = (T.drop D).length := by rw [List.length_map, List.length_range, List.length_drop]
theorem at_rl (hD : D ≤ T.length) : ∀ row ∈ ((List.range (T.length - D)).map fun k => (T.drop k).take D), row.length = D := fun row h => by
  obtain ⟨k, hk, rfl⟩ := List.mem_map.mp h
  have := List.mem_range.mp hk
  rw [List.length_take, List.length_drop]
  omega
theorem at_eqn (hs : ∀ k, k < T.length → T.getD k zero = s k) (hD : D ≤ T.length) {x : Nat → F} : (∀ k, k < ((List.range (T.length - D)).map fun k => (T.drop k).take D).length → sm D (fun i => mul ((((List.range (T.length - D)).map fun k => (T.drop k).take D).getD k []).getD i zero) (x i)) = (T.drop D).getD k zero) ↔ Eqn s x D (T.length - D) := by
  rw [List.length_map, List.length_range]
  have e : ∀ k, k < T.length - D → (sm D (fun i => mul ((((List.range (T.length - D)).map fun k => (T.drop k).take D).getD k []).getD i zero) (x i)) = (T.drop D).getD k zero ↔ sm D (fun i => mul (x i) (s (k + i))) = s (k + D)) := fun k hk => by
    rw [getD_map_range hk, getD_drop, hs (D + k) (by omega), Nat.add_comm D k]
    have e2 : sm D (fun i => mul (((T.drop k).take D).getD i zero) (x i)) = sm D (fun i => mul (x i) (s (k + i))) := sm_congr fun i hi => by rw [getD_take hi, getD_drop, hs (k + i) (by omega), Fld.mul_comm]
    rw [e2]
  exact ⟨fun h k hk => (e k hk).mp (h k hk), fun h k hk => (e k hk).mpr (h k hk)⟩
theorem at_some (hs : ∀ k, k < T.length → T.getD k zero = s k) (hD : D ≤ T.length) {v : List F} (h : fsolveAt T D = some v) : v.length = D ∧ Eqn s (fun i => v.getD i zero) D (T.length - D) := by
  obtain ⟨h1, h2⟩ := solve_some (at_len hD) (at_rl hD) h
  exact ⟨h1, (at_eqn hs hD).mp h2⟩
theorem at_none (hs : ∀ k, k < T.length → T.getD k zero = s k) (hD : D ≤ T.length) (h : fsolveAt T D = none) (x : Nat → F) : ¬ Eqn s x D (T.length - D) := fun hx => solve_none (at_len hD) (at_rl hD) h x ((at_eqn hs hD).mpr hx)
theorem least_case (T : List F) : (∃ D v, D < T.length ∧ (∀ q, q < D → fsolveAt T q = none) ∧ fsolveAt T D = some v ∧ fleastRec T = v) ∨ ((∀ q, q < T.length → fsolveAt T q = none) ∧ fleastRec T = List.replicate T.length zero) := by
  by_cases h : ∃ D, D < T.length ∧ fsolveAt T D ≠ none
  · have hmin : ∀ D, D < T.length → fsolveAt T D ≠ none → ∃ D0 v, D0 < T.length ∧ (∀ q, q < D0 → fsolveAt T q = none) ∧ fsolveAt T D0 = some v ∧ fleastRec T = v := by
      intro D
      induction D using Nat.strongRecOn with
      | _ D ih =>
        intro hD hne
        by_cases hq : ∀ q, q < D → fsolveAt T q = none
        · cases e : fsolveAt T D with
          | none => exact absurd e hne
          | some v =>
            refine ⟨D, v, hD, hq, e, ?_⟩
            unfold fleastRec
            rw [findSome_hit hq e hD]
        · obtain ⟨q, hq⟩ := Classical.not_forall.mp hq
          obtain ⟨hqD, hqn⟩ := Classical.not_imp.mp hq
          exact ih q hqD (by omega) hqn
    obtain ⟨D, h1, h2⟩ := h
    exact .inl (hmin D h1 h2)
  · have hn : ∀ q, q < T.length → fsolveAt T q = none := fun q hq => Decidable.byContradiction fun z => h ⟨q, hq, z⟩
    refine .inr ⟨hn, ?_⟩
    unfold fleastRec
    rw [List.findSome?_eq_none_iff.mpr fun x hx => hn x (List.mem_range.mp hx)]
end
end
end K35
set_option Elab.async false
set_option linter.all false
set_option maxRecDepth 100000
set_option maxHeartbeats 4000000
namespace K35
open PySem PySem.Spec L2
section
variable {P : Program} {w : World} {K : PySem.W.Frag} {mg : Str → Option Value} {base : Heap}

theorem ok_f_member_of (T : Tx K mg) : Cal P w K mg base 1 "member_of" (spP S_f_member_of) := by
  refine cal_of T.d_f_member_of sc_f_member_of (by rintro H rs r ⟨_, _, _, _, rfl, _⟩; rfl) fun f cdv A outer s H vs Q E rs r hr hS ha k => ?_
  obtain ⟨l, n, hl, hn, rfl, rfl⟩ := hS
  obtain ⟨v, ws, rfl, dv, ha⟩ := ha.cons_inv
  obtain ⟨w', ws, rfl, dw, ha⟩ := ha.cons_inv
  have e := ha.nil_inv
  subst e
  refine ⟨_, (pss_one (ps_ret (pe_callTy c_tuple (by rfl) T.z_tuple b_tuple (pa_cons (pe_op op_cat (pe_callTy c_list (by rfl) T.z_list b_list (pa_cons (pv 0) pa_nil)) (pe_op op_rep (pe_lst (pa_cons pe_int pa_nil)) (pe_op c_sub (pv 1) (pe_callB c_len (by rfl) T.z_len PySem.boot_len (pa_cons (pv 0) pa_nil))))) pa_nil)))), ?_⟩
  have h1 : Ev (tVar 0) (start n_f_member_of [v, w']) H (dTI l) := ev_var rfl dv
  have h2 : Ev (tVar 1) (start n_f_member_of [v, w']) H (dI (n : Int)) := ev_var rfl dw
  have hc : dIs l ++ List.replicate ((n : Int) - ((dIs l).length : Int)).toNat (dI 0) = dIs (memOf l n) := by
    unfold memOf
    rw [dIs_len, show ((n : Int) - (l.length : Int)).toNat = n - l.length by omega]
    unfold dIs
    rw [List.map_append, List.map_replicate]
  have h3 := ev_tuple (K := K) (ev_cat (ev_list (K := K) h1) (ev_rep (r0 := dI 0) (ev_lst (ea_cons ev_int ea_nil)) (ev_sub h2 (ev_len (K := K) h1)) (by rw [dIs_len]; omega) (by rw [dIs_len]; omega)) (by rw [List.length_replicate, dIs_len]; omega))
  rw [hc] at h3
  exact s_ret h3 k
end
end K35
set_option Elab.async false
set_option linter.all false
set_option maxRecDepth 100000
set_option maxHeartbeats 4000000
namespace K35
open PySem PySem.Spec L2
section
variable {P : Program} {w : World} {K : PySem.W.Frag} {mg : Str → Option Value} {base : Heap}

theorem ok_m_Field_integer (T : Tx K mg) : Met P w K mg base 2 (cF K) "integer" (spP (S_m_Field_integer K)) := by
  have G_f_member_of := ok_f_member_of (P := P) (w := w) (base := base) T
  refine met_of T.d_m_Field_integer sc_m_Field_integer (by rintro H rs r ⟨_, _, rfl, _⟩; rfl) fun f cdv A outer s H vs Q E rs r hr hS ha k => ?_
  obtain ⟨i, kk, rfl, rfl⟩ := hS
  obtain ⟨vs, ws, rfl, dvs, ha⟩ := ha.cons_inv
  obtain ⟨va, ws, rfl, dva, ha⟩ := ha.cons_inv
  have e := ha.nil_inv
  subst e
  refine ⟨_, (pss_one (ps_ret (pe_cal G_f_member_of hr (by decide) (by rfl) (pa_cons (pe_tup (pa_cons (pe_op c_mod (pv 1) (pe_fld (pv 0) rfl)) pa_nil)) (pa_cons (pe_fld (pv 0) rfl) pa_nil))))), ?_⟩
  have := (len_fx i).1
  exact s_ret (ev_call (r := dTI (memOf [kk % (fx i).p] (fx i).n)) (ea_cons (ev_tup (rs := [dI (kk % (fx i).p)]) (ea_cons (ev_mod (okP_pos (okP_fx i)) (ev_var (r := dI kk) rfl dva) (ev_fp T (ev_var rfl dvs))) ea_nil)) (ea_cons (ev_fn T (ev_var rfl dvs)) ea_nil)) fun H1 => ⟨[kk % (fx i).p], (fx i).n, by show 1 ≤ 400; decide, by omega, rfl, rfl⟩) k
end
end K35
set_option Elab.async false
set_option linter.all false
set_option maxRecDepth 100000
set_option maxHeartbeats 4000000
namespace K35
open PySem PySem.Spec L2
section
variable {P : Program} {w : World} {K : PySem.W.Frag} {mg : Str → Option Value} {base : Heap}

theorem ok_m_Field_zero (T : Tx K mg) : Met P w K mg base 3 (cF K) "zero" (spP (S_m_Field_zero K)) := by
  have G_m_Field_integer := ok_m_Field_integer (P := P) (w := w) (base := base) T
  refine met_of T.d_m_Field_zero sc_m_Field_zero (by rintro H rs r ⟨_, rfl, _⟩; rfl) fun f cdv A outer s H vs Q E rs r hr hS ha k => ?_
  obtain ⟨i, rfl, rfl⟩ := hS
  obtain ⟨vs, ws, rfl, dvs, ha⟩ := ha.cons_inv
  have e := ha.nil_inv
  subst e
  refine ⟨_, (pss_one (ps_ret (pe_met G_m_Field_integer hr (by decide) (pv 0) (pa_cons pe_int pa_nil)))), ?_⟩
  exact s_ret ((ev_met (ev_var (r := dFld K i) rfl dvs) (ea_cons (ev_int (i := 0)) ea_nil) (by decide) fun H1 => ⟨i, 0, rfl, rfl⟩).eq (by rw [r_zero]; rfl)) k
end
end K35
set_option Elab.async false
set_option linter.all false
set_option maxRecDepth 100000
set_option maxHeartbeats 4000000
namespace K35
open PySem PySem.Spec L2
section
variable {P : Program} {w : World} {K : PySem.W.Frag} {mg : Str → Option Value} {base : Heap}
/-- out holds l, whose trim is the whole's; the zeros behind go one by one -/
theorem trimZ_snoc0 (l : List Int) : trimZ (l ++ [0]) = trimZ l := by
  unfold trimZ
  rw [List.reverse_append]
  rfl
theorem trimZ_snoc {x : Int} (h : x ≠ 0) (l : List Int) : trimZ (l ++ [x]) = l ++ [x] := by
  unfold trimZ
  rw [List.reverse_append]
  show (List.dropWhile _ (x :: l.reverse)).reverse = _
  rw [List.dropWhile_cons, if_neg (by simpa using h), List.reverse_cons, List.reverse_reverse]
theorem ok_f_trimmed (T : Tx K mg) : Cal P w K mg base 1 "trimmed" (spP S_f_trimmed) := by
  refine cal_of T.d_f_trimmed sc_f_trimmed (by rintro H rs r ⟨_, _, _, _, _, _, rfl, _⟩; rfl) fun f cdv A outer s H vs Q E rs r hr hS ha k => ?_
  obtain ⟨sd, l, p, hp, hl, hs, rfl, rfl⟩ := hS
  obtain ⟨v, ws, rfl, dv, ha⟩ := ha.cons_inv
  obtain ⟨z, ws, rfl, dz, ha⟩ := ha.cons_inv
  have e := ha.nil_inv
  subst e
  have := hs.sq
  have := hs.mo
  refine ⟨_, (pss_cons (ps_setLc (i := 2) (own := [("x", 3)]) (g := gName 3) (tt := tYes) rfl sc_f_trimmed.nd rfl rfl (sw_true rfl rfl rfl (by decide +kernel)) (pi_sq (pv 0)) (blkOk_by (own := [("x", 3)]) (N := n_f_trimmed) (sc := defScope s_f_trimmed) (by decide +kernel)) (fun _ _ _ _ _ => pg_name (i := 3) sc_f_trimmed.nd rfl (Or.inl rfl)) (fun _ _ _ _ _ => pts_nil) (fun _ _ _ _ _ => (pe_op c_mod (pv 3) (pv 1))))
    (pss_cons (ps_while PassesOwn.never (PW.pt (pw_and (pt_cmpR c_gt (pe_callB c_len (by rfl) T.z_len PySem.boot_len (pa_cons (pv 2) pa_nil)) pe_int (nomark _)) (pw_and1 (pt_cmpR op_eq (pe_ix ix_seq (pv 2) (pe_op c_sub (pe_callB c_len (by rfl) T.z_len PySem.boot_len (pa_cons (pv 2) pa_nil)) pe_int) (fun _ _ => rfl)) pe_int (nomark _))))) (pss_one (ps_expr (pe_bm0 PySem.F.plainAttrs_list PySem.F.slot_list_pop PySem.F.type_list_pop mt_pop (pv 2)))))
    (pss_one (ps_ret (pe_callTy c_tuple (by rfl) T.z_tuple b_tuple (pa_cons (pv 2) pa_nil)))))), ?_⟩
  have hL : ((dIs (l.map fun x => x % p)).length : Nat) = (dIs l).length := by rw [dIs_len, dIs_len, List.length_map]
  refine q_asg (ev_lc1 (es := dIs (l.map fun x => x % p)) (ei_sq (ev_var (r := sd) rfl dv)) hL (by rw [dIs_len]; omega) (fun _ => rfl) fun j d x H1 hd e hx => ?_) fun v1 H1 e1 d1 => ?_
  · obtain ⟨c, hc, rfl⟩ := dIs_inv hd
    obtain ⟨x1, h1, rfl⟩ := map_inv hc
    rw [yAt_some (dIs_get h1)] at hx
    exact ev_mod (okP_pos hp) (ev_var rfl hx) (ev_var rfl (Mono.m _ _ _ e dz))
  · obtain ⟨⟨o, rfl, ho⟩, o', us, eo, hO, al⟩ := d1
    cases eo
    refine q_while (fun m σ' H' => σ' = [some v, some z, some (.ref o), none] ∧ Same H H' ∧ ∃ us cur, H' o = some (.lst us) ∧ us.length = m ∧ Alls H' us (dIs cur) ∧ trimZ cur = mTrim l p) us.length ⟨rfl, e1, us, _, hO, rfl, al, rfl⟩ fun m σ' H' hW => ?_
    obtain ⟨rfl, sm, us, cur, hO, hm, al, ht⟩ := hW
    have dO : dL (dIs cur) (.ref o) H' := ⟨o, us, rfl, hO, al⟩
    have hlen : Ev (tCB (pLen K) (tCons (tVar 2) tNil)) [some v, some z, some (.ref o), none] H' (dI ((dIs cur).length : Int)) := ev_len (ev_var rfl dO)
    rw [dIs_len] at hlen
    by_cases hc : cur = []
    · subst hc
      refine ⟨false, (et_and (et_test (ev_gt hlen ev_int)) fun z => (by cases z)).eq (b := _ && false) rfl, fun z => (by cases z), fun _ H1 e => ?_⟩
      refine s_ret (ev_tuple (ev_var (r := dL (dIs [])) rfl (Mono.m _ _ _ e dO))) fun v2 H2 e2 d2 => k v2 H2 ((sm.trans e).trans e2) ?_
      rw [← ht]
      exact d2
    · obtain ⟨ini, x, rfl⟩ : ∃ ini x, cur = ini ++ [x] := ⟨cur.dropLast, cur.getLast hc, (List.dropLast_concat_getLast hc).symm⟩
      have hix : Ev (tOp (rIx K) (tVar 2) (tOp pSub (tCB (pLen K) (tCons (tVar 2) tNil)) (tC (.int 1)))) [some v, some z, some (.ref o), none] H' (dI x) := by
        refine ev_ixI (k := ini.length) (ra := dL (dIs (ini ++ [x]))) (ev_var rfl dO) (ev_sub hlen ev_int) (by rw [List.length_append, List.length_singleton]; omega) (dIs_get (by simp))
      have ht2 := et_and (et_test (ev_gt hlen (ev_int (i := 0)))) fun _ => et_test (ev_eqI hix (ev_int (i := 0)))
      rw [show decide ((0 : Int) < ((ini ++ [x]).length : Int)) = true from decide_eq_true (by rw [List.length_append, List.length_singleton]; omega), Bool.true_and] at ht2
      refine ⟨_, ht2, fun hx H1 e => ?_, fun hx H1 e => ?_⟩
      · have hx0 : x = 0 := of_decide_eq_true hx
        subst hx0
        have hne : us ≠ [] := fun q => by
          rw [q] at al
          have := al.len
          rw [dIs_len, List.length_append] at this
          cases this
        have hne' : (us.dropLast).length = ini.length := by
          have := al.len
          rw [dIs_len, List.length_append, List.length_singleton] at this
          rw [List.length_dropLast]
          omega
        refine s_pop (p := o) (vs := us) rfl (e _ _ hO) hne ⟨m - 1, ?_, rfl, same_mut (sm.trans e) ho, us.dropLast, ini, upd_same, ?_, ?_, ?_⟩
        · have := List.length_pos_iff.mpr hne
          omega
        · rw [List.length_dropLast, hm]
        · have a2 := al.take ini.length
          rw [List.dropLast_eq_take, show us.length - 1 = ini.length by rw [← hne', List.length_dropLast]]
          have e3 : (dIs (ini ++ [0])).take ini.length = dIs ini := by
            unfold dIs
            rw [List.map_append, List.take_left' (List.length_map ..)]
          rw [e3] at a2
          exact a2.imm (le_trans (le_of e) (le_set (e _ _ hO)))
        · rw [← ht, trimZ_snoc0]
      · have hx0 : x ≠ 0 := of_decide_eq_false hx
        refine s_ret (ev_tuple (ev_var (r := dL (dIs (ini ++ [x]))) rfl (Mono.m _ _ _ e dO))) fun v2 H2 e2 d2 => k v2 H2 ((sm.trans e).trans e2) ?_
        rw [← ht, trimZ_snoc hx0]
        exact d2
end
end K35
set_option Elab.async false
set_option linter.all false
set_option maxRecDepth 100000
set_option maxHeartbeats 4000000
namespace K35
open PySem PySem.Spec L2
section
variable {P : Program} {w : World} {K : PySem.W.Frag} {mg : Str → Option Value} {base : Heap}

theorem ok_f_inverse_modulo (T : Tx K mg) : Cal P w K mg base 1 "inverse_modulo" (spP S_f_inverse_modulo) := by
  refine cal_of T.d_f_inverse_modulo sc_f_inverse_modulo (by rintro H rs r ⟨_, _, _, _, rfl, _⟩; rfl) fun f cdv A outer s H vs Q E rs r hr hS ha k => ?_
  obtain ⟨a, p, w, hw, rfl, rfl⟩ := hS
  obtain ⟨v, ws, rfl, dv, ha⟩ := ha.cons_inv
  obtain ⟨z, ws, rfl, dz, ha⟩ := ha.cons_inv
  have e := ha.nil_inv
  subst e
  refine ⟨_, (pss_cons (ps_par (i := 2) (j := 3) (by rfl) sc_f_inverse_modulo.nd rfl rfl (by decide) rfl rfl (pa_cons (pv 1) (pa_cons (pe_op c_mod (pv 0) (pv 1)) pa_nil)) (by rfl))
    (pss_cons (ps_asg (pe_tup (pa_cons pe_int (pa_cons pe_int pa_nil))) (pg_tup rfl (pgs_cons (pg_name (i := 4) sc_f_inverse_modulo.nd rfl (by first | exact Or.inl rfl | exact Or.inr rfl)) (pgs_cons (pg_name (i := 5) sc_f_inverse_modulo.nd rfl (by first | exact Or.inl rfl | exact Or.inr rfl)) pgs_nil))))
    (pss_cons (ps_while PassesOwn.never (pt_cmpR op_ne (pv 3) pe_int (nomark _)) (pss_cons (ps_set (i := 6) sc_f_inverse_modulo.nd rfl (by first | exact Or.inl rfl | exact Or.inr rfl) (pe_op c_div (pv 2) (pv 3)))
    (pss_cons (ps_par (i := 2) (j := 3) (by rfl) sc_f_inverse_modulo.nd rfl rfl (by decide) rfl rfl (pa_cons (pv 3) (pa_cons (pe_op c_sub (pv 2) (pe_op c_mul (pv 6) (pv 3))) pa_nil)) (by rfl))
    (pss_one (ps_par (i := 4) (j := 5) (by rfl) sc_f_inverse_modulo.nd rfl rfl (by decide) rfl rfl (pa_cons (pv 5) (pa_cons (pe_op c_sub (pv 4) (pe_op c_mul (pv 6) (pv 5))) pa_nil)) (by rfl))))))
    (pss_cons (ps_if (pt_cmpR op_ne (pv 2) pe_int (nomark _)) (pss_one ps_never) pss_nil)
    (pss_one (ps_ret (pe_op c_mod (pv 4) (pv 1)))))))), ?_⟩
  obtain ⟨hp, uf, hf, rfl⟩ := mInvM_inv hw
  have h0 := okP_pos hp
  have h4 := okP_le hp
  have ev : v = .int a := dv
  subst ev
  have ev : z = .int p := dz
  subst ev
  refine q_par (ra := dI p) (rb := dI (a % p)) (ev_var rfl rfl) (ev_mod h0 (ev_var (r := dI a) rfl rfl) (ev_var (r := dI p) rfl rfl)) fun v1 v2 H1 e1 d1 d2 => ?_
  have ev : v1 = .int p := d1
  subst ev
  have ev : v2 = .int (a % p) := d2
  subst ev
  refine q_two (ra := dI 0) (rb := dI 1) (ev_tup (ea_cons ev_int (ea_cons ev_int ea_nil))) fun v1 v2 H2 e2 d1 d2 => ?_
  have ev : v1 = .int 0 := d1
  subst ev
  have ev : v2 = .int 1 := d2
  subst ev
  refine q_while (fun m σ' H' => Same H H' ∧ ∃ old new u v q, σ' = [some (.int a), some (.int p), some (.int old), some (.int new), some (.int u), some (.int v), q] ∧ 0 ≤ new ∧ new ≤ 400 ∧ 0 ≤ old ∧ old ≤ 400 ∧ invL m old new u v = some (1, uf)) 64 ⟨e1.trans e2, p, a % p, 0, 1, none, rfl, Int.emod_nonneg _ (by omega), by have := Int.emod_lt_of_pos a h0; omega, by omega, h4, hf⟩ fun m σ' H' hW => ?_
  obtain ⟨sm, old, new, u, v, q, rfl, n0, n1, o0, o1, hi⟩ := hW
  refine ⟨_, et_test (ev_neI (ev_var (r := dI new) rfl rfl) (ev_int (i := 0))), fun z H1 e1 => ?_, fun z H1 e1 => ?_⟩
  · have nn : new ≠ 0 := fun q => by rw [q] at z; cases z
    obtain ⟨m', rfl, hi2⟩ := invL_step nn hi
    have q0 : 0 ≤ old / new := Int.ediv_nonneg o0 n0
    have q1 : old / new ≤ 400 := by
      have := Int.ediv_le_self new o0
      omega
    have cm : ∀ j : Int, CMul (old / new) j := fun j => .inl ⟨by omega, by omega⟩
    refine q_asg (ev_div ⟨by omega, by omega⟩ (ev_var (r := dI old) rfl rfl) (ev_var (r := dI new) rfl rfl)) fun v1 H2 e2 d1 => ?_
    have ev : v1 = .int (old / new) := d1
    subst ev
    refine q_par (ra := dI new) (ev_var rfl rfl) (ev_sub (ev_var (r := dI old) rfl rfl) (ev_mul (cm _) (ev_var (r := dI (old / new)) rfl rfl) (ev_var (r := dI new) rfl rfl))) fun v1 v2 H3 e3 d1 d2 => ?_
    have ev : v1 = .int new := d1
    subst ev
    have ev : v2 = .int _ := d2
    subst ev
    refine s_par (ra := dI v) (ev_var rfl rfl) (ev_sub (ev_var (r := dI u) rfl rfl) (ev_mul (cm _) (ev_var (r := dI (old / new)) rfl rfl) (ev_var (r := dI v) rfl rfl))) fun v1 v2 H4 e4 d1 d2 => ?_
    have ev : v1 = .int v := d1
    subst ev
    have ev : v2 = .int _ := d2
    subst ev
    have er : old - old / new * new = old % new := by
      have := Int.ediv_mul_add_emod old new
      omega
    have m0 : 0 ≤ old % new := Int.emod_nonneg _ nn
    have m1 : old % new < new := Int.emod_lt_of_pos _ (by omega)
    refine ⟨m', Nat.lt_succ_self _, (((sm.trans e1).trans e2).trans e3).trans e4, _, _, _, _, _, rfl, by rw [er]; exact m0, by rw [er]; omega, n0, n1, hi2⟩
  · have nn : new = 0 := Decidable.byContradiction fun q => by rw [decide_eq_false q] at z; cases z
    subst nn
    have er := invL_zero (u' := u) hi
    cases er
    refine q_no ((et_test (ev_neI (ev_var (r := dI 1) rfl rfl) (ev_int (i := 1)))).eq rfl) fun H2 e2 => ?_
    refine s_ret (ev_mod h0 (ev_var (r := dI uf) rfl rfl) (ev_var (r := dI p) rfl rfl)) fun v1 H3 e3 d1 => k v1 H3 (((sm.trans e1).trans e2).trans e3) d1
end
end K35
set_option Elab.async false
set_option linter.all false
set_option maxRecDepth 100000
set_option maxHeartbeats 4000000
namespace K35
open PySem PySem.Spec L2
section
variable {P : Program} {w : World} {K : PySem.W.Frag} {mg : Str → Option Value} {base : Heap}

theorem ok_f_divide_rows (T : Tx K mg) : Cal P w K mg base 2 "divide_rows" (spP S_f_divide_rows) := by
  have G_f_inverse_modulo := ok_f_inverse_modulo (P := P) (w := w) (base := base) T
  have G_f_trimmed := ok_f_trimmed (P := P) (w := w) (base := base) T
  refine cal_of T.d_f_divide_rows sc_f_divide_rows (by rintro H rs r ⟨_, _, _, _, _, rfl, _⟩; rfl) fun f cdv A outer s H vs Q E rs r hr hS ha k => ?_
  obtain ⟨a, b, p, q, hq, rfl, rfl⟩ := hS
  obtain ⟨va, ws, rfl, dva, ha⟩ := ha.cons_inv
  obtain ⟨vb, ws, rfl, dvb, ha⟩ := ha.cons_inv
  obtain ⟨vp, ws, rfl, dvp, ha⟩ := ha.cons_inv
  have e := ha.nil_inv
  subst e
  refine ⟨_, (pss_cons (ps_if (pt_cmpR op_eq (pe_callB c_len (by rfl) T.z_len PySem.boot_len (pa_cons (pv 1) pa_nil)) pe_int (nomark _)) (pss_one ps_never) pss_nil)
    (pss_cons (ps_set (i := 3) sc_f_divide_rows.nd rfl (by first | exact Or.inl rfl | exact Or.inr rfl) (pe_callTy c_list (by rfl) T.z_list b_list (pa_cons (pv 0) pa_nil)))
    (pss_cons (ps_set (i := 4) sc_f_divide_rows.nd rfl (by first | exact Or.inl rfl | exact Or.inr rfl) (pe_cal G_f_inverse_modulo hr (by decide) (by rfl) (pa_cons (pe_ix ix_seq (pv 1) (pe_op c_sub (pe_callB c_len (by rfl) T.z_len PySem.boot_len (pa_cons (pv 1) pa_nil)) pe_int) (fun _ _ => rfl)) (pa_cons (pv 2) pa_nil))))
    (pss_cons (ps_setLc (i := 5) (own := [("_", 8)]) (g := gName 8) (tt := tYes) rfl sc_f_divide_rows.nd rfl rfl (sw_true rfl rfl rfl (by decide +kernel)) (pi_range1 rfl T.z_range (pa_cons (pe_callB (c_max2 rfl) (by rfl) T.z_max b_max (pa_cons (pe_op c_add (pe_op c_sub (pe_callB c_len (by rfl) T.z_len PySem.boot_len (pa_cons (pv 0) pa_nil)) (pe_callB c_len (by rfl) T.z_len PySem.boot_len (pa_cons (pv 1) pa_nil))) pe_int) (pa_cons pe_int pa_nil))) pa_nil)) (blkOk_by (own := [("_", 8)]) (N := n_f_divide_rows) (sc := defScope s_f_divide_rows) (by decide +kernel)) (fun _ _ _ _ _ => pg_name (i := 8) sc_f_divide_rows.nd rfl (Or.inl rfl)) (fun _ _ _ _ _ => pts_nil) (fun _ _ _ _ _ => pe_int))
    (pss_cons (ps_for PassesOwn.never rfl (pi_range3 rfl T.z_range (pa_cons (pe_op c_sub (pe_callB c_len (by rfl) T.z_len PySem.boot_len (pa_cons (pv 5) pa_nil)) pe_int) (pa_cons (pe_un c_neg pe_int) (pa_cons (pe_un c_neg pe_int) pa_nil)))) (pg_name (i := 6) sc_f_divide_rows.nd rfl (by first | exact Or.inl rfl | exact Or.inr rfl)) (pss_cons (ps_set (i := 7) sc_f_divide_rows.nd rfl (by first | exact Or.inl rfl | exact Or.inr rfl) (pe_op c_mod (pe_op c_mul (pe_ix ix_seq (pv 3) (pe_op c_sub (pe_op c_add (pv 6) (pe_callB c_len (by rfl) T.z_len PySem.boot_len (pa_cons (pv 1) pa_nil))) pe_int) (fun _ _ => rfl)) (pv 4)) (pv 2)))
    (pss_cons (ps_asg (pv 7) (pg_sub (pv 5) (pv 6) set_list))
    (pss_one (ps_for PassesOwn.never rfl (pi_enX (by rfl) T.z_enumerate (pa_cons (pv 1) pa_nil)) (pg_tup rfl (pgs_cons (pg_name (i := 9) sc_f_divide_rows.nd rfl (by first | exact Or.inl rfl | exact Or.inr rfl)) (pgs_cons (pg_name (i := 10) sc_f_divide_rows.nd rfl (by first | exact Or.inl rfl | exact Or.inr rfl)) pgs_nil))) (pss_one (ps_asg (pe_op c_mod (pe_op c_sub (pe_ix ix_seq (pv 3) (pe_op c_add (pv 6) (pv 9)) (fun _ _ => rfl)) (pe_op c_mul (pv 7) (pv 10))) (pv 2)) (pg_sub (pv 3) (pe_op c_add (pv 6) (pv 9)) set_list))))))))
    (pss_one (ps_ret (pe_tup (pa_cons (pe_cal G_f_trimmed hr (by decide) (by rfl) (pa_cons (pv 5) (pa_cons (pv 2) pa_nil))) (pa_cons (pe_cal G_f_trimmed hr (by decide) (by rfl) (pa_cons (pv 3) (pa_cons (pv 2) pa_nil))) pa_nil)))))))))), ?_⟩
  obtain ⟨hp, ha', hb', hb1, last, hlast, rfl⟩ := mDiv_inv hq
  have h0 := okP_pos hp
  have h4 := okP_le hp
  have la := okL_len ha'
  have lb := okL_len hb'
  have hbl := mInvM_bnd hlast
  refine q_no ((et_test (ev_eqI (ev_len (K := K) (ev_var (r := dTI b) rfl dvb)) (ev_int (i := 0)))).eq (by rw [dIs_len]; exact decide_eq_false (by omega))) fun H1 e1 => ?_
  replace dva := Mono.m _ _ _ e1 dva
  replace dvb := Mono.m _ _ _ e1 dvb
  replace dvp := Mono.m _ _ _ e1 dvp
  replace k := fun v H' e' d' => k v H' (Same.trans e1 e') d'
  refine q_asg (ev_list (K := K) (ev_var (r := dTI a) rfl dva)) fun v3 H2 e2 d3 => ?_
  obtain ⟨⟨o, rfl, ho⟩, d3⟩ := d3
  replace dva := Mono.m _ _ _ e2 dva
  replace dvb := Mono.m _ _ _ e2 dvb
  replace dvp := Mono.m _ _ _ e2 dvp
  refine q_asg (ev_call (r := dI last) (ea_cons (ev_at (enc := dI) (z := 0) (l := b) (j := b.length - 1) (ev_var (r := dTI b) rfl dvb) (ev_sub (ev_len (K := K) (ev_var (r := dTI b) rfl dvb)) (ev_int (i := 1))) (by rw [dIs_len]; omega) (by omega)) (ea_cons (ev_var (r := dI p) rfl dvp) ea_nil)) fun H1 => ⟨_, p, last, hlast, rfl, rfl⟩) fun v4 H3 e3 d4 => ?_
  replace dva := Mono.m _ _ _ e3 dva
  replace dvb := Mono.m _ _ _ e3 dvb
  replace dvp := Mono.m _ _ _ e3 dvp
  replace d3 := Mono.m _ _ _ e3 d3
  obtain ⟨o', us, eo, hO, al⟩ := d3
  cases eo
  have hn : (if (0 : Int) > ((dIs a).length : Int) - ((dIs b).length : Int) + 1 then (0 : Int) else ((dIs a).length : Int) - ((dIs b).length : Int) + 1) = ((a.length + 1 - b.length : Nat) : Int) := by
    rw [dIs_len, dIs_len]
    split <;> omega
  have hmax := ev_max2 (ev_add (ev_sub (ev_len (K := K) (ev_var (n := 0) (σ := [some va, some vb, some vp, some (.ref o), some v4, none, none, none, none, none, none]) (r := dTI a) rfl dva)) (ev_len (K := K) (ev_var (n := 1) (r := dTI b) rfl dvb))) (ev_int (i := 1))) (ev_int (i := 0))
  rw [hn] at hmax
  refine q_asg (ev_lc1 (es := dIs (List.replicate (a.length + 1 - b.length) 0)) (ei_rng1 hmax (by omega) (by omega)).i ?_ (by omega) (fun _ => rfl) fun j d x H1 hd e hx => ?_) fun v5 H4 e4 d5 => ?_
  · rw [dIs_len, List.length_replicate, Int.toNat_natCast]
  · obtain ⟨c, hc, rfl⟩ := dIs_inv hd
    have := List.mem_of_getElem? hc
    rw [(List.mem_replicate.mp this).2]
    exact ev_int
  · obtain ⟨⟨qd, rfl, hqd⟩, qd', ws, eo, hQ, aq⟩ := d5
    cases eo
    replace dva := Mono.m _ _ _ e4 dva
    replace dvb := Mono.m _ _ _ e4 dvb
    replace dvp := Mono.m _ _ _ e4 dvp
    replace d4 := Mono.m _ _ _ e4 d4
    have hne : o ≠ qd := ne_of_none hO hqd
    have hO := e4 _ _ hO
    have al := al.mono e4
    have hq0 := (e2.trans e3).free hqd
    refine div_loops (enc := dI) (op := iDS p) (fac := iFac last p) (z := 0) (a := a) (b := b) (H0 := H1) (rp := dI p) (rl := dI last) (w := 0) (n := a.length + 1 - b.length) (tl := []) rfl hb1 rfl (by omega) dvb dvp d4 ((e2.trans e3).trans e4) ho hq0 hne hO hQ al aq (fun c σ H1 h1 h2 h3 => ev_mod h0 (ev_mul (.inr ⟨by omega, by omega⟩) h1 h2) h3) (fun D c f y i j vf vy tl H1 us hy htl dp df dy hO hu hix hadd q => ?_) fun x6 x7 x9 x10 tl H5 us' ws' s5 l5 hO5 hQ5 al5 aq5 htl => ?_
    · have := okL_mem hb' hy
      have htl : tl = [] := List.eq_nil_of_length_eq_zero htl
      subst htl
      exact s_set (p := o) rfl hO (ev_mod h0 (ev_sub (hix [] _ (Same.refl _)) (ev_mul (.inr ⟨by omega, by omega⟩) (ev_var rfl df) (ev_var rfl dy))) (ev_var rfl dp)) (hadd [] _ (Same.refl _)) hu fun v H e d hO => q [] v H rfl e d hO
    · obtain ⟨l1, l2⟩ := divOut_len (op := iDS p) (fac := iFac last p) (z := 0) (a := a) (b := b) (n := a.length + 1 - b.length) (t := a.length + 1 - b.length)
      have dq : dL (dIs (divOut (iDS p) (iFac last p) 0 a b (a.length + 1 - b.length) (a.length + 1 - b.length)).1) (.ref qd) H5 := ⟨qd, _, rfl, hQ5, aq5⟩
      have dr : dL (dIs (divOut (iDS p) (iFac last p) 0 a b (a.length + 1 - b.length) (a.length + 1 - b.length)).2) (.ref o) H5 := ⟨o, _, rfl, hO5, al5⟩
      exact s_ret (ev_tup (ea_cons (ev_call (r := dTI _) (ea_cons (ev_var rfl dq) (ea_cons (ev_var (r := dI p) rfl dvp) ea_nil)) fun H1 => ⟨_, _, p, hp, by omega, isSq, rfl, rfl⟩) (ea_cons (ev_call (r := dTI _) (ea_cons (ev_var rfl dr) (ea_cons (ev_var (r := dI p) rfl dvp) ea_nil)) fun H1 => ⟨_, _, p, hp, by omega, isSq, rfl, rfl⟩) ea_nil))) fun v6 H6 e6 d6 => k v6 H6 (s5.trans e6) d6
end
end K35
set_option Elab.async false
set_option linter.all false
set_option maxRecDepth 100000
set_option maxHeartbeats 4000000
namespace K35
open PySem PySem.Spec L2
section
variable {P : Program} {w : World} {K : PySem.W.Frag} {mg : Str → Option Value} {base : Heap}

theorem ok_f_add_rows (T : Tx K mg) : Cal P w K mg base 2 "add_rows" (spP S_f_add_rows) := by
  have G_f_trimmed := ok_f_trimmed (P := P) (w := w) (base := base) T
  refine cal_of T.d_f_add_rows sc_f_add_rows (by rintro H rs r ⟨_, _, _, _, _, _, _, _, rfl, _⟩; rfl) fun f cdv A outer s H vs Q E rs r hr hS ha k => ?_
  obtain ⟨a, sd, b, p, hp, hla, hlb, hs, rfl, rfl⟩ := hS
  obtain ⟨v, ws, rfl, dv, ha⟩ := ha.cons_inv
  obtain ⟨w', ws, rfl, dw, ha⟩ := ha.cons_inv
  obtain ⟨z, ws, rfl, dz, ha⟩ := ha.cons_inv
  have e := ha.nil_inv
  subst e
  have := hs.sq
  have := hs.mo
  refine ⟨_, (pss_cons (ps_set (i := 3) sc_f_add_rows.nd rfl (by first | exact Or.inl rfl | exact Or.inr rfl) (pe_callB (c_max2 rfl) (by rfl) T.z_max b_max (pa_cons (pe_callB c_len (by rfl) T.z_len PySem.boot_len (pa_cons (pv 0) pa_nil)) (pa_cons (pe_callB c_len (by rfl) T.z_len PySem.boot_len (pa_cons (pv 1) pa_nil)) pa_nil))))
    (pss_cons (ps_set (i := 4) sc_f_add_rows.nd rfl (by first | exact Or.inl rfl | exact Or.inr rfl) (pe_op op_cat (pe_callTy c_list (by rfl) T.z_list b_list (pa_cons (pv 0) pa_nil)) (pe_op op_rep (pe_lst (pa_cons pe_int pa_nil)) (pe_op c_sub (pv 3) (pe_callB c_len (by rfl) T.z_len PySem.boot_len (pa_cons (pv 0) pa_nil))))))
    (pss_cons (ps_set (i := 5) sc_f_add_rows.nd rfl (by first | exact Or.inl rfl | exact Or.inr rfl) (pe_op op_cat (pe_callTy c_list (by rfl) T.z_list b_list (pa_cons (pv 1) pa_nil)) (pe_op op_rep (pe_lst (pa_cons pe_int pa_nil)) (pe_op c_sub (pv 3) (pe_callB c_len (by rfl) T.z_len PySem.boot_len (pa_cons (pv 1) pa_nil))))))
    (pss_one (ps_ret (pe_cal G_f_trimmed hr (by decide) (by rfl) (pa_cons (pe_lc (own := [("x", 6), ("y", 7)]) (g := gTup K 2 (gCons (gName 6) (gCons (gName 7) gNil))) (tt := tYes) rfl sc_f_add_rows.nd (pi_zpX (by rfl) T.z_zip (pa_cons (pv 4) (pa_cons (pv 5) pa_nil))) (blkOk_by (own := [("x", 6), ("y", 7)]) (N := n_f_add_rows) (sc := defScope s_f_add_rows) (by decide +kernel)) (fun _ _ _ _ _ => pg_tup rfl (pgs_cons (pg_name (i := 6) sc_f_add_rows.nd rfl (Or.inl rfl)) (pgs_cons (pg_name (i := 7) sc_f_add_rows.nd rfl (Or.inl rfl)) pgs_nil))) (fun _ _ _ _ _ => pts_nil) (fun _ _ _ _ _ => (pe_op c_add (pv 6) (pv 7)))) (pa_cons (pv 2) pa_nil)))))))), ?_⟩
  have hm : (if ((dIs b).length : Int) > ((dIs a).length : Int) then ((dIs b).length : Int) else ((dIs a).length : Int)) = ((max a.length b.length : Nat) : Int) := by
    rw [dIs_len, dIs_len]
    split <;> omega
  have hpad : ∀ (l : List Int) (n : Nat), l.length ≤ n → dIs l ++ List.replicate ((n : Int) - ((dIs l).length : Int)).toNat (dI 0) = dIs (padZ l n) := fun l n h => by
    unfold padZ
    rw [dIs_len, show ((n : Int) - (l.length : Int)).toNat = n - l.length by omega]
    unfold dIs
    rw [List.map_append, List.map_replicate]
  have h0 := ev_max2 (ev_len (K := K) (ev_var (σ := start n_f_add_rows [v, w', z]) (n := 0) (r := dTI a) rfl dv)) (ev_len (K := K) (ev_var (n := 1) (r := sd) rfl dw))
  rw [hm] at h0
  refine q_asg h0 fun v1 H1 e1 d1 => ?_
  have h2 := ev_cat (ev_list (K := K) (ev_var (σ := (start n_f_add_rows [v, w', z]).set 3 (some v1)) (n := 0) (r := dTI a) rfl (Mono.m _ _ _ e1 dv)))
    (ev_rep (r0 := dI 0) (ev_lst (ea_cons ev_int ea_nil)) (ev_sub (ev_var (n := 3) rfl d1) (ev_len (K := K) (ev_var (n := 0) (r := dTI a) rfl (Mono.m _ _ _ e1 dv)))) (by rw [dIs_len]; omega) (by rw [dIs_len]; omega)) (by rw [List.length_replicate, dIs_len]; omega)
  rw [hpad a _ (Nat.le_max_left ..)] at h2
  refine q_asg h2 fun v2 H2 e2 d2 => ?_
  have h3 := ev_cat (ev_list (K := K) (ev_var (σ := ((start n_f_add_rows [v, w', z]).set 3 (some v1)).set 4 (some v2)) (n := 1) (r := sd) rfl (Mono.m _ _ _ (e1.trans e2) dw)))
    (ev_rep (r0 := dI 0) (ev_lst (ea_cons ev_int ea_nil)) (ev_sub (ev_var (n := 3) rfl (Mono.m _ _ _ e2 d1)) (ev_len (K := K) (ev_var (n := 1) (r := sd) rfl (Mono.m _ _ _ (e1.trans e2) dw)))) (by rw [dIs_len]; omega) (by rw [dIs_len]; omega)) (by rw [List.length_replicate, dIs_len]; omega)
  rw [hpad b _ (Nat.le_max_right ..)] at h3
  refine q_asg h3 fun v3 H3 e3 d3 => ?_
  have la : (padZ a (max a.length b.length)).length = max a.length b.length := by unfold padZ; rw [List.length_append, List.length_replicate]; omega
  have lb : (padZ b (max a.length b.length)).length = max a.length b.length := by unfold padZ; rw [List.length_append, List.length_replicate]; omega
  refine s_ret (ev_call (r := dTI (mAdd a b p)) (ea_cons (ev_lc2 (es := dIs (List.zipWith (fun x y => x + y) (padZ a (max a.length b.length)) (padZ b (max a.length b.length)))) (ei_zp (ev_var rfl (Mono.m _ _ _ e3 d2)) (ev_var rfl d3)) ?_ ?_ (fun _ _ => rfl) fun j d x y H1 hd e hx hy => ?_) (ea_cons (ev_var rfl (Mono.m _ _ _ ((e1.trans e2).trans e3) dz)) ea_nil)) fun H1 => ⟨_, _, p, hp, ?_, isSq, rfl, rfl⟩) fun v4 H4 e4 d4 => k v4 H4 (((e1.trans e2).trans e3).trans e4) d4
  · rw [dIs_len, dIs_len, dIs_len, List.length_zipWith]
  · rw [dIs_len, dIs_len]; omega
  · obtain ⟨c, hc, rfl⟩ := dIs_inv hd
    obtain ⟨x1, y1, h1, h2, rfl⟩ := zipWith_inv hc
    rw [yAt_some (dIs_get h1)] at hx
    rw [yAt_some (dIs_get h2)] at hy
    exact ev_add (ev_var rfl hx) (ev_var rfl hy)
  · rw [List.length_zipWith]; omega
end
end K35
set_option Elab.async false
set_option linter.all false
set_option maxRecDepth 100000
set_option maxHeartbeats 4000000
namespace K35
open PySem PySem.Spec L2
section
variable {P : Program} {w : World} {K : PySem.W.Frag} {mg : Str → Option Value} {base : Heap}

theorem ok_f_subtract_rows (T : Tx K mg) : Cal P w K mg base 3 "subtract_rows" (spP S_f_subtract_rows) := by
  have G_f_add_rows := ok_f_add_rows (P := P) (w := w) (base := base) T
  refine cal_of T.d_f_subtract_rows sc_f_subtract_rows (by rintro H rs r ⟨_, _, _, _, _, _, rfl, _⟩; rfl) fun f cdv A outer s H vs Q E rs r hr hS ha k => ?_
  obtain ⟨a, b, p, hp, hla, hlb, rfl, rfl⟩ := hS
  obtain ⟨v, ws, rfl, dv, ha⟩ := ha.cons_inv
  obtain ⟨w', ws, rfl, dw, ha⟩ := ha.cons_inv
  obtain ⟨z, ws, rfl, dz, ha⟩ := ha.cons_inv
  have e := ha.nil_inv
  subst e
  refine ⟨_, (pss_one (ps_ret (pe_cal G_f_add_rows hr (by decide) (by rfl) (pa_cons (pv 0) (pa_cons (pe_lc (own := [("x", 3)]) (g := gName 3) (tt := tYes) rfl sc_f_subtract_rows.nd (pi_tup (pv 1)) (blkOk_by (own := [("x", 3)]) (N := n_f_subtract_rows) (sc := defScope s_f_subtract_rows) (by decide +kernel)) (fun _ _ _ _ _ => pg_name (i := 3) sc_f_subtract_rows.nd rfl (Or.inl rfl)) (fun _ _ _ _ _ => pts_nil) (fun _ _ _ _ _ => (pe_un c_neg (pv 3)))) (pa_cons (pv 2) pa_nil)))))), ?_⟩
  refine s_ret (ev_call (r := dTI (mSub a b p)) (ea_cons (ev_var rfl dv) (ea_cons (ev_lc1 (es := dIs (b.map fun x => -x)) (ei_tup (ev_var (r := dTI b) rfl dw)).i ?_ ?_ (fun _ => rfl) fun j d x H1 hd e hx => ?_) (ea_cons (ev_var rfl dz) ea_nil))) fun H1 => ⟨a, _, _, p, hp, hla, ?_, isSq, rfl, rfl⟩) k
  · rw [dIs_len, dIs_len, List.length_map]
  · rw [dIs_len]; omega
  · obtain ⟨c, hc, rfl⟩ := dIs_inv hd
    obtain ⟨x1, h1, rfl⟩ := map_inv hc
    rw [yAt_some (dIs_get h1)] at hx
    exact ev_neg (ev_var rfl hx)
  · rw [List.length_map]; exact hlb
end
end K35
set_option Elab.async false
set_option linter.all false
set_option maxRecDepth 100000
set_option maxHeartbeats 4000000
namespace K35
open PySem PySem.Spec L2
section
variable {P : Program} {w : World} {K : PySem.W.Frag} {mg : Str → Option Value} {base : Heap}

theorem ok_f_multiply_rows (T : Tx K mg) : Cal P w K mg base 2 "multiply_rows" (spP S_f_multiply_rows) := by
  have G_f_trimmed := ok_f_trimmed (P := P) (w := w) (base := base) T
  refine cal_of T.d_f_multiply_rows sc_f_multiply_rows (by rintro H rs r ⟨_, _, _, _, _, rfl, _⟩; rfl) fun f cdv A outer s H vs Q E rs r hr hS ha k => ?_
  obtain ⟨a, b, p, c, hc, rfl, rfl⟩ := hS
  obtain ⟨va, ws, rfl, dva, ha⟩ := ha.cons_inv
  obtain ⟨vb, ws, rfl, dvb, ha⟩ := ha.cons_inv
  obtain ⟨vp, ws, rfl, dvp, ha⟩ := ha.cons_inv
  have e := ha.nil_inv
  subst e
  refine ⟨_, (pss_cons (ps_setLc (i := 3) (own := [("_", 6)]) (g := gName 6) (tt := tYes) rfl sc_f_multiply_rows.nd rfl rfl (sw_true rfl rfl rfl (by decide +kernel)) (pi_range1 rfl T.z_range (pa_cons (pe_op c_add (pe_callB c_len (by rfl) T.z_len PySem.boot_len (pa_cons (pv 0) pa_nil)) (pe_callB c_len (by rfl) T.z_len PySem.boot_len (pa_cons (pv 1) pa_nil))) pa_nil)) (blkOk_by (own := [("_", 6)]) (N := n_f_multiply_rows) (sc := defScope s_f_multiply_rows) (by decide +kernel)) (fun _ _ _ _ _ => pg_name (i := 6) sc_f_multiply_rows.nd rfl (Or.inl rfl)) (fun _ _ _ _ _ => pts_nil) (fun _ _ _ _ _ => pe_int))
    (pss_cons (ps_for PassesOwn.never rfl (pi_enX (by rfl) T.z_enumerate (pa_cons (pv 0) pa_nil)) (pg_tup rfl (pgs_cons (pg_name (i := 4) sc_f_multiply_rows.nd rfl (by first | exact Or.inl rfl | exact Or.inr rfl)) (pgs_cons (pg_name (i := 5) sc_f_multiply_rows.nd rfl (by first | exact Or.inl rfl | exact Or.inr rfl)) pgs_nil))) (pss_one (ps_for PassesOwn.never rfl (pi_enX (by rfl) T.z_enumerate (pa_cons (pv 1) pa_nil)) (pg_tup rfl (pgs_cons (pg_name (i := 7) sc_f_multiply_rows.nd rfl (by first | exact Or.inl rfl | exact Or.inr rfl)) (pgs_cons (pg_name (i := 8) sc_f_multiply_rows.nd rfl (by first | exact Or.inl rfl | exact Or.inr rfl)) pgs_nil))) (pss_one (ps_asg (pe_op c_add (pe_ix ix_seq (pv 3) (pe_op c_add (pv 4) (pv 7)) (fun _ _ => rfl)) (pe_op c_mul (pv 5) (pv 8))) (pg_sub (pv 3) (pe_op c_add (pv 4) (pv 7)) set_list))))))
    (pss_one (ps_ret (pe_cal G_f_trimmed hr (by decide) (by rfl) (pa_cons (pv 3) (pa_cons (pv 2) pa_nil))))))), ?_⟩
  obtain ⟨hp, ha', hb', rfl⟩ := mMul_inv hc
  have h4 := okP_le hp
  have la := okL_len ha'
  have lb := okL_len hb'
  have hn : ((((dIs a).length : Int) + ((dIs b).length : Int)).toNat) = a.length + b.length := by
    rw [dIs_len, dIs_len]; omega
  refine q_asg (ev_lc1 (es := dIs (List.replicate (a.length + b.length) 0)) (ei_rng1 (ev_add (ev_len (K := K) (ev_var (r := dTI a) rfl dva)) (ev_len (K := K) (ev_var (r := dTI b) rfl dvb))) (by rw [dIs_len, dIs_len]; omega) (by rw [dIs_len, dIs_len]; omega)).i ?_ (by rw [hn]; omega) (fun _ => rfl) fun j d x H1 hd e hx => ?_) fun v1 H1 e1 d1 => ?_
  · rw [hn, dIs_len, List.length_replicate]
  · obtain ⟨c, hc, rfl⟩ := dIs_inv hd
    have := List.mem_of_getElem? hc
    rw [(List.mem_replicate.mp this).2]
    exact ev_int
  · obtain ⟨⟨o, rfl, ho⟩, o', us, eo, hO, al⟩ := d1
    cases eo
    refine mul_loops (enc := dI) (op := iMA) (z := 0) (a := a) (b := b) (H0 := H) (rp := dI p) (Imm.m _ _ _ (le_of e1) dva) (Imm.m _ _ _ (le_of e1) dvb) dvp e1 ho hO al (fun c x y σ H1 hx hy h1 h2 h3 h4 => ?_) fun x5 x6 x7 x8 H2 us' e2 l2 hO2 al2 => ?_
    · have := okL_mem ha' hx
      exact ev_add h1 (ev_mul (.inl ⟨by omega, by omega⟩) h2 h3)
    · refine s_ret (ev_call (r := dTI (mTrim (mulOut iMA 0 a b a.length) p)) (ea_cons (ev_var (r := dL (dIs (mulOut iMA 0 a b a.length))) rfl ⟨o, us', rfl, hO2, al2⟩) (ea_cons (ev_var (r := dI p) rfl dvp) ea_nil)) fun H1 => ⟨_, _, p, hp, ?_, isSq, rfl, rfl⟩) fun v3 H3 e3 d3 => k v3 H3 (e2.trans e3) d3
      rw [mulOut_len]
      omega
end
end K35
set_option Elab.async false
set_option linter.all false
set_option maxRecDepth 100000
set_option maxHeartbeats 4000000
namespace K35
open PySem PySem.Spec L2
section
variable {P : Program} {w : World} {K : PySem.W.Frag} {mg : Str → Option Value} {base : Heap}

theorem ok_f_member_inverse (T : Tx K mg) : Cal P w K mg base 4 "member_inverse" (spP S_f_member_inverse) := by
  have G_f_trimmed := ok_f_trimmed (P := P) (w := w) (base := base) T
  have G_f_divide_rows := ok_f_divide_rows (P := P) (w := w) (base := base) T
  have G_f_subtract_rows := ok_f_subtract_rows (P := P) (w := w) (base := base) T
  have G_f_multiply_rows := ok_f_multiply_rows (P := P) (w := w) (base := base) T
  have G_f_member_of := ok_f_member_of (P := P) (w := w) (base := base) T
  have G_f_inverse_modulo := ok_f_inverse_modulo (P := P) (w := w) (base := base) T
  refine cal_of T.d_f_member_inverse sc_f_member_inverse (by rintro H rs r ⟨_, _, _, _, _, _, _, _, _, rfl, _⟩; rfl) fun f cdv A outer s H vs Q E rs r hr hS ha k => ?_
  obtain ⟨a, m, p, c, hc, la, hm1, hm2, hp, rfl, rfl⟩ := hS
  obtain ⟨va, ws, rfl, dva, ha⟩ := ha.cons_inv
  obtain ⟨vm, ws, rfl, dvm, ha⟩ := ha.cons_inv
  obtain ⟨vp, ws, rfl, dvp, ha⟩ := ha.cons_inv
  have e := ha.nil_inv
  subst e
  refine ⟨_, (pss_cons (ps_par (i := 3) (j := 4) (by rfl) sc_f_member_inverse.nd rfl rfl (by decide) rfl rfl (pa_cons (pv 1) (pa_cons (pe_cal G_f_trimmed hr (by decide) (by rfl) (pa_cons (pv 0) (pa_cons (pv 2) pa_nil))) pa_nil)) (by rfl))
    (pss_cons (ps_if (pt_cmpR op_eq (pe_callB c_len (by rfl) T.z_len PySem.boot_len (pa_cons (pv 4) pa_nil)) pe_int (nomark _)) (pss_one ps_never) pss_nil)
    (pss_cons (ps_asg (pe_tup (pa_cons (pe_tup pa_nil) (pa_cons (pe_tup (pa_cons pe_int pa_nil)) pa_nil))) (pg_tup rfl (pgs_cons (pg_name (i := 5) sc_f_member_inverse.nd rfl (by first | exact Or.inl rfl | exact Or.inr rfl)) (pgs_cons (pg_name (i := 6) sc_f_member_inverse.nd rfl (by first | exact Or.inl rfl | exact Or.inr rfl)) pgs_nil))))
    (pss_cons (ps_while PassesOwn.never (pt_cmpR c_gt (pe_callB c_len (by rfl) T.z_len PySem.boot_len (pa_cons (pv 4) pa_nil)) pe_int (nomark _)) (pss_cons (ps_asg (pe_cal G_f_divide_rows hr (by decide) (by rfl) (pa_cons (pv 3) (pa_cons (pv 4) (pa_cons (pv 2) pa_nil)))) (pg_tup rfl (pgs_cons (pg_name (i := 7) sc_f_member_inverse.nd rfl (by first | exact Or.inl rfl | exact Or.inr rfl)) (pgs_cons (pg_name (i := 8) sc_f_member_inverse.nd rfl (by first | exact Or.inl rfl | exact Or.inr rfl)) pgs_nil))))
    (pss_cons (ps_par (i := 3) (j := 4) (by rfl) sc_f_member_inverse.nd rfl rfl (by decide) rfl rfl (pa_cons (pv 4) (pa_cons (pv 8) pa_nil)) (by rfl))
    (pss_one (ps_par (i := 5) (j := 6) (by rfl) sc_f_member_inverse.nd rfl rfl (by decide) rfl rfl (pa_cons (pv 6) (pa_cons (pe_cal G_f_subtract_rows hr (by decide) (by rfl) (pa_cons (pv 5) (pa_cons (pe_cal G_f_multiply_rows hr (by decide) (by rfl) (pa_cons (pv 7) (pa_cons (pv 6) (pa_cons (pv 2) pa_nil)))) (pa_cons (pv 2) pa_nil)))) pa_nil)) (by rfl))))))
    (pss_one (ps_ret (pe_cal G_f_member_of hr (by decide) (by rfl) (pa_cons (pe_cal G_f_multiply_rows hr (by decide) (by rfl) (pa_cons (pv 6) (pa_cons (pe_tup (pa_cons (pe_cal G_f_inverse_modulo hr (by decide) (by rfl) (pa_cons (pe_ix ix_seq (pv 4) pe_int (fun _ _ => rfl)) (pa_cons (pv 2) pa_nil))) pa_nil)) (pa_cons (pv 2) pa_nil)))) (pa_cons (pe_op c_sub (pe_callB c_len (by rfl) T.z_len PySem.boot_len (pa_cons (pv 1) pa_nil)) pe_int) pa_nil))))))))), ?_⟩
  have ep : vp = .int p := dvp
  subst ep
  obtain ⟨h0, x, l, v, y, r, hl, hy, hr, rfl⟩ := memInv_inv hc
  have hrl := mMul_len hr
  refine q_par (ra := dTI m) (rb := dTI (mTrim a p)) (ev_var rfl dvm) (ev_call (ea_cons (ev_var (r := dTI a) rfl dva) (ea_cons (ev_var (r := dI p) rfl rfl) ea_nil)) fun H1 => ⟨_, a, p, hp, by omega, isSq, rfl, rfl⟩) fun v3 v4 H1 e1 d3 d4 => ?_
  replace dvm := Mono.m _ _ _ e1 dvm
  replace k := fun v H' e' d' => k v H' (Same.trans e1 e') d'
  refine q_no ((et_test (ev_eqI (ev_len (K := K) (ev_var (r := dTI (mTrim a p)) rfl d4)) (ev_int (i := 0)))).eq (by rw [dIs_len]; exact decide_eq_false (by have := List.length_pos_iff.mpr h0; omega))) fun H2 e2 => ?_
  replace dvm := Mono.m _ _ _ e2 dvm
  replace k := fun v H' e' d' => k v H' (Same.trans e2 e') d'
  replace d3 := Mono.m _ _ _ e2 d3
  replace d4 := Mono.m _ _ _ e2 d4
  refine q_two (ra := dTI []) (rb := dTI [1]) (ev_tup (ea_cons (ev_tup ea_nil) (ea_cons (ev_tup (rs := [dI 1]) (ea_cons ev_int ea_nil)) ea_nil))) fun v5 v6 H3 e3 d5 d6 => ?_
  replace dvm := Mono.m _ _ _ e3 dvm
  replace k := fun v H' e' d' => k v H' (Same.trans e3 e') d'
  replace d3 := Mono.m _ _ _ e3 d3
  replace d4 := Mono.m _ _ _ e3 d4
  refine q_while (fun n σ' H' => Same H3 H' ∧ ∃ fi se u w v3 v4 v5 v6 x7 x8, σ' = [some va, some vm, some (.int p), some v3, some v4, some v5, some v6, x7, x8] ∧ dTI fi v3 H' ∧ dTI se v4 H' ∧ dTI u v5 H' ∧ dTI w v6 H' ∧ u.length ≤ 400 ∧ invLoop p n fi se u w = some (x :: l, v)) 64 ⟨Same.refl _, m, mTrim a p, [], [1], v3, v4, v5, v6, none, none, rfl, d3, d4, d5, d6, by decide, hl⟩ fun n σ' H' hW => ?_
  obtain ⟨sm, fi, se, u, w', v3, v4, v5, v6, x7, x8, rfl, d3, d4, d5, d6, hu, hl⟩ := hW
  refine ⟨_, et_test (ev_gt (ev_len (K := K) (ev_var (r := dTI se) rfl d4)) (ev_int (i := 1))), fun z H4 e4 => ?_, fun z H4 e4 => ?_⟩
  · have z := of_decide_eq_true z
    rw [dIs_len] at z
    replace d3 := Mono.m _ _ _ e4 d3
    replace d4 := Mono.m _ _ _ e4 d4
    replace d5 := Mono.m _ _ _ e4 d5
    replace d6 := Mono.m _ _ _ e4 d6
    obtain ⟨n', s, cc, rfl, h1, h2, h3⟩ := invLoop_step (by omega) hl
    have hcl := mMul_len h2
    obtain ⟨_, hw, hw2, _⟩ := mMul_inv h2
    have hw3 := okL_len hw2
    refine q_two (ra := dTI s.1) (rb := dTI s.2) (ev_call (ea_cons (ev_var (r := dTI fi) rfl d3) (ea_cons (ev_var (r := dTI se) rfl d4) (ea_cons (ev_var (r := dI p) rfl rfl) ea_nil))) fun H1 => ⟨fi, se, p, s, h1, rfl, rfl⟩) fun v7 v8 H5 e5 d7 d8 => ?_
    replace d4 := Mono.m _ _ _ e5 d4
    replace d5 := Mono.m _ _ _ e5 d5
    replace d6 := Mono.m _ _ _ e5 d6
    refine q_par (ra := dTI se) (rb := dTI s.2) (ev_var rfl d4) (ev_var rfl d8) fun v3 v4 H6 e6 d3 d4 => ?_
    replace d5 := Mono.m _ _ _ e6 d5
    replace d6 := Mono.m _ _ _ e6 d6
    replace d7 := Mono.m _ _ _ e6 d7
    refine s_par (ra := dTI w') (rb := dTI (mSub u cc p)) (ev_var rfl d6) (ev_call (ea_cons (ev_var (r := dTI u) rfl d5) (ea_cons (ev_call (r := dTI cc) (ea_cons (ev_var (r := dTI s.1) rfl d7) (ea_cons (ev_var (r := dTI w') rfl d6) (ea_cons (ev_var (r := dI p) rfl rfl) ea_nil))) fun H1 => ⟨s.1, w', p, cc, h2, rfl, rfl⟩) (ea_cons (ev_var (r := dI p) rfl rfl) ea_nil))) fun H1 => ⟨u, cc, p, hp, hu, by omega, rfl, rfl⟩) fun v5 v6 H7 e7 d5 d6 => ?_
    replace d3 := Mono.m _ _ _ e7 d3
    replace d4 := Mono.m _ _ _ e7 d4
    exact ⟨n', Nat.lt_succ_self _, (((sm.trans e4).trans e5).trans e6).trans e7, se, s.2, w', _, v3, v4, v5, v6, _, _, rfl, d3, d4, d5, d6, by omega, h3⟩
  · have z := of_decide_eq_false z
    rw [dIs_len] at z
    replace d3 := Mono.m _ _ _ e4 d3
    replace d4 := Mono.m _ _ _ e4 d4
    replace d5 := Mono.m _ _ _ e4 d5
    replace d6 := Mono.m _ _ _ e4 d6
    have er := invLoop_done (by omega) hl
    cases er
    replace sm := sm.trans e4
    replace dvm := Mono.m _ _ _ sm dvm
    have hll : (((dIs m).length : Int) - 1) = ((m.length - 1 : Nat) : Int) := by rw [dIs_len]; omega
    exact s_ret (ev_call (r := dTI (memOf r (m.length - 1))) (ea_cons (ev_call (r := dTI r) (ea_cons (ev_var (r := dTI v) rfl d6) (ea_cons (ev_tup (rs := [dI y]) (ea_cons (ev_call (r := dI y) (ea_cons (ev_ixI (k := 0) (ra := dTI (x :: l)) (ev_var rfl d4) (ev_int (i := 0)) rfl rfl) (ea_cons (ev_var (r := dI p) rfl rfl) ea_nil)) fun H1 => ⟨x, p, y, hy, rfl, rfl⟩) ea_nil)) (ea_cons (ev_var (r := dI p) rfl rfl) ea_nil))) fun H1 => ⟨v, [y], p, r, hr, rfl, rfl⟩) (ea_cons ((ev_sub (ev_len (K := K) (ev_var (r := dTI m) rfl dvm)) (ev_int (i := 1))).eq (by rw [hll])) ea_nil)) fun H1 => ⟨r, m.length - 1, by omega, by omega, rfl, rfl⟩) fun v H5 e5 d5 => k v H5 (sm.trans e5) d5
end
end K35
set_option Elab.async false
set_option linter.all false
set_option maxRecDepth 100000
set_option maxHeartbeats 4000000
namespace K35
open PySem PySem.Spec L2
section
variable {P : Program} {w : World} {K : PySem.W.Frag} {mg : Str → Option Value} {base : Heap}

theorem ok_m_Field_inverse (T : Tx K mg) : Met P w K mg base 5 (cF K) "inverse" (spP (S_m_Field_inverse K)) := by
  have G_f_member_inverse := ok_f_member_inverse (P := P) (w := w) (base := base) T
  refine met_of T.d_m_Field_inverse sc_m_Field_inverse (by rintro H rs r ⟨_, _, _, rfl, _⟩; rfl) fun f cdv A outer s H vs Q E rs r hr hS ha k => ?_
  obtain ⟨i, a, h0, rfl, rfl⟩ := hS
  obtain ⟨vs, ws, rfl, dvs, ha⟩ := ha.cons_inv
  obtain ⟨va, ws, rfl, dva, ha⟩ := ha.cons_inv
  have e := ha.nil_inv
  subst e
  refine ⟨_, (pss_one (ps_ret (pe_cal G_f_member_inverse hr (by decide) (by rfl) (pa_cons (pv 1) (pa_cons (pe_fld (pv 0) rfl) (pa_cons (pe_fld (pv 0) rfl) pa_nil)))))), ?_⟩
  exact s_ret (ev_mi T h0 (ev_var (r := dM a) rfl dva) (ev_var rfl dvs)) k
end
end K35
set_option Elab.async false
set_option linter.all false
set_option maxRecDepth 100000
set_option maxHeartbeats 4000000
namespace K35
open PySem PySem.Spec L2
section
variable {P : Program} {w : World} {K : PySem.W.Frag} {mg : Str → Option Value} {base : Heap}

theorem ok_f_member_product (T : Tx K mg) : Cal P w K mg base 3 "member_product" (spP S_f_member_product) := by
  have G_f_multiply_rows := ok_f_multiply_rows (P := P) (w := w) (base := base) T
  have G_f_trimmed := ok_f_trimmed (P := P) (w := w) (base := base) T
  have G_f_member_of := ok_f_member_of (P := P) (w := w) (base := base) T
  have G_f_divide_rows := ok_f_divide_rows (P := P) (w := w) (base := base) T
  refine cal_of T.d_f_member_product sc_f_member_product (by rintro H rs r ⟨_, _, _, _, _, _, _, _, rfl, _⟩; rfl) fun f cdv A outer s H vs Q E rs r hr hS ha k => ?_
  obtain ⟨a, b, m, p, c, hc, la, lb, rfl, rfl⟩ := hS
  obtain ⟨va, ws, rfl, dva, ha⟩ := ha.cons_inv
  obtain ⟨vb, ws, rfl, dvb, ha⟩ := ha.cons_inv
  obtain ⟨vm, ws, rfl, dvm, ha⟩ := ha.cons_inv
  obtain ⟨vp, ws, rfl, dvp, ha⟩ := ha.cons_inv
  have e := ha.nil_inv
  subst e
  refine ⟨_, (pss_cons (ps_set (i := 4) sc_f_member_product.nd rfl (by first | exact Or.inl rfl | exact Or.inr rfl) (pe_cal G_f_multiply_rows hr (by decide) (by rfl) (pa_cons (pe_cal G_f_trimmed hr (by decide) (by rfl) (pa_cons (pv 0) (pa_cons (pv 3) pa_nil))) (pa_cons (pe_cal G_f_trimmed hr (by decide) (by rfl) (pa_cons (pv 1) (pa_cons (pv 3) pa_nil))) (pa_cons (pv 3) pa_nil)))))
    (pss_one (ps_ret (pe_cal G_f_member_of hr (by decide) (by rfl) (pa_cons (pe_ix ix_seq (pe_cal G_f_divide_rows hr (by decide) (by rfl) (pa_cons (pv 4) (pa_cons (pv 2) (pa_cons (pv 3) pa_nil)))) pe_int (fun _ _ => rfl)) (pa_cons (pe_op c_sub (pe_callB c_len (by rfl) T.z_len PySem.boot_len (pa_cons (pv 2) pa_nil)) pe_int) pa_nil)))))), ?_⟩
  have ep : vp = .int p := dvp
  subst ep
  obtain ⟨d, r, h1, h2, rfl⟩ := memMul_inv hc
  have hp := (mMul_inv h1).1
  obtain ⟨hr, s, hs, rfl⟩ := mRem_inv h2
  obtain ⟨_, _, hm, hm1, _⟩ := mDiv_inv hs
  have hm2 := okL_len hm
  refine q_asg (ev_call (r := dTI d) (ea_cons (ev_call (r := dTI (mTrim a p)) (ea_cons (ev_var (r := dTI a) rfl dva) (ea_cons (ev_var (r := dI p) rfl rfl) ea_nil)) fun H1 => ⟨_, a, p, hp, by omega, isSq, rfl, rfl⟩) (ea_cons (ev_call (r := dTI (mTrim b p)) (ea_cons (ev_var (r := dTI b) rfl dvb) (ea_cons (ev_var (r := dI p) rfl rfl) ea_nil)) fun H1 => ⟨_, b, p, hp, by omega, isSq, rfl, rfl⟩) (ea_cons (ev_var (r := dI p) rfl rfl) ea_nil))) fun H1 => ⟨_, _, p, d, h1, rfl, rfl⟩) fun v1 H1 e1 d1 => ?_
  replace dvm := Mono.m _ _ _ e1 dvm
  replace k := fun v H' e' d' => k v H' (Same.trans e1 e') d'
  have hl : (((dIs m).length : Int) - 1) = ((m.length - 1 : Nat) : Int) := by rw [dIs_len]; omega
  exact s_ret (ev_call (r := dTI (memOf s.2 (m.length - 1))) (ea_cons (ev_ixI (k := 1) (ra := dT [dTI s.1, dTI s.2]) (ev_call (ea_cons (ev_var rfl d1) (ea_cons (ev_var (r := dTI m) rfl dvm) (ea_cons (ev_var (r := dI p) rfl rfl) ea_nil))) fun H1 => ⟨d, m, p, s, hs, rfl, rfl⟩) (ev_int (i := 1)) rfl rfl) (ea_cons ((ev_sub (ev_len (K := K) (ev_var (r := dTI m) rfl dvm)) (ev_int (i := 1))).eq (by rw [hl])) ea_nil)) fun H1 => ⟨s.2, m.length - 1, by omega, by omega, rfl, rfl⟩) k
end
end K35
set_option Elab.async false
set_option linter.all false
set_option maxRecDepth 100000
set_option maxHeartbeats 4000000
namespace K35
open PySem PySem.Spec L2
section
variable {P : Program} {w : World} {K : PySem.W.Frag} {mg : Str → Option Value} {base : Heap}

theorem ok_m_Field_multiply (T : Tx K mg) : Met P w K mg base 4 (cF K) "multiply" (spP (S_m_Field_multiply K)) := by
  have G_f_member_product := ok_f_member_product (P := P) (w := w) (base := base) T
  refine met_of T.d_m_Field_multiply sc_m_Field_multiply (by rintro H rs r ⟨_, _, _, rfl, _⟩; rfl) fun f cdv A outer s H vs Q E rs r hr hS ha k => ?_
  obtain ⟨i, a, b, rfl, rfl⟩ := hS
  obtain ⟨vs, ws, rfl, dvs, ha⟩ := ha.cons_inv
  obtain ⟨va, ws, rfl, dva, ha⟩ := ha.cons_inv
  obtain ⟨vb, ws, rfl, dvb, ha⟩ := ha.cons_inv
  have e := ha.nil_inv
  subst e
  refine ⟨_, (pss_one (ps_ret (pe_cal G_f_member_product hr (by decide) (by rfl) (pa_cons (pv 1) (pa_cons (pv 2) (pa_cons (pe_fld (pv 0) rfl) (pa_cons (pe_fld (pv 0) rfl) pa_nil))))))), ?_⟩
  exact s_ret (ev_mp T (ev_var (r := dM a) rfl dva) (ev_var (r := dM b) rfl dvb) (ev_var rfl dvs)) k
end
end K35
set_option Elab.async false
set_option linter.all false
set_option maxRecDepth 100000
set_option maxHeartbeats 4000000
namespace K35
open PySem PySem.Spec L2
section
variable {P : Program} {w : World} {K : PySem.W.Frag} {mg : Str → Option Value} {base : Heap}

theorem ok_f_member_negative (T : Tx K mg) : Cal P w K mg base 1 "member_negative" (spP S_f_member_negative) := by
  refine cal_of T.d_f_member_negative sc_f_member_negative (by rintro H rs r ⟨_, _, _, _, rfl, _⟩; rfl) fun f cdv A outer s H vs Q E rs r hr hS ha k => ?_
  obtain ⟨a, p, hp, hl, rfl, rfl⟩ := hS
  obtain ⟨v, ws, rfl, dv, ha⟩ := ha.cons_inv
  obtain ⟨z, ws, rfl, dz, ha⟩ := ha.cons_inv
  have e := ha.nil_inv
  subst e
  refine ⟨_, (pss_one (ps_ret (pe_callTy c_tuple (by rfl) T.z_tuple b_tuple (pa_cons (pe_lc (own := [("x", 2)]) (g := gName 2) (tt := tYes) rfl sc_f_member_negative.nd (pi_tup (pv 0)) (blkOk_by (own := [("x", 2)]) (N := n_f_member_negative) (sc := defScope s_f_member_negative) (by decide +kernel)) (fun _ _ _ _ _ => pg_name (i := 2) sc_f_member_negative.nd rfl (Or.inl rfl)) (fun _ _ _ _ _ => pts_nil) (fun _ _ _ _ _ => (pe_op c_mod (pe_un c_neg (pv 2)) (pv 1)))) pa_nil)))), ?_⟩
  refine s_ret (ev_tuple (ev_lc1 (es := dIs (memNeg a p)) (ei_tup (ev_var (r := dTI a) rfl dv)).i ?_ ?_ (fun _ => rfl) fun j d x H1 hd e hx => ?_)) k
  · rw [dIs_len, dIs_len]
    unfold memNeg
    rw [List.length_map]
  · rw [dIs_len]
    omega
  · obtain ⟨c, hc, rfl⟩ := dIs_inv hd
    obtain ⟨x1, h1, rfl⟩ := map_inv hc
    rw [yAt_some (dIs_get h1)] at hx
    exact ev_mod (okP_pos hp) (ev_neg (ev_var rfl hx)) (ev_var rfl (Mono.m _ _ _ e dz))
end
end K35
set_option Elab.async false
set_option linter.all false
set_option maxRecDepth 100000
set_option maxHeartbeats 4000000
namespace K35
open PySem PySem.Spec L2
section
variable {P : Program} {w : World} {K : PySem.W.Frag} {mg : Str → Option Value} {base : Heap}

theorem ok_m_Field_negative (T : Tx K mg) : Met P w K mg base 2 (cF K) "negative" (spP (S_m_Field_negative K)) := by
  have G_f_member_negative := ok_f_member_negative (P := P) (w := w) (base := base) T
  refine met_of T.d_m_Field_negative sc_m_Field_negative (by rintro H rs r ⟨_, _, rfl, _⟩; rfl) fun f cdv A outer s H vs Q E rs r hr hS ha k => ?_
  obtain ⟨i, a, rfl, rfl⟩ := hS
  obtain ⟨vs, ws, rfl, dvs, ha⟩ := ha.cons_inv
  obtain ⟨va, ws, rfl, dva, ha⟩ := ha.cons_inv
  have e := ha.nil_inv
  subst e
  refine ⟨_, (pss_one (ps_ret (pe_cal G_f_member_negative hr (by decide) (by rfl) (pa_cons (pv 1) (pa_cons (pe_fld (pv 0) rfl) pa_nil))))), ?_⟩
  exact s_ret (ev_mn T (ev_var (r := dM a) rfl dva) (ev_var rfl dvs)) k
end
end K35
set_option Elab.async false
set_option linter.all false
set_option maxRecDepth 100000
set_option maxHeartbeats 4000000
namespace K35
open PySem PySem.Spec L2
section
variable {P : Program} {w : World} {K : PySem.W.Frag} {mg : Str → Option Value} {base : Heap}

theorem ok_f_member_sum (T : Tx K mg) : Cal P w K mg base 1 "member_sum" (spP S_f_member_sum) := by
  refine cal_of T.d_f_member_sum sc_f_member_sum (by rintro H rs r ⟨_, _, _, _, _, _, rfl, _⟩; rfl) fun f cdv A outer s H vs Q E rs r hr hS ha k => ?_
  obtain ⟨a, b, p, hp, hl, hab, rfl, rfl⟩ := hS
  obtain ⟨v, ws, rfl, dv, ha⟩ := ha.cons_inv
  obtain ⟨w', ws, rfl, dw, ha⟩ := ha.cons_inv
  obtain ⟨z, ws, rfl, dz, ha⟩ := ha.cons_inv
  have e := ha.nil_inv
  subst e
  refine ⟨_, (pss_one (ps_ret (pe_callTy c_tuple (by rfl) T.z_tuple b_tuple (pa_cons (pe_lc (own := [("x", 3), ("y", 4)]) (g := gTup K 2 (gCons (gName 3) (gCons (gName 4) gNil))) (tt := tYes) rfl sc_f_member_sum.nd (pi_zpX (by rfl) T.z_zip (pa_cons (pv 0) (pa_cons (pv 1) pa_nil))) (blkOk_by (own := [("x", 3), ("y", 4)]) (N := n_f_member_sum) (sc := defScope s_f_member_sum) (by decide +kernel)) (fun _ _ _ _ _ => pg_tup rfl (pgs_cons (pg_name (i := 3) sc_f_member_sum.nd rfl (Or.inl rfl)) (pgs_cons (pg_name (i := 4) sc_f_member_sum.nd rfl (Or.inl rfl)) pgs_nil))) (fun _ _ _ _ _ => pts_nil) (fun _ _ _ _ _ => (pe_op c_mod (pe_op c_add (pv 3) (pv 4)) (pv 2)))) pa_nil)))), ?_⟩
  have h0 : 0 < p := okP_pos hp
  refine s_ret (ev_tuple (ev_lc2 (es := dIs (memSum a b p)) (ei_zp (ev_var (r := dTI a) rfl dv) (ev_var (r := dTI b) rfl dw)) ?_ ?_ (fun _ _ => rfl) fun j d x y H1 hd e hx hy => ?_)) k
  · rw [dIs_len, dIs_len, dIs_len]
    unfold memSum
    rw [List.length_zipWith]
  · rw [dIs_len, dIs_len]
    omega
  · obtain ⟨c, hc, rfl⟩ := dIs_inv hd
    obtain ⟨x1, y1, h1, h2, rfl⟩ := zipWith_inv hc
    rw [yAt_some (dIs_get h1)] at hx
    rw [yAt_some (dIs_get h2)] at hy
    exact ev_mod h0 (ev_add (ev_var rfl hx) (ev_var rfl hy)) (ev_var rfl (Mono.m _ _ _ e dz))
end
end K35
set_option Elab.async false
set_option linter.all false
set_option maxRecDepth 100000
set_option maxHeartbeats 4000000
namespace K35
open PySem PySem.Spec L2
section
variable {P : Program} {w : World} {K : PySem.W.Frag} {mg : Str → Option Value} {base : Heap}

theorem ok_m_Field_add (T : Tx K mg) : Met P w K mg base 2 (cF K) "add" (spP (S_m_Field_add K)) := by
  have G_f_member_sum := ok_f_member_sum (P := P) (w := w) (base := base) T
  refine met_of T.d_m_Field_add sc_m_Field_add (by rintro H rs r ⟨_, _, _, rfl, _⟩; rfl) fun f cdv A outer s H vs Q E rs r hr hS ha k => ?_
  obtain ⟨i, a, b, rfl, rfl⟩ := hS
  obtain ⟨vs, ws, rfl, dvs, ha⟩ := ha.cons_inv
  obtain ⟨va, ws, rfl, dva, ha⟩ := ha.cons_inv
  obtain ⟨vb, ws, rfl, dvb, ha⟩ := ha.cons_inv
  have e := ha.nil_inv
  subst e
  refine ⟨_, (pss_one (ps_ret (pe_cal G_f_member_sum hr (by decide) (by rfl) (pa_cons (pv 1) (pa_cons (pv 2) (pa_cons (pe_fld (pv 0) rfl) pa_nil)))))), ?_⟩
  exact s_ret (ev_ms T (ev_var (r := dM a) rfl dva) (ev_var (r := dM b) rfl dvb) (ev_var rfl dvs)) k
end
end K35
set_option Elab.async false
set_option linter.all false
set_option maxRecDepth 100000
set_option maxHeartbeats 4000000
namespace K35
open PySem PySem.Spec L2
section
variable {P : Program} {w : World} {K : PySem.W.Frag} {mg : Str → Option Value} {base : Heap}
/-! two lists that change -/
instance stpAvL {p q : Addr} {rs : List Dn} [Stps p rs] : Stp p (dAv [p, q] (dL rs)) := ⟨fun v H xs ys hp d => by
  obtain ⟨⟨a, rfl, na⟩, a', vs, hv, h1, h2⟩ := d
  cases hv
  have ne : a ≠ p := fun z => na (by rw [z]; exact List.mem_cons_self)
  exact ⟨⟨a, rfl, na⟩, a, vs, rfl, by rw [upd_ne ne]; exact h1, h2.stp hp⟩⟩
instance stpAvR {p q : Addr} {rs : List Dn} [Stps q rs] : Stp q (dAv [p, q] (dL rs)) := ⟨fun v H xs ys hp d => by
  obtain ⟨⟨a, rfl, na⟩, a', vs, hv, h1, h2⟩ := d
  cases hv
  have ne : a ≠ q := fun z => na (by rw [z]; exact List.mem_cons_of_mem _ (List.mem_singleton.mpr rfl))
  exact ⟨⟨a, rfl, na⟩, a, vs, rfl, by rw [upd_ne ne]; exact h1, h2.stp hp⟩⟩
abbrev dA2 {i : Fin 6} (p q : Addr) (l : List (El i)) : Dn := dAv [p, q] (dL (dV l))
theorem av2_of {H H' : Hp} {p q : Addr} {o o' : HO} {r : Dn} {v : V} (hp : H p = some o) (hq : H q = some o') (d : dFr H r v H') : dAv [p, q] r v H' := by
  obtain ⟨⟨a, rfl, ha⟩, d⟩ := d
  refine ⟨⟨a, rfl, fun z => ?_⟩, d⟩
  rcases List.mem_cons.mp z with z | z
  · rw [z, hp] at ha
    cases ha
  · rw [List.mem_singleton.mp z, hq] at ha
    cases ha
theorem tab_ne {i : Fin 6} {H : Hp} {p : Addr} {vs : List V} {t : List (List (El i))} {l : List (El i)} (hp : H p = some (.lst vs)) (al : Alls H vs (t.map fun l => dL (dV l))) (hl : l ≠ []) : ¬ dL (dV l) (.ref p) H := by
  rintro ⟨a, ws, ha, h1, h2⟩
  cases ha
  rw [hp] at h1
  cases h1
  have h3 := h2.len
  rw [dV_len] at h3
  have h4 := List.length_pos_iff.mpr hl
  have h0 : 0 < vs.length := by omega
  have h5 := al.len
  rw [List.length_map] at h5
  obtain ⟨b, bs, hb, g1, _⟩ := al.get 0 vs[0] _ (List.getElem?_eq_getElem h0) (map_getD (g := fun l => dL (dV l)) (by omega))
  obtain ⟨c, cs, hc, g2, _⟩ := h2.get 0 vs[0] _ (List.getElem?_eq_getElem h0) (dV_get (getD_at (z := Fld.zero) (by omega)))
  rw [hb] at hc
  cases hc
  rw [g1] at g2
  cases g2
structure LOk {F : Type} (N w n : Nat) (s : List (List F) × List Nat) : Prop where
  tl : s.1.length = N
  rl : ∀ row ∈ s.1, row.length = w + 1
  pl : s.2.length ≤ N
  pn : ∀ q ∈ s.2, q < n
def lin {F : Type} [Fld F] (hd : List F) (done col width : Nat) (t : List (List F)) (m : Nat) : List (List F) := (List.range m).foldl (lrowStep hd done col width) t
theorem lin_succ {F : Type} [Fld F] {hd : List F} {done col width m : Nat} {t : List (List F)} : lin hd done col width t (m + 1) = lrowStep hd done col width (lin hd done col width t m) m := by
  unfold lin
  rw [List.range_succ, List.foldl_append]
  rfl
theorem lrowStep_ok {F : Type} [Fld F] {hd : List F} {done col width m : Nat} {t : List (List F)} (h : ∀ row ∈ t, row.length = width + 1) : (lrowStep hd done col width t m).length = t.length ∧ ∀ row ∈ lrowStep hd done col width t m, row.length = width + 1 := by
  unfold lrowStep
  split
  · exact ⟨rfl, h⟩
  · refine ⟨List.length_set, fun row hr => ?_⟩
    rcases List.mem_or_eq_of_mem_set hr with hr | hr
    · exact h row hr
    · rw [hr, List.length_map, List.length_range]
theorem lin_ok {F : Type} [Fld F] {hd : List F} {done col width : Nat} {t : List (List F)} (h : ∀ row ∈ t, row.length = width + 1) : ∀ m, (lin hd done col width t m).length = t.length ∧ ∀ row ∈ lin hd done col width t m, row.length = width + 1
  | 0 => ⟨rfl, h⟩
  | m + 1 => by
    obtain ⟨a, b⟩ := lin_ok (hd := hd) (done := done) (col := col) h m
    rw [lin_succ]
    obtain ⟨c, d⟩ := lrowStep_ok (hd := hd) (done := done) (col := col) (m := m) b
    exact ⟨c.trans a, d⟩
theorem lstep_nil {F : Type} [Fld F] {width col : Nat} {s : List (List F) × List Nat} (h : lchos s.1 s.2.length col = []) : lstep width s col = s := by
  unfold lstep
  rw [h]
theorem lstep_cons {F : Type} [Fld F] {width col k : Nat} {ks : List Nat} {s : List (List F) × List Nat} (h : lchos s.1 s.2.length col = k :: ks) :
    lstep width s col = (lin (lead (s.1.getD k []) col) s.2.length col width ((s.1.set k (s.1.getD s.2.length [])).set s.2.length (lead (s.1.getD k []) col)) s.1.length, s.2 ++ [col]) := by
  unfold lstep
  rw [h]
  rfl
theorem lchos_mem {F : Type} [Fld F] {t : List (List F)} {d col k : Nat} {ks : List Nat} (h : lchos t d col = k :: ks) : k < t.length ∧ d ≤ k ∧ (t.getD k []).getD col Fld.zero ≠ Fld.zero := by
  have hm : k ∈ lchos t d col := by rw [h]; exact List.mem_cons_self
  unfold lchos at hm
  rw [List.mem_filter, List.mem_map] at hm
  obtain ⟨⟨q, hq, e⟩, h2⟩ := hm
  rw [List.mem_range] at hq
  exact ⟨by omega, by omega, fun z => by rw [decide_eq_true z] at h2; exact absurd h2 (by decide)⟩
theorem lsol_succ {F : Type} [Fld F] {rows : List (List F)} {right : List F} {w n : Nat} : lsol rows right w (n + 1) = lstep w (lsol rows right w n) n := by
  unfold lsol
  rw [List.range_succ, List.foldl_append]
  rfl
theorem set_rl {F : Type} {t : List (List F)} {w k : Nat} {x : List F} (h : ∀ row ∈ t, row.length = w) (hx : x.length = w) : ∀ row ∈ t.set k x, row.length = w := fun row hr => by
  rcases List.mem_or_eq_of_mem_set hr with hr | hr
  · exact h row hr
  · rw [hr, hx]
theorem l_ok {F : Type} [Fld F] {rows : List (List F)} {right : List F} {w : Nat} (hlen : rows.length = right.length) (hr : ∀ row ∈ rows, row.length = w) : ∀ n, LOk rows.length w n (lsol rows right w n)
  | 0 => by
    refine ⟨?_, fun row h => ?_, Nat.zero_le _, fun q h => (by cases h)⟩
    · show (flines rows right).length = _
      unfold flines
      rw [List.length_zipWith]; omega
    · have h : row ∈ flines rows right := h
      obtain ⟨n, hn⟩ := List.getElem?_of_mem h
      unfold flines at hn
      obtain ⟨x, y, h1, h2, rfl⟩ := zipWith_inv hn
      rw [List.length_append, hr x (List.mem_of_getElem? h1)]
      rfl
  | n + 1 => by
    have ih := l_ok hlen hr n
    rw [lsol_succ]
    cases hp : lchos (lsol rows right w n).1 (lsol rows right w n).2.length n with
    | nil =>
      rw [lstep_nil hp]
      exact ⟨ih.tl, ih.rl, ih.pl, fun q h => Nat.lt_succ_of_lt (ih.pn q h)⟩
    | cons k ks =>
      rw [lstep_cons hp]
      obtain ⟨h1, h2, _⟩ := lchos_mem hp
      have l1 : ∀ row ∈ ((lsol rows right w n).1.set k ((lsol rows right w n).1.getD (lsol rows right w n).2.length [])).set (lsol rows right w n).2.length (lead ((lsol rows right w n).1.getD k []) n), row.length = w + 1 :=
        set_rl (set_rl ih.rl (ih.rl _ (mem_getD (by omega)))) (by rw [lead_len]; exact ih.rl _ (mem_getD h1))
      obtain ⟨a, b⟩ := lin_ok (hd := lead ((lsol rows right w n).1.getD k []) n) (done := (lsol rows right w n).2.length) (col := n) l1 (lsol rows right w n).1.length
      refine ⟨?_, b, ?_, fun q h => ?_⟩
      · show (lin _ _ _ _ _ _).length = _
        rw [a, List.length_set, List.length_set]
        exact ih.tl
      · show (_ ++ [_]).length ≤ _
        rw [List.length_append, List.length_singleton]
        have := ih.tl
        omega
      · rcases List.mem_append.mp h with h | h
        · exact Nat.lt_succ_of_lt (ih.pn q h)
        · rw [List.mem_singleton.mp h]
          exact Nat.lt_succ_self n
theorem alls_any {H : Hp} (vs : List V) : Alls H vs (List.replicate vs.length dAny) := ⟨(List.length_replicate ..).symm, fun i v r _ h => by rw [(List.mem_replicate.mp (List.mem_of_getElem? h)).2]; trivial⟩
theorem getD_set_ne {F : Type} {t : List F} {k m : Nat} {x z : F} (h : k ≠ m) : (t.set k x).getD m z = t.getD m z := by
  rw [List.getD_eq_getElem?_getD, List.getD_eq_getElem?_getD, List.getElem?_set_ne h]
theorem ok_f_law_solution (T : Tx K mg) : Cal P w K mg base 6 "_law_solution" (spP (S_f_law_solution K)) := by
  have G_m_Field_zero := ok_m_Field_zero (P := P) (w := w) (base := base) T
  have G_m_Field_inverse := ok_m_Field_inverse (P := P) (w := w) (base := base) T
  have G_m_Field_multiply := ok_m_Field_multiply (P := P) (w := w) (base := base) T
  have G_m_Field_negative := ok_m_Field_negative (P := P) (w := w) (base := base) T
  have G_m_Field_add := ok_m_Field_add (P := P) (w := w) (base := base) T
  refine cal_of T.d_f_law_solution sc_f_law_solution (by rintro H rs r ⟨_, _, _, _, _, _, _, _, _, _, _, _, rfl, _⟩; rfl) fun f cdv A outer s H vs Q E rs r hr hS ha k => ?_
  obtain ⟨i, rows, right, n, so, st, hn, hrl, hrt, hrows, hs, ht, rfl, rfl⟩ := hS
  obtain ⟨vf, ws, rfl, dvf, ha⟩ := ha.cons_inv
  obtain ⟨vr, ws, rfl, dvr, ha⟩ := ha.cons_inv
  obtain ⟨vt, ws, rfl, dvt, ha⟩ := ha.cons_inv
  obtain ⟨vn, ws, rfl, dvn, ha⟩ := ha.cons_inv
  have e := ha.nil_inv
  subst e
  have := hs.ls
  have := hs.mo
  have := hs.sq.sq
  have := ht.ls
  have := ht.mo
  have := ht.sq.sq
  refine ⟨_, (pss_cons (ps_set (i := 4) sc_f_law_solution.nd rfl (by first | exact Or.inl rfl | exact Or.inr rfl) (pe_lc (own := [("_law_k", 7)]) (g := gName 7) (tt := tYes) rfl sc_f_law_solution.nd (pi_range1 rfl T.z_range (pa_cons (pe_callB c_len (by rfl) T.z_len PySem.boot_len (pa_cons (pv 1) pa_nil)) pa_nil)) (blkOk_by (own := [("_law_k", 7)]) (N := n_f_law_solution) (sc := defScope s_f_law_solution) (by decide +kernel)) (fun _ _ _ _ _ => pg_name (i := 7) sc_f_law_solution.nd rfl (Or.inl rfl)) (fun _ _ _ _ _ => pts_nil) (fun _ _ _ _ _ => (pe_op op_cat (pe_callTy (c_listK (K := K) (by rfl)) (by rfl) T.z_list b_list (pa_cons (pe_ix (ix_seqK (K := K) (by rfl)) (pv 1) (pv 7) (fun _ _ => rfl)) pa_nil)) (pe_lst (pa_cons (pe_ix (ix_seqK (K := K) (by rfl)) (pv 2) (pv 7) (fun _ _ => rfl)) pa_nil))))))
    (pss_cons (ps_set (i := 5) sc_f_law_solution.nd rfl (by first | exact Or.inl rfl | exact Or.inr rfl) (pe_lst pa_nil))
    (pss_cons (ps_for PassesOwn.never rfl (pi_range1 rfl T.z_range (pa_cons (pv 3) pa_nil)) (pg_name (i := 6) sc_f_law_solution.nd rfl (by first | exact Or.inl rfl | exact Or.inr rfl)) (pss_cons (ps_set (i := 9) sc_f_law_solution.nd rfl (by first | exact Or.inl rfl | exact Or.inr rfl) (pe_callB c_len (by rfl) T.z_len PySem.boot_len (pa_cons (pv 5) pa_nil)))
    (pss_cons (ps_setLc (i := 10) (own := [("_law_k", 7)]) (g := gName 7) rfl sc_f_law_solution.nd rfl rfl (sw_true rfl rfl rfl (by decide +kernel)) (pi_range2 rfl T.z_range (pa_cons (pv 9) (pa_cons (pe_callB c_len (by rfl) T.z_len PySem.boot_len (pa_cons (pv 4) pa_nil)) pa_nil))) (blkOk_by (own := [("_law_k", 7)]) (N := n_f_law_solution) (sc := defScope s_f_law_solution) (by decide +kernel)) (fun _ _ _ _ _ => pg_name (i := 7) sc_f_law_solution.nd rfl (Or.inl rfl)) (fun _ _ _ _ _ => pts_one (pt_cmpR (op_neDK (K := K) (by rfl) hr.units) (pe_ix (ix_seqK (K := K) (by rfl)) (pe_ix (ix_seqK (K := K) (by rfl)) (pv 4) (pv 7) (fun _ _ => rfl)) (pv 6) (fun _ _ => rfl)) (pe_met0 G_m_Field_zero hr (by decide) (pv 0)) (nomark _))) (fun _ _ _ _ _ => (pv 7)))
    (pss_cons (ps_if (pt_cmpR op_eq (pe_callB c_len (by rfl) T.z_len PySem.boot_len (pa_cons (pv 10) pa_nil)) pe_int (nomark _)) (pss_one ps_continue) pss_nil)
    (pss_cons (ps_set (i := 11) sc_f_law_solution.nd rfl (by first | exact Or.inl rfl | exact Or.inr rfl) (pe_ix ix_seq (pv 4) (pe_ix ix_seq (pv 10) pe_int (fun _ _ => rfl)) (fun _ _ => rfl)))
    (pss_cons (ps_asg (pe_ix ix_seq (pv 4) (pv 9) (fun _ _ => rfl)) (pg_sub (pv 4) (pe_ix ix_seq (pv 10) pe_int (fun _ _ => rfl)) set_list))
    (pss_cons (ps_set (i := 12) sc_f_law_solution.nd rfl (by first | exact Or.inl rfl | exact Or.inr rfl) (pe_met G_m_Field_inverse hr (by decide) (pv 0) (pa_cons (pe_ix ix_seq (pv 11) (pv 6) (fun _ _ => rfl)) pa_nil)))
    (pss_cons (ps_set (i := 11) sc_f_law_solution.nd rfl (by first | exact Or.inl rfl | exact Or.inr rfl) (pe_lc (own := [("_law_x", 13)]) (g := gName 13) (tt := tYes) rfl sc_f_law_solution.nd (pi_list (pv 11)) (blkOk_by (own := [("_law_x", 13)]) (N := n_f_law_solution) (sc := defScope s_f_law_solution) (by decide +kernel)) (fun _ _ _ _ _ => pg_name (i := 13) sc_f_law_solution.nd rfl (Or.inl rfl)) (fun _ _ _ _ _ => pts_nil) (fun _ _ _ _ _ => (pe_met G_m_Field_multiply hr (by decide) (pv 0) (pa_cons (pv 12) (pa_cons (pv 13) pa_nil))))))
    (pss_cons (ps_asg (pv 11) (pg_sub (pv 4) (pv 9) set_list))
    (pss_cons (ps_for PassesOwn.never rfl (pi_range1 rfl T.z_range (pa_cons (pe_callB c_len (by rfl) T.z_len PySem.boot_len (pa_cons (pv 4) pa_nil)) pa_nil)) (pg_name (i := 7) sc_f_law_solution.nd rfl (by first | exact Or.inl rfl | exact Or.inr rfl)) (pss_one (ps_if (pt_cmpR op_ne (pv 7) (pv 9) (nomark _)) (pss_cons (ps_set (i := 14) sc_f_law_solution.nd rfl (by first | exact Or.inl rfl | exact Or.inr rfl) (pe_met G_m_Field_negative hr (by decide) (pv 0) (pa_cons (pe_ix ix_seq (pe_ix ix_seq (pv 4) (pv 7) (fun _ _ => rfl)) (pv 6) (fun _ _ => rfl)) pa_nil)))
    (pss_one (ps_asg (pe_lc (own := [("_law_j", 15)]) (g := gName 15) (tt := tYes) rfl sc_f_law_solution.nd (pi_range1 rfl T.z_range (pa_cons (pe_op c_add (pv 3) pe_int) pa_nil)) (blkOk_by (own := [("_law_j", 15)]) (N := n_f_law_solution) (sc := defScope s_f_law_solution) (by decide +kernel)) (fun _ _ _ _ _ => pg_name (i := 15) sc_f_law_solution.nd rfl (Or.inl rfl)) (fun _ _ _ _ _ => pts_nil) (fun _ _ _ _ _ => (pe_met G_m_Field_add hr (by decide) (pv 0) (pa_cons (pe_ix (ix_seqK (K := K) (by rfl)) (pe_ix (ix_seqK (K := K) (by rfl)) (pv 4) (pv 7) (fun _ _ => rfl)) (pv 15) (fun _ _ => rfl)) (pa_cons (pe_met G_m_Field_multiply hr (by decide) (pv 0) (pa_cons (pv 14) (pa_cons (pe_ix (ix_seqK (K := K) (by rfl)) (pv 11) (pv 15) (fun _ _ => rfl)) pa_nil))) pa_nil))))) (pg_sub (pv 4) (pv 7) set_list)))) pss_nil)))
    (pss_one (ps_expr (pe_bm PySem.F.plainAttrs_list PySem.F.slot_list_append PySem.F.type_list_append mt_append (pv 5) (pa_cons (pv 6) pa_nil))))))))))))))
    (pss_cons (ps_for PassesOwn.never rfl (pi_range2 rfl T.z_range (pa_cons (pe_callB c_len (by rfl) T.z_len PySem.boot_len (pa_cons (pv 5) pa_nil)) (pa_cons (pe_callB c_len (by rfl) T.z_len PySem.boot_len (pa_cons (pv 4) pa_nil)) pa_nil))) (pg_name (i := 7) sc_f_law_solution.nd rfl (by first | exact Or.inl rfl | exact Or.inr rfl)) (pss_one (ps_if (pt_cmpR (op_neD hr.units) (pe_ix ix_seq (pe_ix ix_seq (pv 4) (pv 7) (fun _ _ => rfl)) (pv 3) (fun _ _ => rfl)) (pe_met0 G_m_Field_zero hr (by decide) (pv 0)) (nomark _)) (pss_one (ps_ret pe_non)) pss_nil)))
    (pss_cons (ps_setLc (i := 8) (own := [("_law_k", 7)]) (g := gName 7) (tt := tYes) rfl sc_f_law_solution.nd rfl rfl (sw_true rfl rfl rfl (by decide +kernel)) (pi_range1 rfl T.z_range (pa_cons (pv 3) pa_nil)) (blkOk_by (own := [("_law_k", 7)]) (N := n_f_law_solution) (sc := defScope s_f_law_solution) (by decide +kernel)) (fun _ _ _ _ _ => pg_name (i := 7) sc_f_law_solution.nd rfl (Or.inl rfl)) (fun _ _ _ _ _ => pts_nil) (fun _ _ _ _ _ => (pe_met0 G_m_Field_zero hr (by decide) (pv 0))))
    (pss_cons (ps_for PassesOwn.never rfl (pi_range1 rfl T.z_range (pa_cons (pe_callB c_len (by rfl) T.z_len PySem.boot_len (pa_cons (pv 5) pa_nil)) pa_nil)) (pg_name (i := 7) sc_f_law_solution.nd rfl (by first | exact Or.inl rfl | exact Or.inr rfl)) (pss_one (ps_asg (pe_ix ix_seq (pe_ix ix_seq (pv 4) (pv 7) (fun _ _ => rfl)) (pv 3) (fun _ _ => rfl)) (pg_sub (pv 8) (pe_ix ix_seq (pv 5) (pv 7) (fun _ _ => rfl)) set_list))))
    (pss_one (ps_ret (pe_callTy c_tuple (by rfl) T.z_tuple b_tuple (pa_cons (pv 8) pa_nil)))))))))), ?_⟩
  have en : vn = .int (n : Int) := dvn
  subst en
  have lfl : (flines rows right).length = rows.length := by
    unfold flines
    rw [List.length_zipWith]; omega
  have hok := l_ok (rows := rows) (right := right) (w := n) (by omega) hrows
  have hlr : (dRows rows).length = rows.length := List.length_map ..
  refine q_asg (r := dFr H (dL ((flines rows right).map fun l => dL (dV l)))) ((ev_lc1L (es := (flines rows right).map dV) (fun l h => by obtain ⟨x, _, rfl⟩ := List.mem_map.mp h; exact inferInstance) (ei_rng1 ((ev_len (K := K) (ev_var (r := so) rfl dvr)).eq (by rw [hlr])) (by omega) (by omega)).i ?_ (by omega) (fun _ => rfl) fun j l v H1 hj e hx => ?_).to fun v H1 e d => ?_) fun v4 H1 e1 d4 => ?_
  · rw [List.length_map, lfl, Int.toNat_natCast]
  · obtain ⟨row, hrow, rfl⟩ := map_inv hj
    have hjl := (List.getElem?_eq_some_iff.mp hrow).1
    rw [lfl] at hjl
    unfold flines at hrow
    obtain ⟨x1, y1, h1, h2, rfl⟩ := zipWith_inv hrow
    have hxl := hrows x1 (List.mem_of_getElem? h1)
    exact (ev_cat (ev_list (K := K) (r := dT (dV x1)) (ev_ix (k := j) (ev_var (r := so) rfl (Mono.m _ _ _ e dvr)) (ev_var rfl hx) (by unfold dRows; rw [List.getElem?_map, h1]; rfl))) (ev_lst (ea_cons (ev_ix (k := j) (d := dM y1) (ev_var (r := st) rfl (Mono.m _ _ _ e dvt)) (ev_var rfl hx) (dV_get h2)) ea_nil)) (by rw [dV_len, List.length_singleton]; omega)).eq (by rw [dV_app]; rfl)
  · refine ⟨d.1, ?_⟩
    obtain ⟨a, vs, ha, h1, h2⟩ := d.2
    rw [List.map_map] at h2
    exact ⟨a, vs, ha, h1, alls_conv (fun x v d => d.2) h2⟩
  replace dvf := Mono.m _ _ _ e1 dvf
  obtain ⟨⟨tb, rfl, htb⟩, tb', tv, eo, hT, alt⟩ := d4
  cases eo
  refine q_asg (r := dFr H1 (dL [])) (ev_lst ea_nil) fun v5 H2 e2 d5 => ?_
  replace dvf := Mono.m _ _ _ e2 dvf
  obtain ⟨⟨pv, rfl, hpv⟩, pv', ps, eo, hP, alp⟩ := d5
  cases eo
  have hne : tb ≠ pv := ne_of_none hT hpv
  have hpv0 : H pv = none := e1.free hpv
  have alt : Alls H2 tv ((flines rows right).map fun l => dA2 tb pv l) := by
    have hT2 := e2 _ _ hT
    have alt2 := alt.mono e2
    refine ⟨by rw [alt.len, List.length_map, List.length_map], fun q v r h1 h2 => ?_⟩
    obtain ⟨l, hl, rfl⟩ := map_inv h2
    have d0 := alt.get q v (dL (dV l)) h1 (by rw [List.getElem?_map, hl]; rfl)
    have hl1 : l ≠ [] := fun z => by
      have := (hok 0).rl l (List.mem_of_getElem? hl)
      rw [z] at this
      cases this
    have hn1 : ¬ dL (dV l) (.ref tb) H1 := tab_ne hT alt hl1
    have d1 := Mono.m _ _ _ e2 d0
    obtain ⟨a, ws, rfl, g1, g2⟩ := id d0
    refine ⟨⟨a, rfl, fun z => ?_⟩, d1⟩
    rcases List.mem_cons.mp z with z | z
    · rw [z] at d0
      exact hn1 d0
    · rw [List.mem_singleton.mp z, hpv] at g1
      cases g1
  have hT := e2 _ _ hT
  refine q_forJ (ei_rng1 (ev_var (r := dI (n : Int)) rfl rfl) (by omega) (by omega)) fun H4 e4 => ⟨fun j σ' H' => ∃ x6 x7 x9 x10 x11 x12 x14 tv ps, σ' = [some vf, some vr, some vt, some (.int (n : Int)), some (.ref tb), some (.ref pv), x6, x7, none, x9, x10, x11, x12, none, x14, none] ∧ Same H H' ∧ Le H4 H' ∧ H' tb = some (.lst tv) ∧ Alls H' tv ((lsol rows right n j).1.map fun l => dA2 tb pv l) ∧ H' pv = some (.lst ps) ∧ Alls H' ps (dNs (lsol rows right n j).2),
    ⟨none, none, none, none, none, none, none, tv, ps, rfl, (e1.trans e2).trans e4, le_refl _, e4 _ _ hT, alt.mono e4, e4 _ _ hP, alp.mono e4⟩, fun j σ' H' hi h => (by obtain ⟨_, _, _, _, _, _, _, _, _, _, _, h, _⟩ := h; exact h), fun j σ' H' hi h xx H'' s'' y => ?_, fun σ' H' h => ?_⟩
  · obtain ⟨x6, x7, x9, x10, x11, x12, x14, tv, ps, rfl, sm, le, hT, alt, hP, alp⟩ := h
    rw [Int.toNat_natCast] at hi
    have ok := hok j
    have hsc : lsol rows right n (j + 1) = lstep n (lsol rows right n j) j := lsol_succ
    generalize lsol rows right n j = s at ok alt alp hsc
    obtain ⟨t, piv⟩ := s
    have ex : xx = .int (j : Int) := y
    subst ex
    have sm := sm.trans s''
    have le := le_trans le (le_of s'')
    have hT := s'' _ _ hT
    have hP := s'' _ _ hP
    have alt : Alls H'' tv (t.map fun l => dA2 tb pv l) := alt.mono s''
    have alp : Alls H'' ps (dNs piv) := alp.mono s''
    have df := Imm.m _ _ _ (le_trans (le_of e4) le) dvf
    have otl : t.length = rows.length := ok.tl
    have opl : piv.length ≤ rows.length := ok.pl
    have orl : ∀ row ∈ t, row.length = n + 1 := ok.rl
    have dtab : dL (t.map fun l => dA2 tb pv l) (.ref tb) H'' := ⟨tb, tv, rfl, hT, alt⟩
    have dpiv : dL (dNs piv) (.ref pv) H'' := ⟨pv, ps, rfl, hP, alp⟩
    have htl : ∀ {L : List (List (El i))}, (L.map fun l => dA2 tb pv l).length = L.length := fun {L} => List.length_map ..
    show tSeq _ _ _ [some vf, some vr, some vt, some (.int (n : Int)), some (.ref tb), some (.ref pv), some (.int (j : Int)), x7, none, x9, x10, x11, x12, none, x14, none] H''
    refine q_asg ((ev_len (K := K) (ev_var (r := dL (dNs piv)) rfl dpiv)).eq (by rw [dNs_len])) fun v9 H5 e5 d9 => ?_
    have ev : v9 = .int (piv.length : Int) := d9
    subst ev
    replace dtab := Mono.m _ _ _ e5 dtab
    replace dpiv := Mono.m _ _ _ e5 dpiv
    replace df := Mono.m _ _ _ e5 df
    refine q_asg (r := dFr H5 (dL (dNs (lchos t piv.length j)))) ((ev_lcf (ei_rng2 (ev_var (r := dI (piv.length : Int)) rfl rfl) ((ev_len (K := K) (ev_var (r := dL (t.map fun l => dA2 tb pv l)) rfl dtab)).eq (by rw [htl])) (by omega) (by omega)).i (fun k => !decide ((t.getD (piv.length + k) []).getD j Fld.zero = Fld.zero)) (fun k => dI ((piv.length + k : Nat) : Int)) (by omega) (fun _ => rfl) (fun k v H6 hk e6 y => ?_) (fun k v H6 hk e6 y _ => ?_)).eq ?_) fun v10 H6 e6 d10 => ?_
    · have hk2 : piv.length + k < t.length := by omega
      have y' : dI ((piv.length + k : Nat) : Int) v H6 := by rw [Int.natCast_add]; exact y
      exact et_test (ev_neM (ev_atM (ev_ix (k := piv.length + k) (d := dA2 tb pv (t.getD (piv.length + k) [])) (ev_var (r := dL (t.map fun l => dA2 tb pv l)) rfl (Mono.m _ _ _ e6 dtab)) (ev_var rfl y') (map_getD (g := fun l => dA2 tb pv l) hk2)) (ev_var (r := dI (j : Int)) rfl rfl) rfl (by rw [orl _ (mem_getD hk2)]; omega)) (ev_F0 (ev_var rfl (Mono.m _ _ _ e6 df))))
    · exact ev_var rfl (by rw [Int.natCast_add]; exact y)
    · unfold lchos dNs
      rw [List.filter_map, List.map_map, show (((t.length : Int) - (piv.length : Int)).toNat) = t.length - piv.length by omega]
      rfl
    have hlc : Ev (tCB (pLen K) (tCons (tVar 10) tNil)) [some vf, some vr, some vt, some (.int (n : Int)), some (.ref tb), some (.ref pv), some (.int (j : Int)), x7, none, some (.int (piv.length : Int)), some v10, x11, x12, none, x14, none] H6 (dI ((lchos t piv.length j).length : Int)) := (ev_len (K := K) (ev_var (r := dFr H5 (dL (dNs (lchos t piv.length j)))) rfl d10)).eq (by rw [dNs_len])
    have E6 := e5.trans e6
    cases hpk : lchos t piv.length j with
    | nil =>
      rw [lstep_nil hpk] at hsc
      rw [hpk] at hlc
      refine q_if (b := true) ((et_test (ev_eqI hlc (ev_int (i := 0)))).eq (decide_eq_true rfl)) (fun _ H7 e7 => ?_) (fun z => nomatch z)
      have E7 := E6.trans e7
      exact ⟨_, x7, _, _, x11, x12, x14, tv, ps, rfl, sm.trans E7, le_trans le (le_of E7), E7 _ _ hT, by rw [hsc]; exact alt.mono E7, E7 _ _ hP, by rw [hsc]; exact alp.mono E7⟩
    | cons k ks =>
      rw [lstep_cons hpk] at hsc
      rw [hpk] at hlc d10
      obtain ⟨hk, hdk, hnz⟩ := lchos_mem hpk
      have hk : k < t.length := hk
      have hdk : piv.length ≤ k := hdk
      refine q_no ((et_test (ev_eqI hlc (ev_int (i := 0)))).eq (decide_eq_false (by rw [List.length_cons]; omega))) fun H7 e7 => ?_
      have E7 := E6.trans e7
      replace dtab := Mono.m _ _ _ (e6.trans e7) dtab
      replace df := Mono.m _ _ _ (e6.trans e7) df
      replace d10 := Mono.m _ _ _ e7 d10
      have hpk0 : ∀ (x11 : Option V) (H9 : Hp), Same H7 H9 → Ev (tOp (rIx K) (tVar 10) (tC (.int 0))) [some vf, some vr, some vt, some (.int (n : Int)), some (.ref tb), some (.ref pv), some (.int (j : Int)), x7, none, some (.int (piv.length : Int)), some v10, x11, x12, none, x14, none] H9 (dI (k : Int)) := fun x11 H9 e9 => ev_ixI (k := 0) (rs := dNs (k :: ks)) (ev_var (r := dFr H5 (dL (dNs (k :: ks)))) rfl (Mono.m _ _ _ e9 d10)) (ev_int (i := 0)) rfl rfl
      refine q_asg (ev_ix (k := k) (d := dA2 tb pv (t.getD k [])) (ev_var (r := dL (t.map fun l => dA2 tb pv l)) rfl dtab) (hpk0 _ _ (Same.refl _)) (map_getD (g := fun l => dA2 tb pv l) hk)) fun v11 H8 e8 d11 => ?_
      have E8 := E7.trans e8
      refine q_set (p := tb) (vs := tv) (j := k) (r := dA2 tb pv (t.getD piv.length [])) rfl (E8 _ _ hT) (ev_ix (k := piv.length) (ev_var (r := dL (t.map fun l => dA2 tb pv l)) rfl (Mono.m _ _ _ e8 dtab)) (ev_var (r := dI (piv.length : Int)) rfl rfl) (map_getD (g := fun l => dA2 tb pv l) (by omega))) (hpk0 _ _ e8) (by rw [alt.len, htl]; exact hk) fun v H9 e9 d hT9 => ?_
      have E9 := E8.trans e9
      have df := Imm.m _ _ _ (le_trans (le_of (e8.trans e9)) (le_set (ys := tv.set k v) hT9)) df
      have d11 := Stp.m (p := tb) _ _ _ (tv.set k v) hT9 (Mono.m _ _ _ e9 d11)
      have alt := ((alt.mono E9).stp (ys := tv.set k v) hT9).set (Stp.m (p := tb) _ _ _ (tv.set k v) hT9 d) k
      rw [show (t.map fun l => dA2 tb pv l).set k (dA2 tb pv (t.getD piv.length [])) = (t.set k (t.getD piv.length [])).map fun l => dA2 tb pv l from (List.map_set ..).symm] at alt
      have hP := upd_keep (ob := .lst (tv.set k v)) (Ne.symm hne) (E9 _ _ hP)
      have alp := (alp.mono E9).imm (le_set (ys := tv.set k v) hT9)
      have sm := same_mut (o := .lst (tv.set k v)) (sm.trans E9) htb
      have le := le_trans le (le_trans (le_of E9) (le_set (ys := tv.set k v) hT9))
      have hT : (upd H9 tb (.lst (tv.set k v))) tb = some (.lst (tv.set k v)) := upd_same
      generalize upd H9 tb (.lst (tv.set k v)) = H10 at *
      have hrk : (t.getD k []).length = n + 1 := orl _ (mem_getD hk)
      refine q_asg (ev_Fi (i := i) (ev_var rfl df) hnz (ev_atM (ev_var rfl d11) (ev_var (r := dI (j : Int)) rfl rfl) rfl (by rw [hrk]; omega))) fun v12 H11 e11 d12 => ?_
      replace df := Mono.m _ _ _ e11 df
      replace d11 := Mono.m _ _ _ e11 d11
      refine q_asg (ev_lc1 (es := dV (lead (t.getD k []) j)) (ei_list (ev_var rfl d11)) (by rw [dV_len, dV_len, lead_len]) (by rw [dV_len, hrk]; omega) (fun _ => rfl) fun q d x H12 hd e12 hx => ?_) fun v13 H12 e12 d13 => ?_
      · obtain ⟨c, hc, rfl⟩ := dV_inv hd
        obtain ⟨x1, h1, rfl⟩ := map_inv hc
        rw [yAt_some (dV_get h1)] at hx
        exact ev_Fm (ev_var rfl (Mono.m _ _ _ e12 df)) (ev_var rfl (Mono.m _ _ _ e12 d12)) (ev_var rfl hx)
      have d13 := av2_of (e11 _ _ hT) (e11 _ _ hP) d13
      have E12 := e11.trans e12
      replace df := Mono.m _ _ _ e12 df
      refine q_set (p := tb) (vs := tv.set k v) (j := piv.length) rfl (E12 _ _ hT) (ev_var rfl d13) (ev_var (r := dI (piv.length : Int)) rfl rfl) (by rw [alt.len, htl, List.length_set]; omega) fun w13 H13 e13 d hT13 => ?_
      have E13 := E12.trans e13
      have df := Imm.m _ _ _ (le_trans (le_of e13) (le_set (ys := (tv.set k v).set piv.length w13) hT13)) df
      have d13 := Stp.m (p := tb) _ _ _ ((tv.set k v).set piv.length w13) hT13 (Mono.m _ _ _ e13 d13)
      have alt := ((alt.mono E13).stp (ys := (tv.set k v).set piv.length w13) hT13).set (Stp.m (p := tb) _ _ _ ((tv.set k v).set piv.length w13) hT13 d) piv.length
      rw [show ((t.set k (t.getD piv.length [])).map fun l => dA2 tb pv l).set piv.length (dA2 tb pv (lead (t.getD k []) j)) = ((t.set k (t.getD piv.length [])).set piv.length (lead (t.getD k []) j)).map fun l => dA2 tb pv l from (List.map_set ..).symm] at alt
      have hP := upd_keep (ob := .lst ((tv.set k v).set piv.length w13)) (Ne.symm hne) (E13 _ _ hP)
      have alp := (alp.mono E13).imm (le_set (ys := (tv.set k v).set piv.length w13) hT13)
      have sm := same_mut (o := .lst ((tv.set k v).set piv.length w13)) (sm.trans E13) htb
      have le := le_trans le (le_trans (le_of E13) (le_set (ys := (tv.set k v).set piv.length w13) hT13))
      have hT : (upd H13 tb (.lst ((tv.set k v).set piv.length w13))) tb = some (.lst ((tv.set k v).set piv.length w13)) := upd_same
      generalize upd H13 tb (.lst ((tv.set k v).set piv.length w13)) = H14 at *
      generalize (tv.set k v).set piv.length w13 = tv at *
      have otl0 : t.length = ((t.set k (t.getD piv.length [])).set piv.length (lead (t.getD k []) j)).length := by rw [List.length_set, List.length_set]
      have orl0 : ∀ row ∈ (t.set k (t.getD piv.length [])).set piv.length (lead (t.getD k []) j), row.length = n + 1 := set_rl (set_rl orl (orl _ (mem_getD (by omega)))) (by rw [lead_len]; exact hrk)
      have hhd : (lead (t.getD k []) j).length = n + 1 := by rw [lead_len]; exact hrk
      have hsc : lsol rows right n (j + 1) = (lin (lead (t.getD k []) j) piv.length j n ((t.set k (t.getD piv.length [])).set piv.length (lead (t.getD k []) j)) t.length, piv ++ [j]) := hsc
      rw [otl0] at hsc
      generalize (t.set k (t.getD piv.length [])).set piv.length (lead (t.getD k []) j) = t0 at *
      generalize lead (t.getD k []) j = hd at *
      have dtab : dL (t0.map fun l => dA2 tb pv l) (.ref tb) H14 := ⟨tb, tv, rfl, hT, alt⟩
      refine q_forJ (ei_rng1 ((ev_len (K := K) (ev_var (r := dL (t0.map fun l => dA2 tb pv l)) rfl dtab)).eq (by rw [htl])) (by omega) (by omega)) fun H15 e15 => ⟨fun m σ' H' => ∃ x7 x14 tv, σ' = [some vf, some vr, some vt, some (.int (n : Int)), some (.ref tb), some (.ref pv), some (.int (j : Int)), x7, none, some (.int (piv.length : Int)), some v10, some v13, some v12, none, x14, none] ∧ Same H H' ∧ Le H15 H' ∧ H' tb = some (.lst tv) ∧ Alls H' tv ((lin hd piv.length j n t0 m).map fun l => dA2 tb pv l) ∧ H' pv = some (.lst ps) ∧ dA2 tb pv hd v13 H',
        ⟨_, _, tv, rfl, sm.trans e15, le_refl _, e15 _ _ hT, alt.mono e15, e15 _ _ hP, Mono.m _ _ _ e15 d13⟩, fun j σ' H' hi h => (by obtain ⟨_, _, _, _, _, h, _⟩ := h; exact h), fun m σ' H' hm h xx H16 s16 y => ?_, fun σ' H' h => ?_⟩
      · obtain ⟨x7, x14, tv, rfl, sm', le', hT, alt, hP, d13⟩ := h
        rw [Int.toNat_natCast] at hm
        have ex : xx = .int (m : Int) := y
        subst ex
        show tIfS _ _ _ _ [some vf, some vr, some vt, some (.int (n : Int)), some (.ref tb), some (.ref pv), some (.int (j : Int)), some (.int (m : Int)), none, some (.int (piv.length : Int)), some v10, some v13, some v12, none, x14, none] H16
        have htst := et_test (ev_neI (ev_var (σ := [some vf, some vr, some vt, some (.int (n : Int)), some (.ref tb), some (.ref pv), some (.int (j : Int)), some (.int (m : Int)), none, some (.int (piv.length : Int)), some v10, some v13, some v12, none, x14, none]) (H := H16) (n := 7) (r := dI (m : Int)) rfl rfl) (ev_var (n := 9) (r := dI (piv.length : Int)) rfl rfl))
        obtain ⟨ll, lr⟩ := lin_ok (hd := hd) (done := piv.length) (col := j) orl0 m
        by_cases hmd : m = piv.length
        · refine s_if (b := false) (htst.eq (by rw [decide_eq_true (by omega)]; rfl)) (fun z => nomatch z) fun _ H17 e17 => ?_
          have E := s16.trans e17
          refine ⟨_, x14, tv, rfl, sm'.trans E, le_trans le' (le_of E), E _ _ hT, ?_, E _ _ hP, Mono.m _ _ _ E d13⟩
          rw [lin_succ]
          unfold lrowStep
          rw [if_pos hmd]
          exact alt.mono E
        · refine s_if (b := true) (htst.eq (by rw [decide_eq_false (by omega)]; rfl)) (fun _ H17 e17 => ?_) fun z => nomatch z
          have E := s16.trans e17
          have df := Imm.m _ _ _ (le_trans (le_of e15) (le_trans le' (le_of E))) df
          replace d13 := Mono.m _ _ _ E d13
          have alt := alt.mono E
          have hT := E _ _ hT
          have hP := E _ _ hP
          have hml : m < (lin hd piv.length j n t0 m).length := by omega
          have hrm := lr _ (mem_getD hml)
          have dtab : dL ((lin hd piv.length j n t0 m).map fun l => dA2 tb pv l) (.ref tb) H17 := ⟨tb, tv, rfl, hT, alt⟩
          have hrow : ∀ (x14 x15 : Option V) (H18 : Hp), Same H17 H18 → Ev (tOp (rIx K) (tVar 4) (tVar 7)) [some vf, some vr, some vt, some (.int (n : Int)), some (.ref tb), some (.ref pv), some (.int (j : Int)), some (.int (m : Int)), none, some (.int (piv.length : Int)), some v10, some v13, some v12, none, x14, x15] H18 (dA2 tb pv ((lin hd piv.length j n t0 m).getD m [])) := fun x14 x15 H18 e18 =>
            ev_ix (k := m) (ev_var (r := dL ((lin hd piv.length j n t0 m).map fun l => dA2 tb pv l)) rfl (Mono.m _ _ _ e18 dtab)) (ev_var (r := dI (m : Int)) rfl rfl) (map_getD (g := fun l => dA2 tb pv l) hml)
          refine q_asg (ev_Fg (i := i) (ev_var rfl df) (ev_atM (hrow _ _ _ (Same.refl _)) (ev_var (r := dI (j : Int)) rfl rfl) rfl (by rw [hrm]; omega))) fun w14 H18 e18 d14 => ?_
          replace df := Mono.m _ _ _ e18 df
          replace d13 := Mono.m _ _ _ e18 d13
          refine s_set (p := tb) (vs := tv) (j := m) (r := dA2 tb pv ((List.range (n + 1)).map fun q => Fld.add (((lin hd piv.length j n t0 m).getD m []).getD q Fld.zero) (Fld.mul (Fld.neg (((lin hd piv.length j n t0 m).getD m []).getD j Fld.zero)) (hd.getD q Fld.zero)))) rfl (e18 _ _ hT) ((ev_lc1 (es := dV ((List.range (n + 1)).map fun q => Fld.add (((lin hd piv.length j n t0 m).getD m []).getD q Fld.zero) (Fld.mul (Fld.neg (((lin hd piv.length j n t0 m).getD m []).getD j Fld.zero)) (hd.getD q Fld.zero)))) (ei_rng1 (j := ((n + 1 : Nat) : Int)) ((ev_add (ev_var (r := dI (n : Int)) rfl rfl) (ev_int (i := 1))).eq (by rw [show ((n : Int) + 1) = ((n + 1 : Nat) : Int) by omega])) (by omega) (by omega)).i ?_ (by omega) (fun _ => rfl) fun q d x H19 hd e19 hx => ?_).to fun v H19 e19 d => av2_of (e18 _ _ hT) (e18 _ _ hP) d) (ev_var (r := dI (m : Int)) rfl rfl) (by rw [alt.len, htl]; exact hml) fun v H19 e19 d hT19 => ?_
          · rw [dV_len, List.length_map, List.length_range, Int.toNat_natCast]
          · obtain ⟨c, hc, rfl⟩ := dV_inv hd
            obtain ⟨q1, h1, rfl⟩ := map_inv hc
            have hq := (List.getElem?_eq_some_iff.mp h1).1
            rw [List.length_range] at hq
            rw [List.getElem?_range hq] at h1
            cases h1
            exact ev_Fa (ev_var (r := dFld K i) rfl (Mono.m _ _ _ e19 df)) (ev_atM (hrow _ _ _ (e18.trans e19)) (ev_var rfl hx) rfl (by rw [hrm]; omega)) (ev_Fm (ev_var (r := dFld K i) rfl (Mono.m _ _ _ e19 df)) (ev_var rfl (Mono.m _ _ _ e19 d14)) (ev_atM (ev_var rfl (Mono.m _ _ _ e19 d13)) (ev_var rfl hx) rfl (by rw [hhd]; omega)))
          · have E19 := e18.trans e19
            refine ⟨_, _, tv.set m v, rfl, same_mut ((sm'.trans E).trans E19) htb, le_trans le' (le_trans (le_of (E.trans E19)) (le_set hT19)), upd_same, ?_, upd_keep (Ne.symm hne) (E19 _ _ hP), Stp.m (p := tb) _ _ _ _ hT19 (Mono.m _ _ _ e19 d13)⟩
            rw [lin_succ]
            unfold lrowStep
            rw [if_neg hmd, List.map_set]
            exact ((alt.mono E19).stp hT19).set (Stp.m (p := tb) _ _ _ _ hT19 d) m
      · obtain ⟨x7, x14, tv, rfl, sm', le', hT, alt, hP, d13⟩ := h
        rw [Int.toNat_natCast] at alt
        have alp := alp.imm (le_trans (le_of e15) le')
        have hpl : ps.length < 1000 := by
          rw [alp.len, dNs_len]
          omega
        refine s_app (p := pv) (vs := ps) rfl hP (by omega) (ev_var (r := dI (j : Int)) rfl rfl) fun v H16 e16 d hP16 => ?_
        refine ⟨_, x7, _, _, _, _, x14, tv, ps ++ [v], rfl, same_mut (sm'.trans e16) hpv0, le_trans le (le_trans (le_of e15) (le_trans le' (le_trans (le_of e16) (le_set hP16)))), upd_keep hne (e16 _ _ hT), ?_, upd_same, ?_⟩
        · rw [hsc]
          exact (alt.mono e16).stp hP16
        · rw [hsc]
          show Alls _ _ (dNs (piv ++ [j]))
          rw [dNs_app]
          exact ((alp.mono e16).imm (le_set hP16)).append (alls_cons d alls_nil)
  · obtain ⟨x6, x7, x9, x10, x11, x12, x14, tv, ps, rfl, sm, le, hT, alt, hP, alp⟩ := h
    rw [Int.toNat_natCast] at alt alp
    have ok := hok n
    have hlk : lok rows right n = (List.range ((lsol rows right n n).1.length - (lsol rows right n n).2.length)).all fun j => decide ((((lsol rows right n n).1.getD ((lsol rows right n n).2.length + j) []).getD n Fld.zero) = Fld.zero) := rfl
    generalize lsol rows right n n = s at ok alt alp hlk
    obtain ⟨t, piv⟩ := s
    have otl : t.length = rows.length := ok.tl
    have opl : piv.length ≤ rows.length := ok.pl
    have orl : ∀ row ∈ t, row.length = n + 1 := ok.rl
    have opn : ∀ q ∈ piv, q < n := ok.pn
    have dtab : dL (t.map fun l => dA2 tb pv l) (.ref tb) H' := ⟨tb, tv, rfl, hT, alt⟩
    have dpiv : dL (dNs piv) (.ref pv) H' := ⟨pv, ps, rfl, hP, alp⟩
    have df := Imm.m _ _ _ (le_trans (le_of e4) le) dvf
    have htl : ∀ {L : List (List (El i))}, (L.map fun l => dA2 tb pv l).length = L.length := fun {L} => List.length_map ..
    refine q_forJ (ei_rng2 ((ev_len (K := K) (ev_var (r := dL (dNs piv)) rfl dpiv)).eq (by rw [dNs_len])) ((ev_len (K := K) (ev_var (r := dL (t.map fun l => dA2 tb pv l)) rfl dtab)).eq (by rw [htl])) (by omega) (by omega)) fun H5 e5 => ⟨fun m σ' H6 => Same H5 H6 ∧ ∃ x7, σ' = [some vf, some vr, some vt, some (.int (n : Int)), some (.ref tb), some (.ref pv), x6, x7, none, x9, x10, x11, x12, none, x14, none] ∧ ∀ q, q < m → (t.getD (piv.length + q) []).getD n Fld.zero = Fld.zero, ⟨Same.refl _, x7, rfl, fun q h => absurd h (Nat.not_lt_zero q)⟩, fun j σ' H' hi h => le_of h.1, fun m σ' H6 hm h xx H7 s7 y => ?_, fun σ' H6 h => ?_⟩
    · obtain ⟨sm', x7, rfl, hq⟩ := h
      have hm2 : piv.length + m < t.length := by omega
      have E := e5.trans (sm'.trans s7)
      replace dtab := Mono.m _ _ _ E dtab
      replace df := Mono.m _ _ _ E df
      have y' : dI ((piv.length + m : Nat) : Int) xx H7 := by rw [Int.natCast_add]; exact y
      show tIfS _ _ _ _ [some vf, some vr, some vt, some (.int (n : Int)), some (.ref tb), some (.ref pv), x6, some xx, none, x9, x10, x11, x12, none, x14, none] H7
      have htst := et_test (ev_neM (K := K) (ev_atM (K := K) (j := n) (ev_ix (K := K) (k := piv.length + m) (d := dA2 tb pv (t.getD (piv.length + m) [])) (ev_var (σ := [some vf, some vr, some vt, some (.int (n : Int)), some (.ref tb), some (.ref pv), x6, some xx, none, x9, x10, x11, x12, none, x14, none]) (n := 4) (r := dL (t.map fun l => dA2 tb pv l)) rfl dtab) (ev_var (n := 7) rfl y') (map_getD (g := fun l => dA2 tb pv l) hm2)) (ev_var (n := 3) (r := dI (n : Int)) rfl rfl) rfl (by rw [orl _ (mem_getD hm2)]; omega)) (ev_F0 (ev_var (n := 0) (r := dFld K i) rfl df)))
      by_cases hz : (t.getD (piv.length + m) []).getD n Fld.zero = Fld.zero
      · refine s_if (b := false) (htst.eq (by rw [decide_eq_true hz]; rfl)) (fun z => nomatch z) fun _ H8 e8 => ?_
        refine ⟨(sm'.trans s7).trans e8, _, rfl, fun q h => ?_⟩
        by_cases hqm : q = m
        · rw [hqm]; exact hz
        · exact hq q (by omega)
      · refine s_if (b := true) (htst.eq (by rw [decide_eq_false hz]; rfl)) (fun _ H8 e8 => ?_) fun z => nomatch z
        have hf : lok rows right n = false := by
          rw [hlk]
          refine List.all_eq_false.mpr ⟨m, List.mem_range.mpr (by show m < t.length - piv.length; omega), ?_⟩
          show ¬ decide ((t.getD (piv.length + m) []).getD n Fld.zero = Fld.zero) = true
          rw [decide_eq_false hz]
          decide
        rw [hf] at k
        exact s_ret (r := dN) ev_non fun v H9 e9 d => k v H9 (sm.trans (E.trans (e8.trans e9))) (by rw [show v = .non from d]; rfl)
    · obtain ⟨sm', x7, rfl, hq⟩ := h
      have E := e5.trans sm'
      have hf : lok rows right n = true := by
        rw [hlk]
        refine List.all_eq_true.mpr fun q h => decide_eq_true (hq q ?_)
        have : q < t.length - piv.length := List.mem_range.mp h
        omega
      rw [hf] at k
      replace dtab := Mono.m _ _ _ E dtab
      replace dpiv := Mono.m _ _ _ E dpiv
      replace df := Mono.m _ _ _ E df
      have sm := sm.trans E
      refine q_asg (ev_lc1 (es := dV (List.replicate n (Fld.zero : El i))) (ei_rng1 (ev_var (r := dI (n : Int)) rfl rfl) (by omega) (by omega)).i (by rw [dV_len, List.length_replicate, Int.toNat_natCast]) (by omega) (fun _ => rfl) fun j d x H1 hd e hx => ?_) fun v8 H7 e7 d8 => ?_
      · obtain ⟨c, hc, rfl⟩ := dV_inv hd
        have := List.mem_of_getElem? hc
        rw [(List.mem_replicate.mp this).2]
        exact ev_F0 (ev_var rfl (Mono.m _ _ _ e df))
      obtain ⟨⟨ob, rfl, hob⟩, ob', us, eo, hO, alo⟩ := d8
      cases eo
      have hul : us.length = n := by rw [alo.len, dV_len, List.length_replicate]
      refine q_forJ (ei_rng1 ((ev_len (K := K) (ev_var (r := dL (dNs piv)) rfl (Mono.m _ _ _ e7 dpiv))).eq (by rw [dNs_len])) (by omega) (by omega)) fun H8 e8 => ⟨fun m σ' H9 => Same H6 H9 ∧ Le H8 H9 ∧ ∃ x7 us, σ' = [some vf, some vr, some vt, some (.int (n : Int)), some (.ref tb), some (.ref pv), x6, x7, some (.ref ob), x9, x10, x11, x12, none, x14, none] ∧ H9 ob = some (.lst us) ∧ us.length = n, ⟨e7.trans e8, le_refl _, x7, us, rfl, e8 _ _ hO, hul⟩, fun j σ' H' hi h => h.2.1, fun m σ' H9 hm h xx H10 s10 y => ?_, fun σ' H9 h => ?_⟩
      · obtain ⟨sm', le', x7, us, rfl, hO, hul⟩ := h
        rw [Int.toNat_natCast] at hm
        have ex : xx = .int (m : Int) := y
        subst ex
        have E10 := sm'.trans s10
        replace dtab := Mono.m _ _ _ E10 dtab
        replace dpiv := Mono.m _ _ _ E10 dpiv
        show tAsg _ _ _ [some vf, some vr, some vt, some (.int (n : Int)), some (.ref tb), some (.ref pv), x6, some (.int (m : Int)), some (.ref ob), x9, x10, x11, x12, none, x14, none] H10
        have hpm := getD_at (z := 0) (l := piv) (j := m) hm
        have hm2 : m < t.length := by omega
        refine s_set (p := ob) (vs := us) (j := piv.getD m 0) rfl (s10 _ _ hO) (ev_atM (j := n) (ev_ix (k := m) (d := dA2 tb pv (t.getD m [])) (ev_var (r := dL (t.map fun l => dA2 tb pv l)) rfl dtab) (ev_var (r := dI (m : Int)) rfl rfl) (map_getD (g := fun l => dA2 tb pv l) hm2)) (ev_var (r := dI (n : Int)) rfl rfl) rfl (by rw [orl _ (mem_getD hm2)]; omega)) (ev_ix (k := m) (ev_var (r := dL (dNs piv)) rfl dpiv) (ev_var (r := dI (m : Int)) rfl rfl) (by unfold dNs; rw [List.getElem?_map, hpm]; rfl)) (by rw [hul]; exact opn _ (List.mem_of_getElem? hpm)) fun v H11 e11 d hO11 => ?_
        exact ⟨same_mut (E10.trans e11) hob, le_trans le' (le_trans (le_of (s10.trans e11)) (le_set hO11)), _, _, rfl, upd_same, by rw [List.length_set]; exact hul⟩
      · obtain ⟨sm', le', x7, us, rfl, hO, hul⟩ := h
        refine s_ret (ev_tuple (ev_var (r := dL (List.replicate us.length dAny)) rfl ⟨ob, us, rfl, hO, alls_any us⟩)) fun v H10 e10 d => k v H10 (sm.trans (sm'.trans e10)) ?_
        obtain ⟨a, ws, rfl, _⟩ := d
        rfl
end
end K35
set_option Elab.async false
set_option linter.all false
set_option maxRecDepth 100000
set_option maxHeartbeats 4000000
namespace K35
open Fld
/-! ### the law's own elimination -/
section
variable {F : Type} [Fld F]
theorem rowStep_get {hd : List F} {done col width m r : Nat} {t : List (List F)} (hm : m < t.length) : (lrowStep hd done col width t m).getD r [] = if r = m ∧ m ≠ done then (List.range (width + 1)).map (fun j => add ((t.getD m []).getD j zero) (mul (neg ((t.getD m []).getD col zero)) (hd.getD j zero))) else t.getD r [] := by
  unfold lrowStep
  by_cases h : m = done
  · rw [if_pos h, if_neg (fun z => z.2 h)]
  · rw [if_neg h, getD_set hm]
    by_cases e : r = m
    · rw [if_pos e, if_pos ⟨e, h⟩]
    · rw [if_neg e, if_neg (fun z => e z.1)]
theorem lin_get {hd : List F} {done col width : Nat} {t : List (List F)} (hw : ∀ row ∈ t, row.length = width + 1) : ∀ m, m ≤ t.length → ∀ r, (lin hd done col width t m).getD r [] = if r < m ∧ r ≠ done then (List.range (width + 1)).map (fun j => add ((t.getD r []).getD j zero) (mul (neg ((t.getD r []).getD col zero)) (hd.getD j zero))) else t.getD r []
  | 0, _, r => by
    rw [if_neg (fun z => Nat.not_lt_zero _ z.1)]
    rfl
  | m + 1, hm, r => by
    have ih := lin_get (hd := hd) (done := done) (col := col) hw m (by omega)
    have hl := (lin_ok (hd := hd) (done := done) (col := col) hw m).1
    have hmm : (lin hd done col width t m).getD m [] = t.getD m [] := (ih m).trans (if_neg (fun z => Nat.lt_irrefl _ z.1))
    rw [lin_succ, rowStep_get (by omega), hmm, ih r]
    by_cases e : r = m
    · subst e
      by_cases h : r = done
      · rw [if_neg (fun z => z.2 h), if_neg (fun z => z.2 h), if_neg (fun z => z.2 h)]
      · rw [if_pos (And.intro rfl h), if_pos (And.intro (Nat.lt_succ_self r) h)]
    · rw [if_neg (fun z => e z.1)]
      by_cases h : r < m ∧ r ≠ done
      · rw [if_pos h, if_pos ⟨by omega, h.2⟩]
      · rw [if_neg h, if_neg (fun z => h ⟨by omega, z.2⟩)]
structure LInv (rows : List (List F)) (w n : Nat) (s : List (List F) × List Nat) : Prop where
  pl : s.2.length = n
  unit : ∀ r j, r < w → j < n → (s.1.getD r []).getD j zero = if r = j then one else zero
  ker : ∀ x : Nat → F, (∀ r, r < w → rx w (s.1.getD r []) x = zero) → ∀ r, r < w → rx w (rows.getD r []) x = zero
theorem l_inv {rows : List (List F)} {right : List F} {w : Nat} (hlen : rows.length = right.length) (hr : ∀ row ∈ rows, row.length = w) (hN : rows.length = w) (inj : ∀ x : Nat → F, (∀ r, r < w → rx w (rows.getD r []) x = zero) → ∀ i, i < w → x i = zero) : ∀ n, n ≤ w → LInv rows w n (lsol rows right w n)
  | 0, _ => by
    refine ⟨rfl, fun r j _ h => absurd h (Nat.not_lt_zero j), fun x h r hrw => ?_⟩
    have z := h r hrw
    have hat : (flines rows right).getD r [] = rows.getD r [] ++ [right.getD r zero] := by
      rw [List.getD_eq_getElem?_getD]
      unfold flines
      rw [List.getElem?_zipWith, getD_at (z := []) (l := rows) (by omega), getD_at (z := zero) (l := right) (by omega)]
      rfl
    have z : rx w ((flines rows right).getD r []) x = zero := z
    rw [hat] at z
    rw [← z]
    refine sm_congr fun i hi => ?_
    rw [getD_app (by rw [hr _ (mem_getD (by omega))]; exact hi)]
  | n + 1, hn => by
    have ih := l_inv hlen hr hN inj n (by omega)
    have ok := l_ok (w := w) hlen hr n
    rw [lsol_succ]
    generalize lsol rows right w n = s at ih ok
    obtain ⟨t, piv⟩ := s
    have ipl : piv.length = n := ih.pl
    have iu : ∀ r j, r < w → j < n → (t.getD r []).getD j zero = if r = j then one else zero := ih.unit
    have ik : ∀ x : Nat → F, (∀ r, r < w → rx w (t.getD r []) x = zero) → ∀ r, r < w → rx w (rows.getD r []) x = zero := ih.ker
    have otl : t.length = rows.length := ok.tl
    have orl : ∀ row ∈ t, row.length = w + 1 := ok.rl
    cases hp : lchos t piv.length n with
    | nil =>
      exfalso
      have hz : ∀ r, n ≤ r → r < w → (t.getD r []).getD n zero = zero := fun r h1 h2 => Decidable.byContradiction fun hne => by
        have hm : r ∈ lchos t piv.length n := by
          unfold lchos
          rw [List.mem_filter, List.mem_map]
          exact ⟨⟨r - piv.length, List.mem_range.mpr (by omega), by omega⟩, by rw [decide_eq_false hne]; rfl⟩
        rw [hp] at hm
        cases hm
      let x : Nat → F := fun i => if i < n then (t.getD i []).getD n zero else if i = n then neg one else zero
      have hx : ∀ r, r < w → rx w (t.getD r []) x = zero := fun r hrw => by
        unfold rx
        rw [sm_more (n := n + 1) hn fun i h1 h2 => by rw [show x i = zero from (if_neg (by omega)).trans (if_neg (by omega)), f_mul_zero]]
        show add (sm n _) (mul _ (x n)) = zero
        rw [show x n = neg one from (if_neg (by omega)).trans (if_pos rfl), f_mul_neg, f_mul_one]
        by_cases hrn : r < n
        · rw [sm_single (j := r) hrn fun i hi hne => by rw [iu r i hrw hi, if_neg (fun z => hne z.symm), f_zero_mul], iu r r hrw hrn, if_pos rfl, Fld.one_mul, show x r = (t.getD r []).getD n zero from if_pos hrn, f_add_neg]
        · rw [sm_zero fun i hi => by rw [iu r i hrw hi, if_neg (by omega), f_zero_mul], hz r (by omega) hrw, f_neg_zero, f_add_zero]
      have z := inj x (ik x hx) n (by omega)
      rw [show x n = neg one from (if_neg (by omega)).trans (if_pos rfl)] at z
      have z2 := congrArg neg z
      rw [f_neg_neg, f_neg_zero] at z2
      exact Fld.one_ne z2
    | cons k ks =>
      rw [lstep_cons hp]
      obtain ⟨hk, hdk, hnz⟩ := lchos_mem hp
      have hk : k < t.length := hk
      have hdk : piv.length ≤ k := hdk
      have hnz : (t.getD k []).getD n zero ≠ zero := hnz
      show LInv rows w (n + 1) (lin (lead (t.getD k []) n) piv.length n w ((t.set k (t.getD piv.length [])).set piv.length (lead (t.getD k []) n)) t.length, piv ++ [n])
      rw [ipl]
      have hdn : (lead (t.getD k []) n).getD n zero = one := by rw [lead_get, Fld.inv_mul _ hnz]
      have hdj : ∀ j, j < n → (lead (t.getD k []) n).getD j zero = zero := fun j hj => by rw [lead_get, iu k j (by omega) hj, if_neg (by omega), f_mul_zero]
      have t0g : ∀ r, ((t.set k (t.getD n [])).set n (lead (t.getD k []) n)).getD r [] = if r = n then lead (t.getD k []) n else if r = k then t.getD n [] else t.getD r [] := fun r => by
        rw [getD_set (by rw [List.length_set]; omega), getD_set hk]
      have t0w : ∀ row ∈ (t.set k (t.getD n [])).set n (lead (t.getD k []) n), row.length = w + 1 := set_rl (set_rl orl (orl _ (mem_getD (by omega)))) (by rw [lead_len]; exact orl _ (mem_getD hk))
      have t0l : ((t.set k (t.getD n [])).set n (lead (t.getD k []) n)).length = t.length := by rw [List.length_set, List.length_set]
      have t0u : ∀ r j, r < w → j < n → (((t.set k (t.getD n [])).set n (lead (t.getD k []) n)).getD r []).getD j zero = if r = j then one else zero := fun r j hrw hj => by
        rw [t0g r]
        by_cases e : r = n
        · rw [if_pos e, hdj j hj, if_neg (by omega)]
        · rw [if_neg e]
          by_cases e2 : r = k
          · rw [if_pos e2, iu n j (by omega) hj, if_neg (by omega), if_neg (by omega)]
          · rw [if_neg e2, iu r j hrw hj]
      have t0k : ∀ x : Nat → F, (∀ r, r < w → rx w (((t.set k (t.getD n [])).set n (lead (t.getD k []) n)).getD r []) x = zero) → ∀ r, r < w → rx w (t.getD r []) x = zero := fun x h r hrw => by
        have hK : rx w (t.getD k []) x = zero := by
          have z := h n (by omega)
          rw [t0g n, if_pos rfl, rx_lead] at z
          exact f_no_zero z (f_inv_ne hnz)
        by_cases e : r = k
        · rw [e]; exact hK
        · by_cases e2 : r = n
          · have z := h k (by omega)
            rw [t0g k, if_neg (by omega), if_pos rfl] at z
            rw [e2]
            exact z
          · have z := h r hrw
            rw [t0g r, if_neg e2, if_neg e] at z
            exact z
      have hlg := lin_get (hd := lead (t.getD k []) n) (done := n) (col := n) t0w t.length (by omega)
      generalize (t.set k (t.getD n [])).set n (lead (t.getD k []) n) = t0 at *
      have h0n : t0.getD n [] = lead (t.getD k []) n := by rw [t0g n, if_pos rfl]
      generalize lead (t.getD k []) n = hd at *
      refine ⟨by rw [List.length_append, ipl]; rfl, fun r j hrw hj => ?_, fun x h => ik x (t0k x fun r hrw => ?_)⟩
      · show ((lin hd n n w t0 t.length).getD r []).getD j zero = _
        rw [hlg r]
        by_cases e : r = n
        · rw [if_neg (fun z => z.2 e), e, h0n]
          by_cases e2 : j = n
          · rw [e2, hdn, if_pos rfl]
          · rw [hdj j (by omega), if_neg (fun z => e2 z.symm)]
        · rw [if_pos ⟨by omega, e⟩, getD_map_range (by omega)]
          by_cases e2 : j = n
          · rw [e2, hdn, f_mul_one, f_add_neg, if_neg e]
          · rw [hdj j (by omega), f_mul_zero, f_add_zero]
            exact t0u r j hrw (by omega)
      · have hH : rx w hd x = zero := by
          have z := h n (by omega)
          have z : rx w ((lin hd n n w t0 t.length).getD n []) x = zero := z
          rw [hlg n, if_neg (fun z => z.2 rfl), h0n] at z
          exact z
        by_cases e : r = n
        · rw [e, h0n]; exact hH
        · have z := h r hrw
          have z : rx w ((lin hd n n w t0 t.length).getD r []) x = zero := z
          rw [hlg r, if_pos ⟨by omega, e⟩] at z
          have e2 : rx w ((List.range (w + 1)).map fun j => add ((t0.getD r []).getD j zero) (mul (neg ((t0.getD r []).getD n zero)) (hd.getD j zero))) x = add (rx w (t0.getD r []) x) (mul (neg ((t0.getD r []).getD n zero)) (rx w hd x)) := by
            unfold rx
            rw [← sm_mul, ← sm_add]
            exact sm_congr fun i hi => by rw [getD_map_range (by omega), f_add_mul, Fld.mul_assoc]
          rw [e2, hH, f_mul_zero, f_add_zero] at z
          exact z
theorem lok_inj {rows : List (List F)} {right : List F} {w : Nat} (hlen : rows.length = right.length) (hr : ∀ row ∈ rows, row.length = w) (hN : rows.length = w) (inj : ∀ x : Nat → F, (∀ r, r < w → rx w (rows.getD r []) x = zero) → ∀ i, i < w → x i = zero) : lok rows right w = true := by
  have h1 := (l_inv hlen hr hN inj w (Nat.le_refl _)).pl
  have h2 := (l_ok hlen hr w).tl
  unfold lok
  rw [h1, h2, hN, Nat.sub_self]
  rfl
end
end K35
set_option Elab.async false
set_option linter.all false
set_option maxRecDepth 100000
set_option maxHeartbeats 4000000
namespace K35
open PySem PySem.Spec L2
section
variable {P : Program} {w : World} {K : PySem.W.Frag} {mg : Str → Option Value} {base : Heap}
theorem ftrim_snoc0 {F : Type} [Fld F] (l : List F) : ftrim (l ++ [Fld.zero]) = ftrim l := by
  unfold ftrim
  rw [List.reverse_append]
  show (List.dropWhile _ (Fld.zero :: l.reverse)).reverse = _
  rw [List.dropWhile_cons, if_pos (decide_eq_true rfl)]
theorem ftrim_snoc {F : Type} [Fld F] {x : F} (h : x ≠ Fld.zero) (l : List F) : ftrim (l ++ [x]) = l ++ [x] := by
  unfold ftrim
  rw [List.reverse_append]
  show (List.dropWhile _ (x :: l.reverse)).reverse = _
  rw [List.dropWhile_cons, if_neg (by simpa using h), List.reverse_cons, List.reverse_reverse]
theorem take_snoc {F : Type} [Fld F] {l : List F} {n : Nat} (h : n < l.length) : l.take (n + 1) = l.take n ++ [l.getD n Fld.zero] := by
  rw [List.take_add_one, getD_at (z := Fld.zero) h]
  rfl
theorem ok_f_u_trimmed (T : Tx K mg) : Cal P w K mg base 2 "_trimmed" (spP (S_f_u_trimmed K)) := by
  have G_f_member_of := ok_f_member_of (P := P) (w := w) (base := base) T
  refine cal_of T.d_f_u_trimmed sc_f_u_trimmed (by rintro H rs r ⟨_, _, _, _, _, rfl, _⟩; rfl) fun f cdv A outer s H vs Q E rs r hr hS ha k => ?_
  obtain ⟨i, l, sd, hl, hs, rfl, rfl⟩ := hS
  obtain ⟨vr, ws, rfl, dvr, ha⟩ := ha.cons_inv
  obtain ⟨vf, ws, rfl, dvf, ha⟩ := ha.cons_inv
  have e := ha.nil_inv
  subst e
  have := hs.ls
  have := hs.mo
  have := hs.sq.sq
  refine ⟨_, (pss_cons (ps_set (i := 2) sc_f_u_trimmed.nd rfl (by first | exact Or.inl rfl | exact Or.inr rfl) (pe_cal G_f_member_of hr (by decide) (by rfl) (pa_cons (pe_tup pa_nil) (pa_cons (pe_fld (pv 1) rfl) pa_nil))))
    (pss_cons (ps_set (i := 3) sc_f_u_trimmed.nd rfl (by first | exact Or.inl rfl | exact Or.inr rfl) (pe_callB c_len (by rfl) T.z_len PySem.boot_len (pa_cons (pv 0) pa_nil)))
    (pss_cons (ps_while PassesOwn.never (PW.pt (pw_and (pt_cmpR c_gt (pv 3) pe_int (nomark _)) (pw_and1 (pt_cmpR (op_eqD hr.units) (pe_ix ix_seq (pv 0) (pe_op c_sub (pv 3) pe_int) (fun _ _ => rfl)) (pv 2) (nomark _))))) (pss_one (ps_set (i := 3) sc_f_u_trimmed.nd rfl (by first | exact Or.inl rfl | exact Or.inr rfl) (pe_op c_sub (pv 3) pe_int))))
    (pss_one (ps_ret (pe_callTy c_tuple (by rfl) T.z_tuple b_tuple (pa_cons (pe_slice c_sl (pv 0) po_none (po_some (pv 3))) pa_nil))))))), ?_⟩
  refine q_asg (ev_mz T (ev_var (r := dFld K i) rfl dvf)) fun v2 H1 e1 d2 => ?_
  replace dvf := Mono.m _ _ _ e1 dvf
  replace dvr := Mono.m _ _ _ e1 dvr
  replace k := fun v H' e' d' => k v H' (Same.trans e1 e') d'
  refine q_asg (ev_len (K := K) (ev_var (r := sd) rfl dvr)) fun v3 H2 e2 d3 => ?_
  replace dvf := Mono.m _ _ _ e2 dvf
  replace dvr := Mono.m _ _ _ e2 dvr
  replace k := fun v H' e' d' => k v H' (Same.trans e2 e') d'
  replace d2 := Mono.m _ _ _ e2 d2
  rw [dV_len] at d3
  refine q_while (fun m σ' H' => Same H2 H' ∧ σ' = [some vr, some vf, some v2, some (.int ((m : Nat) : Int))] ∧ m ≤ l.length ∧ ftrim l = ftrim (l.take m)) l.length ⟨Same.refl _, by rw [show v3 = _ from d3]; rfl, Nat.le_refl _, by rw [List.take_length]⟩ fun m σ' H' hW => ?_
  obtain ⟨sm, rfl, hm, ht⟩ := hW
  replace dvr := Mono.m _ _ _ sm dvr
  replace d2 := Mono.m _ _ _ sm d2
  have fin : ftrim l = l.take m → ∀ H3, Same H' H3 → tRet (tCB (pTuple K) (tCons (tSl (pSl K) (tVar 0) tNoPart (tPart (tVar 3))) tNil)) { nx := fun _ H' => Q .non H', rt := Q } [some vr, some vf, some v2, some (.int ((m : Nat) : Int))] H3 := fun he H3 e3 => by
    refine s_ret (ev_tuple (ev_slL (K := K) (ss := dV (ftrim l)) (ev_var (r := sd) rfl (Mono.m _ _ _ e3 dvr)) eo_none (eo_some (ev_var (r := dI (m : Int)) rfl rfl)) ?_)) fun v H4 e4 d => k v H4 ((sm.trans e3).trans e4) d
    rw [cut_none_some, dV_take, he]
  cases m with
  | zero =>
    refine ⟨false, (et_and (b := false) (c := false) (et_test (ev_gt (ev_var (r := dI ((0 : Nat) : Int)) rfl rfl) (ev_int (i := 0)))) fun z => (by cases z)), fun z => (by cases z), fun _ H3 e3 => fin (by rw [ht]; rfl) H3 e3⟩
  | succ n =>
    have t1 : EvT (tTest (tOp pGt (tVar 3) (tC (.int 0)))) [some vr, some vf, some v2, some (.int ((n + 1 : Nat) : Int))] H' true := (et_test (ev_gt (ev_var (r := dI ((n + 1 : Nat) : Int)) rfl rfl) (ev_int (i := 0)))).eq (decide_eq_true (by omega))
    have t2 := et_test (ev_eqM (K := K) (ev_atM (K := K) (j := n) (ev_var (σ := [some vr, some vf, some v2, some (.int ((n + 1 : Nat) : Int))]) (n := 0) (r := sd) rfl dvr) (ev_sub (ev_var (n := 3) (r := dI ((n + 1 : Nat) : Int)) rfl rfl) (ev_int (i := 1))) (by omega) (by omega)) (ev_var (n := 2) rfl d2))
    refine ⟨_, et_and t1 fun _ => t2, fun z H3 e3 => ?_, fun z H3 e3 => ?_⟩
    · rw [Bool.true_and] at z
      have z := of_decide_eq_true z
      refine s_asg (ev_sub (ev_var (r := dI ((n + 1 : Nat) : Int)) rfl rfl) (ev_int (i := 1))) fun v4 H4 e4 d4 => ?_
      have ev : v4 = .int ((n : Nat) : Int) := by
        have e5 : v4 = .int (((n + 1 : Nat) : Int) - 1) := d4
        rw [e5]
        congr 1
        omega
      subst ev
      exact ⟨n, Nat.lt_succ_self _, (sm.trans e3).trans e4, rfl, by omega, by rw [ht, take_snoc (by omega), z, ftrim_snoc0]⟩
    · rw [Bool.true_and] at z
      have z := of_decide_eq_false z
      refine fin ?_ H3 e3
      rw [ht, take_snoc (by omega), ftrim_snoc z]
end
end K35
set_option Elab.async false
set_option linter.all false
set_option maxRecDepth 100000
set_option maxHeartbeats 4000000
namespace K35
open PySem PySem.Spec L2
section
variable {P : Program} {w : World} {K : PySem.W.Frag} {mg : Str → Option Value} {base : Heap}

theorem ok_f_is_integer (T : Tx K mg) : Cal P w K mg base 1 "is_integer" (spP S_f_is_integer) := by
  refine cal_of T.d_f_is_integer sc_f_is_integer (by rintro H rs r ⟨n, rfl, _⟩; rfl) fun f cdv A outer s H vs Q E rs r hr hS ha k => ?_
  obtain ⟨n, rfl, rfl⟩ := hS
  obtain ⟨v, ws, rfl, dv, ha⟩ := ha.cons_inv
  have e := ha.nil_inv
  subst e
  refine ⟨_, (pss_one (ps_ret (pe_and (pe_callB call_isi (by rfl) T.z_isinstance b_isinstance (pa_cons (pv 0) (pa_cons (pe_bltn (v := .ty "int") (by rfl) T.z_int b_int rfl) pa_nil))) (pe_one (pe_not (pe_callB call_isi (by rfl) T.z_isinstance b_isinstance (pa_cons (pv 0) (pa_cons (pe_bltn (v := .ty "bool") (by rfl) T.z_bool b_bool rfl) pa_nil)))))))), ?_⟩
  refine s_ret (ev_and (b := true) (c := true) (ev_isi (ev_var (r := dI n) rfl dv) (fun v H1 d => tyX_int d) (by decide +kernel)) fun _ => (ev_not (ev_isi (b := false) (ev_var (r := dI n) rfl dv) (fun v H1 d => tyX_int d) (by decide +kernel)))) k
end
end K35
set_option Elab.async false
set_option linter.all false
set_option maxRecDepth 100000
set_option maxHeartbeats 4000000
namespace K35
open PySem PySem.Spec L2
section
variable {P : Program} {w : World} {K : PySem.W.Frag} {mg : Str → Option Value} {base : Heap}
theorem filter_no (n : Nat) (E : Nat → Dn) : (((List.range n).filter fun _ => false).map E) = [] := by
  rw [List.filter_eq_nil_iff.mpr (fun _ _ => by decide)]
  rfl
theorem ok_f_is_member_row (T : Tx K mg) : Cal P w K mg base 2 "is_member_row" (spP S_f_is_member_row) := by
  have G_f_is_integer := ok_f_is_integer (P := P) (w := w) (base := base) T
  refine cal_of T.d_f_is_member_row sc_f_is_member_row (by rintro H rs r ⟨_, _, rfl, _⟩; rfl) fun f cdv A outer s H vs Q E rs r hr hS ha k => ?_
  obtain ⟨i, a, rfl, rfl⟩ := hS
  obtain ⟨va, ws, rfl, dva, ha⟩ := ha.cons_inv
  obtain ⟨vn, ws, rfl, dvn, ha⟩ := ha.cons_inv
  obtain ⟨vp, ws, rfl, dvp, ha⟩ := ha.cons_inv
  have e := ha.nil_inv
  subst e
  refine ⟨_, (pss_cons (ps_if (PW.pt (pw_or (pt_not (pt_val (pe_callB call_isi (by rfl) T.z_isinstance b_isinstance (pa_cons (pv 0) (pa_cons (pe_bltn (v := .ty "tuple") (by rfl) T.z_tuple b_tuple rfl) pa_nil))))) (pw_or1 (pt_cmpR op_ne (pe_callB c_len (by rfl) T.z_len PySem.boot_len (pa_cons (pv 0) pa_nil)) (pv 1) (nomark _))))) (pss_one (ps_ret pe_bl)) pss_nil)
    (pss_one (ps_ret (pe_cmpR op_eq (pe_callB c_len (by rfl) T.z_len PySem.boot_len (pa_cons (pe_lc (own := [("x", 3)]) (g := gName 3) rfl sc_f_is_member_row.nd (pi_tup (pv 0)) (blkOk_by (own := [("x", 3)]) (N := n_f_is_member_row) (sc := defScope s_f_is_member_row) (by decide +kernel)) (fun _ _ _ _ _ => pg_name (i := 3) sc_f_is_member_row.nd rfl (Or.inl rfl)) (fun _ _ _ _ _ => pts_one (PW.pt (pw_or (pt_not (pt_val (pe_cal G_f_is_integer hr (by decide) (by rfl) (pa_cons (pv 3) pa_nil)))) (pw_or (pt_cmpR c_lt (pv 3) pe_int (nomark _)) (pw_or1 (pt_cmpR c_ge (pv 3) (pv 2) (nomark _))))))) (fun _ _ _ _ _ => (pv 3))) pa_nil)) pe_int (nomark _))))), ?_⟩
  have en : vn = .int ((fx i).n : Int) := dvn
  subst en
  have ep : vp = .int (fx i).p := dvp
  subst ep
  have hl := r_len i a
  refine q_no ((et_or (b := false) (c := false) (et_not (b := true) (et_test (ev_isi (ev_var (r := dM a) rfl dva) (fun v H1 d => tyX_tup d) (by decide +kernel)))) fun _ => (et_test (ev_neI (ev_len (K := K) (ev_var (r := dM a) rfl dva)) (ev_var (r := dI ((fx i).n : Int)) rfl rfl))).eq (by rw [dIs_len, hl, decide_eq_true rfl]; rfl)).eq rfl) fun H1 e1 => ?_
  replace dva := Mono.m _ _ _ e1 dva
  replace k := fun v H' e' d' => k v H' (Same.trans e1 e') d'
  refine s_ret ((ev_eqI (ev_len (K := K) (r := dFr H1 (dL [])) ((ev_lcf (E := fun _ => dI 0) (f := fun _ => false) (ei_tup (ev_var (n := 0) (r := dM a) rfl dva)).i (by rw [dIs_len]; have := r_bnd i; omega) (fun _ => rfl) (fun j v H2 hj e y => ?_) (fun j v H2 hj e y hf => (by cases hf))).eq (by rw [filter_no]))) (ev_int (i := 0))).eq rfl) k
  have hx := getD_at (z := (0 : Int)) (l := dec a) (j := j) (by rw [dIs_len] at hj; exact hj)
  rw [yAt_some (dIs_get hx)] at y
  generalize (dec a).getD j 0 = x at hx y
  have hb := List.all_eq_true.mp (r_in i a) x (List.mem_of_getElem? hx)
  rw [Bool.and_eq_true] at hb
  have h0 := of_decide_eq_true hb.1
  have h1 := of_decide_eq_true hb.2
  refine (et_or (b := false) (c := false) (et_not (b := true) (et_test (ev_call (r := dB true) (ea_cons (ev_var rfl y) ea_nil) fun H1 => ⟨x, rfl, rfl⟩))) fun _ => et_or (b := false) (c := false) ((et_test (ev_lt (ev_var rfl y) (ev_int (i := 0)))).eq (decide_eq_false (by omega))) fun _ => (et_test (ev_ge (ev_var rfl y) (ev_var (r := dI (fx i).p) rfl rfl))).eq (decide_eq_false (by omega)))
end
end K35
set_option Elab.async false
set_option linter.all false
set_option maxRecDepth 100000
set_option maxHeartbeats 4000000
namespace K35
open PySem PySem.Spec L2
section
variable {P : Program} {w : World} {K : PySem.W.Frag} {mg : Str → Option Value} {base : Heap}

theorem ok_m_Poly_init (T : Tx K mg) : Mak P w K mg base 3 "Poly" (cP K) (spI (cP K) (S_m_Poly_init K)) := by
  have G_f_is_member_row := ok_f_is_member_row (P := P) (w := w) (base := base) T
  have G_f_u_trimmed := ok_f_u_trimmed (P := P) (w := w) (base := base) T
  refine mak_of T.d_m_Poly_init sc_m_Poly_init (by rintro rs r ⟨_, _, _, _, _, rfl, _⟩; rfl) fun f cdv A outer s H0 x dx ws Q E rs r hr hx hdx ne hS ha k => ?_
  obtain ⟨i, l, sd, hl, hs, rfl, rfl⟩ := hS
  obtain ⟨vf, ws, rfl, dvf, ha⟩ := ha.cons_inv
  obtain ⟨vr, ws, rfl, dvr, ha⟩ := ha.cons_inv
  have e := ha.nil_inv
  subst e
  have := hs.sq
  have := hs.mo
  refine ⟨_, (pss_cons (ps_for PassesOwn.never rfl (pi_sq (pv 2)) (pg_name (i := 3) sc_m_Poly_init.nd rfl (by first | exact Or.inl rfl | exact Or.inr rfl)) (pss_one (ps_if (pt_not (pt_val (pe_cal G_f_is_member_row hr (by decide) (by rfl) (pa_cons (pv 3) (pa_cons (pe_fld (pv 1) rfl) (pa_cons (pe_fld (pv 1) rfl) pa_nil)))))) (pss_one ps_never) pss_nil)))
    (pss_cons (ps_fld (pv 0) (pv 1) rfl)
    (pss_one (ps_fld (pv 0) (pe_cal G_f_u_trimmed hr (by decide) (by rfl) (pa_cons (pe_callTy c_list (by rfl) T.z_list b_list (pa_cons (pv 2) pa_nil)) (pa_cons (pv 1) pa_nil))) rfl)))), ?_⟩
  obtain ⟨S0, I0⟩ := ins0 (C := cP K) hx hdx
  generalize upd (upd H0 dx (.own x)) x (.ins (cP K) dx []) = H at S0 I0 ⊢
  refine q_forI (ei_sq (ev_var (r := sd) rfl (Mono.m _ _ _ S0 dvr))) fun H2 e2 => ⟨fun j σ' H' => Same H2 H' ∧ ∃ x3, σ' = [some (.ref x), some vf, some vr, x3], ⟨Same.refl _, none, rfl⟩, fun j σ' H' hi h => h.1, fun j σ' H' hi h xx H'' s'' y => ?_, fun σ' H' h => ?_⟩
  · obtain ⟨sm, x3, rfl⟩ := h
    rw [dV_len] at hi
    rw [yAt_V hi] at y
    show tIfS _ _ _ _ [some (.ref x), some vf, some vr, some xx] H''
    have S3 := S0.trans (e2.trans (sm.trans s''))
    refine s_if (b := false) (et_not (b := true) (et_test (ev_call (r := dB true) (ea_cons (ev_var rfl y) (ea_cons (ev_fn T (i := i) (ev_var rfl (Mono.m _ _ _ S3 dvf))) (ea_cons (ev_fp T (i := i) (ev_var rfl (Mono.m _ _ _ S3 dvf))) ea_nil))) fun H1 => ⟨i, _, rfl, rfl⟩))) (fun z => nomatch z) fun _ H3 e3 => ?_
    exact ⟨(sm.trans s'').trans e3, _, rfl⟩
  · obtain ⟨sm, x3, rfl⟩ := h
    have e3 := e2.trans sm
    refine q_fldS (H0 := H0) rfl (S0.trans e3) hx (I0.mono e3) rfl T.c_Poly T.n_Poly_field rfl (by decide) (ev_var (r := dAt H0 (dFld K i)) rfl dvf) fun v2 H3 S3 _ I3 => ?_
    refine s_fldS (H0 := H0) rfl S3 hx I3 rfl T.c_Poly T.n_Poly_row rfl (by decide) (ev_call (r := dT (dV (ftrim l))) (ea_cons (ev_list (K := K) (ev_var (r := sd) rfl (Mono.m _ _ _ S3 dvr))) (ea_cons (ev_var (r := dFld K i) rfl (Mono.m _ _ _ S3 dvf)) ea_nil)) fun H1 => ⟨i, l, _, hl, isLs, rfl, rfl⟩) fun v3 H4 S4 _ I4 => ?_
    refine k H4 S4 ?_
    obtain ⟨ws, h1, h2⟩ := I4
    obtain ⟨w1, ws, rfl, g1, h2⟩ := Alls.cons_inv (r := dAt H0 (dFld K i)) (rs := [dT (dV (ftrim l))]) h2
    exact ⟨x, dx, _, rfl, h1, alls_cons (Mono.m _ _ _ S4 g1) h2⟩
end
end K35
set_option Elab.async false
set_option linter.all false
set_option maxRecDepth 100000
set_option maxHeartbeats 4000000
namespace K35
open PySem PySem.Spec L2
section
variable {P : Program} {w : World} {K : PySem.W.Frag} {mg : Str → Option Value} {base : Heap}

theorem ok_f_monomial (T : Tx K mg) : Cal P w K mg base 5 "monomial" (spP (S_f_monomial K)) := by
  have G_m_Poly_init := ok_m_Poly_init (P := P) (w := w) (base := base) T
  have G_f_member_of := ok_f_member_of (P := P) (w := w) (base := base) T
  refine cal_of T.d_f_monomial sc_f_monomial (by rintro H rs r ⟨_, _, _, _, rfl, _⟩; rfl) fun f cdv A outer s H vs Q E rs r hr hS ha k => ?_
  obtain ⟨i, a, kk, hk, rfl, rfl⟩ := hS
  obtain ⟨vf, ws, rfl, dvf, ha⟩ := ha.cons_inv
  obtain ⟨va, ws, rfl, dva, ha⟩ := ha.cons_inv
  obtain ⟨vk, ws, rfl, dvk, ha⟩ := ha.cons_inv
  have e := ha.nil_inv
  subst e
  refine ⟨_, (pss_one (ps_ret (pe_mak G_m_Poly_init hr (by decide) (by rfl) (pa_cons (pv 0) (pa_cons (pe_op op_cat (pe_op op_rep (pe_lst (pa_cons (pe_cal G_f_member_of hr (by decide) (by rfl) (pa_cons (pe_tup pa_nil) (pa_cons (pe_fld (pv 0) rfl) pa_nil))) pa_nil)) (pv 2)) (pe_lst (pa_cons (pv 1) pa_nil))) pa_nil))))), ?_⟩
  have h1 := ev_cat (ev_rep (r0 := dM (Fld.zero : El i)) (ev_lst (ea_cons (ev_mz T (ev_var (σ := start n_f_monomial [vf, va, vk]) (n := 0) (r := dFld K i) rfl dvf)) ea_nil)) (ev_var (n := 2) (r := dI (kk : Int)) rfl dvk) (by omega) (by omega)) (ev_lst (ea_cons (ev_var (n := 1) (r := dM a) rfl dva) ea_nil)) (by rw [List.length_replicate, List.length_singleton]; omega)
  have e1 : List.replicate (kk : Int).toNat (dM (Fld.zero : El i)) ++ [dM a] = dV (List.replicate kk Fld.zero ++ [a]) := by
    rw [dV_app, dV_rep, Int.toNat_natCast]
    rfl
  rw [e1] at h1
  exact s_ret (ev_make (S := S_m_Poly_init K) (ea_cons (ev_var (r := dFld K i) rfl dvf) (ea_cons h1 ea_nil)) ⟨i, _, _, by rw [List.length_append, List.length_replicate, List.length_singleton]; omega, isSq, rfl, rfl⟩) k
end
end K35
set_option Elab.async false
set_option linter.all false
set_option maxRecDepth 100000
set_option maxHeartbeats 4000000
namespace K35
open PySem PySem.Spec L2
section
variable {P : Program} {w : World} {K : PySem.W.Frag} {mg : Str → Option Value} {base : Heap}

theorem ok_m_Field_one (T : Tx K mg) : Met P w K mg base 3 (cF K) "one" (spP (S_m_Field_one K)) := by
  have G_m_Field_integer := ok_m_Field_integer (P := P) (w := w) (base := base) T
  refine met_of T.d_m_Field_one sc_m_Field_one (by rintro H rs r ⟨_, rfl, _⟩; rfl) fun f cdv A outer s H vs Q E rs r hr hS ha k => ?_
  obtain ⟨i, rfl, rfl⟩ := hS
  obtain ⟨vs, ws, rfl, dvs, ha⟩ := ha.cons_inv
  have e := ha.nil_inv
  subst e
  refine ⟨_, (pss_one (ps_ret (pe_met G_m_Field_integer hr (by decide) (pv 0) (pa_cons pe_int pa_nil)))), ?_⟩
  exact s_ret ((ev_met (ev_var (r := dFld K i) rfl dvs) (ea_cons (ev_int (i := 1)) ea_nil) (by decide) fun H1 => ⟨i, 1, rfl, rfl⟩).eq (by rw [r_one]; rfl)) k
end
end K35
set_option Elab.async false
set_option linter.all false
set_option maxRecDepth 100000
set_option maxHeartbeats 4000000
namespace K35
open PySem PySem.Spec L2
section
variable {P : Program} {w : World} {K : PySem.W.Frag} {mg : Str → Option Value} {base : Heap}

theorem ok_m_Field_eq (T : Tx K mg) : Met P w K mg base 1 (cF K) "__eq__" (spP (S_m_Field_eq K)) := by
  refine met_of T.d_m_Field_eq sc_m_Field_eq (by rintro H rs r ⟨_, rfl, _⟩; rfl) fun f cdv A outer s H vs Q E rs r hr hS ha k => ?_
  obtain ⟨i, rfl, rfl⟩ := hS
  obtain ⟨vs, ws, rfl, dvs, ha⟩ := ha.cons_inv
  obtain ⟨vo, ws, rfl, dvo, ha⟩ := ha.cons_inv
  have e := ha.nil_inv
  subst e
  refine ⟨_, (pss_one (ps_ret (pe_and (pe_callB call_isi (by rfl) T.z_isinstance b_isinstance (pa_cons (pv 1) (pa_cons (pe_glob (v := .ref (cF K)) (by rfl) T.g_Field rfl) pa_nil))) (pe_and (pe_cmpR op_eq (pe_fld (pv 0) rfl) (pe_fld (pv 1) rfl) (nomark _)) (pe_one (pe_cmpR (op_eqD hr.units) (pe_fld (pv 0) rfl) (pe_fld (pv 1) rfl) (nomark _))))))), ?_⟩
  refine s_ret ((ev_and (b := true) (ev_isiO (ev_var (r := dFld K i) rfl dvo) fun v H d => (by obtain ⟨a, dx, ws, rfl, h, _⟩ := d; exact T.x_tyF _ a dx _ h)) fun _ => ev_and (ev_eqI (ev_fp T (ev_var rfl dvs)) (ev_fp T (ev_var rfl dvo))) fun _ => ev_eqT (ev_fm T (ev_var rfl dvs)) (ev_fm T (ev_var rfl dvo))).eq ?_) k
  rw [decide_eq_true rfl, decide_eq_true rfl]
  rfl
end
end K35
set_option Elab.async false
set_option linter.all false
set_option maxRecDepth 100000
set_option maxHeartbeats 4000000
namespace K35
open PySem PySem.Spec L2
section
variable {P : Program} {w : World} {K : PySem.W.Frag} {mg : Str → Option Value} {base : Heap}

theorem ok_f_add (T : Tx K mg) : Cal P w K mg base 2 "_add" (spP (S_f_add K)) := by
  have G_f_member_of := ok_f_member_of (P := P) (w := w) (base := base) T
  have G_f_member_sum := ok_f_member_sum (P := P) (w := w) (base := base) T
  refine cal_of T.d_f_add sc_f_add (by rintro H rs r ⟨_, _, _, _, _, _, _, rfl, _⟩; rfl) fun f cdv A outer s H vs Q E rs r hr hS ha k => ?_
  obtain ⟨i, a, b, sd, la, lb, hs, rfl, rfl⟩ := hS
  obtain ⟨va, ws, rfl, dva, ha⟩ := ha.cons_inv
  obtain ⟨vb, ws, rfl, dvb, ha⟩ := ha.cons_inv
  obtain ⟨vf, ws, rfl, dvf, ha⟩ := ha.cons_inv
  have e := ha.nil_inv
  subst e
  have := hs.sq
  have := hs.mo
  refine ⟨_, (pss_cons (ps_set (i := 3) sc_f_add.nd rfl (by first | exact Or.inl rfl | exact Or.inr rfl) (pe_cal G_f_member_of hr (by decide) (by rfl) (pa_cons (pe_tup pa_nil) (pa_cons (pe_fld (pv 2) rfl) pa_nil))))
    (pss_cons (ps_set (i := 4) sc_f_add.nd rfl (by first | exact Or.inl rfl | exact Or.inr rfl) (pe_op op_cat (pe_callTy c_list (by rfl) T.z_list b_list (pa_cons (pv 0) pa_nil)) (pe_op op_rep (pe_lst (pa_cons (pv 3) pa_nil)) (pe_op c_sub (pe_callB c_len (by rfl) T.z_len PySem.boot_len (pa_cons (pv 1) pa_nil)) (pe_callB c_len (by rfl) T.z_len PySem.boot_len (pa_cons (pv 0) pa_nil))))))
    (pss_cons (ps_set (i := 5) sc_f_add.nd rfl (by first | exact Or.inl rfl | exact Or.inr rfl) (pe_op op_cat (pe_callTy c_list (by rfl) T.z_list b_list (pa_cons (pv 1) pa_nil)) (pe_op op_rep (pe_lst (pa_cons (pv 3) pa_nil)) (pe_op c_sub (pe_callB c_len (by rfl) T.z_len PySem.boot_len (pa_cons (pv 0) pa_nil)) (pe_callB c_len (by rfl) T.z_len PySem.boot_len (pa_cons (pv 1) pa_nil))))))
    (pss_one (ps_ret (pe_lc (own := [("x", 6), ("y", 7)]) (g := gTup K 2 (gCons (gName 6) (gCons (gName 7) gNil))) (tt := tYes) rfl sc_f_add.nd (pi_zpX (by rfl) T.z_zip (pa_cons (pv 4) (pa_cons (pv 5) pa_nil))) (blkOk_by (own := [("x", 6), ("y", 7)]) (N := n_f_add) (sc := defScope s_f_add) (by decide +kernel)) (fun _ _ _ _ _ => pg_tup rfl (pgs_cons (pg_name (i := 6) sc_f_add.nd rfl (Or.inl rfl)) (pgs_cons (pg_name (i := 7) sc_f_add.nd rfl (Or.inl rfl)) pgs_nil))) (fun _ _ _ _ _ => pts_nil) (fun _ _ _ _ _ => (pe_cal G_f_member_sum hr (by decide) (by rfl) (pa_cons (pv 6) (pa_cons (pv 7) (pa_cons (pe_fldK (K := K) (by rfl) (pv 2) (by rfl)) pa_nil))))))))))), ?_⟩
  refine q_asg (ev_mz T (ev_var (r := dFld K i) rfl dvf)) fun v3 H1 e1 d3 => ?_
  replace dvf := Mono.m _ _ _ e1 dvf
  replace dva := Mono.m _ _ _ e1 dva
  replace dvb := Mono.m _ _ _ e1 dvb
  have hpad : ∀ (x y : List (El i)), dV x ++ List.replicate (((dV y).length : Int) - ((dV x).length : Int)).toNat (dM (Fld.zero : El i)) = dV (fpad x y.length) := fun x y => by
    unfold fpad
    rw [dV_len, dV_len, dV_app, dV_rep, show ((y.length : Int) - (x.length : Int)).toNat = y.length - x.length by omega]
  have h4 := ev_cat (ev_list (K := K) (ev_var (σ := [some va, some vb, some vf, some v3, none, none, none, none]) (n := 0) (r := dT (dV a)) rfl dva))
    (ev_rep (r0 := dM Fld.zero) (ev_lst (ea_cons (ev_var (n := 3) rfl d3) ea_nil)) (ev_sub (ev_len (K := K) (ev_var (n := 1) (r := sd) rfl dvb)) (ev_len (K := K) (ev_var (n := 0) (r := dT (dV a)) rfl dva))) (by rw [dV_len, dV_len]; omega) (by rw [dV_len, dV_len]; omega)) (by rw [List.length_replicate, dV_len, dV_len]; omega)
  rw [hpad] at h4
  refine q_asg h4 fun v4 H2 e2 d4 => ?_
  replace dvf := Mono.m _ _ _ e2 dvf
  replace dva := Mono.m _ _ _ e2 dva
  replace dvb := Mono.m _ _ _ e2 dvb
  replace d3 := Mono.m _ _ _ e2 d3
  have h5 := ev_cat (ev_list (K := K) (ev_var (σ := [some va, some vb, some vf, some v3, some v4, none, none, none]) (n := 1) (r := sd) rfl dvb))
    (ev_rep (r0 := dM Fld.zero) (ev_lst (ea_cons (ev_var (n := 3) rfl d3) ea_nil)) (ev_sub (ev_len (K := K) (ev_var (n := 0) (r := dT (dV a)) rfl dva)) (ev_len (K := K) (ev_var (n := 1) (r := sd) rfl dvb))) (by rw [dV_len, dV_len]; omega) (by rw [dV_len, dV_len]; omega)) (by rw [List.length_replicate, dV_len, dV_len]; omega)
  rw [hpad] at h5
  refine q_asg h5 fun v5 H3 e3 d5 => ?_
  replace dvf := Mono.m _ _ _ e3 dvf
  replace d4 := Mono.m _ _ _ e3 d4
  have l1 : (fpad a b.length).length ≤ 2000 := by unfold fpad; rw [List.length_append, List.length_replicate]; omega
  refine s_ret (ev_lc2 (es := dV (faddl a b)) (ei_zp (ev_var rfl d4) (ev_var rfl d5)) ?_ ?_ (fun _ _ => rfl) fun j d x y H4 hd e4 hx hy => ?_) fun v H4 e4 d => k v H4 (((e1.trans e2).trans e3).trans e4) ⟨let ⟨q, h1, h2⟩ := d.1; ⟨q, h1, ((e1.trans e2).trans e3).free h2⟩, d.2⟩
  · rw [dV_len, dV_len, dV_len]
    unfold faddl
    rw [List.length_zipWith]
  · rw [dV_len, dV_len]; omega
  · obtain ⟨c, hc, rfl⟩ := dV_inv hd
    obtain ⟨x1, y1, h1, h2, rfl⟩ := zipWith_inv hc
    rw [yAt_some (dV_get h1)] at hx
    rw [yAt_some (dV_get h2)] at hy
    replace dvf := Mono.m _ _ _ e4 dvf
    exact ev_ms T (ev_var rfl hx) (ev_var rfl hy) (ev_var rfl dvf)
end
end K35
set_option Elab.async false
set_option linter.all false
set_option maxRecDepth 100000
set_option maxHeartbeats 4000000
namespace K35
open PySem PySem.Spec L2
section
variable {P : Program} {w : World} {K : PySem.W.Frag} {mg : Str → Option Value} {base : Heap}

theorem ok_f_negative (T : Tx K mg) : Cal P w K mg base 2 "_negative" (spP (S_f_negative K)) := by
  have G_f_member_negative := ok_f_member_negative (P := P) (w := w) (base := base) T
  refine cal_of T.d_f_negative sc_f_negative (by rintro H rs r ⟨_, _, _, rfl, _⟩; rfl) fun f cdv A outer s H vs Q E rs r hr hS ha k => ?_
  obtain ⟨i, a, la, rfl, rfl⟩ := hS
  obtain ⟨va, ws, rfl, dva, ha⟩ := ha.cons_inv
  obtain ⟨vf, ws, rfl, dvf, ha⟩ := ha.cons_inv
  have e := ha.nil_inv
  subst e
  refine ⟨_, (pss_one (ps_ret (pe_lc (own := [("x", 2)]) (g := gName 2) (tt := tYes) rfl sc_f_negative.nd (pi_tup (pv 0)) (blkOk_by (own := [("x", 2)]) (N := n_f_negative) (sc := defScope s_f_negative) (by decide +kernel)) (fun _ _ _ _ _ => pg_name (i := 2) sc_f_negative.nd rfl (Or.inl rfl)) (fun _ _ _ _ _ => pts_nil) (fun _ _ _ _ _ => (pe_cal G_f_member_negative hr (by decide) (by rfl) (pa_cons (pv 2) (pa_cons (pe_fldK (K := K) (by rfl) (pv 1) (by rfl)) pa_nil))))))), ?_⟩
  refine s_ret (ev_lc1 (es := dV (a.map Fld.neg)) (ei_tup (ev_var (r := dT (dV a)) rfl dva)).i ?_ (by rw [dV_len]; omega) (fun _ => rfl) fun j d x H1 hd e hx => ?_) k
  · rw [dV_len, dV_len, List.length_map]
  · obtain ⟨c, hc, rfl⟩ := dV_inv hd
    obtain ⟨x1, h1, rfl⟩ := map_inv hc
    rw [yAt_some (dV_get h1)] at hx
    exact ev_mn T (ev_var rfl hx) (ev_var rfl (Mono.m _ _ _ e dvf))
end
end K35
set_option Elab.async false
set_option linter.all false
set_option maxRecDepth 100000
set_option maxHeartbeats 4000000
namespace K35
open PySem PySem.Spec L2
section
variable {P : Program} {w : World} {K : PySem.W.Frag} {mg : Str → Option Value} {base : Heap}

theorem ok_m_Poly_sub (T : Tx K mg) : Met P w K mg base 5 (cP K) "__sub__" (spP (S_m_Poly_sub K)) := by
  have G_m_Field_eq := ok_m_Field_eq (P := P) (w := w) (base := base) T
  have G_m_Poly_init := ok_m_Poly_init (P := P) (w := w) (base := base) T
  have G_f_add := ok_f_add (P := P) (w := w) (base := base) T
  have G_f_negative := ok_f_negative (P := P) (w := w) (base := base) T
  refine met_of T.d_m_Poly_sub sc_m_Poly_sub (by rintro H rs r ⟨_, _, _, _, _, rfl, _⟩; rfl) fun f cdv A outer s H vs Q E rs r hr hS ha k => ?_
  obtain ⟨i, a, b, la, lb, rfl, rfl⟩ := hS
  obtain ⟨vs, ws, rfl, dvs, ha⟩ := ha.cons_inv
  obtain ⟨vo, ws, rfl, dvo, ha⟩ := ha.cons_inv
  have e := ha.nil_inv
  subst e
  refine ⟨_, (pss_cons (ps_if (pt_cmpR (op_neO G_m_Field_eq T.x_ne hr (by decide)) (pe_fld (pv 0) rfl) (pe_fld (pv 1) rfl) (nomark _)) (pss_one ps_never) pss_nil)
    (pss_one (ps_ret (pe_mak G_m_Poly_init hr (by decide) (by rfl) (pa_cons (pe_fld (pv 0) rfl) (pa_cons (pe_cal G_f_add hr (by decide) (by rfl) (pa_cons (pe_fld (pv 0) rfl) (pa_cons (pe_cal G_f_negative hr (by decide) (by rfl) (pa_cons (pe_fld (pv 1) rfl) (pa_cons (pe_fld (pv 0) rfl) pa_nil))) (pa_cons (pe_fld (pv 0) rfl) pa_nil)))) pa_nil)))))), ?_⟩
  refine q_no ((et_test (ev_neO (b := true) (ev_pf T (ev_var (r := dPol K a) rfl dvs)) (ev_pf T (ev_var (r := dPol K b) rfl dvo)) fun H1 => ⟨i, rfl, rfl⟩)).eq rfl) fun H1 e1 => ?_
  replace dvs := Mono.m _ _ _ e1 dvs
  replace dvo := Mono.m _ _ _ e1 dvo
  replace k := fun v H' e' d' => k v H' (Same.trans e1 e') d'
  exact s_ret (ev_make (S := S_m_Poly_init K) (ea_cons (ev_pf T (ev_var (r := dPol K a) rfl dvs)) (ea_cons (ev_callF (S := S_f_add K) (r0 := dL (dV (faddl a (b.map Fld.neg)))) (ea_cons (ev_pr T (ev_var (r := dPol K a) rfl dvs)) (ea_cons (ev_callF (S := S_f_negative K) (r0 := dL (dV (b.map Fld.neg))) (ea_cons (ev_pr T (ev_var (r := dPol K b) rfl dvo)) (ea_cons (ev_pf T (ev_var (r := dPol K a) rfl dvs)) ea_nil)) fun H2 => ⟨i, b, by omega, rfl, rfl⟩) (ea_cons (ev_pf T (ev_var (r := dPol K a) rfl dvs)) ea_nil))) fun H2 => ⟨i, a, b.map Fld.neg, _, by omega, by rw [List.length_map]; omega, isSq, rfl, rfl⟩) ea_nil)) ⟨i, _, _, by unfold faddl fpad; rw [List.length_zipWith, List.length_append, List.length_append, List.length_replicate, List.length_replicate, List.length_map]; omega, isSq, rfl, rfl⟩) k
end
end K35
set_option Elab.async false
set_option linter.all false
set_option maxRecDepth 100000
set_option maxHeartbeats 4000000
namespace K35
open PySem PySem.Spec L2
section
variable {P : Program} {w : World} {K : PySem.W.Frag} {mg : Str → Option Value} {base : Heap}
theorem ftrim_len {F : Type} [Fld F] (l : List F) : (ftrim l).length ≤ l.length := by
  unfold ftrim
  rw [List.length_reverse]
  have h := (List.dropWhile_sublist (fun x => decide (x = Fld.zero)) (l := l.reverse)).length_le
  rw [List.length_reverse] at h
  exact h
theorem ok_m_Recurrence_polynomial (T : Tx K mg) : Met P w K mg base 6 (cR K) "polynomial" (spP (S_m_Recurrence_polynomial K)) := by
  have G_f_monomial := ok_f_monomial (P := P) (w := w) (base := base) T
  have G_m_Field_one := ok_m_Field_one (P := P) (w := w) (base := base) T
  have G_m_Poly_sub := ok_m_Poly_sub (P := P) (w := w) (base := base) T
  have G_m_Poly_init := ok_m_Poly_init (P := P) (w := w) (base := base) T
  refine met_of T.d_m_Recurrence_polynomial sc_m_Recurrence_polynomial (by rintro H rs r ⟨_, _, _, rfl, _⟩; rfl) fun f cdv A outer s H vs Q E rs r hr hS ha k => ?_
  obtain ⟨i, c, hc, rfl, rfl⟩ := hS
  obtain ⟨vs, ws, rfl, dvs, ha⟩ := ha.cons_inv
  have e := ha.nil_inv
  subst e
  refine ⟨_, (pss_cons (ps_set (i := 1) sc_m_Recurrence_polynomial.nd rfl (by first | exact Or.inl rfl | exact Or.inr rfl) (pe_cal G_f_monomial hr (by decide) (by rfl) (pa_cons (pe_fld (pv 0) rfl) (pa_cons (pe_met0 G_m_Field_one hr (by decide) (pe_fld (pv 0) rfl)) (pa_cons (pe_callB c_len (by rfl) T.z_len PySem.boot_len (pa_cons (pe_fld (pv 0) rfl) pa_nil)) pa_nil)))))
    (pss_one (ps_ret (pe_op (op_own G_m_Poly_sub (by decide +kernel) T.x_first hr (by decide)) (pv 1) (pe_mak G_m_Poly_init hr (by decide) (by rfl) (pa_cons (pe_fld (pv 0) rfl) (pa_cons (pe_fld (pv 0) rfl) pa_nil))))))), ?_⟩
  refine q_asg (ev_call (S := S_f_monomial K) (r := dPol K (ftrim (List.replicate c.length Fld.zero ++ [(Fld.one : El i)]))) (ea_cons (ev_rf T (ev_var (r := dRec K c) rfl dvs)) (ea_cons (ev_F1 (ev_rf T (ev_var (r := dRec K c) rfl dvs))) (ea_cons ((ev_len (K := K) (ev_rm T (ev_var (r := dRec K c) rfl dvs))).eq (by rw [dV_len])) ea_nil))) fun H1 => ⟨i, Fld.one, c.length, hc, rfl, rfl⟩) fun v1 H1 e1 d1 => ?_
  replace dvs := Mono.m _ _ _ e1 dvs
  replace k := fun v H' e' d' => k v H' (Same.trans e1 e') d'
  have l1 := ftrim_len (List.replicate c.length Fld.zero ++ [(Fld.one : El i)])
  rw [List.length_append, List.length_replicate, List.length_singleton] at l1
  have l2 := ftrim_len c
  exact s_ret (ev_own (S := S_m_Poly_sub K) (r := dPol K (fpoly c)) (ev_var rfl d1) (ev_make (S := S_m_Poly_init K) (r := dPol K (ftrim c)) (ea_cons (ev_rf T (ev_var (r := dRec K c) rfl dvs)) (ea_cons (ev_rm T (ev_var (r := dRec K c) rfl dvs)) ea_nil)) ⟨i, c, _, by omega, isSq, rfl, rfl⟩) fun H2 => ⟨i, _, _, by omega, by omega, rfl, rfl⟩) k
end
end K35
set_option Elab.async false
set_option linter.all false
set_option maxRecDepth 100000
set_option maxHeartbeats 4000000
namespace K35
open Fld
/-! ### division, trimming -/
section
variable {F : Type} [Fld F]
theorem trim_split : ∀ (n : Nat) (l : List F), l.length = n → ∃ m, l = ftrim l ++ List.replicate m zero ∧ (ftrim l = [] ∨ (ftrim l).getD ((ftrim l).length - 1) zero ≠ zero)
  | 0, l, h => by
    have : l = [] := List.eq_nil_of_length_eq_zero h
    subst this
    exact ⟨0, rfl, .inl rfl⟩
  | n + 1, l, h => by
    have e : l = l.take n ++ [l.getD n zero] := by rw [← take_snoc (by omega), List.take_of_length_le (by omega)]
    generalize l.getD n zero = x at e
    have hl : (l.take n).length = n := by rw [List.length_take]; omega
    generalize l.take n = ini at e hl
    subst e
    by_cases hx : x = zero
    · subst hx
      obtain ⟨m, hm, ht⟩ := trim_split n ini hl
      rw [ftrim_snoc0]
      refine ⟨m + 1, ?_, ht⟩
      rw [List.replicate_succ', ← List.append_assoc, ← hm]
    · rw [ftrim_snoc hx]
      refine ⟨0, by rw [List.replicate_zero, List.append_nil], .inr ?_⟩
      rw [List.length_append, List.length_singleton, Nat.add_sub_cancel, getD_app_r (Nat.le_refl _), Nat.sub_self]
      exact hx
theorem trim_get (l : List F) (i : Nat) : (ftrim l).getD i zero = l.getD i zero := by
  obtain ⟨m, hm, _⟩ := trim_split l.length l rfl
  by_cases h : i < (ftrim l).length
  · conv => rhs; rw [hm]
    rw [getD_app h]
  · conv => rhs; rw [hm]
    rw [getD_out (by omega), getD_app_r (by omega), List.getD_eq_getElem?_getD, List.getElem?_replicate]
    split <;> rfl
theorem trim_nil {l : List F} : ftrim l = [] ↔ ∀ i, l.getD i zero = zero := by
  constructor
  · intro h i
    rw [← trim_get, h]
    rfl
  · intro h
    obtain ⟨m, hm, ht⟩ := trim_split l.length l rfl
    rcases ht with ht | ht
    · exact ht
    · rw [trim_get] at ht
      exact absurd (h _) ht
theorem trim_id {l : List F} {n : Nat} (hl : l.length = n + 1) (h : l.getD n zero ≠ zero) : ftrim l = l := by
  have e : l = l.take n ++ [l.getD n zero] := by rw [← take_snoc (by omega), List.take_of_length_le (by omega)]
  rw [e, ftrim_snoc h]
/-! the polynomial of a relation -/
theorem poly_raw (c : List F) : (faddl (ftrim (List.replicate c.length zero ++ [one])) ((ftrim c).map neg)).length = c.length + 1 ∧ ∀ i, i ≤ c.length → (faddl (ftrim (List.replicate c.length zero ++ [one])) ((ftrim c).map neg)).getD i zero = if i < c.length then neg (c.getD i zero) else one := by
  have h1 : ftrim (List.replicate c.length zero ++ [one]) = List.replicate c.length zero ++ [(one : F)] := ftrim_snoc Fld.one_ne _
  have h2 := ftrim_len c
  have la : (fpad (List.replicate c.length zero ++ [(one : F)]) ((ftrim c).map neg).length).length = c.length + 1 := by
    unfold fpad
    rw [List.length_append, List.length_replicate, List.length_append, List.length_replicate, List.length_singleton, List.length_map]
    omega
  have lb : (fpad ((ftrim c).map neg) (List.replicate c.length zero ++ [(one : F)]).length).length = c.length + 1 := by
    unfold fpad
    rw [List.length_append, List.length_replicate, List.length_append, List.length_replicate, List.length_singleton, List.length_map]
    omega
  rw [h1]
  unfold faddl
  refine ⟨by rw [List.length_zipWith, la, lb, Nat.min_self], fun i hi => ?_⟩
  have ga : (fpad (List.replicate c.length zero ++ [(one : F)]) ((ftrim c).map neg).length).getD i zero = if i < c.length then zero else one := by
    unfold fpad
    rw [getD_app (by rw [List.length_append, List.length_replicate, List.length_singleton]; omega)]
    by_cases h : i < c.length
    · rw [if_pos h, getD_app (by rw [List.length_replicate]; exact h), List.getD_eq_getElem?_getD, List.getElem?_replicate, if_pos h]
      rfl
    · rw [if_neg h, getD_app_r (by rw [List.length_replicate]; omega), List.length_replicate, show i - c.length = 0 by omega]
      rfl
  have gb : (fpad ((ftrim c).map neg) (List.replicate c.length zero ++ [(one : F)]).length).getD i zero = neg ((ftrim c).getD i zero) := by
    unfold fpad
    by_cases h : i < (ftrim c).length
    · rw [getD_app (by rw [List.length_map]; exact h), List.getD_eq_getElem?_getD, List.getElem?_map, getD_at (z := zero) h]
      rfl
    · rw [getD_app_r (by rw [List.length_map]; omega), getD_out (l := ftrim c) (by omega), f_neg_zero, List.getD_eq_getElem?_getD, List.getElem?_replicate]
      split <;> rfl
  rw [List.getD_eq_getElem?_getD, List.getElem?_zipWith, getD_at (z := zero) (by rw [la]; omega), getD_at (z := zero) (by rw [lb]; omega), ga, gb, trim_get]
  show add _ _ = _
  by_cases h : i < c.length
  · rw [if_pos h, if_pos h, Fld.zero_add]
  · rw [if_neg h, if_neg h, getD_out (by omega), f_neg_zero, f_add_zero]
theorem poly_eq (c : List F) : fpoly c = faddl (ftrim (List.replicate c.length zero ++ [one])) ((ftrim c).map neg) := by
  obtain ⟨h1, h2⟩ := poly_raw c
  exact trim_id h1 (by rw [h2 c.length (Nat.le_refl _), if_neg (Nat.lt_irrefl _)]; exact Fld.one_ne)
theorem poly_len (c : List F) : (fpoly c).length = c.length + 1 := by rw [poly_eq]; exact (poly_raw c).1
theorem poly_get {c : List F} {i : Nat} (hi : i ≤ c.length) : (fpoly c).getD i zero = if i < c.length then neg (c.getD i zero) else one := by rw [poly_eq]; exact (poly_raw c).2 i hi
theorem poly_lead (c : List F) : (fpoly c).length = c.length + 1 ∧ (fpoly c).getD ((fpoly c).length - 1) zero ≠ zero := ⟨poly_len c, by
  rw [poly_len, Nat.add_sub_cancel, poly_get (Nat.le_refl _), if_neg (Nat.lt_irrefl _)]
  exact Fld.one_ne⟩
theorem poly_act {c : List F} {s : Nat → F} (h : Rec s (fun i => c.getD i zero) c.length) (k : Nat) : sm (c.length + 1) (fun i => mul ((fpoly c).getD i zero) (s (k + i))) = zero := by
  show add (sm c.length _) (mul _ _) = zero
  rw [poly_get (Nat.le_refl _), if_neg (Nat.lt_irrefl _), Fld.one_mul, sm_congr fun i hi => by rw [poly_get (Nat.le_of_lt hi), if_pos hi, f_neg_mul], sm_neg, h k, Fld.neg_add]
/-! division: what acts -/
theorem divIn_get {b r : List F} {f : F} {k m : Nat} (hk : k + m ≤ r.length) : ∀ i, (divIn fDS zero f b k m r).getD i zero = if k ≤ i ∧ i < k + m then add (r.getD i zero) (neg (mul f (b.getD (i - k) zero))) else r.getD i zero := by
  induction m with
  | zero => exact fun i => (if_neg (by omega)).symm
  | succ m ih =>
    intro i
    have ih := ih (by omega)
    rw [divIn_succ, getD_set (by rw [divIn_len]; omega)]
    by_cases e : i = k + m
    · rw [if_pos e, if_pos (by omega), e, ih (k + m), if_neg (by omega), show k + m - k = m by omega]
      rfl
    · rw [if_neg e, ih i]
      by_cases h : k ≤ i ∧ i < k + m
      · rw [if_pos h, if_pos (by omega)]
      · rw [if_neg h, if_neg (by omega)]
theorem divIn_act {b r : List F} {f : F} {k m N j : Nat} {s : Nat → F} (hN : r.length = N) (hk : k + m ≤ N) : sm N (fun i => mul ((divIn fDS zero f b k m r).getD i zero) (s (j + i))) = add (sm N (fun i => mul (r.getD i zero) (s (j + i)))) (neg (mul f (sm m (fun i => mul (b.getD i zero) (s (j + k + i)))))) := by
  induction m with
  | zero =>
    show _ = add _ (neg (mul f zero))
    rw [f_mul_zero, f_neg_zero, f_add_zero]
    rfl
  | succ m ih =>
    have ih := ih (by omega)
    have e : sm N (fun i => mul ((divIn fDS zero f b k (m + 1) r).getD i zero) (s (j + i))) = sm N (fun i => if i = k + m then add (mul ((divIn fDS zero f b k m r).getD i zero) (s (j + i))) (neg (mul f (mul (b.getD m zero) (s (j + k + m))))) else mul ((divIn fDS zero f b k m r).getD i zero) (s (j + i))) := sm_congr fun i hi => by
      rw [divIn_succ, getD_set (by rw [divIn_len]; omega)]
      by_cases h : i = k + m
      · rw [if_pos h, if_pos h, h]
        show mul (add _ (neg (mul f _))) _ = _
        rw [f_add_mul, f_neg_mul, Fld.mul_assoc, show j + (k + m) = j + k + m by omega]
      · rw [if_neg h, if_neg h]
    rw [e, sm_upd (by omega), ih, Fld.add_assoc]
    congr 1
    show _ = neg (mul f (add _ _))
    rw [Fld.mul_add, f_neg_add]
theorem div_inv {a b : List F} {s : Nat → F} (hb : 1 ≤ b.length) (hl : b.getD (b.length - 1) zero ≠ zero) (hs : ∀ k, sm b.length (fun i => mul (b.getD i zero) (s (k + i))) = zero) : ∀ t, t ≤ a.length + 1 - b.length →
    (∀ j, sm a.length (fun i => mul ((divOut fDS (fun x => mul x (inv (b.getD (b.length - 1) zero))) zero a b (a.length + 1 - b.length) t).2.getD i zero) (s (j + i))) = sm a.length (fun i => mul (a.getD i zero) (s (j + i)))) ∧
    ∀ i, b.length - 1 + (a.length + 1 - b.length - t) ≤ i → (divOut fDS (fun x => mul x (inv (b.getD (b.length - 1) zero))) zero a b (a.length + 1 - b.length) t).2.getD i zero = zero
  | 0, _ => ⟨fun j => rfl, fun i hi => getD_out (by show a.length ≤ i; omega)⟩
  | t + 1, ht => by
    obtain ⟨h1, h2⟩ := div_inv (a := a) hb hl hs t (by omega)
    have hlen := (divOut_len (op := fDS) (fac := fun x => mul x (inv (b.getD (b.length - 1) zero))) (z := zero) (a := a) (b := b) (n := a.length + 1 - b.length) (t := t)).2
    rw [divOut_succ]
    generalize divOut fDS (fun x => mul x (inv (b.getD (b.length - 1) zero))) zero a b (a.length + 1 - b.length) t = R at *
    obtain ⟨q, r⟩ := R
    have hlen : r.length = a.length := hlen
    have h1 : ∀ j, sm a.length (fun i => mul (r.getD i zero) (s (j + i))) = sm a.length (fun i => mul (a.getD i zero) (s (j + i))) := h1
    have h2 : ∀ i, b.length - 1 + (a.length + 1 - b.length - t) ≤ i → r.getD i zero = zero := h2
    have hk : a.length + 1 - b.length - 1 - t + b.length ≤ a.length := by omega
    generalize hkk : a.length + 1 - b.length - 1 - t = k at *
    show (∀ j, sm a.length (fun i => mul ((divIn fDS zero (mul (r.getD (k + b.length - 1) zero) (inv (b.getD (b.length - 1) zero))) b k b.length r).getD i zero) (s (j + i))) = _) ∧ ∀ i, _ → (divIn fDS zero (mul (r.getD (k + b.length - 1) zero) (inv (b.getD (b.length - 1) zero))) b k b.length r).getD i zero = zero
    refine ⟨fun j => ?_, fun i hi => ?_⟩
    · rw [divIn_act hlen hk, hs (j + k), f_mul_zero, f_neg_zero, f_add_zero, h1 j]
    · rw [divIn_get (by omega)]
      by_cases e : i = k + b.length - 1
      · rw [if_pos (by omega), e, show k + b.length - 1 - k = b.length - 1 by omega, Fld.mul_assoc, Fld.inv_mul _ hl, f_mul_one, f_add_neg]
      · rw [if_neg (by omega)]
        exact h2 i (by omega)
/-- the remainder acts as what was divided, and is short -/
theorem mod_act {a b : List F} {s : Nat → F} (hb : 1 ≤ b.length) (hl : b.getD (b.length - 1) zero ≠ zero) (hs : ∀ k, sm b.length (fun i => mul (b.getD i zero) (s (k + i))) = zero) :
    (∀ j, sm a.length (fun i => mul ((fdiv a b).2.getD i zero) (s (j + i))) = sm a.length (fun i => mul (a.getD i zero) (s (j + i)))) ∧ ∀ i, b.length - 1 ≤ i → (fdiv a b).2.getD i zero = zero := by
  obtain ⟨h1, h2⟩ := div_inv (a := a) hb hl hs (a.length + 1 - b.length) (Nat.le_refl _)
  exact ⟨h1, fun i hi => h2 i (by omega)⟩
/-- nothing shorter than the least relation acts as zero -/
theorem mod_nil {a b : List F} {s : Nat → F} {L : Nat} (hL : b.length = L + 1) (hm : Min s L) (hl : b.getD (b.length - 1) zero ≠ zero) (hs : ∀ k, sm b.length (fun i => mul (b.getD i zero) (s (k + i))) = zero) :
    fmod a b = [] ↔ ∀ j, sm a.length (fun i => mul (a.getD i zero) (s (j + i))) = zero := by
  obtain ⟨h1, h2⟩ := mod_act (a := a) (by omega) hl hs
  unfold fmod
  rw [trim_nil]
  constructor
  · intro h j
    rw [← h1 j]
    exact sm_zero fun i _ => by rw [h i, f_zero_mul]
  · intro h
    have hlen : (fdiv a b).2.length = a.length := (divOut_len ..).2
    have hact : ∀ k, sm L (fun i => mul ((fdiv a b).2.getD i zero) (s (k + i))) = zero := fun k => by
      have z := h k
      rw [← h1 k] at z
      by_cases hLa : L ≤ a.length
      · rw [sm_more hLa fun i h3 _ => by rw [h2 i (by omega), f_zero_mul]] at z
        exact z
      · rw [sm_more (n := a.length) (m := L) (by omega) fun i h3 _ => by rw [getD_out (by omega), f_zero_mul]]
        exact z
    intro i
    by_cases hi : i < L
    · exact kill_zero hm L (Nat.le_refl _) hact i hi
    · exact h2 i (by omega)
end
end K35
set_option Elab.async false
set_option linter.all false
set_option maxRecDepth 100000
set_option maxHeartbeats 4000000
namespace K35
open Fld
/-! ### the plain law -/
section
variable {F : Type} [Fld F] {c fi : List F}
/-- what the least relation of the row is: it holds all along, and nothing shorter does -/
theorem told (hl : fi.length = c.length) : (fleast c fi).length ≤ c.length ∧ Rec (seq c fi) (fun i => (fleast c fi).getD i zero) (fleast c fi).length ∧ Min (seq c fi) (fleast c fi).length := by
  have hs : ∀ k, k < (frow c fi (2 * c.length)).length → (frow c fi (2 * c.length)).getD k zero = seq c fi k := fun k hk => frow_get (by rw [frow_len] at hk; exact hk)
  have hr := seq_rec hl
  unfold fleast
  generalize hT : frow c fi (2 * c.length) = T at hs
  have hTl : T.length = 2 * c.length := by rw [← hT, frow_len]
  rcases least_case T with ⟨D, v, hD, hn, hv, e⟩ | ⟨hn, e⟩
  · rw [e]
    have hDc : D ≤ c.length := Decidable.byContradiction fun h => at_none hs (by omega) (hn c.length (by omega)) (fun i => c.getD i zero) fun k _ => hr k
    obtain ⟨h1, h2⟩ := at_some hs (by omega) hv
    rw [h1]
    refine ⟨hDc, rec_all hr (M := T.length - D) (by omega) h2, fun q hq d hd => ?_⟩
    exact at_none hs (by omega) (hn q hq) d fun k _ => hd k
  · rw [e]
    by_cases h0 : c.length = 0
    · have hl0 : (List.replicate T.length (zero : F)).length = 0 := by rw [List.length_replicate]; omega
      rw [hl0]
      refine ⟨Nat.zero_le _, fun k => ?_, fun q hq => absurd hq (Nat.not_lt_zero q)⟩
      have z := hr k
      rw [h0] at z
      exact z
    · exact absurd (fun k _ => hr k) (at_none hs (by omega) (hn c.length (by omega)) fun i => c.getD i zero)
theorem told_len (hl : fi.length = c.length) (hc : c.length ≤ 4) : (fleast c fi).length ≤ c.length := (told hl).1
theorem row40 (hl : fi.length = c.length) (hc : c.length ≤ 4) : (frow c fi 40).length = 40 := frow_len
theorem told_sat (hl : fi.length = c.length) (hc : c.length ≤ 4) : fsat (fleast c fi) (frow c fi 40) = true := by
  obtain ⟨h1, h2, _⟩ := told hl
  generalize fleast c fi = d at h1 h2
  unfold fsat
  refine List.all_eq_true.mpr fun k hk => decide_eq_true ?_
  have hk := List.mem_range.mp hk
  rw [frow_len] at hk
  rw [fdot_sm (by rw [List.length_take, List.length_drop, frow_len]; omega), frow_get (by omega), ← h2 k]
  exact sm_congr fun i hi => by rw [getD_take hi, getD_drop, frow_get (by omega)]
theorem told_act (hl : fi.length = c.length) : ∀ k, sm (fpoly (fleast c fi)).length (fun i => mul ((fpoly (fleast c fi)).getD i zero) (seq c fi (k + i))) = zero := fun k => by
  obtain ⟨_, h2, _⟩ := told hl
  rw [poly_len]
  exact poly_act h2 k
theorem told_div (hl : fi.length = c.length) (hc : c.length ≤ 4) : (fmod (fpoly c) (fpoly (fleast c fi))).isEmpty = true := by
  rw [(mod_nil (poly_len _) (told hl).2.2 (poly_lead _).2 (told_act hl)).mpr fun j => by rw [poly_len]; exact poly_act (seq_rec hl) j]
  rfl
theorem told_ann (hl : fi.length = c.length) (hc : c.length ≤ 4) {l : List F} (h : l.length ≤ 8) : lann (ftrim l) (frow c fi 40) = (fmod (ftrim l) (fpoly (fleast c fi))).isEmpty := by
  have hg := ftrim_len l
  generalize ftrim l = g at hg
  have key := mod_nil (a := g) (poly_len _) (told hl).2.2 (poly_lead _).2 (told_act hl)
  have hle : ∀ k, k < 41 - g.length → lsum g (frow c fi 40) k g.length = sm g.length (fun i => mul (g.getD i zero) (seq c fi (k + i))) := fun k hk => by
    rw [lsum_sm]
    exact sm_congr fun i hi => by rw [frow_get (by omega)]
  rw [Bool.eq_iff_iff, List.isEmpty_iff, key]
  unfold lann
  rw [frow_len]
  constructor
  · intro ha
    have ha := List.all_eq_true.mp ha
    exact act_zero (seq_rec hl) fun k hk => by
      have z := of_decide_eq_true (ha k (List.mem_range.mpr (by omega)))
      rw [hle k (by omega)] at z
      exact z
  · intro ha
    refine List.all_eq_true.mpr fun k hk => decide_eq_true ?_
    rw [hle k (List.mem_range.mp hk)]
    exact ha k
theorem told_hank (hl : fi.length = c.length) (hc : c.length ≤ 4) {k : Nat} (hk : k < (fleast c fi).length) :
    lok ((List.range (fleast c fi).length).map fun k => ((frow c fi 40).drop k).take (fleast c fi).length) ((List.range (fleast c fi).length).map fun i => if i = k then (one : F) else zero) (fleast c fi).length = true := by
  obtain ⟨h1, h2, h3⟩ := told hl
  generalize fleast c fi = d at h1 h2 h3 hk
  refine lok_inj (by rw [List.length_map, List.length_map]) (fun row h => ?_) (by rw [List.length_map, List.length_range]) fun x hx => ?_
  · obtain ⟨q, hq, rfl⟩ := List.mem_map.mp h
    have := List.mem_range.mp hq
    rw [List.length_take, List.length_drop, frow_len]
    omega
  · refine kill_zero h3 d.length (Nat.le_refl _) (act_zero h2 fun q hq => ?_)
    have z := hx q hq
    rw [getD_map_range hq] at z
    rw [← z]
    exact sm_congr fun i hi => by rw [getD_take hi, getD_drop, frow_get (by omega), Fld.mul_comm]
theorem told_again (hl : fi.length = c.length) (hc : c.length ≤ 4) : fleast (fleast c fi) ((frow c fi 40).take (fleast c fi).length) = fleast c fi := by
  obtain ⟨h1, h2, h3⟩ := told hl
  generalize fleast c fi = d at h1 h2 h3
  have hl2 : ((frow c fi 40).take d.length).length = d.length := by rw [List.length_take, frow_len]; omega
  have hsame : ∀ k, seq d ((frow c fi 40).take d.length) k = seq c fi k := rec_same (n := d.length) (seq_rec hl2) h2 fun k hk => by
    rw [seq_first (by omega), getD_take hk, frow_get (by omega)]
  have hs : ∀ k, k < (frow d ((frow c fi 40).take d.length) (2 * d.length)).length → (frow d ((frow c fi 40).take d.length) (2 * d.length)).getD k zero = seq c fi k := fun k hk => by
    rw [frow_get (by rw [frow_len] at hk; exact hk), hsame k]
  unfold fleast
  generalize hT : frow d ((frow c fi 40).take d.length) (2 * d.length) = T at hs
  have hTl : T.length = 2 * d.length := by rw [← hT, frow_len]
  rcases least_case T with ⟨D, v, hD, hn, hv, e⟩ | ⟨hn, e⟩
  · rw [e]
    have hDd : D ≤ d.length := Decidable.byContradiction fun h => at_none hs (by omega) (hn d.length (by omega)) (fun i => d.getD i zero) fun k _ => h2 k
    obtain ⟨g1, g2⟩ := at_some hs (by omega) hv
    have g3 : Rec (seq c fi) (fun i => v.getD i zero) D := rec_all h2 (M := T.length - D) (by omega) g2
    have hDe : D = d.length := Decidable.byContradiction fun h => h3 D (by omega) _ g3
    subst hDe
    refine ext_getD (z := zero) g1 fun k hk => ?_
    have hz : ∀ j, sm d.length (fun i => mul (add (v.getD i zero) (neg (d.getD i zero))) (seq c fi (j + i))) = zero := fun j => by
      rw [sm_congr fun i _ => by rw [f_add_mul, f_neg_mul], sm_add, sm_neg, g3 j, h2 j, f_add_neg]
    exact f_sub (kill_zero h3 d.length (Nat.le_refl _) hz k (by omega))
  · rw [e]
    by_cases h0 : d.length = 0
    · rw [show T.length = 0 by omega, List.eq_nil_of_length_eq_zero h0]
      rfl
    · exact absurd (fun k _ => h2 k) (at_none hs (by omega) (hn d.length (by omega)) fun i => d.getD i zero)
end
end K35
set_option Elab.async false
set_option linter.all false
set_option maxRecDepth 100000
set_option maxHeartbeats 4000000
namespace K35
open PySem PySem.Spec L2
section
variable {P : Program} {w : World} {K : PySem.W.Frag} {mg : Str → Option Value} {base : Heap}

theorem ok_f_law_state (T : Tx K mg) : Cal P w K mg base 1 "_law_state" (spP (S_f_law_state K)) := by
  refine cal_of T.d_f_law_state sc_f_law_state (by rintro H rs r ⟨_, rfl, _⟩; rfl) fun f cdv A outer s H vs Q E rs r hr hS ha k => ?_
  obtain ⟨ns, rfl, rfl⟩ := hS
  obtain ⟨vs, ws, rfl, dvs, ha⟩ := ha.cons_inv
  have e := ha.nil_inv
  subst e
  refine ⟨_, (pss_cons (ps_set (i := 1) sc_f_law_state.nd rfl (by first | exact Or.inl rfl | exact Or.inr rfl) pe_int)
    (pss_cons (ps_set (i := 2) sc_f_law_state.nd rfl (by first | exact Or.inl rfl | exact Or.inr rfl) pe_int)
    (pss_cons (ps_for PassesOwn.never rfl (pi_list (pe_slice c_sl (pv 0) po_none (po_some pe_int))) (pg_name (i := 3) sc_f_law_state.nd rfl (by first | exact Or.inl rfl | exact Or.inr rfl)) (pss_cons (ps_set (i := 1) sc_f_law_state.nd rfl (by first | exact Or.inl rfl | exact Or.inr rfl) (pe_op c_add (pe_op c_mul (pv 1) pe_int) (pe_callB c_abs (by rfl) T.z_abs b_abs (pa_cons (pv 3) pa_nil))))
    (pss_one (ps_set (i := 2) sc_f_law_state.nd rfl (by first | exact Or.inl rfl | exact Or.inr rfl) (pe_op c_mod (pe_callTy c_int1 (by rfl) T.z_int b_int (pa_cons (pe_op c_add (pe_op c_mul (pv 2) pe_int) (pv 3)) pa_nil)) pe_int)))))
    (pss_one (ps_ret (pe_lst (pa_cons (pv 1) (pa_cons (pv 2) pa_nil)))))))), ?_⟩
  refine q_asg (r := dI 0) ev_int fun v1 H1 e1 d1 => ?_
  refine q_asg (r := dI 1) ev_int fun v2 H2 e2 d2 => ?_
  replace dvs := Mono.m _ _ _ (e1.trans e2) dvs
  replace k := fun v H' e' d' => k v H' (Same.trans (e1.trans e2) e') d'
  have hsl : Ev (tSl (pSl K) (tVar 0) tNoPart (tPart (tC (.int 63)))) [some vs, some v1, some v2, none] H2 (dL (dIs (ns.take 63))) := fun H3 e3 Q q => (ev_var (r := dScr K ns) (n := 0) rfl dvs) H3 e3 _ fun x H4 e4 dx => (eo_none : EvO tNoPart [some vs, some v1, some v2, none] H2 none) H4 (e3.trans e4) _ fun H45 e45 => (eo_some (ev_int (i := 63)) : EvO (tPart (tC (.int 63))) [some vs, some v1, some v2, none] H2 (some 63)) H45 ((e3.trans e4).trans e45) _ fun H5 e5' => by
    have e5 := e45.trans e5'
    obtain ⟨a, rfl, sq⟩ := Mono.m _ _ _ e5 dx
    refine .inl ⟨a, _, rfl, sq, fun p hp => q _ _ ((e4.trans e5).trans (same_new hp)) ⟨p, _, rfl, upd_same, ?_⟩⟩
    have z := alls_cut (alls_ints (H := upd H5 p (.lst (cutV (ns.map V.int) none (some 63)))) ns) none (some ((63 : Nat) : Int))
    rw [cut_none_some] at z
    rw [show dIs (ns.take 63) = (dIs ns).take 63 from List.map_take ..]
    exact z
  refine q_forI (ei_list hsl) fun H3 e3 => ⟨fun j σ' H' => Same H3 H' ∧ ∃ a b x3, σ' = [some vs, some (.int a), some (.int b), x3], ⟨Same.refl _, 0, 1, none, by rw [show v1 = .int 0 from d1, show v2 = .int 1 from d2]; rfl⟩, fun j σ' H' hi h => h.1, fun j σ' H' hi h xx H'' s'' y => ?_, fun σ' H' h => ?_⟩
  · obtain ⟨sm, a, b, x3, rfl⟩ := h
    rw [dIs_len] at hi
    rw [yAt_some (dIs_get (getD_at (z := 0) hi))] at y
    generalize (ns.take 63).getD j 0 = c at y
    have ex : xx = .int c := y
    subst ex
    show tSeq _ _ _ [some vs, some (.int a), some (.int b), some (.int c)] H''
    refine q_asg (ev_add (ev_mul (.inr ⟨by decide, by decide⟩) (ev_var (r := dI a) rfl rfl) (ev_int (i := 1000003))) (ev_abs (ev_var (r := dI c) rfl rfl))) fun w1 H4 e4 d4 => ?_
    refine s_asg (ev_mod (by decide) (ev_int1 (ev_add (ev_mul (.inr ⟨by decide, by decide⟩) (ev_var (r := dI b) rfl rfl) (ev_int (i := 48271))) (ev_var (r := dI c) rfl rfl))) (ev_int (i := 2147483647))) fun w2 H5 e5 d5 => ?_
    exact ⟨(sm.trans s'').trans (e4.trans e5), _, _, _, by rw [show w1 = .int _ from d4, show w2 = .int _ from d5]; rfl⟩
  · obtain ⟨sm, a, b, x3, rfl⟩ := h
    refine s_ret (ev_lst (rs := [dI a, dI b]) (ea_cons (ev_var (r := dI a) rfl rfl) (ea_cons (ev_var (r := dI b) rfl rfl) ea_nil))) fun v H4 e4 d => k v H4 ((e3.trans sm).trans e4) ?_
    obtain ⟨_, p, us, rfl, h1, h2⟩ := d
    refine ⟨p, rfl, a, b, ?_⟩
    rw [h1, alls_ints_inv (l := [a, b]) h2]
    rfl
end
end K35
set_option Elab.async false
set_option linter.all false
set_option maxRecDepth 100000
set_option maxHeartbeats 4000000
namespace K35
open PySem PySem.Spec L2
section
variable {P : Program} {w : World} {K : PySem.W.Frag} {mg : Str → Option Value} {base : Heap}

theorem ok_f_law_take (T : Tx K mg) : Cal P w K mg base 1 "_law_take" spTake := by
  refine cal_ofG T.d_f_law_take sc_f_law_take (by rintro vs H Q E ⟨st, m, rfl, _⟩; rfl) fun f cdv A outer s H vs Q E hr hS => ?_
  obtain ⟨st, m, rfl, h0, h1, ⟨a, b, hO⟩, k⟩ := hS
  refine ⟨_, (pss_cons (ps_if (pt_cmpR c_gt (pe_ix ix_seq (pv 0) pe_int (fun _ _ => rfl)) pe_int (nomark _)) (pss_cons (ps_set (i := 2) sc_f_law_take.nd rfl (by first | exact Or.inl rfl | exact Or.inr rfl) (pe_op c_mod (pe_callTy c_int1 (by rfl) T.z_int b_int (pa_cons (pe_ix ix_seq (pv 0) pe_int (fun _ _ => rfl)) pa_nil)) (pv 1)))
    (pss_cons (ps_asg (pe_op c_div (pe_ix ix_seq (pv 0) pe_int (fun _ _ => rfl)) (pv 1)) (pg_sub (pv 0) pe_int set_list))
    (pss_one (ps_ret (pv 2))))) pss_nil)
    (pss_cons (ps_asg (pe_op c_mod (pe_callTy c_int1 (by rfl) T.z_int b_int (pa_cons (pe_op c_add (pe_op c_mul (pe_ix ix_seq (pv 0) pe_int (fun _ _ => rfl)) pe_int) pe_int) pa_nil)) pe_int) (pg_sub (pv 0) pe_int set_list))
    (pss_one (ps_ret (pe_op c_mod (pe_callTy c_int1 (by rfl) T.z_int b_int (pa_cons (pe_op c_div (pe_ix ix_seq (pv 0) pe_int (fun _ _ => rfl)) pe_int) pa_nil)) (pv 1)))))), ?_⟩
  have kk : ∀ (c : Int) v H', v = .int (c % m) → Kp st H H' → Q v H' := fun c v H' hv h => by
    have e : c % m = ((c % m).toNat : Int) := (Int.toNat_of_nonneg (Int.emod_nonneg _ (by omega))).symm
    rw [hv, e]
    refine k _ ?_ H' h
    rw [← e]
    exact Int.emod_lt_of_pos _ h0
  have s2 : St2 st H := ⟨a, b, hO⟩
  have hdl : ∀ H', Same H H' → dL [dI a, dI b] (.ref st) H' := fun H' e => ⟨st, _, rfl, e _ _ hO, alls_ints [a, b]⟩
  have r0 : ∀ (x : Option V) H', Same H H' → Ev (tOp (rIx K) (tVar 0) (tC (.int 0))) [some (.ref st), some (.int m), x] H' (dI a) := fun x H' e => ev_ixI (k := 0) (ev_var (r := dL [dI a, dI b]) rfl (hdl H' e)) (ev_int (i := 0)) rfl rfl
  have r1 : ∀ (x : Option V) H', Same H H' → Ev (tOp (rIx K) (tVar 0) (tC (.int 1))) [some (.ref st), some (.int m), x] H' (dI b) := fun x H' e => ev_ixI (k := 1) (ev_var (r := dL [dI a, dI b]) rfl (hdl H' e)) (ev_int (i := 1)) rfl rfl
  refine q_if (et_test (ev_gt (r0 _ _ (Same.refl _)) (ev_int (i := 0)))) (fun _ H1 e1 => ?_) (fun _ H1 e1 => ?_)
  · refine q_asg (ev_mod h0 (ev_int1 (r0 _ _ e1)) (ev_var (r := dI m) rfl rfl)) fun v2 H2 e2 d2 => ?_
    refine q_set (p := st) (vs := [.int a, .int b]) (j := 0) rfl (e2 _ _ (e1 _ _ hO)) (ev_div ⟨h0, by omega⟩ (r0 _ _ (e1.trans e2)) (ev_var (r := dI m) rfl rfl)) (ev_int (i := 0)) (by show 0 < 2; decide) fun v H3 e3 d hO3 => ?_
    have ev : v = .int (a / m) := d
    subst ev
    have kp : Kp st H (upd H3 st (.lst [.int (a / m), .int b])) := kp_set s2 ((e1.trans e2).trans e3)
    exact s_ret (ev_var (r := dI (a % m)) rfl d2) fun v H4 e4 d4 => kk a v H4 d4 (kp.trans (kp_same kp.s2 e4))
  · refine q_set (p := st) (vs := [.int a, .int b]) (j := 1) rfl (e1 _ _ hO) (ev_mod (by decide) (ev_int1 (ev_add (ev_mul (.inr ⟨by decide, by decide⟩) (r1 _ _ e1) (ev_int (i := 48271))) (ev_int (i := 11)))) (ev_int (i := 2147483647))) (ev_int (i := 1)) (by show 1 < 2; decide) fun v H3 e3 d hO3 => ?_
    have ev : v = .int ((b * 48271 + 11) % 2147483647) := d
    subst ev
    have kp : Kp st H (upd H3 st (.lst [.int a, .int ((b * 48271 + 11) % 2147483647)])) := kp_set s2 (e1.trans e3)
    refine s_ret (ev_mod h0 (ev_int1 (ev_div ⟨by decide, by decide⟩ (ev_ixI (k := 1) (ev_var (r := dL [dI a, dI ((b * 48271 + 11) % 2147483647)]) rfl ⟨st, _, rfl, upd_same, alls_ints [a, (b * 48271 + 11) % 2147483647]⟩) (ev_int (i := 1)) rfl rfl) (ev_int (i := 7)))) (ev_var (r := dI m) rfl rfl)) fun v H4 e4 d4 => kk _ v H4 d4 (kp.trans (kp_same kp.s2 e4))
end
end K35
set_option Elab.async false
set_option linter.all false
set_option maxRecDepth 100000
set_option maxHeartbeats 4000000
namespace K35
open PySem PySem.Spec L2
section
variable {P : Program} {w : World} {K : PySem.W.Frag} {mg : Str → Option Value} {base : Heap}

theorem ok_f_prime_powers (T : Tx K mg) : Cal P w K mg base 1 "prime_powers" (spP S_f_prime_powers) := by
  refine cal_of T.d_f_prime_powers sc_f_prime_powers (by rintro H rs r ⟨_, _, rfl, _⟩; rfl) fun f cdv A outer s H vs Q E rs r hr hS ha k => ?_
  obtain ⟨n, hn, rfl, rfl⟩ := hS
  obtain ⟨v, ws, rfl, dv, ha⟩ := ha.cons_inv
  have e := ha.nil_inv
  subst e
  refine ⟨_, (pss_cons (ps_set (i := 1) sc_f_prime_powers.nd rfl (by first | exact Or.inl rfl | exact Or.inr rfl) (pe_lst pa_nil))
    (pss_cons (ps_set (i := 2) sc_f_prime_powers.nd rfl (by first | exact Or.inl rfl | exact Or.inr rfl) pe_int)
    (pss_cons (ps_while PassesOwn.never (pt_cmpR c_le (pe_op c_mul (pv 2) (pv 2)) (pv 0) (nomark _)) (pss_cons (ps_set (i := 3) sc_f_prime_powers.nd rfl (by first | exact Or.inl rfl | exact Or.inr rfl) pe_int)
    (pss_cons (ps_while PassesOwn.never (pt_cmpR op_eq (pe_op c_mod (pv 0) (pv 2)) pe_int (nomark _)) (pss_cons (ps_set (i := 0) sc_f_prime_powers.nd rfl (by first | exact Or.inl rfl | exact Or.inr rfl) (pe_op c_div (pv 0) (pv 2)))
    (pss_one (ps_set (i := 3) sc_f_prime_powers.nd rfl (by first | exact Or.inl rfl | exact Or.inr rfl) (pe_op c_add (pv 3) pe_int)))))
    (pss_cons (ps_if (pt_cmpR c_gt (pv 3) pe_int (nomark _)) (pss_one (ps_expr (pe_bm PySem.F.plainAttrs_list PySem.F.slot_list_append PySem.F.type_list_append mt_append (pv 1) (pa_cons (pe_tup (pa_cons (pv 2) (pa_cons (pv 3) pa_nil))) pa_nil)))) pss_nil)
    (pss_one (ps_set (i := 2) sc_f_prime_powers.nd rfl (by first | exact Or.inl rfl | exact Or.inr rfl) (pe_op c_add (pv 2) pe_int)))))))
    (pss_cons (ps_if (pt_cmpR c_gt (pv 0) pe_int (nomark _)) (pss_one (ps_expr (pe_bm PySem.F.plainAttrs_list PySem.F.slot_list_append PySem.F.type_list_append mt_append (pv 1) (pa_cons (pe_tup (pa_cons (pv 0) (pa_cons pe_int pa_nil))) pa_nil)))) pss_nil)
    (pss_one (ps_ret (pe_callTy c_tuple (by rfl) T.z_tuple b_tuple (pa_cons (pv 1) pa_nil)))))))), ?_⟩
  have ev : v = .int n := dv
  subst ev
  refine q_asg (r := dFr H (dL [])) (ev_lst ea_nil) fun v1 H1 e1 d1 => ?_
  obtain ⟨⟨o, rfl, ho⟩, o', us, eo, hO, al⟩ := d1
  cases eo
  have eu : us = [] := al.nil_inv
  subst eu
  refine q_asg (r := dI 2) ev_int fun v2 H2 e2 d2 => ?_
  have ev : v2 = .int 2 := d2
  subst ev
  have d5 : n = 2 ∨ n = 3 ∨ n = 5 := hn
  refine q_while (fun m σ' H' => Same H H' ∧ H' o = some (.lst []) ∧ ((m = 1 ∧ σ' = [some (.int n), some (.ref o), some (.int 2), none]) ∨ (m = 0 ∧ n = 5 ∧ σ' = [some (.int n), some (.ref o), some (.int 3), some (.int 0)]))) 1 ⟨e1.trans e2, e2 _ _ hO, .inl ⟨rfl, rfl⟩⟩ fun m σ' H' hW => ?_
  obtain ⟨sm, hO, hW⟩ := hW
  have fin : ∀ p kk, ∀ H1, Same H' H1 → tSeq (tIfS (tTest (tOp pGt (tVar 0) (tC (.int 1)))) (tDrop (tBM K "list" rAppend (tVar 1) (tCons (tTup (tCons (tVar 0) (tCons (tC (.int 1)) tNil))) tNil))) tNext) (tRet (tCB (pTuple K) (tCons (tVar 1) tNil))) { nx := fun _ H' => Q .non H', rt := Q } [some (.int n), some (.ref o), p, kk] H1 := fun p kk H1 e => by
    refine q_if (et_test (ev_gt (ev_var (r := dI n) rfl rfl) ev_int)) (fun _ H2 e2 => ?_) fun z => ?_
    · refine s_app (r := dTI [n, 1]) (p := o) (vs := []) rfl (e2 _ _ (e _ _ hO)) (by decide) (ev_tup (rs := [dI n, dI 1]) (ea_cons (ev_var (r := dI n) rfl rfl) (ea_cons (ev_int (i := 1)) ea_nil))) fun v3 H3 e3 d3 h3 => ?_
      refine s_ret (ev_tuple (r := dL [dTI [n, 1]]) (ev_var rfl ⟨o, [v3], rfl, upd_same, alls_cons (Imm.m _ _ _ (le_set h3) d3) alls_nil⟩)) fun v4 H4 e4 d4 => k v4 H4 ((same_mut (((sm.trans e).trans e2).trans e3) ho).trans e4) d4
    · have := of_decide_eq_false z
      omega
  rcases hW with ⟨rfl, rfl⟩ | ⟨rfl, h5, rfl⟩
  · refine ⟨_, et_test (ev_le (ev_mul (.inl (by decide)) (ev_var (r := dI 2) rfl rfl) (ev_var (r := dI 2) rfl rfl)) (ev_var (r := dI n) rfl rfl)), fun z H1 e => ?_, fun _ => fin _ _⟩
    have h5 : n = 5 := by
      have := of_decide_eq_true z
      omega
    subst h5
    refine q_asg (r := dI 0) ev_int fun v2 H2 e2 d2 => ?_
    have ev : v2 = .int 0 := d2
    subst ev
    refine q_while (fun m σ' H'' => σ' = [some (.int 5), some (.ref o), some (.int 2), some (.int 0)] ∧ Same H' H'') 0 ⟨rfl, e.trans e2⟩ fun m σ2 H3 hW => ?_
    obtain ⟨rfl, s3⟩ := hW
    refine ⟨_, et_test (ev_eqI (ev_mod (by decide) (ev_var (r := dI 5) rfl rfl) (ev_var (r := dI 2) rfl rfl)) (ev_int (i := 0))), fun z => (by cases z), fun _ H4 e4 => ?_⟩
    refine q_if (et_test (ev_gt (ev_var (r := dI 0) rfl rfl) ev_int)) (fun z => (by cases z)) fun _ H5 e5 => ?_
    refine s_asg (ev_add (ev_var (r := dI 2) rfl rfl) (ev_int (i := 1))) fun v6 H6 e6 d6 => ?_
    have ev : v6 = .int 3 := d6
    subst ev
    have S6 := ((s3.trans e4).trans e5).trans e6
    exact ⟨0, by decide, sm.trans S6, S6 _ _ hO, .inr ⟨rfl, rfl, rfl⟩⟩
  · subst h5
    exact ⟨_, et_test (ev_le (ev_mul (.inl (by decide)) (ev_var (r := dI 3) rfl rfl) (ev_var (r := dI 3) rfl rfl)) (ev_var (r := dI 5) rfl rfl)), fun z => (by cases z), fun _ => fin _ _⟩
end
end K35
set_option Elab.async false
set_option linter.all false
set_option maxRecDepth 100000
set_option maxHeartbeats 4000000
namespace K35
open PySem PySem.Spec L2
section
variable {P : Program} {w : World} {K : PySem.W.Frag} {mg : Str → Option Value} {base : Heap}

theorem ok_f_is_prime (T : Tx K mg) : Cal P w K mg base 2 "is_prime" (spP S_f_is_prime) := by
  have G_f_prime_powers := ok_f_prime_powers (P := P) (w := w) (base := base) T
  refine cal_of T.d_f_is_prime sc_f_is_prime (by rintro H rs r ⟨_, _, rfl, _⟩; rfl) fun f cdv A outer s H vs Q E rs r hr hS ha k => ?_
  obtain ⟨n, hn, rfl, rfl⟩ := hS
  obtain ⟨v, ws, rfl, dv, ha⟩ := ha.cons_inv
  have e := ha.nil_inv
  subst e
  refine ⟨_, (pss_one (ps_ret (pe_and (pe_cmpR c_gt (pv 0) pe_int (nomark _)) (pe_one (pe_cmpR (op_eqD hr.units) (pe_cal G_f_prime_powers hr (by decide) (by rfl) (pa_cons (pv 0) pa_nil)) (pe_tup (pa_cons (pe_tup (pa_cons (pv 0) (pa_cons pe_int pa_nil))) pa_nil)) (nomark _)))))), ?_⟩
  refine s_ret ((ev_and (ev_gt (ev_var (r := dI n) rfl dv) ev_int) fun _ => ev_eqTT (ls := [[n, 1]]) (ks := [[n, 1]]) (ev_call (ea_cons (ev_var (r := dI n) rfl dv) ea_nil) fun H1 => ⟨n, hn, rfl, rfl⟩) (ev_tup (ea_cons (ev_tup (ea_cons (ev_var (r := dI n) rfl dv) (ea_cons (ev_int (i := 1)) ea_nil))) ea_nil))).eq ?_) k
  rw [decide_eq_true (show (1 : Int) < n by omega), decide_eq_true rfl]
  rfl
end
end K35
set_option Elab.async false
set_option linter.all false
set_option maxRecDepth 100000
set_option maxHeartbeats 4000000
namespace K35
open PySem PySem.Spec L2
section
variable {P : Program} {w : World} {K : PySem.W.Frag} {mg : Str → Option Value} {base : Heap}

theorem ok_f_power_row (T : Tx K mg) : Cal P w K mg base 3 "power_row" (spP S_f_power_row) := by
  have G_f_divide_rows := ok_f_divide_rows (P := P) (w := w) (base := base) T
  have G_f_multiply_rows := ok_f_multiply_rows (P := P) (w := w) (base := base) T
  refine cal_of T.d_f_power_row sc_f_power_row (by rintro H rs r ⟨_, _, _, _, _, _, rfl, _⟩; rfl) fun f cdv A outer s H vs Q E rs r hr hS ha k => ?_
  obtain ⟨a, kk, m, p, g, hg, rfl, rfl⟩ := hS
  obtain ⟨va, ws, rfl, dva, ha⟩ := ha.cons_inv
  obtain ⟨vk, ws, rfl, dvk, ha⟩ := ha.cons_inv
  obtain ⟨vm, ws, rfl, dvm, ha⟩ := ha.cons_inv
  obtain ⟨vp, ws, rfl, dvp, ha⟩ := ha.cons_inv
  have e := ha.nil_inv
  subst e
  refine ⟨_, (pss_cons (ps_set (i := 4) sc_f_power_row.nd rfl (by first | exact Or.inl rfl | exact Or.inr rfl) (pe_ix ix_seq (pe_cal G_f_divide_rows hr (by decide) (by rfl) (pa_cons (pe_tup (pa_cons pe_int pa_nil)) (pa_cons (pv 2) (pa_cons (pv 3) pa_nil)))) pe_int (fun _ _ => rfl)))
    (pss_cons (ps_set (i := 5) sc_f_power_row.nd rfl (by first | exact Or.inl rfl | exact Or.inr rfl) (pe_ix ix_seq (pe_cal G_f_divide_rows hr (by decide) (by rfl) (pa_cons (pv 0) (pa_cons (pv 2) (pa_cons (pv 3) pa_nil)))) pe_int (fun _ _ => rfl)))
    (pss_cons (ps_while PassesOwn.never (pt_cmpR c_gt (pv 1) pe_int (nomark _)) (pss_cons (ps_if (pt_cmpR op_eq (pe_op c_mod (pv 1) pe_int) pe_int (nomark _)) (pss_one (ps_set (i := 4) sc_f_power_row.nd rfl (by first | exact Or.inl rfl | exact Or.inr rfl) (pe_ix ix_seq (pe_cal G_f_divide_rows hr (by decide) (by rfl) (pa_cons (pe_cal G_f_multiply_rows hr (by decide) (by rfl) (pa_cons (pv 4) (pa_cons (pv 5) (pa_cons (pv 3) pa_nil)))) (pa_cons (pv 2) (pa_cons (pv 3) pa_nil)))) pe_int (fun _ _ => rfl)))) pss_nil)
    (pss_cons (ps_set (i := 5) sc_f_power_row.nd rfl (by first | exact Or.inl rfl | exact Or.inr rfl) (pe_ix ix_seq (pe_cal G_f_divide_rows hr (by decide) (by rfl) (pa_cons (pe_cal G_f_multiply_rows hr (by decide) (by rfl) (pa_cons (pv 5) (pa_cons (pv 5) (pa_cons (pv 3) pa_nil)))) (pa_cons (pv 2) (pa_cons (pv 3) pa_nil)))) pe_int (fun _ _ => rfl)))
    (pss_one (ps_set (i := 1) sc_f_power_row.nd rfl (by first | exact Or.inl rfl | exact Or.inr rfl) (pe_op c_div (pv 1) pe_int))))))
    (pss_one (ps_ret (pv 4)))))), ?_⟩
  have ep : vp = .int p := dvp
  subst ep
  have ek : vk = .int kk := dvk
  subst ek
  obtain ⟨_, out, bs, ho, hb, hl⟩ := mPow_inv hg
  have rem : ∀ {te : TE} {σ : St} {H : Hp} {a r : List Int}, mRem a m p = some r → Ev te σ H (dTI a) → Ev (tVar 2) σ H (dTI m) → Ev (tVar 3) σ H (dI p) → Ev (tOp (rIx K) (tCall (spP S_f_divide_rows) [] E0 (tCons te (tCons (tVar 2) (tCons (tVar 3) tNil)))) (tC (.int 1))) σ H (dTI r) := fun {te σ H a r} hr h1 h2 h3 => by
    obtain ⟨_, s, hs, rfl⟩ := mRem_inv hr
    exact ev_ixI (k := 1) (ra := dT [dTI s.1, dTI s.2]) (ev_call (ea_cons h1 (ea_cons h2 (ea_cons h3 ea_nil))) fun H1 => ⟨_, m, p, s, hs, rfl, rfl⟩) (ev_int (i := 1)) rfl rfl
  have mul : ∀ {ta tb : TE} {σ : St} {H : Hp} {a b r : List Int}, mMulRem a b m p = some r → Ev ta σ H (dTI a) → Ev tb σ H (dTI b) → Ev (tVar 2) σ H (dTI m) → Ev (tVar 3) σ H (dI p) → Ev (tOp (rIx K) (tCall (spP S_f_divide_rows) [] E0 (tCons (tCall (spP S_f_multiply_rows) [] E0 (tCons ta (tCons tb (tCons (tVar 3) tNil)))) (tCons (tVar 2) (tCons (tVar 3) tNil)))) (tC (.int 1))) σ H (dTI r) := fun {ta tb σ H a b r} hr h1 h2 h3 h4 => by
    obtain ⟨c, hc, hr⟩ := mMulRem_inv hr
    exact rem hr (ev_call (ea_cons h1 (ea_cons h2 (ea_cons h4 ea_nil))) fun H1 => ⟨_, _, p, c, hc, rfl, rfl⟩) h3 h4
  refine q_asg (rem ho (ev_tup (rs := [dI 1]) (ea_cons ev_int ea_nil)) (ev_var rfl dvm) (ev_var rfl rfl)) fun v1 H1 e1 d1 => ?_
  replace dva := Mono.m _ _ _ e1 dva
  replace dvm := Mono.m _ _ _ e1 dvm
  replace k := fun v H' e' d' => k v H' (Same.trans e1 e') d'
  refine q_asg (rem hb (ev_var rfl dva) (ev_var rfl dvm) (ev_var rfl rfl)) fun v2 H2 e2 d2 => ?_
  replace dvm := Mono.m _ _ _ e2 dvm
  replace k := fun v H' e' d' => k v H' (Same.trans e2 e') d'
  replace d1 := Mono.m _ _ _ e2 d1
  refine q_while (fun n σ' H' => Same H2 H' ∧ ∃ kk out bs v1 v2, σ' = [some va, some (.int kk), some vm, some (.int p), some v1, some v2] ∧ dTI out v1 H' ∧ dTI bs v2 H' ∧ mPowL m p n kk out bs = some g) 64 ⟨Same.refl _, kk, out, bs, v1, v2, rfl, d1, d2, hl⟩ fun n σ' H' hW => ?_
  obtain ⟨sm, kk, out, bs, v1, v2, rfl, d1, d2, hl⟩ := hW
  refine ⟨_, et_test (ev_gt (ev_var (r := dI kk) rfl rfl) (ev_int (i := 0))), fun z H3 e3 => ?_, fun z H3 e3 => ?_⟩
  · have z := of_decide_eq_true z
    obtain ⟨n', out', bs', rfl, h1, h2, h3⟩ := mPowL_step (by omega) hl
    replace d1 := Mono.m _ _ _ e3 d1
    replace d2 := Mono.m _ _ _ e3 d2
    replace sm := sm.trans e3
    have dm := Mono.m _ _ _ sm dvm
    have next : ∀ v1 H4, Same H3 H4 → dTI out' v1 H4 → tSeq (tAsg (tOp (rIx K) (tCall (spP S_f_divide_rows) [] E0 (tCons (tCall (spP S_f_multiply_rows) [] E0 (tCons (tVar 5) (tCons (tVar 5) (tCons (tVar 3) tNil)))) (tCons (tVar 2) (tCons (tVar 3) tNil)))) (tC (.int 1))) (gName 5)) (tAsg (tOp pDiv (tVar 1) (tC (.int 2))) (gName 1))
        { nx := fun σ2 H2_1 => ∃ m', m' < n' + 1 ∧ (fun n σ' H' => Same H2 H' ∧ ∃ kk out bs v1 v2, σ' = [some va, some (.int kk), some vm, some (.int p), some v1, some v2] ∧ dTI out v1 H' ∧ dTI bs v2 H' ∧ mPowL m p n kk out bs = some g) m' σ2 H2_1, ct := fun σ2 H2_1 => ∃ m', m' < n' + 1 ∧ (fun n σ' H' => Same H2 H' ∧ ∃ kk out bs v1 v2, σ' = [some va, some (.int kk), some vm, some (.int p), some v1, some v2] ∧ dTI out v1 H' ∧ dTI bs v2 H' ∧ mPowL m p n kk out bs = some g) m' σ2 H2_1, bk := tRet (tVar 4) { nx := fun _ H' => Q .non H', rt := Q }, rt := Q } [some va, some (.int kk), some vm, some (.int p), some v1, some v2] H4 := fun v1 H4 e4 d1 => by
      replace d2 := Mono.m _ _ _ e4 d2
      replace dm := Mono.m _ _ _ e4 dm
      refine q_asg (mul h2 (ev_var rfl d2) (ev_var rfl d2) (ev_var rfl dm) (ev_var rfl rfl)) fun v2 H5 e5 d2 => ?_
      replace d1 := Mono.m _ _ _ e5 d1
      refine s_asg (ev_div ⟨by decide, by decide⟩ (ev_var (r := dI kk) rfl rfl) (ev_int (i := 2))) fun v3 H6 e6 d3 => ?_
      replace d1 := Mono.m _ _ _ e6 d1
      replace d2 := Mono.m _ _ _ e6 d2
      have ev : v3 = .int (kk / 2) := d3
      subst ev
      exact ⟨n', Nat.lt_succ_self _, ((sm.trans e4).trans e5).trans e6, kk / 2, out', bs', v1, v2, rfl, d1, d2, h3⟩
    by_cases ho : kk % 2 = 1
    · rw [if_pos ho] at h1
      refine q_if ((et_test (ev_eqI (ev_mod (by decide) (ev_var (r := dI kk) rfl rfl) (ev_int (i := 2))) (ev_int (i := 1)))).eq (decide_eq_true ho)) (fun _ H4 e4 => ?_) fun z => (by cases z)
      refine s_asg (mul h1 (ev_var rfl (Mono.m _ _ _ e4 d1)) (ev_var rfl (Mono.m _ _ _ e4 d2)) (ev_var rfl (Mono.m _ _ _ e4 dm)) (ev_var rfl rfl)) fun v1 H5 e5 d1 => ?_
      exact next v1 H5 (e4.trans e5) d1
    · rw [if_neg ho] at h1
      cases h1
      exact q_no ((et_test (ev_eqI (ev_mod (by decide) (ev_var (r := dI kk) rfl rfl) (ev_int (i := 2))) (ev_int (i := 1)))).eq (decide_eq_false ho)) fun H4 e4 => next v1 H4 e4 (Mono.m _ _ _ e4 d1)
  · have z := of_decide_eq_false z
    have eg := mPowL_done (by omega) hl
    subst eg
    exact s_ret (ev_var rfl (Mono.m _ _ _ e3 d1)) fun v H4 e4 d4 => k v H4 ((sm.trans e3).trans e4) d4
end
end K35
set_option Elab.async false
set_option linter.all false
set_option maxRecDepth 100000
set_option maxHeartbeats 4000000
namespace K35
open PySem PySem.Spec L2
section
variable {P : Program} {w : World} {K : PySem.W.Frag} {mg : Str → Option Value} {base : Heap}

theorem ok_f_common_row (T : Tx K mg) : Cal P w K mg base 3 "common_row" (spP S_f_common_row) := by
  have G_f_divide_rows := ok_f_divide_rows (P := P) (w := w) (base := base) T
  have G_f_multiply_rows := ok_f_multiply_rows (P := P) (w := w) (base := base) T
  have G_f_inverse_modulo := ok_f_inverse_modulo (P := P) (w := w) (base := base) T
  refine cal_of T.d_f_common_row sc_f_common_row (by rintro H rs r ⟨_, _, _, _, _, _, rfl, _⟩; rfl) fun f cdv A outer s H vs Q E rs r hr hS ha k => ?_
  obtain ⟨n, a, b, p, g, hg, rfl, rfl⟩ := hS
  obtain ⟨va, ws, rfl, dva, ha⟩ := ha.cons_inv
  obtain ⟨vb, ws, rfl, dvb, ha⟩ := ha.cons_inv
  obtain ⟨vp, ws, rfl, dvp, ha⟩ := ha.cons_inv
  have e := ha.nil_inv
  subst e
  refine ⟨_, (pss_cons (ps_while PassesOwn.never (pt_cmpR c_gt (pe_callB c_len (by rfl) T.z_len PySem.boot_len (pa_cons (pv 1) pa_nil)) pe_int (nomark _)) (pss_one (ps_par (i := 0) (j := 1) (by rfl) sc_f_common_row.nd rfl rfl (by decide) rfl rfl (pa_cons (pv 1) (pa_cons (pe_ix ix_seq (pe_cal G_f_divide_rows hr (by decide) (by rfl) (pa_cons (pv 0) (pa_cons (pv 1) (pa_cons (pv 2) pa_nil)))) pe_int (fun _ _ => rfl)) pa_nil)) (by rfl))))
    (pss_cons (ps_if (pt_cmpR op_eq (pe_callB c_len (by rfl) T.z_len PySem.boot_len (pa_cons (pv 0) pa_nil)) pe_int (nomark _)) (pss_one (ps_ret (pe_tup pa_nil))) pss_nil)
    (pss_one (ps_ret (pe_cal G_f_multiply_rows hr (by decide) (by rfl) (pa_cons (pv 0) (pa_cons (pe_tup (pa_cons (pe_cal G_f_inverse_modulo hr (by decide) (by rfl) (pa_cons (pe_ix ix_seq (pv 0) (pe_op c_sub (pe_callB c_len (by rfl) T.z_len PySem.boot_len (pa_cons (pv 0) pa_nil)) pe_int) (fun _ _ => rfl)) (pa_cons (pv 2) pa_nil))) pa_nil)) (pa_cons (pv 2) pa_nil)))))))), ?_⟩
  have ep : vp = .int p := dvp
  subst ep
  refine q_while (fun m σ' H' => Same H H' ∧ ∃ a b va vb, σ' = [some va, some vb, some (.int p)] ∧ dTI a va H' ∧ dTI b vb H' ∧ mCommon p m a b = some g) n ⟨Same.refl _, a, b, va, vb, rfl, dva, dvb, hg⟩ fun m σ' H' hW => ?_
  obtain ⟨sm, a, b, va, vb, rfl, dva, dvb, hg⟩ := hW
  have hb := et_test (ev_gt (ev_len (K := K) (ev_var (σ := [some va, some vb, some (.int p)]) (n := 1) (r := dTI b) rfl dvb)) (ev_int (i := 0)))
  rw [dIs_len] at hb
  by_cases hb0 : b = []
  · subst hb0
    refine ⟨false, hb, fun z => (by cases z), fun _ H1 e1 => ?_⟩
    replace dva := Mono.m _ _ _ e1 dva
    replace dvb := Mono.m _ _ _ e1 dvb
    replace sm := sm.trans e1
    have ha := et_test (ev_eqI (ev_len (K := K) (ev_var (σ := [some va, some vb, some (.int p)]) (n := 0) (r := dTI a) rfl dva)) (ev_int (i := 0)))
    rw [dIs_len] at ha
    rcases mCommon_nil hg with ⟨rfl, rfl⟩ | ⟨h1, v, hv, hm⟩
    · refine q_if ha (fun _ H2 e2 => s_ret (ev_tup ea_nil) fun v H3 e3 d3 => k v H3 ((sm.trans e2).trans e3) d3) fun z => (by cases z)
    · refine q_no (ha.eq (decide_eq_false (by omega))) fun H2 e2 => ?_
      replace dva := Mono.m _ _ _ e2 dva
      refine s_ret (ev_call (r := dTI g) (ea_cons (ev_var (r := dTI a) rfl dva) (ea_cons (ev_tup (rs := [dI v]) (ea_cons (ev_call (r := dI v) (ea_cons (ev_at (enc := dI) (z := 0) (l := a) (j := a.length - 1) (ev_var (r := dTI a) rfl dva) (ev_sub (ev_len (K := K) (ev_var (r := dTI a) rfl dva)) (ev_int (i := 1))) (by rw [dIs_len]; omega) (by omega)) (ea_cons (ev_var (r := dI p) rfl rfl) ea_nil)) fun H1 => ⟨_, p, v, hv, rfl, rfl⟩) ea_nil)) (ea_cons (ev_var (r := dI p) rfl rfl) ea_nil))) fun H1 => ⟨a, [v], p, g, hm, rfl, rfl⟩) fun v H3 e3 d3 => k v H3 ((sm.trans e2).trans e3) d3
  · have hb1 := List.length_pos_iff.mpr hb0
    obtain ⟨m', s, rfl, hs, hg⟩ := mCommon_step hb0 hg
    refine ⟨true, hb.eq (decide_eq_true (by omega)), fun _ H1 e1 => ?_, fun z => (by cases z)⟩
    replace dva := Mono.m _ _ _ e1 dva
    replace dvb := Mono.m _ _ _ e1 dvb
    refine s_par (ra := dTI b) (rb := dTI s.2) (ev_var rfl dvb) (ev_ixI (k := 1) (ra := dT [dTI s.1, dTI s.2]) (ev_call (ea_cons (ev_var (r := dTI a) rfl dva) (ea_cons (ev_var (r := dTI b) rfl dvb) (ea_cons (ev_var (r := dI p) rfl rfl) ea_nil))) fun H1 => ⟨a, b, p, s, hs, rfl, rfl⟩) (ev_int (i := 1)) rfl rfl) fun v w H2 e2 d d2 => ?_
    exact ⟨m', Nat.lt_succ_self _, (sm.trans e1).trans e2, b, s.2, v, w, rfl, d, d2, hg⟩
end
end K35
set_option Elab.async false
set_option linter.all false
set_option maxRecDepth 100000
set_option maxHeartbeats 4000000
namespace K35
open PySem PySem.Spec L2
section
variable {P : Program} {w : World} {K : PySem.W.Frag} {mg : Str → Option Value} {base : Heap}
theorem mIrr_inv {m : List Int} {p : Int} {b : Bool} (h : mIrr m p = some b) : (m.length < 2 ∧ b = false) ∨ (2 ≤ m.length ∧ ∃ pw, mRem [0, 1] m p = some pw ∧ mIrrL m p ((m.length - 1) / 2) pw = some b) := by
  unfold mIrr at h
  by_cases h2 : m.length < 2
  · rw [if_pos h2] at h
    exact .inl ⟨h2, (Option.some.inj h).symm⟩
  · rw [if_neg h2] at h
    cases e : mRem [0, 1] m p with
    | none => rw [e] at h; cases h
    | some pw => rw [e] at h; exact .inr ⟨by omega, pw, rfl, h⟩
theorem ok_f_is_irreducible_row (T : Tx K mg) : Cal P w K mg base 4 "is_irreducible_row" (spP S_f_is_irreducible_row) := by
  have G_f_divide_rows := ok_f_divide_rows (P := P) (w := w) (base := base) T
  have G_f_power_row := ok_f_power_row (P := P) (w := w) (base := base) T
  have G_f_common_row := ok_f_common_row (P := P) (w := w) (base := base) T
  have G_f_subtract_rows := ok_f_subtract_rows (P := P) (w := w) (base := base) T
  refine cal_of T.d_f_is_irreducible_row sc_f_is_irreducible_row (by rintro H rs r ⟨_, _, _, _, _, _, rfl, _⟩; rfl) fun f cdv A outer s H vs Q E rs r hr hS ha k => ?_
  obtain ⟨m, p, b, hb, hlm, hp, rfl, rfl⟩ := hS
  obtain ⟨vm, ws, rfl, dvm, ha⟩ := ha.cons_inv
  obtain ⟨vp, ws, rfl, dvp, ha⟩ := ha.cons_inv
  have e := ha.nil_inv
  subst e
  refine ⟨_, (pss_cons (ps_set (i := 2) sc_f_is_irreducible_row.nd rfl (by first | exact Or.inl rfl | exact Or.inr rfl) (pe_op c_sub (pe_callB c_len (by rfl) T.z_len PySem.boot_len (pa_cons (pv 0) pa_nil)) pe_int))
    (pss_cons (ps_if (pt_cmpR c_lt (pv 2) pe_int (nomark _)) (pss_one (ps_ret pe_bl)) pss_nil)
    (pss_cons (ps_set (i := 3) sc_f_is_irreducible_row.nd rfl (by first | exact Or.inl rfl | exact Or.inr rfl) (pe_ix ix_seq (pe_cal G_f_divide_rows hr (by decide) (by rfl) (pa_cons (pe_tup (pa_cons pe_int (pa_cons pe_int pa_nil))) (pa_cons (pv 0) (pa_cons (pv 1) pa_nil)))) pe_int (fun _ _ => rfl)))
    (pss_cons (ps_for PassesOwn.never rfl (pi_range1 rfl T.z_range (pa_cons (pe_op c_div (pv 2) pe_int) pa_nil)) (pg_name (i := 4) sc_f_is_irreducible_row.nd rfl (by first | exact Or.inl rfl | exact Or.inr rfl)) (pss_cons (ps_set (i := 3) sc_f_is_irreducible_row.nd rfl (by first | exact Or.inl rfl | exact Or.inr rfl) (pe_cal G_f_power_row hr (by decide) (by rfl) (pa_cons (pv 3) (pa_cons (pv 1) (pa_cons (pv 0) (pa_cons (pv 1) pa_nil))))))
    (pss_one (ps_if (pt_cmpR op_ne (pe_callB c_len (by rfl) T.z_len PySem.boot_len (pa_cons (pe_cal G_f_common_row hr (by decide) (by rfl) (pa_cons (pv 0) (pa_cons (pe_cal G_f_subtract_rows hr (by decide) (by rfl) (pa_cons (pv 3) (pa_cons (pe_tup (pa_cons pe_int (pa_cons pe_int pa_nil))) (pa_cons (pv 1) pa_nil)))) (pa_cons (pv 1) pa_nil)))) pa_nil)) pe_int (nomark _)) (pss_one (ps_ret pe_bl)) pss_nil))))
    (pss_one (ps_ret pe_bl)))))), ?_⟩
  have ep : vp = .int p := dvp
  subst ep
  have hn : Ev (tOp pSub (tCB (pLen K) (tCons (tVar 0) tNil)) (tC (.int 1))) (start n_f_is_irreducible_row [vm, .int p]) H (dI ((m.length : Int) - 1)) := by
    have z := ev_sub (ev_len (K := K) (ev_var (σ := start n_f_is_irreducible_row [vm, .int p]) (n := 0) (r := dTI m) rfl dvm)) (ev_int (i := 1))
    rw [dIs_len] at z
    exact z
  refine q_asg hn fun v2 H1 e1 d1 => ?_
  replace dvm := Mono.m _ _ _ e1 dvm
  replace k := fun v H' e' d' => k v H' (Same.trans e1 e') d'
  rcases mIrr_inv hb with ⟨h2, rfl⟩ | ⟨h2, pw, hpw, hl⟩
  · exact q_if ((et_test (ev_lt (ev_var rfl d1) (ev_int (i := 1)))).eq (decide_eq_true (by omega))) (fun _ H2 e2 => s_ret (r := dB false) ev_bl fun v H3 e3 d3 => k v H3 (e2.trans e3) d3) fun z => (by cases z)
  · refine q_no ((et_test (ev_lt (ev_var rfl d1) (ev_int (i := 1)))).eq (decide_eq_false (by omega))) fun H2 e2 => ?_
    replace dvm := Mono.m _ _ _ e2 dvm
    replace k := fun v H' e' d' => k v H' (Same.trans e2 e') d'
    replace d1 := Mono.m _ _ _ e2 d1
    obtain ⟨_, s, hs, rfl⟩ := mRem_inv hpw
    refine q_asg (r := dTI s.2) (ev_ixI (k := 1) (ra := dT [dTI s.1, dTI s.2]) (ev_call (ea_cons (ev_tup (rs := [dI 0, dI 1]) (ea_cons ev_int (ea_cons ev_int ea_nil))) (ea_cons (ev_var (r := dTI m) rfl dvm) (ea_cons (ev_var (r := dI p) rfl rfl) ea_nil))) fun H1 => ⟨_, m, p, s, hs, rfl, rfl⟩) (ev_int (i := 1)) rfl rfl) fun v3 H3 e3 d3 => ?_
    replace dvm := Mono.m _ _ _ e3 dvm
    replace k := fun v H' e' d' => k v H' (Same.trans e3 e') d'
    replace d1 := Mono.m _ _ _ e3 d1
    have hnn : ((m.length : Int) - 1) / 2 = (((m.length - 1) / 2 : Nat) : Int) := by omega
    refine q_forJ (ei_rng1 (j := ((m.length : Int) - 1) / 2) (ev_div ⟨by decide, by decide⟩ (ev_var rfl d1) (ev_int (i := 2))) (by omega) (by omega)) fun H4 e4 => ⟨fun i σ' H' => Same H4 H' ∧ ∃ pw v3 x4, σ' = [some vm, some (.int p), some v2, some v3, x4] ∧ dTI pw v3 H' ∧ mIrrL m p ((m.length - 1) / 2 - i) pw = some b, ⟨Same.refl _, s.2, v3, none, rfl, Mono.m _ _ _ e4 d3, hl⟩, fun i σ' H' hi h => le_of h.1, fun i σ' H' hi h xx H'' s'' y => ?_, fun σ' H' h => ?_⟩
    · obtain ⟨sm0, pw, v3, x4, rfl, d3, hl⟩ := h
      rw [hnn, Int.toNat_natCast] at hi
      obtain ⟨j, hj⟩ : ∃ j, (m.length - 1) / 2 - i = j + 1 := ⟨(m.length - 1) / 2 - i - 1, by omega⟩
      rw [hj] at hl
      obtain ⟨pw', g, h1, h2, h3⟩ := mIrrL_step hl
      replace d3 := Mono.m _ _ _ s'' d3
      have sm := (e4.trans sm0).trans s''
      have dm := Mono.m _ _ _ sm dvm
      show tSeq _ _ _ [some vm, some (.int p), some v2, some v3, some xx] H''
      refine q_asg (ev_call (r := dTI pw') (ea_cons (ev_var (r := dTI pw) rfl d3) (ea_cons (ev_var (r := dI p) rfl rfl) (ea_cons (ev_var (r := dTI m) rfl dm) (ea_cons (ev_var (r := dI p) rfl rfl) ea_nil)))) fun H1 => ⟨pw, p, m, p, pw', h1, rfl, rfl⟩) fun v3 H5 e5 d3 => ?_
      replace dm := Mono.m _ _ _ e5 dm
      have hc := et_test (ev_neI (ev_len (K := K) (ev_call (S := S_f_common_row) (r := dTI g) (ea_cons (ev_var (σ := [some vm, some (.int p), some v2, some v3, some xx]) (n := 0) (r := dTI m) rfl dm) (ea_cons (ev_call (S := S_f_subtract_rows) (r := dTI (mSub pw' [0, 1] p)) (ea_cons (ev_var (n := 3) (r := dTI pw') rfl d3) (ea_cons (ev_tup (rs := [dI 0, dI 1]) (ea_cons ev_int (ea_cons ev_int ea_nil))) (ea_cons (ev_var (n := 1) (r := dI p) rfl rfl) ea_nil))) fun H1 => ⟨pw', [0, 1], p, hp, by have := (mPow_inv h1).1; omega, by decide, rfl, rfl⟩) (ea_cons (ev_var (n := 1) (r := dI p) rfl rfl) ea_nil))) fun H1 => ⟨64, m, _, p, g, h2, rfl, rfl⟩)) (ev_int (i := 1)))
      rw [dIs_len] at hc
      have ej : (m.length - 1) / 2 - (i + 1) = j := by omega
      rcases h3 with ⟨hg, h3⟩ | ⟨hg, rfl⟩
      · rw [hg] at hc
        refine s_if hc (fun z => (by cases z)) fun _ H6 e6 => ?_
        exact ⟨((sm0.trans s'').trans e5).trans e6, pw', v3, _, rfl, Mono.m _ _ _ e6 d3, by rw [ej]; exact h3⟩
      · refine s_if (hc.eq (by rw [decide_eq_false (by omega)])) (fun _ H6 e6 => ?_) fun z => (by cases z)
        exact s_ret (r := dB false) ev_bl fun v H7 e7 d7 => k v H7 (((sm.trans e5).trans e6).trans e7) d7
    · obtain ⟨sm, pw, v3, x4, rfl, d3, hl⟩ := h
      rw [hnn, Int.toNat_natCast, Nat.sub_self] at hl
      unfold mIrrL at hl
      cases hl
      exact s_ret (r := dB true) ev_bl fun v H7 e7 d7 => k v H7 ((e4.trans sm).trans e7) d7
end
end K35
set_option Elab.async false
set_option linter.all false
set_option maxRecDepth 100000
set_option maxHeartbeats 4000000
namespace K35
open PySem PySem.Spec L2
section
variable {P : Program} {w : World} {K : PySem.W.Frag} {mg : Str → Option Value} {base : Heap}
theorem pw_fx : ∀ (i : Fin 6) (j : Fin 4), j.val ≤ (fx i).n → 0 ≤ (fx i).p ^ j.val ∧ (fx i).p ^ j.val ≤ 400 := by decide +kernel
theorem fx_facts : ∀ i : Fin 6, ((fx i).m.all fun x => decide (0 ≤ x) && decide (x < (fx i).p)) = true ∧ (fx i).m.getD ((fx i).m.length - 1) 0 = 1 ∧ 2 ≤ (fx i).m.length ∧ (fx i).m.length ≤ 4 := by decide +kernel
theorem ok_f_checked_modulus (T : Tx K mg) : Cal P w K mg base 5 "_checked_modulus" (spP S_f_checked_modulus) := by
  have G_f_is_integer := ok_f_is_integer (P := P) (w := w) (base := base) T
  have G_f_is_irreducible_row := ok_f_is_irreducible_row (P := P) (w := w) (base := base) T
  refine cal_of T.d_f_checked_modulus sc_f_checked_modulus (by rintro H rs r ⟨_, rfl, _⟩; rfl) fun f cdv A outer s H vs Q E rs r hr hS ha k => ?_
  obtain ⟨i, rfl, rfl⟩ := hS
  obtain ⟨vp, ws, rfl, dvp, ha⟩ := ha.cons_inv
  obtain ⟨vm, ws, rfl, dvm, ha⟩ := ha.cons_inv
  have e := ha.nil_inv
  subst e
  obtain ⟨t, hMOST⟩ := T.x_most
  refine ⟨_, (pss_cons (ps_if (PW.pt (pw_or (pt_not (pt_val (pe_callB call_isiT (by rfl) T.z_isinstance b_isinstance (pa_cons (pv 1) (pa_cons (pe_tup (pa_cons (pe_bltn (v := .ty "tuple") (by rfl) T.z_tuple b_tuple rfl) (pa_cons (pe_bltn (v := .ty "list") (by rfl) T.z_list b_list rfl) pa_nil))) pa_nil))))) (pw_or1 (pt_cmpR c_lt (pe_callB c_len (by rfl) T.z_len PySem.boot_len (pa_cons (pv 1) pa_nil)) pe_int (nomark _))))) (pss_one ps_never) pss_nil)
    (pss_cons (ps_for PassesOwn.never rfl (pi_tup (pv 1)) (pg_name (i := 2) sc_f_checked_modulus.nd rfl (by first | exact Or.inl rfl | exact Or.inr rfl)) (pss_one (ps_if (PW.pt (pw_or (pt_not (pt_val (pe_cal G_f_is_integer hr (by decide) (by rfl) (pa_cons (pv 2) pa_nil)))) (pw_or (pt_cmpR c_lt (pv 2) pe_int (nomark _)) (pw_or1 (pt_cmpR c_ge (pv 2) (pv 0) (nomark _)))))) (pss_one ps_never) pss_nil)))
    (pss_cons (ps_if (pt_cmpR op_ne (pe_ix ix_seq (pv 1) (pe_op c_sub (pe_callB c_len (by rfl) T.z_len PySem.boot_len (pa_cons (pv 1) pa_nil)) pe_int) (fun _ _ => rfl)) pe_int (nomark _)) (pss_one ps_never) pss_nil)
    (pss_cons (ps_set (i := 3) sc_f_checked_modulus.nd rfl (by first | exact Or.inl rfl | exact Or.inr rfl) pe_int)
    (pss_cons (ps_for PassesOwn.never rfl (pi_range1 rfl T.z_range (pa_cons (pe_op c_sub (pe_callB c_len (by rfl) T.z_len PySem.boot_len (pa_cons (pv 1) pa_nil)) pe_int) pa_nil)) (pg_name (i := 4) sc_f_checked_modulus.nd rfl (by first | exact Or.inl rfl | exact Or.inr rfl)) (pss_cons (ps_set (i := 3) sc_f_checked_modulus.nd rfl (by first | exact Or.inl rfl | exact Or.inr rfl) (pe_op c_mul (pv 3) (pv 0)))
    (pss_one (ps_if (pt_cmpR c_gt (pv 3) (pe_glob (v := .int 400) (by rfl) hMOST ⟨_, rfl⟩) (nomark _)) (pss_one ps_never) pss_nil))))
    (pss_cons (ps_if (pt_not (pt_val (pe_cal G_f_is_irreducible_row hr (by decide) (by rfl) (pa_cons (pe_callTy c_tuple (by rfl) T.z_tuple b_tuple (pa_cons (pv 1) pa_nil)) (pa_cons (pv 0) pa_nil))))) (pss_one ps_never) pss_nil)
    (pss_one (ps_ret (pe_callTy c_tuple (by rfl) T.z_tuple b_tuple (pa_cons (pv 1) pa_nil)))))))))), ?_⟩
  have ep : vp = .int (fx i).p := dvp
  subst ep
  have h0 := okP_pos (okP_fx i)
  have h4 := okP_le (okP_fx i)
  obtain ⟨f1, f2, f3, f4⟩ := fx_facts i
  have f5 := (len_fx i).2
  refine q_no (et_or (b := false) (c := false) (et_not (b := true) (et_test (ev_isi2 (ev_var (r := dTI (fx i).m) rfl dvm) (fun v H d => tyX_tup d) (kitAny_cons (b := true) (by unfold PySem.W.kitOne; rw [if_pos (by decide)]) (fun z => nomatch z) fun _ => rfl)))) fun _ => (et_test (ev_lt (ev_len (K := K) (ev_var (r := dTI (fx i).m) rfl dvm)) (ev_int (i := 2)))).eq (by rw [dIs_len]; exact decide_eq_false (by omega))) fun H1 e1 => ?_
  replace dvm := Mono.m _ _ _ e1 dvm
  replace k := fun v H' e' d' => k v H' (Same.trans e1 e') d'
  refine q_forJ (ei_tup (ev_var (r := dTI (fx i).m) rfl dvm)) fun H2 e2 => ⟨fun j σ' H' => Same H2 H' ∧ ∃ x2, σ' = [some (.int (fx i).p), some vm, x2, none, none], ⟨Same.refl _, none, rfl⟩, fun j σ' H' hi h => le_of h.1, fun j σ' H' hi h xx H'' s'' y => ?_, fun σ' H' h => ?_⟩
  · obtain ⟨sm, x2, rfl⟩ := h
    have hx := getD_at (z := (0 : Int)) (l := (fx i).m) (j := j) (by rw [dIs_len] at hi; exact hi)
    rw [yAt_some (dIs_get hx)] at y
    generalize (fx i).m.getD j 0 = x at hx y
    have hb := List.all_eq_true.mp f1 x (List.mem_of_getElem? hx)
    rw [Bool.and_eq_true] at hb
    have b0 := of_decide_eq_true hb.1
    have b1 := of_decide_eq_true hb.2
    have ev : xx = .int x := y
    subst ev
    show tIfS _ _ _ _ [some (.int (fx i).p), some vm, some (.int x), none, none] H''
    refine s_if (b := false) (et_or (b := false) (c := false) (et_not (b := true) (et_test (ev_call (r := dB true) (ea_cons (ev_var (r := dI x) rfl rfl) ea_nil) fun H1 => ⟨x, rfl, rfl⟩))) fun _ => et_or (b := false) (c := false) ((et_test (ev_lt (ev_var (r := dI x) rfl rfl) (ev_int (i := 0)))).eq (decide_eq_false (by omega))) fun _ => (et_test (ev_ge (ev_var (r := dI x) rfl rfl) (ev_var (r := dI (fx i).p) rfl rfl))).eq (decide_eq_false (by omega))) (fun z => nomatch z) fun _ H3 e3 => ?_
    exact ⟨(sm.trans s'').trans e3, _, rfl⟩
  · obtain ⟨sm, x2, rfl⟩ := h
    replace dvm := Mono.m _ _ _ (e2.trans sm) dvm
    replace k := fun v H' e' d' => k v H' (Same.trans (e2.trans sm) e') d'
    refine q_no ((et_test (ev_neI (ev_at (enc := dI) (z := 0) (l := (fx i).m) (j := (fx i).m.length - 1) (ev_var (r := dTI (fx i).m) rfl dvm) (ev_sub (ev_len (K := K) (ev_var (r := dTI (fx i).m) rfl dvm)) (ev_int (i := 1))) (by rw [dIs_len]; omega) (by omega)) (ev_int (i := 1)))).eq (by rw [f2]; rfl)) fun H3 e3 => ?_
    replace dvm := Mono.m _ _ _ e3 dvm
    replace k := fun v H' e' d' => k v H' (Same.trans e3 e') d'
    refine q_asg (r := dI 1) ev_int fun v3 H4 e4 d3 => ?_
    replace dvm := Mono.m _ _ _ e4 dvm
    replace k := fun v H' e' d' => k v H' (Same.trans e4 e') d'
    refine q_forJ (ei_rng1 (ev_sub (ev_len (K := K) (ev_var (r := dTI (fx i).m) rfl dvm)) (ev_int (i := 1))) (by rw [dIs_len]; omega) (by rw [dIs_len]; omega)) fun H5 e5 => ⟨fun j σ' H' => Same H5 H' ∧ ∃ x4, σ' = [some (.int (fx i).p), some vm, x2, some (.int ((fx i).p ^ j)), x4], ⟨Same.refl _, none, (by rw [show v3 = .int 1 from d3, Int.pow_zero]; rfl)⟩, fun j σ' H' hi h => le_of h.1, fun j σ' H' hi h xx H'' s'' y => ?_, fun σ' H' h => ?_⟩
    · obtain ⟨sm, x4, rfl⟩ := h
      rw [dIs_len] at hi
      have hj : j + 1 < 4 := by omega
      have hjn : j + 1 ≤ (fx i).n := by omega
      have pw := pw_fx i ⟨j + 1, hj⟩ hjn
      have pw' : (fx i).p ^ (j + 1) ≤ 400 := pw.2
      show tSeq _ _ _ [some (.int (fx i).p), some vm, x2, some (.int ((fx i).p ^ j)), some xx] H''
      refine q_asg (r := dI ((fx i).p ^ (j + 1))) ((ev_mul (.inr ⟨by omega, by omega⟩) (ev_var (r := dI ((fx i).p ^ j)) rfl rfl) (ev_var (r := dI (fx i).p) rfl rfl)).eq (by rw [Int.pow_succ])) fun v6 H6 e6 d6 => ?_
      have ev : v6 = .int ((fx i).p ^ (j + 1)) := d6
      subst ev
      refine s_if (b := false) ((et_test (ev_gt (ev_var (r := dI ((fx i).p ^ (j + 1))) rfl rfl) (ev_int (i := 400)))).eq (decide_eq_false (by omega))) (fun z => nomatch z) fun _ H7 e7 => ?_
      exact ⟨((sm.trans s'').trans e6).trans e7, _, rfl⟩
    · obtain ⟨sm, x4, rfl⟩ := h
      replace dvm := Mono.m _ _ _ (e5.trans sm) dvm
      replace k := fun v H' e' d' => k v H' (Same.trans (e5.trans sm) e') d'
      refine q_no (et_not (b := true) (et_test (ev_call (r := dB true) (ea_cons (ev_tuple (r := dTI (fx i).m) (ev_var rfl dvm)) (ea_cons (ev_var (r := dI (fx i).p) rfl rfl) ea_nil)) fun H1 => ⟨(fx i).m, (fx i).p, true, r_irr i, by omega, okP_fx i, rfl, rfl⟩))) fun H6 e6 => ?_
      replace dvm := Mono.m _ _ _ e6 dvm
      replace k := fun v H' e' d' => k v H' (Same.trans e6 e') d'
      exact s_ret (ev_tuple (r := dTI (fx i).m) (ev_var rfl dvm)) k
end
end K35
set_option Elab.async false
set_option linter.all false
set_option maxRecDepth 100000
set_option maxHeartbeats 4000000
namespace K35
open PySem PySem.Spec L2
section
variable {P : Program} {w : World} {K : PySem.W.Frag} {mg : Str → Option Value} {base : Heap}

theorem ok_m_Field_init (T : Tx K mg) : Mak P w K mg base 6 "Field" (cF K) (spI (cF K) (S_m_Field_init K)) := by
  have G_f_is_prime := ok_f_is_prime (P := P) (w := w) (base := base) T
  have G_f_is_integer := ok_f_is_integer (P := P) (w := w) (base := base) T
  have G_f_checked_modulus := ok_f_checked_modulus (P := P) (w := w) (base := base) T
  refine mak_of T.d_m_Field_init sc_m_Field_init (by rintro rs r ⟨_, rfl, _⟩; rfl) fun f cdv A outer s H0 x dx ws Q E rs r hr hx hdx ne hS ha k => ?_
  obtain ⟨i, rfl, rfl⟩ := hS
  obtain ⟨vp, ws, rfl, dvp, ha⟩ := ha.cons_inv
  obtain ⟨vm, ws, rfl, dvm, ha⟩ := ha.cons_inv
  have e := ha.nil_inv
  subst e
  refine ⟨_, (pss_cons (ps_if (PW.pt (pw_or (pt_not (pt_val (pe_cal G_f_is_integer hr (by decide) (by rfl) (pa_cons (pv 1) pa_nil)))) (pw_or1 (pt_not (pt_val (pe_cal G_f_is_prime hr (by decide) (by rfl) (pa_cons (pv 1) pa_nil))))))) (pss_one ps_never) pss_nil)
    (pss_cons (ps_fld (pv 0) (pe_cal G_f_checked_modulus hr (by decide) (by rfl) (pa_cons (pv 1) (pa_cons (pv 2) pa_nil))) rfl)
    (pss_cons (ps_fld (pv 0) (pv 1) rfl)
    (pss_cons (ps_fld (pv 0) (pe_op c_sub (pe_callB c_len (by rfl) T.z_len PySem.boot_len (pa_cons (pe_fld (pv 0) rfl) pa_nil)) pe_int) rfl)
    (pss_cons (ps_set (i := 3) sc_m_Field_init.nd rfl (by first | exact Or.inl rfl | exact Or.inr rfl) pe_int)
    (pss_cons (ps_for PassesOwn.never rfl (pi_range1 rfl T.z_range (pa_cons (pe_fld (pv 0) rfl) pa_nil)) (pg_name (i := 4) sc_m_Field_init.nd rfl (by first | exact Or.inl rfl | exact Or.inr rfl)) (pss_one (ps_set (i := 3) sc_m_Field_init.nd rfl (by first | exact Or.inl rfl | exact Or.inr rfl) (pe_op c_mul (pv 3) (pv 1)))))
    (pss_one (ps_fld (pv 0) (pv 3) rfl)))))))), ?_⟩
  have ep : vp = .int (fx i).p := dvp
  subst ep
  obtain ⟨h0, n1, n3⟩ : 0 < (fx i).p ∧ 1 ≤ (fx i).n ∧ (fx i).n ≤ 3 := ⟨okP_pos (okP_fx i), (r_bnd i).2.1, (r_bnd i).2.2.1⟩
  have h4 := okP_le (okP_fx i)
  have hp : (fx i).p = 2 ∨ (fx i).p = 3 ∨ (fx i).p = 5 := by
    have := (r_bnd i).1
    simpa using this
  have hml := (len_fx i).2
  obtain ⟨S0, I0⟩ := ins0 (C := cF K) hx hdx
  generalize upd (upd H0 dx (.own x)) x (.ins (cF K) dx []) = H at S0 I0 ⊢
  refine q_no (et_or (b := false) (c := false) (et_not (b := true) (et_test (ev_call (r := dB true) (ea_cons (ev_var (r := dI (fx i).p) rfl rfl) ea_nil) fun H1 => ⟨_, rfl, rfl⟩))) fun _ => et_not (b := true) (et_test (ev_call (r := dB true) (ea_cons (ev_var (r := dI (fx i).p) rfl rfl) ea_nil) fun H1 => ⟨_, hp, rfl, rfl⟩))) fun H1 e1 => ?_
  have S1 := S0.trans e1
  have I1 := I0.mono e1
  refine q_fldS (H0 := H0) rfl S1 hx I1 rfl T.c_Field T.n_Field_modulus rfl (by decide) (ev_call (r := dTI (fx i).m) (ea_cons (ev_var (r := dI (fx i).p) rfl rfl) (ea_cons (ev_var (r := dTI (fx i).m) rfl (Mono.m _ _ _ S1 dvm)) ea_nil)) fun H1 => ⟨i, rfl, rfl⟩) fun v1 H2 S2 _ I2 => ?_
  refine q_fldS (H0 := H0) rfl S2 hx I2 rfl T.c_Field T.n_Field_p rfl (by decide) (ev_var (r := dI (fx i).p) rfl rfl) fun v2 H3 S3 _ I3 => ?_
  refine q_fldS (H0 := H0) (r := dI ((fx i).n : Int)) rfl S3 hx I3 rfl T.c_Field T.n_Field_n rfl (by decide) ((ev_sub (ev_len (K := K) (ev_fld (k := 0) (r := dTI (fx i).m) (rs := [dTI (fx i).m, dI (fx i).p]) (ns := ["modulus", "p"]) (ev_var rfl I3.ins) T.c_Field T.n_Field_modulus rfl rfl)) (ev_int (i := 1))).eq (by rw [dIs_len]; congr 1; omega)) fun v3 H4 S4 _ I4 => ?_
  refine q_asg (r := dI 1) ev_int fun v4 H5 e5 d5 => ?_
  have ev : v4 = .int 1 := d5
  subst ev
  have I5 := I4.mono e5
  have S5 := S4.trans e5
  refine q_forJ (ei_rng1 (j := ((fx i).n : Int)) (ev_fld (k := 2) (r := dI ((fx i).n : Int)) (rs := [dTI (fx i).m, dI (fx i).p, dI ((fx i).n : Int)]) (ns := ["modulus", "p", "n"]) (ev_var rfl I5.ins) T.c_Field T.n_Field_n rfl rfl) (by omega) (by omega)) fun H6 e6 => ⟨fun j σ' H' => Same H6 H' ∧ ∃ x4, σ' = [some (.ref x), some (.int (fx i).p), some vm, some (.int ((fx i).p ^ j)), x4], ⟨Same.refl _, none, by rw [Int.pow_zero]; rfl⟩, fun j σ' H' hi h => le_of h.1, fun j σ' H' hi h xx H'' s'' y => ?_, fun σ' H' h => ?_⟩
  · obtain ⟨sm, x4, rfl⟩ := h
    show tAsg _ _ _ [some (.ref x), some (.int (fx i).p), some vm, some (.int ((fx i).p ^ j)), some xx] H''
    refine s_asg (r := dI ((fx i).p ^ (j + 1))) ((ev_mul (.inr ⟨by omega, by omega⟩) (ev_var (r := dI ((fx i).p ^ j)) rfl rfl) (ev_var (r := dI (fx i).p) rfl rfl)).eq (by rw [Int.pow_succ])) fun v6 H7 e7 d6 => ?_
    have ev : v6 = .int ((fx i).p ^ (j + 1)) := d6
    subst ev
    exact ⟨(sm.trans s'').trans e7, _, rfl⟩
  · obtain ⟨sm, x4, rfl⟩ := h
    rw [Int.toNat_natCast, r_q]
    have e7 := e6.trans sm
    refine s_fldS (H0 := H0) rfl (S5.trans e7) hx (I5.mono e7) rfl T.c_Field T.n_Field_q rfl (by decide) (ev_var (r := dI ((qs i : Nat) : Int)) rfl rfl) fun v7 H8 S8 _ I8 => ?_
    exact k H8 S8 I8.ins
end
end K35
set_option Elab.async false
set_option linter.all false
set_option maxRecDepth 100000
set_option maxHeartbeats 4000000
namespace K35
open PySem PySem.Spec L2
section
variable {P : Program} {w : World} {K : PySem.W.Frag} {mg : Str → Option Value} {base : Heap}
def plans : List Dn := [dT [dI 2, dTI [0, 1]], dT [dI 3, dTI [0, 1]], dT [dI 5, dTI [0, 1]], dT [dI 2, dTI [1, 1, 1]], dT [dI 3, dTI [1, 0, 1]], dT [dI 2, dTI [1, 1, 0, 1]]]
theorem plans_at : ∀ i : Fin 6, plans[i.val]? = some (dT [dI (fx i).p, dTI (fx i).m])
  | 0 => rfl
  | 1 => rfl
  | 2 => rfl
  | 3 => rfl
  | 4 => rfl
  | 5 => rfl
theorem ok_f_law_field (T : Tx K mg) : Cal P w K mg base 8 "_law_field" (spFld K) := by
  have G_f_law_take := ok_f_law_take (P := P) (w := w) (base := base) T
  have G_m_Field_init := ok_m_Field_init (P := P) (w := w) (base := base) T
  refine cal_ofG T.d_f_law_field sc_f_law_field (by rintro vs H Q E ⟨st, rfl, _⟩; rfl) fun f cdv A outer s H vs Q E hr hS => ?_
  obtain ⟨st, rfl, s2, k⟩ := hS
  refine ⟨_, (pss_cons (ps_set (i := 1) sc_f_law_field.nd rfl (by first | exact Or.inl rfl | exact Or.inr rfl) (pe_lst (pa_cons (pe_tup (pa_cons pe_int (pa_cons (pe_tup (pa_cons pe_int (pa_cons pe_int pa_nil))) pa_nil))) (pa_cons (pe_tup (pa_cons pe_int (pa_cons (pe_tup (pa_cons pe_int (pa_cons pe_int pa_nil))) pa_nil))) (pa_cons (pe_tup (pa_cons pe_int (pa_cons (pe_tup (pa_cons pe_int (pa_cons pe_int pa_nil))) pa_nil))) (pa_cons (pe_tup (pa_cons pe_int (pa_cons (pe_tup (pa_cons pe_int (pa_cons pe_int (pa_cons pe_int pa_nil)))) pa_nil))) (pa_cons (pe_tup (pa_cons pe_int (pa_cons (pe_tup (pa_cons pe_int (pa_cons pe_int (pa_cons pe_int pa_nil)))) pa_nil))) (pa_cons (pe_tup (pa_cons pe_int (pa_cons (pe_tup (pa_cons pe_int (pa_cons pe_int (pa_cons pe_int (pa_cons pe_int pa_nil))))) pa_nil))) pa_nil))))))))
    (pss_cons (ps_set (i := 2) sc_f_law_field.nd rfl (by first | exact Or.inl rfl | exact Or.inr rfl) (pe_ix ix_seq (pv 1) (pe_cal G_f_law_take hr (by decide) (by rfl) (pa_cons (pv 0) (pa_cons pe_int pa_nil))) (fun _ _ => rfl)))
    (pss_one (ps_ret (pe_mak G_m_Field_init hr (by decide) (by rfl) (pa_cons (pe_ix ix_seq (pv 2) pe_int (fun _ _ => rfl)) (pa_cons (pe_ix ix_seq (pv 2) pe_int (fun _ _ => rfl)) pa_nil))))))), ?_⟩
  have t2 : ∀ {a b : Int} {σ : St} {H : Hp}, Ev (tTup (tCons (tC (.int a)) (tCons (tC (.int b)) tNil))) σ H (dTI [a, b]) := fun {a b σ H} => ev_tup (rs := [dI a, dI b]) (ea_cons ev_int (ea_cons ev_int ea_nil))
  have t3 : ∀ {a b c : Int} {σ : St} {H : Hp}, Ev (tTup (tCons (tC (.int a)) (tCons (tC (.int b)) (tCons (tC (.int c)) tNil)))) σ H (dTI [a, b, c]) := fun {a b c σ H} => ev_tup (rs := [dI a, dI b, dI c]) (ea_cons ev_int (ea_cons ev_int (ea_cons ev_int ea_nil)))
  have t4 : ∀ {a b c e : Int} {σ : St} {H : Hp}, Ev (tTup (tCons (tC (.int a)) (tCons (tC (.int b)) (tCons (tC (.int c)) (tCons (tC (.int e)) tNil))))) σ H (dTI [a, b, c, e]) := fun {a b c e σ H} => ev_tup (rs := [dI a, dI b, dI c, dI e]) (ea_cons ev_int (ea_cons ev_int (ea_cons ev_int (ea_cons ev_int ea_nil))))
  have ip : ∀ q ∈ plans, Imm q := fun q hq => by
    simp only [plans, List.mem_cons, List.not_mem_nil, or_false] at hq
    rcases hq with rfl | rfl | rfl | rfl | rfl | rfl <;> exact inferInstance
  have : Monos plans := ⟨fun q hq => @monoOfImm q (ip q hq)⟩
  have : Imms plans := ⟨ip⟩
  refine q_asg (r := dFr H (dL plans)) (ev_lst (rs := plans) (ea_cons (ev_tup (rs := [dI 2, dTI [0, 1]]) (ea_cons ev_int (ea_cons t2 ea_nil))) (ea_cons (ev_tup (rs := [dI 3, dTI [0, 1]]) (ea_cons ev_int (ea_cons t2 ea_nil))) (ea_cons (ev_tup (rs := [dI 5, dTI [0, 1]]) (ea_cons ev_int (ea_cons t2 ea_nil))) (ea_cons (ev_tup (rs := [dI 2, dTI [1, 1, 1]]) (ea_cons ev_int (ea_cons t3 ea_nil))) (ea_cons (ev_tup (rs := [dI 3, dTI [1, 0, 1]]) (ea_cons ev_int (ea_cons t3 ea_nil))) (ea_cons (ev_tup (rs := [dI 2, dTI [1, 1, 0, 1]]) (ea_cons ev_int (ea_cons t4 ea_nil))) ea_nil))))))) fun v1 H1 e1 d1 => ?_
  have s21 := s2.same e1
  obtain ⟨⟨p, rfl, hp⟩, p', us, eo, hO, al⟩ := d1
  cases eo
  have hne : p ≠ st := fun z => by
    obtain ⟨a, b, q⟩ := s2
    rw [z, q] at hp
    cases hp
  refine q_asgS (st := st) (r := fun v H => ∃ i : Fin 6, dT [dI (fx i).p, dTI (fx i).m] v H) s21 (fun H2 k2 Q q => ?_) fun v2 H2 k2 d2 => ?_
  · refine ⟨.ref p, rfl, ?_⟩
    refine es_take (st := st) (m := 6) (k := 0) (H := H1) rfl (by decide) (by decide) (fun H2 k2 => ev_int) H2 k2 _ fun v H3 k3 d3 => ?_
    obtain ⟨n, hn, rfl⟩ := d3
    have hn6 : n < 6 := by omega
    have hat := plans_at ⟨n, hn6⟩
    obtain ⟨v, hv, dv⟩ := al.at hat
    have hO3 := k3.kp p _ hne (k2.kp p _ hne hO)
    exact .inl ⟨p, us, _, v, rfl, rfl, SqL.of hO3, atI_nat hv, q _ H3 k3 ⟨⟨n, hn6⟩, @Kp.imm _ _ _ _ _ (ip _ (List.mem_of_getElem? hat)) s21 (k2.trans k3) dv⟩⟩
  · obtain ⟨i, d2⟩ := d2
    refine s_ret (ev_make (S := S_m_Field_init K) (r := dFld K i) (ea_cons (ev_ixI (k := 0) (ra := dT [dI (fx i).p, dTI (fx i).m]) (ev_var rfl d2) (ev_int (i := 0)) rfl rfl) (ea_cons (ev_ixI (k := 1) (ra := dT [dI (fx i).p, dTI (fx i).m]) (ev_var rfl d2) (ev_int (i := 1)) rfl rfl) ea_nil)) ⟨i, rfl, rfl⟩) fun v H3 e3 d => k i v H3 ((kp_same s2 e1).trans (k2.trans (kp_same k2.s2 e3))) d
end
end K35
set_option Elab.async false
set_option linter.all false
set_option maxRecDepth 100000
set_option maxHeartbeats 4000000
namespace K35
open PySem PySem.Spec L2
section
variable {P : Program} {w : World} {K : PySem.W.Frag} {mg : Str → Option Value} {base : Heap}

theorem ok_m_Field_member (T : Tx K mg) : Met P w K mg base 2 (cF K) "member" (spP (S_m_Field_member K)) := by
  have G_f_is_integer := ok_f_is_integer (P := P) (w := w) (base := base) T
  refine met_of T.d_m_Field_member sc_m_Field_member (by rintro H rs r ⟨_, _, _, rfl, _⟩; rfl) fun f cdv A outer s H vs Q E rs r hr hS ha k => ?_
  obtain ⟨i, kk, hk, rfl, rfl⟩ := hS
  obtain ⟨vs, ws, rfl, dvs, ha⟩ := ha.cons_inv
  obtain ⟨vk, ws, rfl, dvk, ha⟩ := ha.cons_inv
  have e := ha.nil_inv
  subst e
  refine ⟨_, (pss_cons (ps_if (PW.pt (pw_or (pt_not (pt_val (pe_cal G_f_is_integer hr (by decide) (by rfl) (pa_cons (pv 1) pa_nil)))) (pw_or (pt_cmpR c_lt (pv 1) pe_int (nomark _)) (pw_or1 (pt_cmpR c_ge (pv 1) (pe_fld (pv 0) rfl) (nomark _)))))) (pss_one ps_never) pss_nil)
    (pss_cons (ps_set (i := 2) sc_m_Field_member.nd rfl (by first | exact Or.inl rfl | exact Or.inr rfl) (pe_lst pa_nil))
    (pss_cons (ps_set (i := 3) sc_m_Field_member.nd rfl (by first | exact Or.inl rfl | exact Or.inr rfl) (pv 1))
    (pss_cons (ps_for PassesOwn.never rfl (pi_range1 rfl T.z_range (pa_cons (pe_fld (pv 0) rfl) pa_nil)) (pg_name (i := 4) sc_m_Field_member.nd rfl (by first | exact Or.inl rfl | exact Or.inr rfl)) (pss_cons (ps_expr (pe_bm PySem.F.plainAttrs_list PySem.F.slot_list_append PySem.F.type_list_append mt_append (pv 2) (pa_cons (pe_op c_mod (pv 3) (pe_fld (pv 0) rfl)) pa_nil)))
    (pss_one (ps_set (i := 3) sc_m_Field_member.nd rfl (by first | exact Or.inl rfl | exact Or.inr rfl) (pe_op c_div (pv 3) (pe_fld (pv 0) rfl))))))
    (pss_one (ps_ret (pe_callTy c_tuple (by rfl) T.z_tuple b_tuple (pa_cons (pv 2) pa_nil)))))))), ?_⟩
  have ek : vk = .int (kk : Int) := dvk
  subst ek
  have h0 := okP_pos (okP_fx i)
  have h4 := okP_le (okP_fx i)
  have hn3 := (len_fx i).1
  refine q_no ((et_or (b := false) (c := false) (et_not (b := true) (et_test (ev_call (r := dB true) (ea_cons (ev_var (r := dI (kk : Int)) rfl rfl) ea_nil) fun H1 => ⟨_, rfl, rfl⟩))) fun _ => et_or (b := false) (c := false) ((et_test (ev_lt (ev_var (r := dI (kk : Int)) rfl rfl) (ev_int (i := 0)))).eq (decide_eq_false (by omega))) fun _ => (et_test (ev_ge (ev_var (r := dI (kk : Int)) rfl rfl) (ev_fq T (ev_var rfl dvs)))).eq (decide_eq_false (by omega)))) fun H1 e1 => ?_
  replace dvs := Mono.m _ _ _ e1 dvs
  replace k := fun v H' e' d' => k v H' (Same.trans e1 e') d'
  refine q_asg (r := dFr H1 (dL [])) (ev_lst ea_nil) fun v1 H2 e2 d1 => ?_
  obtain ⟨⟨o, rfl, ho⟩, o', us, eo, hO, al⟩ := d1
  cases eo
  refine q_asg (ev_var (r := dI (kk : Int)) rfl rfl) fun v2 H3 e3 d2 => ?_
  have ek : v2 = .int (kk : Int) := d2
  subst ek
  replace dvs := Mono.m _ _ _ (e2.trans e3) dvs
  refine q_forJ (ei_rng1 (ev_fn T (ev_var rfl dvs)) (by omega) (by omega)) fun H4 e4 => ⟨fun j σ' H' => Same H1 H' ∧ Le H4 H' ∧ ∃ us acc left x4, σ' = [some vs, some (.int (kk : Int)), some (.ref o), some (.int ((left : Nat) : Int)), x4] ∧ H' o = some (.lst us) ∧ us.length = j ∧ Alls H' us (dIs acc) ∧ acc ++ digits (fx i).p ((fx i).n - j) left = digits (fx i).p (fx i).n kk,
    ⟨(e2.trans e3).trans e4, le_refl _, us, [], kk, none, rfl, e4 _ _ (e3 _ _ hO), (by rw [al.nil_inv]; rfl), al.mono (e3.trans e4), rfl⟩, fun j σ' H' hi h => h.2.1, fun j σ' H' hi h xx H'' s'' y => ?_, fun σ' H' h => ?_⟩
  · obtain ⟨sm, le, us, acc, left, x4, rfl, hO, hu, al, hd⟩ := h
    rw [Int.toNat_natCast] at hi
    have dF := Imm.m _ _ _ (le_trans (le_of e4) (le_trans le (le_of s''))) dvs
    obtain ⟨m, hm⟩ : ∃ m, (fx i).n - j = m + 1 := ⟨(fx i).n - j - 1, by omega⟩
    show tSeq _ _ _ [some vs, some (.int (kk : Int)), some (.ref o), some (.int ((left : Nat) : Int)), some xx] H''
    refine q_app (p := o) (vs := us) rfl (s'' _ _ hO) (by omega) (ev_mod h0 (ev_var (r := dI (left : Int)) rfl rfl) (ev_fp T (ev_var rfl dF))) fun v5 H5 e5 d5 hO5 => ?_
    have L5 := le_set (ys := us ++ [v5]) hO5
    have dF5 := Imm.m _ _ _ (le_trans (le_of e5) L5) dF
    refine s_asg (ev_div ⟨h0, by omega⟩ (ev_var (r := dI (left : Int)) rfl rfl) (ev_fp T (ev_var rfl dF5))) fun v6 H6 e6 d6 => ?_
    have hdiv : (left : Int) / (fx i).p = ((left / (fx i).p.toNat : Nat) : Int) := by
      rw [Int.natCast_ediv, Int.toNat_of_nonneg (by omega)]
    have ev : v6 = .int ((left / (fx i).p.toNat : Nat) : Int) := by rw [← hdiv]; exact d6
    subst ev
    refine ⟨(same_mut ((sm.trans s'').trans e5) ho).trans e6, le_trans le (le_trans (le_of (s''.trans e5)) (le_trans L5 (le_of e6))), us ++ [v5], acc ++ [(left : Int) % (fx i).p], left / (fx i).p.toNat, _, rfl, e6 _ _ upd_same, (by rw [List.length_append, hu]; rfl), ?_, ?_⟩
    · have a1 := (al.imm (le_trans (le_of (s''.trans e5)) (le_trans L5 (le_of e6)))).append (alls_cons (Imm.m _ _ _ (le_trans L5 (le_of e6)) d5) alls_nil)
      have e7 : dIs (acc ++ [(left : Int) % (fx i).p]) = dIs acc ++ [dI ((left : Int) % (fx i).p)] := by
        unfold dIs
        rw [List.map_append]
        rfl
      rw [e7]
      exact a1
    · rw [hm] at hd
      rw [show (fx i).n - (j + 1) = m by omega, List.append_assoc]
      exact hd
  · obtain ⟨sm, le, us, acc, left, x4, rfl, hO, hu, al, hd⟩ := h
    rw [Int.toNat_natCast, Nat.sub_self] at hd
    have hacc : acc = dec (elt i kk) := by
      have e8 : acc ++ [] = digits (fx i).p (fx i).n kk := hd
      rw [List.append_nil] at e8
      rw [e8]
      show digits (fx i).p (fx i).n kk = digits (fx i).p (fx i).n (kk % qs i)
      rw [Nat.mod_eq_of_lt hk]
    subst hacc
    exact s_ret (ev_tuple (r := dL (dIs (dec (elt i kk)))) (ev_var rfl ⟨o, us, rfl, hO, al⟩)) fun v7 H7 e7 d7 => k v7 H7 (sm.trans e7) d7
end
end K35
set_option Elab.async false
set_option linter.all false
set_option maxRecDepth 100000
set_option maxHeartbeats 4000000
namespace K35
open PySem PySem.Spec L2
section
variable {P : Program} {w : World} {K : PySem.W.Frag} {mg : Str → Option Value} {base : Heap}

theorem ok_f_law_drawn (T : Tx K mg) : Cal P w K mg base 3 "_law_drawn" (spDrawn K) := by
  have G_m_Field_member := ok_m_Field_member (P := P) (w := w) (base := base) T
  have G_f_law_take := ok_f_law_take (P := P) (w := w) (base := base) T
  refine cal_ofG T.d_f_law_drawn sc_f_law_drawn (by rintro vs H Q E ⟨st, fv, i, rfl, _⟩; rfl) fun f cdv A outer s H vs Q E hr hS => ?_
  obtain ⟨st, fv, i, rfl, s2, df, k⟩ := hS
  refine ⟨_, (pss_one (ps_ret (pe_met G_m_Field_member hr (by decide) (pv 1) (pa_cons (pe_cal G_f_law_take hr (by decide) (by rfl) (pa_cons (pv 0) (pa_cons (pe_fld (pv 1) rfl) pa_nil))) pa_nil)))), ?_⟩
  have hq : ∀ i : Fin 6, 0 < ((qs i : Nat) : Int) ∧ ((qs i : Nat) : Int) ≤ 1000 := by decide +kernel
  refine s_retS (st := st) (r := dElt i) s2 (es_met1 (r1 := dLt ((qs i : Nat) : Int)) (fun H1 k1 => ev_var (r := dFld K i) rfl (k1.imm s2 df)) (es_take (m := ((qs i : Nat) : Int)) rfl (hq i).1 (hq i).2 fun H2 k2 => ev_fq T (ev_var rfl (k2.imm s2 df))) (by decide) fun v H1 d => ?_) k
  obtain ⟨n, hn, rfl⟩ := d
  exact ⟨dI (n : Int), _, rfl, ⟨i, n, by omega, rfl, rfl⟩, fun w H2 d2 => ⟨_, d2⟩⟩
end
end K35
set_option Elab.async false
set_option linter.all false
set_option maxRecDepth 100000
set_option maxHeartbeats 4000000
namespace K35
open PySem PySem.Spec L2
section
variable {P : Program} {w : World} {K : PySem.W.Frag} {mg : Str → Option Value} {base : Heap}

theorem ok_m_Field_is_member (T : Tx K mg) : Met P w K mg base 3 (cF K) "is_member" (spP (S_m_Field_is_member K)) := by
  have G_f_is_member_row := ok_f_is_member_row (P := P) (w := w) (base := base) T
  refine met_of T.d_m_Field_is_member sc_m_Field_is_member (by rintro H rs r ⟨_, _, rfl, _⟩; rfl) fun f cdv A outer s H vs Q E rs r hr hS ha k => ?_
  obtain ⟨i, a, rfl, rfl⟩ := hS
  obtain ⟨vs, ws, rfl, dvs, ha⟩ := ha.cons_inv
  obtain ⟨va, ws, rfl, dva, ha⟩ := ha.cons_inv
  have e := ha.nil_inv
  subst e
  refine ⟨_, (pss_one (ps_ret (pe_cal G_f_is_member_row hr (by decide) (by rfl) (pa_cons (pv 1) (pa_cons (pe_fld (pv 0) rfl) (pa_cons (pe_fld (pv 0) rfl) pa_nil)))))), ?_⟩
  exact s_ret (ev_call (ea_cons (ev_var (r := dM a) rfl dva) (ea_cons (ev_fn T (ev_var rfl dvs)) (ea_cons (ev_fp T (ev_var rfl dvs)) ea_nil))) fun H1 => ⟨i, a, rfl, rfl⟩) k
end
end K35
set_option Elab.async false
set_option linter.all false
set_option maxRecDepth 100000
set_option maxHeartbeats 4000000
namespace K35
open PySem PySem.Spec L2
section
variable {P : Program} {w : World} {K : PySem.W.Frag} {mg : Str → Option Value} {base : Heap}

theorem ok_m_Recurrence_init (T : Tx K mg) : Mak P w K mg base 4 "Recurrence" (cR K) (spI (cR K) (S_m_Recurrence_init K)) := by
  have G_m_Field_is_member := ok_m_Field_is_member (P := P) (w := w) (base := base) T
  refine mak_of T.d_m_Recurrence_init sc_m_Recurrence_init (by rintro rs r ⟨_, _, rfl, _⟩; rfl) fun f cdv A outer s H0 x dx ws Q E rs r hr hx hdx ne hS ha k => ?_
  obtain ⟨i, c, rfl, rfl⟩ := hS
  obtain ⟨vf, ws, rfl, dvf, ha⟩ := ha.cons_inv
  obtain ⟨vc, ws, rfl, dvc, ha⟩ := ha.cons_inv
  have e := ha.nil_inv
  subst e
  refine ⟨_, (pss_cons (ps_for PassesOwn.never rfl (pi_tup (pv 2)) (pg_name (i := 3) sc_m_Recurrence_init.nd rfl (by first | exact Or.inl rfl | exact Or.inr rfl)) (pss_one (ps_if (pt_not (pt_val (pe_met G_m_Field_is_member hr (by decide) (pv 1) (pa_cons (pv 3) pa_nil)))) (pss_one ps_never) pss_nil)))
    (pss_cons (ps_fld (pv 0) (pv 1) rfl)
    (pss_one (ps_fld (pv 0) (pe_callTy c_tuple (by rfl) T.z_tuple b_tuple (pa_cons (pv 2) pa_nil)) rfl)))), ?_⟩
  obtain ⟨S0, I0⟩ := ins0 (C := cR K) hx hdx
  generalize upd (upd H0 dx (.own x)) x (.ins (cR K) dx []) = H at S0 I0 ⊢
  refine q_forJ (ei_tup (ev_var (r := dT (dV c)) rfl (Mono.m _ _ _ S0 dvc))) fun H2 e2 => ⟨fun j σ' H' => Same H2 H' ∧ ∃ x3, σ' = [some (.ref x), some vf, some vc, x3], ⟨Same.refl _, none, rfl⟩, fun j σ' H' hi h => le_of h.1, fun j σ' H' hi h xx H'' s'' y => ?_, fun σ' H' h => ?_⟩
  · obtain ⟨sm, x3, rfl⟩ := h
    rw [dV_len] at hi
    rw [yAt_V hi] at y
    show tIfS _ _ _ _ [some (.ref x), some vf, some vc, some xx] H''
    have S3 := S0.trans (e2.trans (sm.trans s''))
    refine s_if (b := false) (et_not (b := true) (et_test (ev_met (ev_var (r := dFld K i) rfl (Mono.m _ _ _ S3 dvf)) (ea_cons (ev_var rfl y) ea_nil) (by decide) fun H1 => ⟨i, _, rfl, rfl⟩))) (fun z => nomatch z) fun _ H3 e3 => ?_
    exact ⟨(sm.trans s'').trans e3, _, rfl⟩
  · obtain ⟨sm, x3, rfl⟩ := h
    have e3 := e2.trans sm
    refine q_fldS (H0 := H0) rfl (S0.trans e3) hx (I0.mono e3) rfl T.c_Recurrence T.n_Recurrence_field rfl (by decide) (ev_var (r := dAt H0 (dFld K i)) rfl dvf) fun v2 H3 S3 _ I3 => ?_
    refine s_fldS (H0 := H0) rfl S3 hx I3 rfl T.c_Recurrence T.n_Recurrence_multiples rfl (by decide) (ev_tuple (K := K) (ev_var (r := dT (dV c)) rfl (Mono.m _ _ _ S3 dvc))) fun v3 H4 S4 _ I4 => ?_
    refine k H4 S4 ?_
    obtain ⟨ws, h1, h2⟩ := I4
    obtain ⟨w1, ws, rfl, g1, h2⟩ := Alls.cons_inv (r := dAt H0 (dFld K i)) (rs := [dT (dV c)]) h2
    exact ⟨x, dx, _, rfl, h1, alls_cons (Mono.m _ _ _ S4 g1) h2⟩
end
end K35
set_option Elab.async false
set_option linter.all false
set_option maxRecDepth 100000
set_option maxHeartbeats 4000000
namespace K35
open PySem PySem.Spec L2
section
variable {P : Program} {w : World} {K : PySem.W.Frag} {mg : Str → Option Value} {base : Heap}

theorem ok_f_dot (T : Tx K mg) : Cal P w K mg base 5 "dot" (spP (S_f_dot K)) := by
  have G_m_Field_zero := ok_m_Field_zero (P := P) (w := w) (base := base) T
  have G_m_Field_add := ok_m_Field_add (P := P) (w := w) (base := base) T
  have G_m_Field_multiply := ok_m_Field_multiply (P := P) (w := w) (base := base) T
  refine cal_of T.d_f_dot sc_f_dot (by rintro H rs r ⟨_, _, _, _, _, _, rfl, _⟩; rfl) fun f cdv A outer s H vs Q E rs r hr hS ha k => ?_
  obtain ⟨i, a, b, sd, la, hs, rfl, rfl⟩ := hS
  obtain ⟨vf, ws, rfl, dvf, ha⟩ := ha.cons_inv
  obtain ⟨va, ws, rfl, dva, ha⟩ := ha.cons_inv
  obtain ⟨vb, ws, rfl, dvb, ha⟩ := ha.cons_inv
  have e := ha.nil_inv
  subst e
  have := hs.sq
  have := hs.mo
  refine ⟨_, (pss_cons (ps_set (i := 3) sc_f_dot.nd rfl (by first | exact Or.inl rfl | exact Or.inr rfl) (pe_met0 G_m_Field_zero hr (by decide) (pv 0)))
    (pss_cons (ps_for PassesOwn.never rfl (pi_zpX (by rfl) T.z_zip (pa_cons (pv 1) (pa_cons (pv 2) pa_nil))) (pg_tup rfl (pgs_cons (pg_name (i := 4) sc_f_dot.nd rfl (by first | exact Or.inl rfl | exact Or.inr rfl)) (pgs_cons (pg_name (i := 5) sc_f_dot.nd rfl (by first | exact Or.inl rfl | exact Or.inr rfl)) pgs_nil))) (pss_one (ps_set (i := 3) sc_f_dot.nd rfl (by first | exact Or.inl rfl | exact Or.inr rfl) (pe_met G_m_Field_add hr (by decide) (pv 0) (pa_cons (pv 3) (pa_cons (pe_met G_m_Field_multiply hr (by decide) (pv 0) (pa_cons (pv 4) (pa_cons (pv 5) pa_nil))) pa_nil))))))
    (pss_one (ps_ret (pv 3))))), ?_⟩
  refine q_asg (ev_F0 (ev_var (r := dFld K i) rfl dvf)) fun v3 H1 e1 d3 => ?_
  replace dvf := Mono.m _ _ _ e1 dvf
  replace dva := Mono.m _ _ _ e1 dva
  replace dvb := Mono.m _ _ _ e1 dvb
  replace k := fun v H' e' d' => k v H' (Same.trans e1 e') d'
  refine q_forI (ei_zp (ev_var (r := dT (dV a)) rfl dva) (ev_var (r := sd) rfl dvb)) fun H2 e2 => ⟨fun j σ' H' => Same H2 H' ∧ ∃ v3 x4 x5, σ' = [some vf, some va, some vb, some v3, x4, x5] ∧ dM (fdotN a b j) v3 H', ⟨Same.refl _, v3, none, none, rfl, Mono.m _ _ _ e2 d3⟩, fun j σ' H' hi h => h.1, fun j σ' H' hi h xx H'' s'' y => ?_, fun σ' H' h => ?_⟩
  · obtain ⟨sm, v3, x4, x5, rfl, d3⟩ := h
    rw [dV_len, dV_len] at hi
    obtain ⟨vx, vy, dx, dy, bd⟩ := bd_pair (K := K) (σ := [some vf, some va, some vb, some v3, x4, x5]) (k := 4) (m := 5) y
    refine bd _ ?_
    rw [yAt_V (by omega)] at dx dy
    refine s_asg (ev_Fa (ev_var (r := dFld K i) rfl (Mono.m _ _ _ ((e2.trans sm).trans s'') dvf)) (ev_var rfl (Mono.m _ _ _ s'' d3)) (ev_Fm (ev_var (r := dFld K i) rfl (Mono.m _ _ _ ((e2.trans sm).trans s'') dvf)) (ev_var rfl dx) (ev_var rfl dy))) fun v6 H3 e3 d6 => ?_
    exact ⟨(sm.trans s'').trans e3, v6, _, _, rfl, by rw [fdotN_succ (by omega) (by omega)]; exact d6⟩
  · obtain ⟨sm, v3, x4, x5, rfl, d3⟩ := h
    rw [dV_len, dV_len, fdotN_all (Nat.le_refl _)] at d3
    exact s_ret (ev_var rfl d3) fun v H3 e3 d => k v H3 ((e2.trans sm).trans e3) d
end
end K35
set_option Elab.async false
set_option linter.all false
set_option maxRecDepth 100000
set_option maxHeartbeats 4000000
namespace K35
open PySem PySem.Spec L2
section
variable {P : Program} {w : World} {K : PySem.W.Frag} {mg : Str → Option Value} {base : Heap}
theorem fext_succ {F : Type} [Fld F] (c : List F) (k : Nat) (out : List F) : fext c (k + 1) out = fext c k (out ++ [fnext c out]) := rfl
theorem ok_m_Recurrence_row (T : Tx K mg) : Met P w K mg base 6 (cR K) "_row" (spP (S_m_Recurrence_row K)) := by
  have G_f_dot := ok_f_dot (P := P) (w := w) (base := base) T
  refine met_of T.d_m_Recurrence_row sc_m_Recurrence_row (by rintro H rs r ⟨_, _, _, _, _, _, _, rfl, _⟩; rfl) fun f cdv A outer s H vs Q E rs r hr hS ha k => ?_
  obtain ⟨i, c, fi, n, hc, hl, hn, rfl, rfl⟩ := hS
  obtain ⟨vs, ws, rfl, dvs, ha⟩ := ha.cons_inv
  obtain ⟨vf, ws, rfl, dvf, ha⟩ := ha.cons_inv
  obtain ⟨vn, ws, rfl, dvn, ha⟩ := ha.cons_inv
  have e := ha.nil_inv
  subst e
  refine ⟨_, (pss_cons (ps_set (i := 3) sc_m_Recurrence_row.nd rfl (by first | exact Or.inl rfl | exact Or.inr rfl) (pe_callTy c_list (by rfl) T.z_list b_list (pa_cons (pv 1) pa_nil)))
    (pss_cons (ps_while PassesOwn.never (pt_cmpR c_lt (pe_callB c_len (by rfl) T.z_len PySem.boot_len (pa_cons (pv 3) pa_nil)) (pv 2) (nomark _)) (pss_cons (ps_set (i := 4) sc_m_Recurrence_row.nd rfl (by first | exact Or.inl rfl | exact Or.inr rfl) (pe_slice c_sl (pv 3) (po_some (pe_op c_sub (pe_callB c_len (by rfl) T.z_len PySem.boot_len (pa_cons (pv 3) pa_nil)) (pe_callB c_len (by rfl) T.z_len PySem.boot_len (pa_cons (pv 1) pa_nil)))) po_none))
    (pss_one (ps_expr (pe_bm PySem.F.plainAttrs_list PySem.F.slot_list_append PySem.F.type_list_append mt_append (pv 3) (pa_cons (pe_cal G_f_dot hr (by decide) (by rfl) (pa_cons (pe_fld (pv 0) rfl) (pa_cons (pe_fld (pv 0) rfl) (pa_cons (pv 4) pa_nil)))) pa_nil))))))
    (pss_one (ps_ret (pe_slice c_sl (pv 3) po_none (po_some (pv 2))))))), ?_⟩
  have en : vn = .int (n : Int) := dvn
  subst en
  refine q_asg (ev_list (K := K) (ev_var (r := dT (dV fi)) rfl dvf)) fun v3 H1 e1 d3 => ?_
  replace dvs := Mono.m _ _ _ e1 dvs
  replace dvf := Mono.m _ _ _ e1 dvf
  obtain ⟨⟨o, rfl, ho⟩, o', us, eo, hO, al⟩ := d3
  cases eo
  have dF0 := dvf
  refine q_while (fun m σ' H' => Same H H' ∧ Le H1 H' ∧ ∃ cur us x4, σ' = [some vs, some vf, some (.int (n : Int)), some (.ref o), x4] ∧ H' o = some (.lst us) ∧ Alls H' us (dV cur) ∧ m = n - cur.length ∧ c.length ≤ cur.length ∧ cur.length ≤ 800 ∧ fext c (n - cur.length) cur = fext c (n - fi.length) fi) (n - fi.length) ⟨e1, le_refl _, fi, us, none, rfl, hO, al, rfl, by omega, by omega, rfl⟩ fun m σ' H' hW => ?_
  obtain ⟨sm, le, cur, us, x4, rfl, hO, al, rfl, h1, h2, h3⟩ := hW
  have dO : dL (dV cur) (.ref o) H' := ⟨o, us, rfl, hO, al⟩
  have hlo : ∀ H2, Same H' H2 → Ev (tCB (pLen K) (tCons (tVar 3) tNil)) [some vs, some vf, some (.int (n : Int)), some (.ref o), x4] H2 (dI (cur.length : Int)) := fun H2 e2 => (ev_len (K := K) (ev_var (r := dL (dV cur)) rfl (Mono.m _ _ _ e2 dO))).eq (by rw [dV_len])
  refine ⟨_, et_test (ev_lt (hlo _ (Same.refl _)) (ev_var (r := dI (n : Int)) rfl rfl)), fun z H2 e2 => ?_, fun z H2 e2 => ?_⟩
  · have z := of_decide_eq_true z
    have ds := Imm.m _ _ _ (le_trans le (le_of e2)) dvs
    have df := Imm.m _ _ _ (le_trans le (le_of e2)) dvf
    refine q_asg (ev_slL (K := K) (ss := dV (cur.drop (cur.length - c.length))) (ev_var (r := dL (dV cur)) rfl (Mono.m _ _ _ e2 dO)) (eo_some ((ev_sub (hlo _ e2) (ev_len (K := K) (ev_var (r := dT (dV fi)) rfl df))).eq (by rw [dV_len, hl, show ((cur.length : Int) - (c.length : Int)) = ((cur.length - c.length : Nat) : Int) by omega]))) eo_none (by rw [cut_some_none, dV_drop])) fun v4 H3 e3 d4 => ?_
    replace ds := Mono.m _ _ _ e3 ds
    have hO3 := e3 _ _ (e2 _ _ hO)
    have al3 := al.mono (e2.trans e3)
    have hul : us.length < 100000 := by
      rw [al.len, dV_len]
      omega
    refine s_app (p := o) (vs := us) (r := dM (fnext c cur)) rfl hO3 hul (ev_call (S := S_f_dot K) (ea_cons (ev_rf T (ev_var (r := dRec K c) rfl ds)) (ea_cons (ev_rm T (ev_var (r := dRec K c) rfl ds)) (ea_cons (ev_var rfl d4) ea_nil))) fun H4 => ⟨i, c, cur.drop (cur.length - c.length), _, by omega, isSq, rfl, rfl⟩) fun v H4 e4 d hO4 => ?_
    refine ⟨n - (cur.length + 1), by omega, same_mut ((sm.trans e2).trans (e3.trans e4)) ho, le_trans le (le_trans (le_of (e2.trans (e3.trans e4))) (le_set hO4)), cur ++ [fnext c cur], us ++ [v], _, rfl, upd_same, ?_, by rw [List.length_append]; rfl, by rw [List.length_append]; omega, by rw [List.length_append, List.length_singleton]; omega, ?_⟩
    · rw [dV_app]
      exact (al3.imm (le_trans (le_of e4) (le_set hO4))).append (alls_cons (Imm.m _ _ _ (le_set hO4) d) alls_nil)
    · rw [← h3, List.length_append, List.length_singleton, show n - cur.length = (n - (cur.length + 1)) + 1 by omega]
      rfl
  · have z := of_decide_eq_false z
    rw [show n - cur.length = 0 by omega] at h3
    have h3 : cur = fext c (n - fi.length) fi := h3
    refine s_ret (ev_slL (K := K) (ss := dV (frow c fi n)) (ev_var (r := dL (dV cur)) rfl (Mono.m _ _ _ e2 dO)) eo_none (eo_some (ev_var (r := dI (n : Int)) rfl rfl)) ?_) fun v H3 e3 d => k v H3 ((sm.trans e2).trans e3) ⟨let ⟨q, h1, h2⟩ := d.1; ⟨q, h1, (sm.trans e2).free h2⟩, d.2⟩
    unfold frow
    rw [cut_none_some, dV_take, ← h3]
end
end K35
set_option Elab.async false
set_option linter.all false
set_option maxRecDepth 100000
set_option maxHeartbeats 4000000
namespace K35
open PySem PySem.Spec L2
section
variable {P : Program} {w : World} {K : PySem.W.Frag} {mg : Str → Option Value} {base : Heap}

theorem ok_m_Recurrence_checked (T : Tx K mg) : Met P w K mg base 4 (cR K) "_checked" (spP (S_m_Recurrence_checked K)) := by
  have G_m_Field_is_member := ok_m_Field_is_member (P := P) (w := w) (base := base) T
  refine met_of T.d_m_Recurrence_checked sc_m_Recurrence_checked (by rintro H rs r ⟨_, _, _, _, rfl, _⟩; rfl) fun f cdv A outer s H vs Q E rs r hr hS ha k => ?_
  obtain ⟨i, c, fi, hl, rfl, rfl⟩ := hS
  obtain ⟨vs, ws, rfl, dvs, ha⟩ := ha.cons_inv
  obtain ⟨va, ws, rfl, dva, ha⟩ := ha.cons_inv
  have e := ha.nil_inv
  subst e
  refine ⟨_, (pss_cons (ps_if (PW.pt (pw_or (pt_not (pt_val (pe_callB call_isiT (by rfl) T.z_isinstance b_isinstance (pa_cons (pv 1) (pa_cons (pe_tup (pa_cons (pe_bltn (v := .ty "tuple") (by rfl) T.z_tuple b_tuple rfl) (pa_cons (pe_bltn (v := .ty "list") (by rfl) T.z_list b_list rfl) pa_nil))) pa_nil))))) (pw_or1 (pt_cmpR op_ne (pe_callB c_len (by rfl) T.z_len PySem.boot_len (pa_cons (pv 1) pa_nil)) (pe_callB c_len (by rfl) T.z_len PySem.boot_len (pa_cons (pe_fld (pv 0) rfl) pa_nil)) (nomark _))))) (pss_one ps_never) pss_nil)
    (pss_cons (ps_for PassesOwn.never rfl (pi_tup (pv 1)) (pg_name (i := 2) sc_m_Recurrence_checked.nd rfl (by first | exact Or.inl rfl | exact Or.inr rfl)) (pss_one (ps_if (pt_not (pt_val (pe_met G_m_Field_is_member hr (by decide) (pe_fld (pv 0) rfl) (pa_cons (pv 2) pa_nil)))) (pss_one ps_never) pss_nil)))
    (pss_one (ps_ret (pe_callTy c_tuple (by rfl) T.z_tuple b_tuple (pa_cons (pv 1) pa_nil)))))), ?_⟩
  refine q_no (et_or (b := false) (c := false) (et_not (b := true) (et_test (ev_isi2 (ev_var (r := dT (dV fi)) rfl dva) (fun v H d => tyX_tup d) (kitAny_cons (b := true) (by unfold PySem.W.kitOne; rw [if_pos (by decide)]) (fun z => nomatch z) fun _ => rfl)))) fun _ => (et_test (ev_neI (ev_len (K := K) (ev_var (r := dT (dV fi)) rfl dva)) (ev_len (K := K) (ev_rm T (ev_var (r := dRec K c) rfl dvs))))).eq (by rw [dV_len, dV_len, hl, decide_eq_true rfl]; rfl)) fun H1 e1 => ?_
  replace dvs := Mono.m _ _ _ e1 dvs
  replace dva := Mono.m _ _ _ e1 dva
  replace k := fun v H' e' d' => k v H' (Same.trans e1 e') d'
  refine q_forJ (ei_tup (ev_var (r := dT (dV fi)) rfl dva)) fun H2 e2 => ⟨fun j σ' H' => Same H2 H' ∧ ∃ x2, σ' = [some vs, some va, x2], ⟨Same.refl _, none, rfl⟩, fun j σ' H' hi h => le_of h.1, fun j σ' H' hi h xx H'' s'' y => ?_, fun σ' H' h => ?_⟩
  · obtain ⟨sm, x2, rfl⟩ := h
    rw [dV_len] at hi
    rw [yAt_V hi] at y
    show tIfS _ _ _ _ [some vs, some va, some xx] H''
    refine s_if (b := false) (et_not (b := true) (et_test (ev_met (ev_rf T (ev_var (r := dRec K c) rfl (Mono.m _ _ _ (e2.trans (sm.trans s'')) dvs))) (ea_cons (ev_var rfl y) ea_nil) (by decide) fun H1 => ⟨i, _, rfl, rfl⟩))) (fun z => nomatch z) fun _ H3 e3 => ?_
    exact ⟨(sm.trans s'').trans e3, _, rfl⟩
  · obtain ⟨sm, x2, rfl⟩ := h
    replace dva := Mono.m _ _ _ (e2.trans sm) dva
    replace k := fun v H' e' d' => k v H' (Same.trans (e2.trans sm) e') d'
    exact s_ret (ev_tuple (K := K) (ev_var (r := dT (dV fi)) rfl dva)) k
end
end K35
set_option Elab.async false
set_option linter.all false
set_option maxRecDepth 100000
set_option maxHeartbeats 4000000
namespace K35
open PySem PySem.Spec L2
section
variable {P : Program} {w : World} {K : PySem.W.Frag} {mg : Str → Option Value} {base : Heap}

theorem ok_f_subtract (T : Tx K mg) : Cal P w K mg base 3 "subtract" (spP (S_f_subtract K)) := by
  have G_m_Field_add := ok_m_Field_add (P := P) (w := w) (base := base) T
  have G_m_Field_negative := ok_m_Field_negative (P := P) (w := w) (base := base) T
  refine cal_of T.d_f_subtract sc_f_subtract (by rintro H rs r ⟨_, _, _, rfl, _⟩; rfl) fun f cdv A outer s H vs Q E rs r hr hS ha k => ?_
  obtain ⟨i, a, b, rfl, rfl⟩ := hS
  obtain ⟨vf, ws, rfl, dvf, ha⟩ := ha.cons_inv
  obtain ⟨va, ws, rfl, dva, ha⟩ := ha.cons_inv
  obtain ⟨vb, ws, rfl, dvb, ha⟩ := ha.cons_inv
  have e := ha.nil_inv
  subst e
  refine ⟨_, (pss_one (ps_ret (pe_met G_m_Field_add hr (by decide) (pv 0) (pa_cons (pv 1) (pa_cons (pe_met G_m_Field_negative hr (by decide) (pv 0) (pa_cons (pv 2) pa_nil)) pa_nil))))), ?_⟩
  exact s_ret (ev_Fa (ev_var rfl dvf) (ev_var (r := dM a) rfl dva) (ev_Fg (ev_var rfl dvf) (ev_var (r := dM b) rfl dvb))) k
end
end K35
set_option Elab.async false
set_option linter.all false
set_option maxRecDepth 100000
set_option maxHeartbeats 4000000
namespace K35
open PySem PySem.Spec L2
section
variable {P : Program} {w : World} {K : PySem.W.Frag} {mg : Str → Option Value} {base : Heap}

theorem ok_f_cleared (T : Tx K mg) : Cal P w K mg base 5 "cleared" (spP (S_f_cleared K)) := by
  have G_f_subtract := ok_f_subtract (P := P) (w := w) (base := base) T
  have G_m_Field_multiply := ok_m_Field_multiply (P := P) (w := w) (base := base) T
  refine cal_of T.d_f_cleared sc_f_cleared (by rintro H rs r ⟨_, _, _, _, _, _, _, _, _, _, _, rfl, _⟩; rfl) fun f cdv A outer s H vs Q E rs r hr hS ha k => ?_
  obtain ⟨i, a, b, sa, sb, kk, la, hab, hk, ha1, hb1, rfl, rfl⟩ := hS
  obtain ⟨vf, ws, rfl, dvf, ha⟩ := ha.cons_inv
  obtain ⟨va, ws, rfl, dva, ha⟩ := ha.cons_inv
  obtain ⟨vb, ws, rfl, dvb, ha⟩ := ha.cons_inv
  obtain ⟨vk, ws, rfl, dvk, ha⟩ := ha.cons_inv
  have e := ha.nil_inv
  subst e
  have := ha1.ls
  have := ha1.mo
  have := hb1.ls
  have := hb1.mo
  refine ⟨_, (pss_cons (ps_set (i := 4) sc_f_cleared.nd rfl (by first | exact Or.inl rfl | exact Or.inr rfl) (pe_ix ix_seq (pv 1) (pv 3) (fun _ _ => rfl)))
    (pss_one (ps_ret (pe_lc (own := [("x", 5), ("y", 6)]) (g := gTup K 2 (gCons (gName 5) (gCons (gName 6) gNil))) (tt := tYes) rfl sc_f_cleared.nd (pi_zpX (by rfl) T.z_zip (pa_cons (pv 1) (pa_cons (pv 2) pa_nil))) (blkOk_by (own := [("x", 5), ("y", 6)]) (N := n_f_cleared) (sc := defScope s_f_cleared) (by decide +kernel)) (fun _ _ _ _ _ => pg_tup rfl (pgs_cons (pg_name (i := 5) sc_f_cleared.nd rfl (Or.inl rfl)) (pgs_cons (pg_name (i := 6) sc_f_cleared.nd rfl (Or.inl rfl)) pgs_nil))) (fun _ _ _ _ _ => pts_nil) (fun _ _ _ _ _ => (pe_cal G_f_subtract hr (by decide) (by rfl) (pa_cons (pv 0) (pa_cons (pv 5) (pa_cons (pe_met G_m_Field_multiply hr (by decide) (pv 0) (pa_cons (pv 4) (pa_cons (pv 6) pa_nil))) pa_nil))))))))), ?_⟩
  have : SeqD sa (dV a) := ha1.sq.sq
  have : SeqD sb (dV b) := hb1.sq.sq
  refine q_asg (ev_atM (ev_var (r := sa) rfl dva) (ev_var (r := dI (kk : Int)) rfl dvk) rfl hk) fun v4 H1 e1 d4 => ?_
  replace dvf := Mono.m _ _ _ e1 dvf
  replace dva := Mono.m _ _ _ e1 dva
  replace dvb := Mono.m _ _ _ e1 dvb
  refine s_ret (ev_lc2 (es := dV (fclear a b kk)) (ei_zp (ev_var (r := sa) rfl dva) (ev_var (r := sb) rfl dvb)) ?_ ?_ (fun _ _ => rfl) fun j d x y H2 hd e2 hx hy => ?_) fun v H2 e2 d => k v H2 (e1.trans e2) ⟨let ⟨q, h1, h2⟩ := d.1; ⟨q, h1, e1.free h2⟩, d.2⟩
  · rw [dV_len, dV_len, dV_len]
    unfold fclear
    rw [List.length_zipWith]
  · rw [dV_len, dV_len]; omega
  · obtain ⟨c, hc, rfl⟩ := dV_inv hd
    obtain ⟨x1, y1, h1, h2, rfl⟩ := zipWith_inv hc
    rw [yAt_some (dV_get h1)] at hx
    rw [yAt_some (dV_get h2)] at hy
    replace dvf := Mono.m _ _ _ e2 dvf
    replace d4 := Mono.m _ _ _ e2 d4
    exact ev_Fs (ev_var rfl dvf) (ev_var rfl hx) (ev_Fm (ev_var rfl dvf) (ev_var rfl d4) (ev_var rfl hy))
end
end K35
set_option Elab.async false
set_option linter.all false
set_option maxRecDepth 100000
set_option maxHeartbeats 4000000
namespace K35
open PySem PySem.Spec L2
section
variable {P : Program} {w : World} {K : PySem.W.Frag} {mg : Str → Option Value} {base : Heap}

theorem ok_f_reduced (T : Tx K mg) : Cal P w K mg base 6 "reduced" (spP (S_f_reduced K)) := by
  have G_m_Field_zero := ok_m_Field_zero (P := P) (w := w) (base := base) T
  have G_m_Field_inverse := ok_m_Field_inverse (P := P) (w := w) (base := base) T
  have G_m_Field_multiply := ok_m_Field_multiply (P := P) (w := w) (base := base) T
  have G_f_cleared := ok_f_cleared (P := P) (w := w) (base := base) T
  refine cal_of T.d_f_reduced sc_f_reduced (by rintro H rs r ⟨_, _, _, _, _, _, _, _, _, _, rfl, _⟩; rfl) fun f cdv A outer s H vs Q E rs r hr hS ha k => ?_
  obtain ⟨i, rows, width, sd, es, hw, hnr, hrows, hs, hes, rfl, rfl⟩ := hS
  obtain ⟨vf, ws, rfl, dvf, ha⟩ := ha.cons_inv
  obtain ⟨vr, ws, rfl, dvr, ha⟩ := ha.cons_inv
  obtain ⟨vw, ws, rfl, dvw, ha⟩ := ha.cons_inv
  have e := ha.nil_inv
  subst e
  have := hs.ls
  have := hs.mo
  have := hs.sq.sq
  refine ⟨_, (pss_cons (ps_set (i := 3) sc_f_reduced.nd rfl (by first | exact Or.inl rfl | exact Or.inr rfl) (pe_lc (own := [("row", 8)]) (g := gName 8) (tt := tYes) rfl sc_f_reduced.nd (pi_list (pv 1)) (blkOk_by (own := [("row", 8)]) (N := n_f_reduced) (sc := defScope s_f_reduced) (by decide +kernel)) (fun _ _ _ _ _ => pg_name (i := 8) sc_f_reduced.nd rfl (Or.inl rfl)) (fun _ _ _ _ _ => pts_nil) (fun _ _ _ _ _ => (pe_callTy (c_listK (K := K) (by rfl)) (by rfl) T.z_list b_list (pa_cons (pv 8) pa_nil)))))
    (pss_cons (ps_set (i := 4) sc_f_reduced.nd rfl (by first | exact Or.inl rfl | exact Or.inr rfl) (pe_lst pa_nil))
    (pss_cons (ps_set (i := 5) sc_f_reduced.nd rfl (by first | exact Or.inl rfl | exact Or.inr rfl) (pe_lst pa_nil))
    (pss_cons (ps_for PassesOwn.never rfl (pi_range1 rfl T.z_range (pa_cons (pv 2) pa_nil)) (pg_name (i := 6) sc_f_reduced.nd rfl (by first | exact Or.inl rfl | exact Or.inr rfl)) (pss_cons (ps_setLc (i := 7) (own := [("k", 12)]) (g := gName 12) rfl sc_f_reduced.nd rfl rfl (sw_true rfl rfl rfl (by decide +kernel)) (pi_range1 rfl T.z_range (pa_cons (pe_callB c_len (by rfl) T.z_len PySem.boot_len (pa_cons (pv 3) pa_nil)) pa_nil)) (blkOk_by (own := [("k", 12)]) (N := n_f_reduced) (sc := defScope s_f_reduced) (by decide +kernel)) (fun _ _ _ _ _ => pg_name (i := 12) sc_f_reduced.nd rfl (Or.inl rfl)) (fun _ _ _ _ _ => pts_one (pt_cmpR (op_neDK (K := K) (by rfl) hr.units) (pe_ix (ix_seqK (K := K) (by rfl)) (pe_ix (ix_seqK (K := K) (by rfl)) (pv 3) (pv 12) (fun _ _ => rfl)) (pv 6) (fun _ _ => rfl)) (pe_met0 G_m_Field_zero hr (by decide) (pv 0)) (nomark _))) (fun _ _ _ _ _ => (pv 12)))
    (pss_one (ps_if (pt_cmpR c_gt (pe_callB c_len (by rfl) T.z_len PySem.boot_len (pa_cons (pv 7) pa_nil)) pe_int (nomark _)) (pss_cons (ps_set (i := 9) sc_f_reduced.nd rfl (by first | exact Or.inl rfl | exact Or.inr rfl) (pe_met G_m_Field_inverse hr (by decide) (pv 0) (pa_cons (pe_ix ix_seq (pe_ix ix_seq (pv 3) (pe_ix ix_seq (pv 7) pe_int (fun _ _ => rfl)) (fun _ _ => rfl)) (pv 6) (fun _ _ => rfl)) pa_nil)))
    (pss_cons (ps_set (i := 10) sc_f_reduced.nd rfl (by first | exact Or.inl rfl | exact Or.inr rfl) (pe_lc (own := [("x", 13)]) (g := gName 13) (tt := tYes) rfl sc_f_reduced.nd (pi_list (pe_ix ix_seq (pv 3) (pe_ix ix_seq (pv 7) pe_int (fun _ _ => rfl)) (fun _ _ => rfl))) (blkOk_by (own := [("x", 13)]) (N := n_f_reduced) (sc := defScope s_f_reduced) (by decide +kernel)) (fun _ _ _ _ _ => pg_name (i := 13) sc_f_reduced.nd rfl (Or.inl rfl)) (fun _ _ _ _ _ => pts_nil) (fun _ _ _ _ _ => (pe_met G_m_Field_multiply hr (by decide) (pv 0) (pa_cons (pv 9) (pa_cons (pv 13) pa_nil))))))
    (pss_cons (ps_set (i := 11) sc_f_reduced.nd rfl (by first | exact Or.inl rfl | exact Or.inr rfl) (pe_op op_cat (pe_slice c_sl (pv 3) po_none (po_some (pe_ix ix_seq (pv 7) pe_int (fun _ _ => rfl)))) (pe_slice c_sl (pv 3) (po_some (pe_op c_add (pe_ix ix_seq (pv 7) pe_int (fun _ _ => rfl)) pe_int)) po_none)))
    (pss_cons (ps_set (i := 3) sc_f_reduced.nd rfl (by first | exact Or.inl rfl | exact Or.inr rfl) (pe_lc (own := [("row", 8)]) (g := gName 8) (tt := tYes) rfl sc_f_reduced.nd (pi_list (pv 11)) (blkOk_by (own := [("row", 8)]) (N := n_f_reduced) (sc := defScope s_f_reduced) (by decide +kernel)) (fun _ _ _ _ _ => pg_name (i := 8) sc_f_reduced.nd rfl (Or.inl rfl)) (fun _ _ _ _ _ => pts_nil) (fun _ _ _ _ _ => (pe_cal G_f_cleared hr (by decide) (by rfl) (pa_cons (pv 0) (pa_cons (pv 8) (pa_cons (pv 10) (pa_cons (pv 6) pa_nil))))))))
    (pss_cons (ps_set (i := 4) sc_f_reduced.nd rfl (by first | exact Or.inl rfl | exact Or.inr rfl) (pe_op op_cat (pe_lc (own := [("row", 8)]) (g := gName 8) (tt := tYes) rfl sc_f_reduced.nd (pi_list (pv 4)) (blkOk_by (own := [("row", 8)]) (N := n_f_reduced) (sc := defScope s_f_reduced) (by decide +kernel)) (fun _ _ _ _ _ => pg_name (i := 8) sc_f_reduced.nd rfl (Or.inl rfl)) (fun _ _ _ _ _ => pts_nil) (fun _ _ _ _ _ => (pe_cal G_f_cleared hr (by decide) (by rfl) (pa_cons (pv 0) (pa_cons (pv 8) (pa_cons (pv 10) (pa_cons (pv 6) pa_nil))))))) (pe_lst (pa_cons (pv 10) pa_nil))))
    (pss_one (ps_expr (pe_bm PySem.F.plainAttrs_list PySem.F.slot_list_append PySem.F.type_list_append mt_append (pv 5) (pa_cons (pv 6) pa_nil))))))))) pss_nil))))
    (pss_one (ps_ret (pe_tup (pa_cons (pe_callTy c_tuple (by rfl) T.z_tuple b_tuple (pa_cons (pe_lc (own := [("row", 8)]) (g := gName 8) (tt := tYes) rfl sc_f_reduced.nd (pi_list (pv 4)) (blkOk_by (own := [("row", 8)]) (N := n_f_reduced) (sc := defScope s_f_reduced) (by decide +kernel)) (fun _ _ _ _ _ => pg_name (i := 8) sc_f_reduced.nd rfl (Or.inl rfl)) (fun _ _ _ _ _ => pts_nil) (fun _ _ _ _ _ => (pe_callTy (c_tupleK (K := K) (by rfl)) (by rfl) T.z_tuple b_tuple (pa_cons (pv 8) pa_nil)))) pa_nil)) (pa_cons (pe_callTy c_tuple (by rfl) T.z_tuple b_tuple (pa_cons (pv 5) pa_nil)) pa_nil))))))))), ?_⟩
  have : Monos es := ⟨fun r h => by
    obtain ⟨n, hn⟩ := List.getElem?_of_mem h
    have hl : n < rows.length := by rw [← hes.1]; exact (List.getElem?_eq_some_iff.mp hn).1
    exact (hes.2 n r _ hn (List.getElem?_eq_getElem hl)).mo⟩
  have hw0 : vw = .int (width : Int) := dvw
  subst hw0
  refine q_asg (r := dL (rows.map fun l => dL (dV l))) ((ev_lc1L (es := rows.map dV) (fun l h => by obtain ⟨x, _, rfl⟩ := List.mem_map.mp h; exact inferInstance) (ei_list (ev_var (r := sd) rfl dvr)) ((List.length_map ..).trans hes.1.symm) (by rw [hes.1]; omega) (fun _ => rfl) fun j l v H1 hj e hx => ?_).to fun v H1 e d => ?_) fun v3 H1 e1 d3 => ?_
  · obtain ⟨row, hrow, rfl⟩ := map_inv hj
    have hj2 : j < es.length := by rw [hes.1]; exact (List.getElem?_eq_some_iff.mp hrow).1
    have hL := hes.2 j _ row (yAt_lt hj2) hrow
    generalize yAt es j = e0 at hL hx
    have := hL.mo
    have := hL.sq.sq
    exact ev_list (K := K) (ev_var rfl hx)
  · obtain ⟨a, vs, ha, h1, h2⟩ := d.2
    rw [List.map_map] at h2
    exact ⟨a, vs, ha, h1, alls_conv (fun x v d => d.2) h2⟩
  replace dvf := Mono.m _ _ _ e1 dvf
  refine q_asg (r := dFr H1 (dL [])) (ev_lst ea_nil) fun v4 H2 e2 d4 => ?_
  replace dvf := Mono.m _ _ _ e2 dvf
  replace d3 := Mono.m _ _ _ e2 d3
  refine q_asg (r := dFr H2 (dL [])) (ev_lst ea_nil) fun v5 H3 e3 d5 => ?_
  obtain ⟨⟨p, rfl, hp⟩, d5⟩ := d5
  have d3 := Mono.m _ _ _ e3 (ll_new (rows := rows) hp d3)
  have d4 := Mono.m _ _ _ e3 (ll_new (rows := ([] : List (List (El i)))) hp d4.2)
  replace dvf := Mono.m _ _ _ e3 dvf
  obtain ⟨p', ps, eo, hP, alp⟩ := d5
  cases eo
  have hp0 : H p = none := (e1.trans e2).free hp
  refine q_forJ (ei_rng1 (ev_var (r := dI (width : Int)) rfl rfl) (by omega) (by omega)) fun H4 e4 => ⟨fun j σ' H' => ∃ v3 v4 x6 x7 x9 x10 x11 ps, σ' = [some vf, some vr, some (.int (width : Int)), some v3, some v4, some (.ref p), x6, x7, none, x9, x10, x11, none, none] ∧ Same H H' ∧ Le H4 H' ∧ H' p = some (.lst ps) ∧ Alls H' ps (dNs (fred rows j).piv) ∧ dLL p (fred rows j).rest v3 H' ∧ dLL p (fred rows j).done v4 H',
    ⟨v3, v4, none, none, none, none, none, ps, rfl, ((e1.trans e2).trans e3).trans e4, le_refl _, e4 _ _ hP, alp.mono e4, Mono.m _ _ _ e4 d3, Mono.m _ _ _ e4 d4⟩, fun j σ' H' hi h => (by obtain ⟨_, _, _, _, _, _, _, _, _, _, h, _⟩ := h; exact h), fun j σ' H' hi h xx H'' s'' y => ?_, fun σ' H' h => ?_⟩
  · obtain ⟨v3, v4, x6, x7, x9, x10, x11, ps, rfl, sm, le, hP, alp, d3, d4⟩ := h
    rw [Int.toNat_natCast] at hi
    have ok := red_ok hrows j
    have hsc : fred rows (j + 1) = redStep (fred rows j) j := fred_succ
    generalize fred rows j = s at ok alp d3 d4 hsc
    have hx : xx = .int (j : Int) := y
    subst hx
    show tSeq _ _ _ [some vf, some vr, some (.int (width : Int)), some v3, some v4, some (.ref p), some (.int (j : Int)), x7, none, x9, x10, x11, none, none] H''
    have sm := sm.trans s''
    have le := le_trans le (le_of s'')
    have hP := s'' _ _ hP
    have alp := alp.mono s''
    have d3 := Mono.m _ _ _ s'' d3
    have d4 := Mono.m _ _ _ s'' d4
    have df := Imm.m _ _ _ (le_trans (le_of e4) le) dvf
    have hlen : (s.rest.map fun l => dAL p l).length = s.rest.length := List.length_map ..
    have hct := ok.ct
    refine q_asg (r := dL (dNs (pick s.rest j))) ((ev_lcf (ei_rng1 (ev_len (K := K) (ev_var (r := dLL p s.rest) rfl d3)) (by rw [hlen]; omega) (by rw [hlen]; omega)).i (fun k => !decide ((s.rest.getD k []).getD j Fld.zero = Fld.zero)) (fun k => dI (k : Int)) (by rw [hlen]; omega) (fun _ => rfl) (fun k v H5 hk e5 y => ?_) (fun k v H5 hk e5 y _ => ?_)).to fun v H5 e5 d => ?_) fun v7 H5 e5 d7 => ?_
    · rw [hlen, Int.toNat_natCast] at hk
      exact et_test (ev_neM (ev_atM (ev_ix (k := k) (d := dAL p (s.rest.getD k [])) (ev_var (r := dLL p s.rest) rfl (Mono.m _ _ _ e5 d3)) (ev_var rfl y) (map_getD hk)) (ev_var (r := dI (j : Int)) rfl rfl) rfl (by rw [ok.rl _ (mem_getD hk)]; exact hi)) (ev_F0 (ev_var rfl (Mono.m _ _ _ e5 df))))
    · exact ev_var rfl y
    · rw [hlen, Int.toNat_natCast] at d
      exact d.2
    have sm := sm.trans e5
    have le := le_trans le (le_of e5)
    have hP := e5 _ _ hP
    have alp := alp.mono e5
    have d3 := Mono.m _ _ _ e5 d3
    have d4 := Mono.m _ _ _ e5 d4
    have df := Mono.m _ _ _ e5 df
    have hlc : Ev (tCB (pLen K) (tCons (tVar 7) tNil)) [some vf, some vr, some (.int (width : Int)), some v3, some v4, some (.ref p), some (.int (j : Int)), some v7, none, x9, x10, x11, none, none] H5 (dI ((pick s.rest j).length : Int)) := (ev_len (K := K) (ev_var (r := dL (dNs (pick s.rest j))) rfl d7)).eq (by rw [dNs_len])
    cases hpk : pick s.rest j with
    | nil =>
      rw [redStep_nil hpk] at hsc
      rw [hpk] at hlc
      refine s_if (b := false) (et_test (ev_gt hlc (ev_int (i := 0)))) (fun z => nomatch z) fun _ H6 e6 => ?_
      exact ⟨v3, v4, _, _, x9, x10, x11, ps, rfl, sm.trans e6, le_trans le (le_of e6), e6 _ _ hP, by rw [hsc]; exact alp.mono e6, by rw [hsc]; exact Mono.m _ _ _ e6 d3, by rw [hsc]; exact Mono.m _ _ _ e6 d4⟩
    | cons k ks =>
      rw [redStep_cons hpk] at hsc
      rw [hpk] at hlc d7
      obtain ⟨hk, hnz⟩ := pick_mem hpk
      have hrl := ok.rl _ (mem_getD hk)
      refine s_if (b := true) ((et_test (ev_gt hlc (ev_int (i := 0)))).eq (decide_eq_true (by rw [List.length_cons]; omega))) (fun _ H6 e6 => ?_) (fun z => nomatch z)
      have sm := sm.trans e6
      have le := le_trans le (le_of e6)
      have hP := e6 _ _ hP
      replace d3 := Mono.m _ _ _ e6 d3
      replace d4 := Mono.m _ _ _ e6 d4
      replace d7 := Mono.m _ _ _ e6 d7
      replace df := Mono.m _ _ _ e6 df
      have alp := alp.mono e6
      have hrow : ∀ (x9 x10 x11 : Option V) (H8 : Hp), Same H6 H8 → Ev (tOp (rIx K) (tVar 3) (tOp (rIx K) (tVar 7) (tC (.int 0)))) [some vf, some vr, some (.int (width : Int)), some v3, some v4, some (.ref p), some (.int (j : Int)), some v7, none, x9, x10, x11, none, none] H8 (dAL p (s.rest.getD k [])) := fun x9 x10 x11 H8 e8 =>
        ev_ix (k := k) (ev_var (r := dLL p s.rest) rfl (Mono.m _ _ _ e8 d3)) (ev_ixI (k := 0) (rs := dNs (k :: ks)) (ev_var (r := dL (dNs (k :: ks))) rfl (Mono.m _ _ _ e8 d7)) (ev_int (i := 0)) rfl rfl) (map_getD hk)
      refine q_asg (ev_Fi (i := i) (ev_var rfl df) hnz (ev_atM (hrow _ _ _ _ (Same.refl _)) (ev_var (r := dI (j : Int)) rfl rfl) rfl (by rw [hrl]; exact hi))) fun v9 H7 e7 d9 => ?_
      replace df := Mono.m _ _ _ e7 df
      refine q_asg (ev_lc1 (es := dV (lead (s.rest.getD k []) j)) (ei_list (hrow _ _ _ _ e7)) (by rw [dV_len, dV_len, lead_len]) (by rw [dV_len, hrl]; omega) (fun _ => rfl) fun q d x H8 hd e8 hx => ?_) fun v10 H8 e8 d10 => ?_
      · obtain ⟨c, hc, rfl⟩ := dV_inv hd
        obtain ⟨x1, h1, rfl⟩ := map_inv hc
        rw [yAt_some (dV_get h1)] at hx
        exact ev_Fm (ev_var rfl (Mono.m _ _ _ e8 df)) (ev_var rfl (Mono.m _ _ _ e8 d9)) (ev_var rfl hx)
      have E78 := e7.trans e8
      have d10 := av_of (hP |> e7 p _) d10
      replace df := Mono.m _ _ _ e8 df
      have hpk0 : ∀ (x9 x10 x11 : Option V) (H9 : Hp), Same H6 H9 → Ev (tOp (rIx K) (tVar 7) (tC (.int 0))) [some vf, some vr, some (.int (width : Int)), some v3, some v4, some (.ref p), some (.int (j : Int)), some v7, none, x9, x10, x11, none, none] H9 (dI (k : Int)) := fun x9 x10 x11 H9 e9 => ev_ixI (k := 0) (rs := dNs (k :: ks)) (ev_var (r := dL (dNs (k :: ks))) rfl (Mono.m _ _ _ e9 d7)) (ev_int (i := 0)) rfl rfl
      have hll : (s.rest.take k ++ s.rest.drop (k + 1)).length ≤ 1000 := by
        rw [List.length_append, List.length_take, List.length_drop]
        omega
      have hot := ev_cat (ev_slL (K := K) (ss := (s.rest.take k).map fun l => dAL p l) (ev_var (σ := [some vf, some vr, some (.int (width : Int)), some v3, some v4, some (.ref p), some (.int (j : Int)), some v7, none, some v9, some v10, x11, none, none]) (n := 3) (r := dLL p s.rest) rfl (Mono.m _ _ _ E78 d3)) eo_none (eo_some (hpk0 _ _ _ _ E78)) (by rw [cut_none_some, List.map_take]))
        (ev_slL (K := K) (ss := (s.rest.drop (k + 1)).map fun l => dAL p l) (ev_var (n := 3) (r := dLL p s.rest) rfl (Mono.m _ _ _ E78 d3)) (eo_some ((ev_add (hpk0 _ _ _ _ E78) (ev_int (i := 1))).eq (by rw [show ((k : Int) + 1) = ((k + 1 : Nat) : Int) by omega]))) eo_none (by rw [cut_some_none, List.map_drop]))
        (by rw [List.length_map, List.length_map]; rw [List.length_append] at hll; omega)
      rw [← List.map_append] at hot
      refine q_asg hot fun v11 H9 e9 d11 => ?_
      have d3 := Mono.m _ _ _ (E78.trans e9) d3
      have d4 := Mono.m _ _ _ (E78.trans e9) d4
      replace df := Mono.m _ _ _ e9 df
      replace d10 := Mono.m _ _ _ e9 d10
      have clr : ∀ (te : TE) (σ : St) (H : Hp) (row : List (El i)), row.length = width → Ev te σ H (dAL p row) → Ev (tVar 0) σ H (dFld K i) → Ev (tVar 10) σ H (dAL p (lead (s.rest.getD k []) j)) → Ev (tVar 6) σ H (dI (j : Int)) → Ev (tCall (spP (S_f_cleared K)) [] E0 (tCons (tVar 0) (tCons te (tCons (tVar 10) (tCons (tVar 6) tNil))))) σ H (dFr H (dL (dV (fclear row (lead (s.rest.getD k []) j) j)))) := fun te σ H row hl h1 h2 h3 h4 =>
        ev_callF (ea_cons h2 (ea_cons h1 (ea_cons h3 (ea_cons h4 ea_nil)))) fun H1 => ⟨i, row, _, _, _, j, by omega, by rw [lead_len, hrl, hl], by omega, isLs, isLs, rfl, rfl⟩
      have him : ∀ L : List (List (El i)), ∀ l ∈ (L.map fun row => fclear row (lead (s.rest.getD k []) j) j).map dV, Imms l := fun L l h => by obtain ⟨x, _, rfl⟩ := List.mem_map.mp h; exact inferInstance
      refine q_asg (ev_lc1L (es := ((s.rest.take k ++ s.rest.drop (k + 1)).map fun row => fclear row (lead (s.rest.getD k []) j) j).map dV) (him _) (ei_list (ev_var rfl d11)) (by rw [List.length_map, List.length_map, List.length_map]) (by rw [List.length_map]; omega) (fun _ => rfl) fun q l v H10 hd e10 hx => ?_) fun v12 H10 e10 d12 => ?_
      · rw [List.map_map] at hd
        obtain ⟨row, hrow', rfl⟩ := map_inv hd
        rw [yAt_some (by rw [List.getElem?_map, hrow']; rfl)] at hx
        refine clr _ _ _ row ?_ (ev_var rfl hx) (ev_var rfl (Mono.m _ _ _ e10 df)) (ev_var rfl (Mono.m _ _ _ e10 d10)) (ev_var (r := dI (j : Int)) rfl rfl)
        rcases List.mem_append.mp (List.mem_of_getElem? hrow') with h | h
        · exact ok.rl _ (List.mem_of_mem_take h)
        · exact ok.rl _ (List.mem_of_mem_drop h)
      have hP9 := (E78.trans e9) _ _ hP
      have d12 := ll_of hP9 d12
      replace df := Mono.m _ _ _ e10 df
      replace d10 := Mono.m _ _ _ e10 d10
      replace d4 := Mono.m _ _ _ e10 d4
      have hP10 := e10 _ _ hP9
      refine q_asg (r := dLL p ((s.done.map fun row => fclear row (lead (s.rest.getD k []) j) j) ++ [lead (s.rest.getD k []) j])) ((ev_cat (ra := dFr H10 (dL ((s.done.map fun row => fclear row (lead (s.rest.getD k []) j) j).map fun l => dFr H10 (dL (dV l))))) (rs := (s.done.map fun row => fclear row (lead (s.rest.getD k []) j) j).map fun l => dFr H10 (dL (dV l))) (ss := [dAL p (lead (s.rest.getD k []) j)]) ((ev_lc1L (es := (s.done.map fun row => fclear row (lead (s.rest.getD k []) j) j).map dV) (him _) (ei_list (ev_var (r := dLL p s.done) rfl d4)) (by rw [List.length_map, List.length_map, List.length_map]) (by rw [List.length_map]; omega) (fun _ => rfl) fun q l v H10 hd e10 hx => ?_).eq (by rw [List.map_map (l := s.done.map fun row => fclear row (lead (s.rest.getD k []) j) j)]; rfl)) (ev_lst (ea_cons (ev_var (n := 10) rfl d10) ea_nil)) (by rw [List.length_map, List.length_map, List.length_singleton]; omega)).to fun v H11 e11 d => ?_) fun v13 H11 e11 d13 => ?_
      · rw [List.map_map] at hd
        obtain ⟨row, hrow', rfl⟩ := map_inv hd
        rw [yAt_some (by rw [List.getElem?_map, hrow']; rfl)] at hx
        exact clr _ _ _ row (ok.dl _ (List.mem_of_getElem? hrow')) (ev_var rfl hx) (ev_var rfl (Mono.m _ _ _ e10 df)) (ev_var rfl (Mono.m _ _ _ e10 d10)) (ev_var (r := dI (j : Int)) rfl rfl)
      · refine av_of hP10 ?_
        obtain ⟨f, a, vs, rfl, h1, h2⟩ := d
        obtain ⟨us, ws, rfl, h3, h4⟩ := alls_app_inv h2
        refine ⟨f, a, _, rfl, h1, ?_⟩
        rw [List.map_append]
        exact (alls_conv (fun x v d => av_of hP10 d) h3).append h4
      replace d12 := Mono.m _ _ _ e11 d12
      have hP11 := e11 _ _ hP10
      have E11 := ((E78.trans e9).trans e10).trans e11
      have alp := alp.mono E11
      have hpl : ps.length < 1000 := by
        rw [alp.len, dNs_len, ← ok.dp]
        omega
      refine s_app (p := p) (vs := ps) rfl hP11 (by omega) (ev_var (r := dI (j : Int)) rfl rfl) fun v H12 e12 d hP12 => ?_
      have hst := fun (r : Dn) (_ : Stp p r) (v : V) (d : r v H12) => Stp.m (p := p) (r := r) v H12 ps (ps ++ [.int (j : Int)]) hP12 d
      have ev : v = .int (j : Int) := d
      subst ev
      refine ⟨v12, v13, _, _, _, _, _, ps ++ [.int (j : Int)], rfl, same_mut (sm.trans (E11.trans e12)) hp0, le_trans le (le_trans (le_of (E11.trans e12)) (le_set hP12)), upd_same, ?_, ?_, ?_⟩
      · rw [hsc]
        show Alls _ _ (dNs (s.piv ++ [j]))
        rw [dNs_app]
        exact ((alp.mono e12).imm (le_set hP12)).append (alls_cons rfl alls_nil)
      · rw [hsc]
        exact Stp.m (p := p) _ _ _ _ hP12 (Mono.m _ _ _ e12 d12)
      · rw [hsc]
        exact Stp.m (p := p) _ _ _ _ hP12 (Mono.m _ _ _ e12 d13)
  · obtain ⟨v3, v4, x6, x7, x9, x10, x11, ps, rfl, sm, le, hP, alp, d3, d4⟩ := h
    rw [Int.toNat_natCast] at alp d3 d4
    have ok := red_ok hrows width
    have hct := ok.ct
    refine s_ret (ev_tup (ea_cons (ev_tuple (ev_lc1 (es := dRows (fred rows width).done) (ei_list (ev_var (r := dLL p (fred rows width).done) rfl d4)) ?_ ?_ (fun _ => rfl) fun q d x H8 hd e8 hx => ?_)) (ea_cons (ev_tuple (ev_var (r := dL (dNs (fred rows width).piv)) rfl ⟨p, ps, rfl, hP, alp⟩)) ea_nil))) fun v H5 e5 d => k v H5 (sm.trans e5) d
    · unfold dRows
      rw [List.length_map, List.length_map]
    · rw [List.length_map]
      omega
    · obtain ⟨row, hrow', rfl⟩ := map_inv hd
      rw [yAt_some (by rw [List.getElem?_map, hrow']; rfl)] at hx
      exact ev_tuple (ev_var rfl hx)
end
end K35
set_option Elab.async false
set_option linter.all false
set_option maxRecDepth 100000
set_option maxHeartbeats 4000000
namespace K35
open PySem PySem.Spec L2
section
variable {P : Program} {w : World} {K : PySem.W.Frag} {mg : Str → Option Value} {base : Heap}

theorem ok_f_solve (T : Tx K mg) : Cal P w K mg base 7 "solve" (spP (S_f_solve K)) := by
  have G_f_reduced := ok_f_reduced (P := P) (w := w) (base := base) T
  have G_m_Field_zero := ok_m_Field_zero (P := P) (w := w) (base := base) T
  refine cal_of T.d_f_solve sc_f_solve (by rintro H rs r ⟨_, _, _, _, _, _, _, _, rfl, _⟩; rfl) fun f cdv A outer s H vs Q E rs r hr hS ha k => ?_
  obtain ⟨i, rows, width, right, hw, hnr, hlen, hrows, rfl, rfl⟩ := hS
  obtain ⟨vf, ws, rfl, dvf, ha⟩ := ha.cons_inv
  obtain ⟨vr, ws, rfl, dvr, ha⟩ := ha.cons_inv
  obtain ⟨vw, ws, rfl, dvw, ha⟩ := ha.cons_inv
  obtain ⟨vt, ws, rfl, dvt, ha⟩ := ha.cons_inv
  have e := ha.nil_inv
  subst e
  refine ⟨_, (pss_cons (ps_setLc (i := 4) (own := [("row", 11), ("item", 12)]) (g := gTup K 2 (gCons (gName 11) (gCons (gName 12) gNil))) (tt := tYes) rfl sc_f_solve.nd rfl rfl (sw_true rfl rfl rfl (by decide +kernel)) (pi_zpX (by rfl) T.z_zip (pa_cons (pv 1) (pa_cons (pv 3) pa_nil))) (blkOk_by (own := [("row", 11), ("item", 12)]) (N := n_f_solve) (sc := defScope s_f_solve) (by decide +kernel)) (fun _ _ _ _ _ => pg_tup rfl (pgs_cons (pg_name (i := 11) sc_f_solve.nd rfl (Or.inl rfl)) (pgs_cons (pg_name (i := 12) sc_f_solve.nd rfl (Or.inl rfl)) pgs_nil))) (fun _ _ _ _ _ => pts_nil) (fun _ _ _ _ _ => (pe_op op_cat (pe_callTy (c_listK (K := K) (by rfl)) (by rfl) T.z_list b_list (pa_cons (pv 11) pa_nil)) (pe_lst (pa_cons (pv 12) pa_nil)))))
    (pss_cons (ps_asg (pe_cal G_f_reduced hr (by decide) (by rfl) (pa_cons (pv 0) (pa_cons (pv 4) (pa_cons (pe_op c_add (pv 2) pe_int) pa_nil)))) (pg_tup rfl (pgs_cons (pg_name (i := 6) sc_f_solve.nd rfl (by first | exact Or.inl rfl | exact Or.inr rfl)) (pgs_cons (pg_name (i := 7) sc_f_solve.nd rfl (by first | exact Or.inl rfl | exact Or.inr rfl)) pgs_nil))))
    (pss_cons (ps_if (pt_cmpR op_in_seq (pv 2) (pv 7) rfl) (pss_one (ps_ret pe_non)) pss_nil)
    (pss_cons (ps_setLc (i := 5) (own := [("_", 10)]) (g := gName 10) (tt := tYes) rfl sc_f_solve.nd rfl rfl (sw_true rfl rfl rfl (by decide +kernel)) (pi_range1 rfl T.z_range (pa_cons (pv 2) pa_nil)) (blkOk_by (own := [("_", 10)]) (N := n_f_solve) (sc := defScope s_f_solve) (by decide +kernel)) (fun _ _ _ _ _ => pg_name (i := 10) sc_f_solve.nd rfl (Or.inl rfl)) (fun _ _ _ _ _ => pts_nil) (fun _ _ _ _ _ => (pe_met0 G_m_Field_zero hr (by decide) (pv 0))))
    (pss_cons (ps_for PassesOwn.never rfl (pi_zpX (by rfl) T.z_zip (pa_cons (pv 6) (pa_cons (pv 7) pa_nil))) (pg_tup rfl (pgs_cons (pg_name (i := 8) sc_f_solve.nd rfl (by first | exact Or.inl rfl | exact Or.inr rfl)) (pgs_cons (pg_name (i := 9) sc_f_solve.nd rfl (by first | exact Or.inl rfl | exact Or.inr rfl)) pgs_nil))) (pss_one (ps_asg (pe_ix ix_seq (pv 8) (pv 2) (fun _ _ => rfl)) (pg_sub (pv 5) (pv 9) set_list))))
    (pss_one (ps_ret (pe_callTy c_tuple (by rfl) T.z_tuple b_tuple (pa_cons (pv 5) pa_nil))))))))), ?_⟩
  have hw0 : vw = .int (width : Int) := dvw
  subst hw0
  have lfl : (flines rows right).length = rows.length := by
    unfold flines
    rw [List.length_zipWith]; omega
  have hfl : ∀ row ∈ flines rows right, row.length = width + 1 := fun row h => by
    obtain ⟨n, hn⟩ := List.getElem?_of_mem h
    unfold flines at hn
    obtain ⟨x, y, h1, h2, rfl⟩ := zipWith_inv hn
    rw [List.length_append, hrows x (List.mem_of_getElem? h1)]
    rfl
  refine q_asg (r := dL ((flines rows right).map fun l => dL (dV l))) ((ev_lc2L (es := (flines rows right).map dV) (fun l h => by obtain ⟨x, _, rfl⟩ := List.mem_map.mp h; exact inferInstance) (ei_zp (ev_var (r := dT (dRows rows)) rfl dvr) (ev_var (r := dT (dV right)) rfl dvt)) ?_ ?_ (fun _ _ => rfl) fun j l x y H1 hj e hx hy => ?_).to fun v H1 e d => ?_) fun v4 H1 e1 d4 => ?_
  · rw [List.length_map, lfl, dV_len]
    unfold dRows
    rw [List.length_map]
    omega
  · rw [dV_len]
    unfold dRows
    rw [List.length_map]
    omega
  · obtain ⟨row, hrow, rfl⟩ := map_inv hj
    unfold flines at hrow
    obtain ⟨x1, y1, h1, h2, rfl⟩ := zipWith_inv hrow
    rw [yAt_some (by unfold dRows; rw [List.getElem?_map, h1]; rfl)] at hx
    rw [yAt_some (dV_get h2)] at hy
    have hxl := hrows x1 (List.mem_of_getElem? h1)
    exact (ev_cat (ev_list (K := K) (ev_var (r := dT (dV x1)) rfl hx)) (ev_lst (ea_cons (ev_var (r := dM y1) rfl hy) ea_nil)) (by rw [dV_len, List.length_singleton]; omega)).eq (by rw [dV_app]; rfl)
  · obtain ⟨a, vs, ha, h1, h2⟩ := d.2
    rw [List.map_map] at h2
    exact ⟨a, vs, ha, h1, alls_conv (fun x v d => d.2) h2⟩
  replace dvf := Mono.m _ _ _ e1 dvf
  replace k := fun v H' e' d' => k v H' (Same.trans e1 e') d'
  have ok := red_ok (w := width + 1) hfl (width + 1)
  have hct := ok.ct
  have hdp := ok.dp
  refine q_two (ra := dT (dRows (fred (flines rows right) (width + 1)).done)) (rb := dT (dNs (fred (flines rows right) (width + 1)).piv)) (ev_call (S := S_f_reduced K) (ea_cons (ev_var (r := dFld K i) rfl dvf) (ea_cons (ev_var rfl d4) (ea_cons ((ev_add (ev_var (r := dI (width : Int)) rfl rfl) (ev_int (i := 1))).eq (by rw [show ((width : Int) + 1) = ((width + 1 : Nat) : Int) by omega])) ea_nil))) fun H2 => ⟨i, flines rows right, width + 1, _, _, by omega, by omega, hfl, isLs, ⟨List.length_map .., fun k e row h1 h2 => by rw [List.getElem?_map, h2] at h1; cases h1; exact isLs⟩, rfl, rfl⟩) fun v6 v7 H2 e2 d6 d7 => ?_
  replace dvf := Mono.m _ _ _ e2 dvf
  replace k := fun v H' e' d' => k v H' (Same.trans e2 e') d'
  have hin := et_test (ev_in (K := K) (k := width) (ev_var (σ := [some vf, some vr, some (.int (width : Int)), some vt, some v4, none, some v6, some v7, none, none, none, none, none]) (n := 2) (r := dI (width : Int)) (H := H2) rfl rfl) (ev_var (n := 7) (r := dT (dNs (fred (flines rows right) (width + 1)).piv)) rfl d7))
  by_cases hp : width ∈ (fred (flines rows right) (width + 1)).piv
  · have er : fsolve rows width right = none := by unfold fsolve; rw [if_pos hp]
    rw [er] at k
    exact q_if (hin.eq (decide_eq_true hp)) (fun _ H3 e3 => s_ret (r := dN) ev_non fun v H4 e4 d => k v H4 (e3.trans e4) d) fun z => nomatch z
  · have er : fsolve rows width right = some (fvec (fred (flines rows right) (width + 1)).done (fred (flines rows right) (width + 1)).piv width) := by unfold fsolve; rw [if_neg hp]
    rw [er] at k
    refine q_no (hin.eq (decide_eq_false hp)) fun H3 e3 => ?_
    replace dvf := Mono.m _ _ _ e3 dvf
    replace k := fun v H' e' d' => k v H' (Same.trans e3 e') d'
    replace d6 := Mono.m _ _ _ e3 d6
    replace d7 := Mono.m _ _ _ e3 d7
    generalize fred (flines rows right) (width + 1) = s at *
    refine q_asg (ev_lc1 (es := dV (List.replicate width (Fld.zero : El i))) (ei_rng1 (ev_var (r := dI (width : Int)) rfl rfl) (by omega) (by omega)).i ?_ (by omega) (fun _ => rfl) fun j d x H1 hd e hx => ?_) fun v5 H4 e4 d5 => ?_
    · rw [dV_len, List.length_replicate, Int.toNat_natCast]
    · obtain ⟨c, hc, rfl⟩ := dV_inv hd
      have := List.mem_of_getElem? hc
      rw [(List.mem_replicate.mp this).2]
      exact ev_F0 (ev_var rfl (Mono.m _ _ _ e dvf))
    obtain ⟨⟨o, rfl, ho⟩, o', us, eo, hO, al⟩ := d5
    cases eo
    replace d6 := Mono.m _ _ _ e4 d6
    replace d7 := Mono.m _ _ _ e4 d7
    refine q_forJ (ej_zp (ev_var rfl d6) (ev_var rfl d7)) fun H5 e5 => ⟨fun j σ' H' => ∃ x8 x9 us, σ' = [some vf, some vr, some (.int (width : Int)), some vt, some v4, some (.ref o), some v6, some v7, x8, x9, none, none, none] ∧ Same H3 H' ∧ Le H5 H' ∧ H' o = some (.lst us) ∧ Alls H' us (dV (fvecN s.done s.piv width j)),
      ⟨none, none, us, rfl, e4.trans e5, le_refl _, e5 _ _ hO, al.mono e5⟩, fun j σ' H' hi h => (by obtain ⟨_, _, _, _, _, h, _⟩ := h; exact h), fun j σ' H' hi h xx H'' s'' y => ?_, fun σ' H' h => ?_⟩
    · obtain ⟨x8, x9, us, rfl, sm, le, hO, al⟩ := h
      unfold dRows at hi
      rw [List.length_map, dNs_len] at hi
      obtain ⟨vx, vy, dx, dy, bd⟩ := bd_pair (K := K) (σ := [some vf, some vr, some (.int (width : Int)), some vt, some v4, some (.ref o), some v6, some v7, x8, x9, none, none, none]) (k := 8) (m := 9) y
      refine bd _ ?_
      rw [yAt_some (by unfold dRows; exact map_getD (by omega))] at dx
      have hpj := getD_at (z := 0) (l := s.piv) (j := j) (by omega)
      rw [yAt_some (by unfold dNs; rw [List.getElem?_map, hpj]; rfl)] at dy
      have hmem := List.mem_of_getElem? hpj
      have hlt := ok.pn _ hmem
      have hlt2 : s.piv.getD j 0 < width := by
        have : s.piv.getD j 0 ≠ width := fun z => hp (z ▸ hmem)
        omega
      have hO'' := s'' _ _ hO
      have al'' := al.mono s''
      refine s_set (p := o) (vs := us) (r := dM ((s.done.getD j []).getD width Fld.zero)) rfl hO'' (ev_atM (ev_var (r := dT (dV (s.done.getD j []))) rfl dx) (ev_var (r := dI (width : Int)) rfl rfl) rfl (by rw [ok.dl _ (mem_getD (by omega))]; omega)) (ev_var rfl dy) (by rw [al''.len, dV_len, fvecN_len]; exact hlt2) fun v H6 e6 d hO6 => ?_
      refine ⟨_, _, us.set (s.piv.getD j 0) v, rfl, same_mut ((sm.trans s'').trans e6) ho, le_trans le (le_trans (le_of (s''.trans e6)) (le_set hO6)), upd_same, ?_⟩
      rw [fvecN_succ (by omega) (by omega)]
      have z := (al''.imm (le_trans (le_of e6) (le_set (ys := us.set (s.piv.getD j 0) v) hO6))).set (Imm.m _ _ _ (le_set hO6) d) (s.piv.getD j 0)
      unfold dV at z ⊢
      rw [List.map_set]
      exact z
    · obtain ⟨x8, x9, us, rfl, sm, le, hO, al⟩ := h
      unfold dRows at al
      rw [List.length_map, dNs_len, fvecN_all (Nat.le_refl _)] at al
      exact s_ret (ev_tuple (ev_var (r := dL (dV (fvec s.done s.piv width))) rfl ⟨o, us, rfl, hO, al⟩)) fun v H6 e6 d => k v H6 (sm.trans e6) d
end
end K35
set_option Elab.async false
set_option linter.all false
set_option maxRecDepth 100000
set_option maxHeartbeats 4000000
namespace K35
open PySem PySem.Spec L2
section
variable {P : Program} {w : World} {K : PySem.W.Frag} {mg : Str → Option Value} {base : Heap}

theorem ok_f_least_recurrence (T : Tx K mg) : Cal P w K mg base 8 "least_recurrence" (spP (S_f_least_recurrence K)) := by
  have G_f_solve := ok_f_solve (P := P) (w := w) (base := base) T
  have G_m_Field_zero := ok_m_Field_zero (P := P) (w := w) (base := base) T
  refine cal_of T.d_f_least_recurrence sc_f_least_recurrence (by rintro H rs r ⟨_, _, _, rfl, _⟩; rfl) fun f cdv A outer s H vs Q E rs r hr hS ha k => ?_
  obtain ⟨i, t, ht, rfl, rfl⟩ := hS
  obtain ⟨vf, ws, rfl, dvf, ha⟩ := ha.cons_inv
  obtain ⟨vt, ws, rfl, dvt, ha⟩ := ha.cons_inv
  have e := ha.nil_inv
  subst e
  refine ⟨_, (pss_cons (ps_set (i := 2) sc_f_least_recurrence.nd rfl (by first | exact Or.inl rfl | exact Or.inr rfl) (pe_callB c_len (by rfl) T.z_len PySem.boot_len (pa_cons (pv 1) pa_nil)))
    (pss_cons (ps_for PassesOwn.never rfl (pi_range1 rfl T.z_range (pa_cons (pv 2) pa_nil)) (pg_name (i := 3) sc_f_least_recurrence.nd rfl (by first | exact Or.inl rfl | exact Or.inr rfl)) (pss_cons (ps_setLc (i := 4) (own := [("k", 6)]) (g := gName 6) (tt := tYes) rfl sc_f_least_recurrence.nd rfl rfl (sw_true rfl rfl rfl (by decide +kernel)) (pi_range1 rfl T.z_range (pa_cons (pe_op c_sub (pv 2) (pv 3)) pa_nil)) (blkOk_by (own := [("k", 6)]) (N := n_f_least_recurrence) (sc := defScope s_f_least_recurrence) (by decide +kernel)) (fun _ _ _ _ _ => pg_name (i := 6) sc_f_least_recurrence.nd rfl (Or.inl rfl)) (fun _ _ _ _ _ => pts_nil) (fun _ _ _ _ _ => (pe_callTy (c_tupleK (K := K) (by rfl)) (by rfl) T.z_tuple b_tuple (pa_cons (pe_slice (c_slK (K := K) (by rfl)) (pv 1) (po_some (pv 6)) (po_some (pe_op c_add (pv 6) (pv 3)))) pa_nil))))
    (pss_cons (ps_set (i := 5) sc_f_least_recurrence.nd rfl (by first | exact Or.inl rfl | exact Or.inr rfl) (pe_cal G_f_solve hr (by decide) (by rfl) (pa_cons (pv 0) (pa_cons (pe_callTy c_tuple (by rfl) T.z_tuple b_tuple (pa_cons (pv 4) pa_nil)) (pa_cons (pv 3) (pa_cons (pe_callTy c_tuple (by rfl) T.z_tuple b_tuple (pa_cons (pe_slice c_sl (pv 1) (po_some (pv 3)) po_none) pa_nil)) pa_nil))))))
    (pss_one (ps_if (pt_cmpR c_notN (pv 5) pe_non (nomark _)) (pss_one (ps_ret (pv 5))) pss_nil)))))
    (pss_one (ps_ret (pe_callTy c_tuple (by rfl) T.z_tuple b_tuple (pa_cons (pe_op op_rep (pe_lst (pa_cons (pe_met0 G_m_Field_zero hr (by decide) (pv 0)) pa_nil)) (pv 2)) pa_nil)))))), ?_⟩
  refine q_asg ((ev_len (K := K) (ev_var (r := dT (dV t)) rfl dvt)).eq (by rw [dV_len])) fun v2 H1 e1 d2 => ?_
  have e2' : v2 = .int (t.length : Int) := d2
  subst e2'
  replace dvf := Mono.m _ _ _ e1 dvf
  replace dvt := Mono.m _ _ _ e1 dvt
  replace k := fun v H' e' d' => k v H' (Same.trans e1 e') d'
  refine q_forJ (ei_rng1 (ev_var (r := dI (t.length : Int)) rfl rfl) (by omega) (by omega)) fun H2 e2 => ⟨fun j σ' H' => Same H2 H' ∧ ∃ x3 x4 x5, σ' = [some vf, some vt, some (.int (t.length : Int)), x3, x4, x5, none] ∧ ∀ q, q < j → fsolveAt t q = none, ⟨Same.refl _, none, none, none, rfl, fun q h => absurd h (Nat.not_lt_zero q)⟩, fun j σ' H' hi h => le_of h.1, fun j σ' H' hi h xx H'' s'' y => ?_, fun σ' H' h => ?_⟩
  · obtain ⟨sm, x3, x4, x5, rfl, hq⟩ := h
    rw [Int.toNat_natCast] at hi
    have ex : xx = .int (j : Int) := y
    subst ex
    have E := e2.trans (sm.trans s'')
    replace dvf := Mono.m _ _ _ E dvf
    replace dvt := Mono.m _ _ _ E dvt
    replace k := fun v H' e' d' => k v H' (Same.trans E e') d'
    show tSeq _ _ _ [some vf, some vt, some (.int (t.length : Int)), some (.int (j : Int)), x4, x5, none] H''
    have hsub : (t.length : Int) - (j : Int) = ((t.length - j : Nat) : Int) := by omega
    refine q_asg (r := dL (dRows ((List.range (t.length - j)).map fun k => (t.drop k).take j))) ((ev_lc1 (es := dRows ((List.range (t.length - j)).map fun k => (t.drop k).take j)) (ei_rng1 (j := ((t.length - j : Nat) : Int)) ((ev_sub (ev_var (r := dI (t.length : Int)) rfl rfl) (ev_var (r := dI (j : Int)) rfl rfl)).eq (by rw [hsub])) (by omega) (by omega)).i ?_ (by omega) (fun _ => rfl) fun q d x H3 hd e3 hx => ?_).to fun v H3 e3 d => d.2) fun v4 H3 e3 d4 => ?_
    · unfold dRows
      rw [List.length_map, List.length_map, List.length_range, Int.toNat_natCast]
    · obtain ⟨row, hrow, rfl⟩ := map_inv hd
      obtain ⟨kk, hkk, rfl⟩ := map_inv hrow
      rw [List.getElem?_range (by have := (List.getElem?_eq_some_iff.mp hkk).1; rw [List.length_range] at this; exact this)] at hkk
      cases hkk
      have hq2 : q < t.length - j := by
        have := (List.getElem?_eq_some_iff.mp hrow).1
        rw [List.length_map, List.length_range] at this
        exact this
      exact ev_tuple (ev_slT (K := K) (ss := dV ((t.drop q).take j)) (ev_var (r := dT (dV t)) rfl (Mono.m _ _ _ e3 dvt)) (eo_some (ev_var rfl hx)) (eo_some ((ev_add (ev_var rfl hx) (ev_var (r := dI (j : Int)) rfl rfl)).eq (by rw [show ((q : Int) + (j : Int)) = ((q + j : Nat) : Int) by omega]))) (by rw [cut_some_some (by rw [dV_len]; omega), dV_drop, dV_take]))
    · replace dvf := Mono.m _ _ _ e3 dvf
      replace dvt := Mono.m _ _ _ e3 dvt
      replace k := fun v H' e' d' => k v H' (Same.trans e3 e') d'
      refine q_asg (ev_call (S := S_f_solve K) (r := dMay (fsolveAt t j)) (ea_cons (ev_var (r := dFld K i) rfl dvf) (ea_cons (ev_tuple (ev_var rfl d4)) (ea_cons (ev_var (r := dI (j : Int)) rfl rfl) (ea_cons (ev_tuple (ev_slT (K := K) (ss := dV (t.drop j)) (ev_var (r := dT (dV t)) rfl dvt) (eo_some (ev_var (r := dI (j : Int)) rfl rfl)) eo_none (by rw [cut_some_none, dV_drop]))) ea_nil)))) fun H4 => ⟨i, _, j, t.drop j, by omega, by rw [List.length_map, List.length_range]; omega, by rw [List.length_map, List.length_range, List.length_drop], fun row hrow => ?_, rfl, rfl⟩) fun v5 H4 e4 d5 => ?_
      · obtain ⟨kk, hkk, rfl⟩ := List.mem_map.mp hrow
        have := List.mem_range.mp hkk
        rw [List.length_take, List.length_drop]
        omega
      · replace k := fun v H' e' d' => k v H' (Same.trans e4 e') d'
        cases hf : fsolveAt t j with
        | none =>
          rw [hf] at d5
          refine s_if (b := false) ((et_test (ev_notN (b := true) (ev_var (r := dN) rfl d5) fun v H d => decide_eq_true d)).eq rfl) (fun z => nomatch z) fun _ H5 e5 => ?_
          refine ⟨(sm.trans s'').trans ((e3.trans e4).trans e5), _, _, _, rfl, fun q h => ?_⟩
          by_cases hqj : q = j
          · rw [hqj]; exact hf
          · exact hq q (by omega)
        | some c =>
          rw [hf] at d5
          have hl : fleastRec t = c := by
            unfold fleastRec
            rw [findSome_hit hq hf hi]
          rw [hl] at k
          refine s_if (b := true) ((et_test (ev_notN (b := false) (ev_var (r := dT (dV c)) rfl d5) fun v H d => (by obtain ⟨a, vs, rfl, _⟩ := d; rfl))).eq rfl) (fun _ H5 e5 => ?_) fun z => nomatch z
          exact s_ret (ev_var (r := dT (dV c)) rfl (Mono.m _ _ _ e5 d5)) fun v H6 e6 d => k v H6 (e5.trans e6) d
  · obtain ⟨sm, x3, x4, x5, rfl, hq⟩ := h
    rw [Int.toNat_natCast] at hq
    have E := e2.trans sm
    replace dvf := Mono.m _ _ _ E dvf
    replace k := fun v H' e' d' => k v H' (Same.trans E e') d'
    have hl : fleastRec t = List.replicate t.length Fld.zero := by
      unfold fleastRec
      rw [List.findSome?_eq_none_iff.mpr fun x hx => hq x (List.mem_range.mp hx)]
    rw [hl] at k
    have h1 := ev_rep (r0 := dM (Fld.zero : El i)) (ev_lst (ea_cons (ev_F0 (ev_var (σ := [some vf, some vt, some (.int (t.length : Int)), x3, x4, x5, none]) (n := 0) (r := dFld K i) rfl dvf)) ea_nil)) (ev_var (n := 2) (r := dI (t.length : Int)) rfl rfl) (by omega) (by omega)
    rw [Int.toNat_natCast, ← dV_rep] at h1
    exact s_ret (ev_tuple h1) k
end
end K35
set_option Elab.async false
set_option linter.all false
set_option maxRecDepth 100000
set_option maxHeartbeats 4000000
namespace K35
open PySem PySem.Spec L2
section
variable {P : Program} {w : World} {K : PySem.W.Frag} {mg : Str → Option Value} {base : Heap}

theorem ok_m_Recurrence_least (T : Tx K mg) : Met P w K mg base 9 (cR K) "least" (spP (S_m_Recurrence_least K)) := by
  have G_m_Recurrence_row := ok_m_Recurrence_row (P := P) (w := w) (base := base) T
  have G_m_Recurrence_checked := ok_m_Recurrence_checked (P := P) (w := w) (base := base) T
  have G_m_Recurrence_init := ok_m_Recurrence_init (P := P) (w := w) (base := base) T
  have G_f_least_recurrence := ok_f_least_recurrence (P := P) (w := w) (base := base) T
  refine met_of T.d_m_Recurrence_least sc_m_Recurrence_least (by rintro H rs r ⟨_, _, _, _, _, rfl, _⟩; rfl) fun f cdv A outer s H vs Q E rs r hr hS ha k => ?_
  obtain ⟨i, c, fi, hc, hl, rfl, rfl⟩ := hS
  obtain ⟨vs, ws, rfl, dvs, ha⟩ := ha.cons_inv
  obtain ⟨va, ws, rfl, dva, ha⟩ := ha.cons_inv
  have e := ha.nil_inv
  subst e
  refine ⟨_, (pss_cons (ps_set (i := 2) sc_m_Recurrence_least.nd rfl (by first | exact Or.inl rfl | exact Or.inr rfl) (pe_met G_m_Recurrence_row hr (by decide) (pv 0) (pa_cons (pe_met G_m_Recurrence_checked hr (by decide) (pv 0) (pa_cons (pv 1) pa_nil)) (pa_cons (pe_op c_mul pe_int (pe_callB c_len (by rfl) T.z_len PySem.boot_len (pa_cons (pe_fld (pv 0) rfl) pa_nil))) pa_nil))))
    (pss_one (ps_ret (pe_mak G_m_Recurrence_init hr (by decide) (by rfl) (pa_cons (pe_fld (pv 0) rfl) (pa_cons (pe_cal G_f_least_recurrence hr (by decide) (by rfl) (pa_cons (pe_fld (pv 0) rfl) (pa_cons (pe_callTy c_tuple (by rfl) T.z_tuple b_tuple (pa_cons (pv 2) pa_nil)) pa_nil))) pa_nil)))))), ?_⟩
  refine q_asg (r := dFr H (dL (dV (frow c fi (2 * c.length))))) (ev_metF (S := S_m_Recurrence_row K) (ev_var (r := dRec K c) rfl dvs) (ea_cons (ev_met (S := S_m_Recurrence_checked K) (r := dT (dV fi)) (ev_var (r := dRec K c) rfl dvs) (ea_cons (ev_var (r := dT (dV fi)) rfl dva) ea_nil) (by decide) fun H1 => ⟨i, c, fi, hl, rfl, rfl⟩) (ea_cons ((ev_mul (.inl ⟨by decide, by decide⟩) (ev_int (i := 2)) (ev_len (K := K) (ev_rm T (ev_var (r := dRec K c) rfl dvs)))).eq (by rw [dV_len, show ((2 : Int) * (c.length : Int)) = ((2 * c.length : Nat) : Int) by omega])) ea_nil)) (by decide) fun H1 => ⟨i, c, fi, 2 * c.length, by omega, hl, by omega, rfl, rfl⟩) fun v2 H1 e1 d2 => ?_
  replace dvs := Mono.m _ _ _ e1 dvs
  replace k := fun v H' e' d' => k v H' (Same.trans e1 e') d'
  have hfl : (frow c fi (2 * c.length)).length ≤ 90 := by
    unfold frow
    rw [List.length_take]
    omega
  exact s_ret (ev_make (S := S_m_Recurrence_init K) (ea_cons (ev_rf T (ev_var (r := dRec K c) rfl dvs)) (ea_cons (ev_call (S := S_f_least_recurrence K) (r := dT (dV (fleast c fi))) (ea_cons (ev_rf T (ev_var (r := dRec K c) rfl dvs)) (ea_cons (ev_tuple (ev_var rfl d2)) ea_nil)) fun H2 => ⟨i, _, hfl, rfl, rfl⟩) ea_nil)) ⟨i, _, rfl, rfl⟩) k
end
end K35
set_option Elab.async false
set_option linter.all false
set_option maxRecDepth 100000
set_option maxHeartbeats 4000000
namespace K35
open PySem PySem.Spec L2
section
variable {P : Program} {w : World} {K : PySem.W.Frag} {mg : Str → Option Value} {base : Heap}

theorem ok_f_law_next (T : Tx K mg) : Cal P w K mg base 5 "_law_next" (spP (S_f_law_next K)) := by
  have G_m_Field_zero := ok_m_Field_zero (P := P) (w := w) (base := base) T
  have G_m_Field_add := ok_m_Field_add (P := P) (w := w) (base := base) T
  have G_m_Field_multiply := ok_m_Field_multiply (P := P) (w := w) (base := base) T
  refine cal_of T.d_f_law_next sc_f_law_next (by rintro H rs r ⟨_, _, _, _, _, _, _, _, rfl, _⟩; rfl) fun f cdv A outer s H vs Q E rs r hr hS ha k => ?_
  obtain ⟨i, c, o, so, hc, ho, hco, hs, rfl, rfl⟩ := hS
  obtain ⟨vf, ws, rfl, dvf, ha⟩ := ha.cons_inv
  obtain ⟨vc, ws, rfl, dvc, ha⟩ := ha.cons_inv
  obtain ⟨vo, ws, rfl, dvo, ha⟩ := ha.cons_inv
  have e := ha.nil_inv
  subst e
  have := hs.ls
  have := hs.mo
  have := hs.sq.sq
  refine ⟨_, (pss_cons (ps_set (i := 3) sc_f_law_next.nd rfl (by first | exact Or.inl rfl | exact Or.inr rfl) (pe_met0 G_m_Field_zero hr (by decide) (pv 0)))
    (pss_cons (ps_set (i := 4) sc_f_law_next.nd rfl (by first | exact Or.inl rfl | exact Or.inr rfl) (pe_op c_sub (pe_callB c_len (by rfl) T.z_len PySem.boot_len (pa_cons (pv 2) pa_nil)) (pe_callB c_len (by rfl) T.z_len PySem.boot_len (pa_cons (pv 1) pa_nil))))
    (pss_cons (ps_for PassesOwn.never rfl (pi_range1 rfl T.z_range (pa_cons (pe_callB c_len (by rfl) T.z_len PySem.boot_len (pa_cons (pv 1) pa_nil)) pa_nil)) (pg_name (i := 5) sc_f_law_next.nd rfl (by first | exact Or.inl rfl | exact Or.inr rfl)) (pss_one (ps_set (i := 3) sc_f_law_next.nd rfl (by first | exact Or.inl rfl | exact Or.inr rfl) (pe_met G_m_Field_add hr (by decide) (pv 0) (pa_cons (pv 3) (pa_cons (pe_met G_m_Field_multiply hr (by decide) (pv 0) (pa_cons (pe_ix ix_seq (pv 1) (pv 5) (fun _ _ => rfl)) (pa_cons (pe_ix ix_seq (pv 2) (pe_op c_add (pv 4) (pv 5)) (fun _ _ => rfl)) pa_nil))) pa_nil))))))
    (pss_one (ps_ret (pv 3)))))), ?_⟩
  refine q_asg (ev_F0 (ev_var (r := dFld K i) rfl dvf)) fun v3 H1 e1 d3 => ?_
  replace dvf := Mono.m _ _ _ e1 dvf
  replace dvc := Mono.m _ _ _ e1 dvc
  replace dvo := Mono.m _ _ _ e1 dvo
  replace k := fun v H' e' d' => k v H' (Same.trans e1 e') d'
  refine q_asg ((ev_sub (ev_len (K := K) (ev_var (r := so) rfl dvo)) (ev_len (K := K) (ev_var (r := dT (dV c)) rfl dvc))).eq (by rw [dV_len, dV_len, show ((o.length : Int) - (c.length : Int)) = ((o.length - c.length : Nat) : Int) by omega])) fun v4 H2 e2 d4 => ?_
  have ev : v4 = .int ((o.length - c.length : Nat) : Int) := d4
  subst ev
  replace dvf := Mono.m _ _ _ e2 dvf
  replace dvc := Mono.m _ _ _ e2 dvc
  replace dvo := Mono.m _ _ _ e2 dvo
  replace d3 := Mono.m _ _ _ e2 d3
  replace k := fun v H' e' d' => k v H' (Same.trans e2 e') d'
  refine q_forJ (ei_rng1 ((ev_len (K := K) (ev_var (r := dT (dV c)) rfl dvc)).eq (by rw [dV_len])) (by omega) (by omega)) fun H3 e3 => ⟨fun j σ' H' => Same H3 H' ∧ ∃ v3 x5, σ' = [some vf, some vc, some vo, some v3, some (.int ((o.length - c.length : Nat) : Int)), x5] ∧ dM (fdotN c (o.drop (o.length - c.length)) j) v3 H', ⟨Same.refl _, v3, none, rfl, Mono.m _ _ _ e3 d3⟩, fun j σ' H' hi h => le_of h.1, fun j σ' H' hi h xx H'' s'' y => ?_, fun σ' H' h => ?_⟩
  · obtain ⟨sm, v3, x5, rfl, d3⟩ := h
    rw [Int.toNat_natCast] at hi
    have ex : xx = .int (j : Int) := y
    subst ex
    have E := e3.trans (sm.trans s'')
    replace dvf := Mono.m _ _ _ E dvf
    replace dvc := Mono.m _ _ _ E dvc
    replace dvo := Mono.m _ _ _ E dvo
    replace d3 := Mono.m _ _ _ s'' d3
    show tAsg _ _ _ [some vf, some vc, some vo, some v3, some (.int ((o.length - c.length : Nat) : Int)), some (.int (j : Int))] H''
    refine s_asg (ev_Fa (ev_var (r := dFld K i) rfl dvf) (ev_var rfl d3) (ev_Fm (ev_var (r := dFld K i) rfl dvf) (ev_atM (j := j) (ev_var (r := dT (dV c)) rfl dvc) (ev_var (r := dI (j : Int)) rfl rfl) rfl hi) (ev_atM (j := o.length - c.length + j) (ev_var (r := so) rfl dvo) (ev_add (ev_var (r := dI ((o.length - c.length : Nat) : Int)) rfl rfl) (ev_var (r := dI (j : Int)) rfl rfl)) (by omega) (by omega)))) fun v6 H4 e4 d6 => ?_
    refine ⟨(sm.trans s'').trans e4, v6, _, rfl, ?_⟩
    rw [fdotN_succ hi (by rw [List.length_drop]; omega), getD_drop]
    exact d6
  · obtain ⟨sm, v3, x5, rfl, d3⟩ := h
    rw [Int.toNat_natCast, fdotN_all (by rw [List.length_drop]; omega)] at d3
    exact s_ret (ev_var (r := dM (fnext c o)) rfl d3) fun v H4 e4 d => k v H4 ((e3.trans sm).trans e4) d
end
end K35
set_option Elab.async false
set_option linter.all false
set_option maxRecDepth 100000
set_option maxHeartbeats 4000000
namespace K35
open PySem PySem.Spec L2
section
variable {P : Program} {w : World} {K : PySem.W.Frag} {mg : Str → Option Value} {base : Heap}

theorem ok_f_law_row (T : Tx K mg) : Cal P w K mg base 6 "_law_row" (spP (S_f_law_row K)) := by
  have G_f_law_next := ok_f_law_next (P := P) (w := w) (base := base) T
  refine cal_of T.d_f_law_row sc_f_law_row (by rintro H rs r ⟨_, _, _, _, _, _, _, rfl, _⟩; rfl) fun f cdv A outer s H vs Q E rs r hr hS ha k => ?_
  obtain ⟨i, c, fi, n, hc, hl, hn, rfl, rfl⟩ := hS
  obtain ⟨vf, ws, rfl, dvf, ha⟩ := ha.cons_inv
  obtain ⟨vc, ws, rfl, dvc, ha⟩ := ha.cons_inv
  obtain ⟨va, ws, rfl, dva, ha⟩ := ha.cons_inv
  obtain ⟨vn, ws, rfl, dvn, ha⟩ := ha.cons_inv
  have e := ha.nil_inv
  subst e
  refine ⟨_, (pss_cons (ps_set (i := 4) sc_f_law_row.nd rfl (by first | exact Or.inl rfl | exact Or.inr rfl) (pe_callTy c_list (by rfl) T.z_list b_list (pa_cons (pv 2) pa_nil)))
    (pss_cons (ps_while PassesOwn.never (pt_cmpR c_lt (pe_callB c_len (by rfl) T.z_len PySem.boot_len (pa_cons (pv 4) pa_nil)) (pv 3) (nomark _)) (pss_one (ps_expr (pe_bm PySem.F.plainAttrs_list PySem.F.slot_list_append PySem.F.type_list_append mt_append (pv 4) (pa_cons (pe_cal G_f_law_next hr (by decide) (by rfl) (pa_cons (pv 0) (pa_cons (pv 1) (pa_cons (pv 4) pa_nil)))) pa_nil)))))
    (pss_one (ps_ret (pe_callTy c_tuple (by rfl) T.z_tuple b_tuple (pa_cons (pe_slice c_sl (pv 4) po_none (po_some (pv 3))) pa_nil)))))), ?_⟩
  have en : vn = .int (n : Int) := dvn
  subst en
  refine q_asg (ev_list (K := K) (ev_var (r := dT (dV fi)) rfl dva)) fun v3 H1 e1 d3 => ?_
  replace dvf := Mono.m _ _ _ e1 dvf
  replace dvc := Mono.m _ _ _ e1 dvc
  obtain ⟨⟨o, rfl, ho⟩, o', us, eo, hO, al⟩ := d3
  cases eo
  refine q_while (fun m σ' H' => Same H H' ∧ Le H1 H' ∧ ∃ cur us, σ' = [some vf, some vc, some va, some (.int (n : Int)), some (.ref o)] ∧ H' o = some (.lst us) ∧ Alls H' us (dV cur) ∧ m = n - cur.length ∧ c.length ≤ cur.length ∧ cur.length ≤ 800 ∧ fext c (n - cur.length) cur = fext c (n - fi.length) fi) (n - fi.length) ⟨e1, le_refl _, fi, us, rfl, hO, al, rfl, by omega, by omega, rfl⟩ fun m σ' H' hW => ?_
  obtain ⟨sm, le, cur, us, rfl, hO, al, rfl, h1, h2, h3⟩ := hW
  have dO : dL (dV cur) (.ref o) H' := ⟨o, us, rfl, hO, al⟩
  refine ⟨_, et_test (ev_lt ((ev_len (K := K) (ev_var (r := dL (dV cur)) rfl dO)).eq (by rw [dV_len])) (ev_var (r := dI (n : Int)) rfl rfl)), fun z H2 e2 => ?_, fun z H2 e2 => ?_⟩
  · have z := of_decide_eq_true z
    have df := Imm.m _ _ _ (le_trans le (le_of e2)) dvf
    have dc := Imm.m _ _ _ (le_trans le (le_of e2)) dvc
    have hul : us.length < 100000 := by
      rw [al.len, dV_len]
      omega
    refine s_app (p := o) (vs := us) (r := dM (fnext c cur)) rfl (e2 _ _ hO) hul (ev_call (S := S_f_law_next K) (ea_cons (ev_var (r := dFld K i) rfl df) (ea_cons (ev_var (r := dT (dV c)) rfl dc) (ea_cons (ev_var (r := dL (dV cur)) rfl (Mono.m _ _ _ e2 dO)) ea_nil))) fun H4 => ⟨i, c, cur, _, by omega, by omega, h1, isLs, rfl, rfl⟩) fun v H4 e4 d hO4 => ?_
    refine ⟨n - (cur.length + 1), by omega, same_mut ((sm.trans e2).trans e4) ho, le_trans le (le_trans (le_of (e2.trans e4)) (le_set hO4)), cur ++ [fnext c cur], us ++ [v], rfl, upd_same, ?_, by rw [List.length_append]; rfl, by rw [List.length_append]; omega, by rw [List.length_append, List.length_singleton]; omega, ?_⟩
    · rw [dV_app]
      exact (al.imm (le_trans (le_of (e2.trans e4)) (le_set hO4))).append (alls_cons (Imm.m _ _ _ (le_set hO4) d) alls_nil)
    · rw [← h3, List.length_append, List.length_singleton, show n - cur.length = (n - (cur.length + 1)) + 1 by omega]
      rfl
  · have z := of_decide_eq_false z
    rw [show n - cur.length = 0 by omega] at h3
    have h3 : cur = fext c (n - fi.length) fi := h3
    refine s_ret (ev_tuple (ev_slL (K := K) (ss := dV (frow c fi n)) (ev_var (r := dL (dV cur)) rfl (Mono.m _ _ _ e2 dO)) eo_none (eo_some (ev_var (r := dI (n : Int)) rfl rfl)) ?_)) fun v H3 e3 d => k v H3 ((sm.trans e2).trans e3) d
    unfold frow
    rw [cut_none_some, dV_take, ← h3]
end
end K35
set_option Elab.async false
set_option linter.all false
set_option maxRecDepth 100000
set_option maxHeartbeats 4000000
namespace K35
open PySem PySem.Spec L2
section
variable {P : Program} {w : World} {K : PySem.W.Frag} {mg : Str → Option Value} {base : Heap}

theorem ok_m_Recurrence_is_satisfied (T : Tx K mg) : Met P w K mg base 6 (cR K) "is_satisfied" (spP (S_m_Recurrence_is_satisfied K)) := by
  have G_f_dot := ok_f_dot (P := P) (w := w) (base := base) T
  refine met_of T.d_m_Recurrence_is_satisfied sc_m_Recurrence_is_satisfied (by rintro H rs r ⟨_, _, _, _, _, _, rfl, _⟩; rfl) fun f cdv A outer s H vs Q E rs r hr hS ha k => ?_
  obtain ⟨i, c, row, hc, hrr, hcr, rfl, rfl⟩ := hS
  obtain ⟨vs, ws, rfl, dvs, ha⟩ := ha.cons_inv
  obtain ⟨vr, ws, rfl, dvr, ha⟩ := ha.cons_inv
  have e := ha.nil_inv
  subst e
  refine ⟨_, (pss_cons (ps_set (i := 2) sc_m_Recurrence_is_satisfied.nd rfl (by first | exact Or.inl rfl | exact Or.inr rfl) (pe_callB c_len (by rfl) T.z_len PySem.boot_len (pa_cons (pe_fld (pv 0) rfl) pa_nil)))
    (pss_cons (ps_for PassesOwn.never rfl (pi_range1 rfl T.z_range (pa_cons (pe_op c_sub (pe_callB c_len (by rfl) T.z_len PySem.boot_len (pa_cons (pv 1) pa_nil)) (pv 2)) pa_nil)) (pg_name (i := 3) sc_m_Recurrence_is_satisfied.nd rfl (by first | exact Or.inl rfl | exact Or.inr rfl)) (pss_one (ps_if (pt_cmpR (op_neD hr.units) (pe_cal G_f_dot hr (by decide) (by rfl) (pa_cons (pe_fld (pv 0) rfl) (pa_cons (pe_fld (pv 0) rfl) (pa_cons (pe_slice c_sl (pv 1) (po_some (pv 3)) (po_some (pe_op c_add (pv 3) (pv 2)))) pa_nil)))) (pe_ix ix_seq (pv 1) (pe_op c_add (pv 3) (pv 2)) (fun _ _ => rfl)) (nomark _)) (pss_one (ps_ret pe_bl)) pss_nil)))
    (pss_one (ps_ret pe_bl)))), ?_⟩
  refine q_asg ((ev_len (K := K) (ev_rm T (ev_var (r := dRec K c) rfl dvs))).eq (by rw [dV_len])) fun v2 H1 e1 d2 => ?_
  have e2' : v2 = .int (c.length : Int) := d2
  subst e2'
  replace dvs := Mono.m _ _ _ e1 dvs
  replace dvr := Mono.m _ _ _ e1 dvr
  replace k := fun v H' e' d' => k v H' (Same.trans e1 e') d'
  have hlr : ((dV row).length : Int) - (c.length : Int) = ((row.length - c.length : Nat) : Int) := by rw [dV_len]; omega
  refine q_forJ (ei_rng1 ((ev_sub (ev_len (K := K) (ev_var (r := dT (dV row)) rfl dvr)) (ev_var (r := dI (c.length : Int)) rfl rfl)).eq (by rw [hlr])) (by omega) (by omega)) fun H2 e2 => ⟨fun j σ' H' => Same H2 H' ∧ ∃ x3, σ' = [some vs, some vr, some (.int (c.length : Int)), x3] ∧ ∀ q, q < j → fdot c ((row.drop q).take c.length) = row.getD (q + c.length) Fld.zero, ⟨Same.refl _, none, rfl, fun q h => absurd h (Nat.not_lt_zero q)⟩, fun j σ' H' hi h => le_of h.1, fun j σ' H' hi h xx H'' s'' y => ?_, fun σ' H' h => ?_⟩
  · obtain ⟨sm, x3, rfl, hq⟩ := h
    rw [Int.toNat_natCast] at hi
    have ex : xx = .int (j : Int) := y
    subst ex
    have E := e2.trans (sm.trans s'')
    replace dvs := Mono.m _ _ _ E dvs
    replace dvr := Mono.m _ _ _ E dvr
    show tIfS _ _ _ _ [some vs, some vr, some (.int (c.length : Int)), some (.int (j : Int))] H''
    have ht := et_test (ev_neM (K := K) (a := fdot c ((row.drop j).take c.length)) (b := row.getD (j + c.length) Fld.zero) (ev_call (S := S_f_dot K) (ea_cons (ev_rf T (ev_var (σ := [some vs, some vr, some (.int (c.length : Int)), some (.int (j : Int))]) (n := 0) (r := dRec K c) rfl dvs)) (ea_cons (ev_rm T (ev_var (n := 0) (r := dRec K c) rfl dvs)) (ea_cons (ev_slT (K := K) (ss := dV ((row.drop j).take c.length)) (ev_var (n := 1) (r := dT (dV row)) rfl dvr) (eo_some (ev_var (n := 3) (r := dI (j : Int)) rfl rfl)) (eo_some ((ev_add (ev_var (n := 3) (r := dI (j : Int)) rfl rfl) (ev_var (n := 2) (r := dI (c.length : Int)) rfl rfl)).eq (by rw [show ((j : Int) + (c.length : Int)) = ((j + c.length : Nat) : Int) by omega]))) (by rw [cut_some_some (by rw [dV_len]; omega), dV_drop, dV_take])) ea_nil))) fun H4 => ⟨i, c, (row.drop j).take c.length, _, by omega, isSq, rfl, rfl⟩) (ev_atM (K := K) (j := j + c.length) (ev_var (n := 1) (r := dT (dV row)) rfl dvr) (ev_add (ev_var (n := 3) (r := dI (j : Int)) rfl rfl) (ev_var (n := 2) (r := dI (c.length : Int)) rfl rfl)) (by omega) (by omega)))
    by_cases hj : fdot c ((row.drop j).take c.length) = row.getD (j + c.length) Fld.zero
    · refine s_if (b := false) (ht.eq (by rw [decide_eq_true hj]; rfl)) (fun z => nomatch z) fun _ H3 e3 => ?_
      refine ⟨(sm.trans s'').trans e3, _, rfl, fun q h => ?_⟩
      by_cases hqj : q = j
      · rw [hqj]; exact hj
      · exact hq q (by omega)
    · refine s_if (b := true) (ht.eq (by rw [decide_eq_false hj]; rfl)) (fun _ H3 e3 => ?_) fun z => nomatch z
      have hf : fsat c row = false := by
        unfold fsat
        refine List.all_eq_false.mpr ⟨j, List.mem_range.mpr hi, ?_⟩
        rw [decide_eq_false hj]
        decide
      rw [hf] at k
      exact s_ret (r := dB false) ev_bl fun v H4 e4 d => k v H4 (E.trans (e3.trans e4)) d
  · obtain ⟨sm, x3, rfl, hq⟩ := h
    rw [Int.toNat_natCast] at hq
    have hf : fsat c row = true := by
      unfold fsat
      exact List.all_eq_true.mpr fun q h => decide_eq_true (hq q (List.mem_range.mp h))
    rw [hf] at k
    exact s_ret (r := dB true) ev_bl fun v H4 e4 d => k v H4 ((e2.trans sm).trans e4) d
end
end K35
set_option Elab.async false
set_option linter.all false
set_option maxRecDepth 100000
set_option maxHeartbeats 4000000
namespace K35
open PySem PySem.Spec L2
section
variable {P : Program} {w : World} {K : PySem.W.Frag} {mg : Str → Option Value} {base : Heap}

theorem ok_m_Recurrence_len (T : Tx K mg) : Met P w K mg base 1 (cR K) "__len__" (spP (S_m_Recurrence_len K)) := by
  refine met_of T.d_m_Recurrence_len sc_m_Recurrence_len (by rintro H rs r ⟨_, _, rfl, _⟩; rfl) fun f cdv A outer s H vs Q E rs r hr hS ha k => ?_
  obtain ⟨i, c, rfl, rfl⟩ := hS
  obtain ⟨vs, ws, rfl, dvs, ha⟩ := ha.cons_inv
  have e := ha.nil_inv
  subst e
  refine ⟨_, (pss_one (ps_ret (pe_callB c_len (by rfl) T.z_len PySem.boot_len (pa_cons (pe_fld (pv 0) rfl) pa_nil)))), ?_⟩
  exact s_ret ((ev_len (K := K) (ev_rm T (ev_var (r := dRec K c) rfl dvs))).eq (by rw [dV_len])) k
end
end K35
set_option Elab.async false
set_option linter.all false
set_option maxRecDepth 100000
set_option maxHeartbeats 4000000
namespace K35
open PySem PySem.Spec L2
section
variable {P : Program} {w : World} {K : PySem.W.Frag} {mg : Str → Option Value} {base : Heap}

theorem ok_m_Poly_is_zero (T : Tx K mg) : Met P w K mg base 1 (cP K) "is_zero" (spP (S_m_Poly_is_zero K)) := by
  refine met_of T.d_m_Poly_is_zero sc_m_Poly_is_zero (by rintro H rs r ⟨_, _, rfl, _⟩; rfl) fun f cdv A outer s H vs Q E rs r hr hS ha k => ?_
  obtain ⟨i, a, rfl, rfl⟩ := hS
  obtain ⟨vs, ws, rfl, dvs, ha⟩ := ha.cons_inv
  have e := ha.nil_inv
  subst e
  refine ⟨_, (pss_one (ps_ret (pe_cmpR op_eq (pe_callB c_len (by rfl) T.z_len PySem.boot_len (pa_cons (pe_fld (pv 0) rfl) pa_nil)) pe_int (nomark _)))), ?_⟩
  exact s_ret ((ev_eqI (ev_len (K := K) (ev_pr T (ev_var (r := dPol K a) rfl dvs))) (ev_int (i := 0))).eq (by rw [dV_len]; cases a with
    | nil => rfl
    | cons x l => exact congrArg dB (decide_eq_false (by rw [List.length_cons]; omega)))) k
end
end K35
set_option Elab.async false
set_option linter.all false
set_option maxRecDepth 100000
set_option maxHeartbeats 4000000
namespace K35
open PySem PySem.Spec L2
section
variable {P : Program} {w : World} {K : PySem.W.Frag} {mg : Str → Option Value} {base : Heap}

theorem ok_f_divide (T : Tx K mg) : Cal P w K mg base 5 "_divide" (spP (S_f_divide K)) := by
  have G_f_member_inverse := ok_f_member_inverse (P := P) (w := w) (base := base) T
  have G_f_member_of := ok_f_member_of (P := P) (w := w) (base := base) T
  have G_f_member_product := ok_f_member_product (P := P) (w := w) (base := base) T
  have G_f_member_negative := ok_f_member_negative (P := P) (w := w) (base := base) T
  have G_f_member_sum := ok_f_member_sum (P := P) (w := w) (base := base) T
  refine cal_of T.d_f_divide sc_f_divide (by rintro H rs r ⟨_, _, _, _, _, _, _, rfl, _⟩; rfl) fun f cdv A outer s H vs Q E rs r hr hS ha k => ?_
  obtain ⟨i, a, b, la, lb, hb, hz, rfl, rfl⟩ := hS
  obtain ⟨va, ws, rfl, dva, ha⟩ := ha.cons_inv
  obtain ⟨vb, ws, rfl, dvb, ha⟩ := ha.cons_inv
  obtain ⟨vf, ws, rfl, dvf, ha⟩ := ha.cons_inv
  have e := ha.nil_inv
  subst e
  refine ⟨_, (pss_cons (ps_if (pt_cmpR op_eq (pe_callB c_len (by rfl) T.z_len PySem.boot_len (pa_cons (pv 1) pa_nil)) pe_int (nomark _)) (pss_one ps_never) pss_nil)
    (pss_cons (ps_set (i := 3) sc_f_divide.nd rfl (by first | exact Or.inl rfl | exact Or.inr rfl) (pe_callTy c_list (by rfl) T.z_list b_list (pa_cons (pv 0) pa_nil)))
    (pss_cons (ps_set (i := 4) sc_f_divide.nd rfl (by first | exact Or.inl rfl | exact Or.inr rfl) (pe_cal G_f_member_inverse hr (by decide) (by rfl) (pa_cons (pe_ix ix_seq (pv 1) (pe_op c_sub (pe_callB c_len (by rfl) T.z_len PySem.boot_len (pa_cons (pv 1) pa_nil)) pe_int) (fun _ _ => rfl)) (pa_cons (pe_fld (pv 2) rfl) (pa_cons (pe_fld (pv 2) rfl) pa_nil)))))
    (pss_cons (ps_setLc (i := 5) (own := [("_", 8)]) (g := gName 8) (tt := tYes) rfl sc_f_divide.nd rfl rfl (sw_true rfl rfl rfl (by decide +kernel)) (pi_range1 rfl T.z_range (pa_cons (pe_callB (c_max2 rfl) (by rfl) T.z_max b_max (pa_cons (pe_op c_add (pe_op c_sub (pe_callB c_len (by rfl) T.z_len PySem.boot_len (pa_cons (pv 0) pa_nil)) (pe_callB c_len (by rfl) T.z_len PySem.boot_len (pa_cons (pv 1) pa_nil))) pe_int) (pa_cons pe_int pa_nil))) pa_nil)) (blkOk_by (own := [("_", 8)]) (N := n_f_divide) (sc := defScope s_f_divide) (by decide +kernel)) (fun _ _ _ _ _ => pg_name (i := 8) sc_f_divide.nd rfl (Or.inl rfl)) (fun _ _ _ _ _ => pts_nil) (fun _ _ _ _ _ => (pe_cal G_f_member_of hr (by decide) (by rfl) (pa_cons (pe_tup pa_nil) (pa_cons (pe_fldK (K := K) (by rfl) (pv 2) (by rfl)) pa_nil)))))
    (pss_cons (ps_for PassesOwn.never rfl (pi_range3 rfl T.z_range (pa_cons (pe_op c_sub (pe_callB c_len (by rfl) T.z_len PySem.boot_len (pa_cons (pv 5) pa_nil)) pe_int) (pa_cons (pe_un c_neg pe_int) (pa_cons (pe_un c_neg pe_int) pa_nil)))) (pg_name (i := 6) sc_f_divide.nd rfl (by first | exact Or.inl rfl | exact Or.inr rfl)) (pss_cons (ps_set (i := 7) sc_f_divide.nd rfl (by first | exact Or.inl rfl | exact Or.inr rfl) (pe_cal G_f_member_product hr (by decide) (by rfl) (pa_cons (pe_ix ix_seq (pv 3) (pe_op c_sub (pe_op c_add (pv 6) (pe_callB c_len (by rfl) T.z_len PySem.boot_len (pa_cons (pv 1) pa_nil))) pe_int) (fun _ _ => rfl)) (pa_cons (pv 4) (pa_cons (pe_fld (pv 2) rfl) (pa_cons (pe_fld (pv 2) rfl) pa_nil))))))
    (pss_cons (ps_asg (pv 7) (pg_sub (pv 5) (pv 6) set_list))
    (pss_one (ps_for PassesOwn.never rfl (pi_enX (by rfl) T.z_enumerate (pa_cons (pv 1) pa_nil)) (pg_tup rfl (pgs_cons (pg_name (i := 9) sc_f_divide.nd rfl (by first | exact Or.inl rfl | exact Or.inr rfl)) (pgs_cons (pg_name (i := 10) sc_f_divide.nd rfl (by first | exact Or.inl rfl | exact Or.inr rfl)) pgs_nil))) (pss_cons (ps_set (i := 11) sc_f_divide.nd rfl (by first | exact Or.inl rfl | exact Or.inr rfl) (pe_cal G_f_member_negative hr (by decide) (by rfl) (pa_cons (pe_cal G_f_member_product hr (by decide) (by rfl) (pa_cons (pv 7) (pa_cons (pv 10) (pa_cons (pe_fld (pv 2) rfl) (pa_cons (pe_fld (pv 2) rfl) pa_nil))))) (pa_cons (pe_fld (pv 2) rfl) pa_nil))))
    (pss_one (ps_asg (pe_cal G_f_member_sum hr (by decide) (by rfl) (pa_cons (pe_ix ix_seq (pv 3) (pe_op c_add (pv 6) (pv 9)) (fun _ _ => rfl)) (pa_cons (pv 11) (pa_cons (pe_fld (pv 2) rfl) pa_nil)))) (pg_sub (pv 3) (pe_op c_add (pv 6) (pv 9)) set_list)))))))))
    (pss_one (ps_ret (pe_tup (pa_cons (pv 5) (pa_cons (pv 3) pa_nil)))))))))), ?_⟩
  have hb1 := List.length_pos_iff.mpr hb
  refine q_no ((et_test (ev_eqI (ev_len (K := K) (ev_var (r := dT (dV b)) rfl dvb)) (ev_int (i := 0)))).eq (by rw [dV_len]; exact decide_eq_false (by omega))) fun H1 e1 => ?_
  replace dva := Mono.m _ _ _ e1 dva
  replace dvb := Mono.m _ _ _ e1 dvb
  replace dvf := Mono.m _ _ _ e1 dvf
  replace k := fun v H' e' d' => k v H' (Same.trans e1 e') d'
  refine q_asg (ev_list (K := K) (ev_var (r := dT (dV a)) rfl dva)) fun v3 H2 e2 d3 => ?_
  obtain ⟨⟨o, rfl, ho⟩, d3⟩ := d3
  replace dva := Mono.m _ _ _ e2 dva
  replace dvb := Mono.m _ _ _ e2 dvb
  replace dvf := Mono.m _ _ _ e2 dvf
  refine q_asg (ev_mi T hz (ev_atM (j := b.length - 1) (ev_var (r := dT (dV b)) rfl dvb) (ev_sub (ev_len (K := K) (ev_var (r := dT (dV b)) rfl dvb)) (ev_int (i := 1))) (by rw [dV_len]; omega) (by omega)) (ev_var rfl dvf)) fun v4 H3 e3 d4 => ?_
  replace dva := Mono.m _ _ _ e3 dva
  replace dvb := Mono.m _ _ _ e3 dvb
  replace dvf := Mono.m _ _ _ e3 dvf
  replace d3 := Mono.m _ _ _ e3 d3
  obtain ⟨o', us, eo, hO, al⟩ := d3
  cases eo
  have hn : (if (0 : Int) > ((dV a).length : Int) - ((dV b).length : Int) + 1 then (0 : Int) else ((dV a).length : Int) - ((dV b).length : Int) + 1) = ((a.length + 1 - b.length : Nat) : Int) := by
    rw [dV_len, dV_len]
    split <;> omega
  have hmax := ev_max2 (ev_add (ev_sub (ev_len (K := K) (ev_var (n := 0) (σ := [some va, some vb, some vf, some (.ref o), some v4, none, none, none, none, none, none, none]) (r := dT (dV a)) rfl dva)) (ev_len (K := K) (ev_var (n := 1) (r := dT (dV b)) rfl dvb))) (ev_int (i := 1))) (ev_int (i := 0))
  rw [hn] at hmax
  refine q_asg (ev_lc1 (es := dV (List.replicate (a.length + 1 - b.length) (Fld.zero : El i))) (ei_rng1 hmax (by omega) (by omega)).i ?_ (by omega) (fun _ => rfl) fun j d x H1 hd e hx => ?_) fun v5 H4 e4 d5 => ?_
  · rw [dV_len, List.length_replicate, Int.toNat_natCast]
  · obtain ⟨c, hc, rfl⟩ := dV_inv hd
    have := List.mem_of_getElem? hc
    rw [(List.mem_replicate.mp this).2]
    exact ev_mz T (ev_var rfl (Mono.m _ _ _ e dvf))
  · obtain ⟨⟨qd, rfl, hqd⟩, qd', ws, eo, hQ, aq⟩ := d5
    cases eo
    replace dva := Mono.m _ _ _ e4 dva
    replace dvb := Mono.m _ _ _ e4 dvb
    replace dvf := Mono.m _ _ _ e4 dvf
    replace d4 := Mono.m _ _ _ e4 d4
    have hne : o ≠ qd := ne_of_none hO hqd
    have hO := e4 _ _ hO
    have al := al.mono e4
    have hq0 := (e2.trans e3).free hqd
    refine div_loops (enc := fun x : El i => dM x) (op := fDS) (fac := fun x => Fld.mul x (Fld.inv (b.getD (b.length - 1) Fld.zero))) (z := Fld.zero) (a := a) (b := b) (H0 := H1) (rp := dFld K i) (rl := dM (Fld.inv (b.getD (b.length - 1) Fld.zero))) (w := 1) (n := a.length + 1 - b.length) (tl := [none]) rfl hb1 rfl (by omega) dvb dvf d4 ((e2.trans e3).trans e4) ho hq0 hne hO hQ al aq (fun c σ H1 h1 h2 h3 => ev_mp T h1 h2 h3) (fun D c f y i' j vf' vy tl H1 us hy htl dp df dy hO hu hix hadd q => ?_) fun x6 x7 x9 x10 tl H5 us' ws' s5 l5 hO5 hQ5 al5 aq5 htl => ?_
    · obtain ⟨t0, rfl⟩ : ∃ t0, tl = [t0] := by
        cases tl with
        | nil => cases htl
        | cons t0 r =>
          cases r with
          | nil => exact ⟨t0, rfl⟩
          | cons => cases htl
      refine q_asg (ev_mn T (ev_mp T (ev_var rfl df) (ev_var rfl dy) (ev_var (r := dFld K i) rfl dp)) (ev_var (r := dFld K i) rfl dp)) fun v11 H6 e6 d11 => ?_
      replace dp := Mono.m _ _ _ e6 dp
      exact s_set (p := o) rfl (e6 _ _ hO) (ev_ms T (hix [some v11] _ e6) (ev_var rfl d11) (ev_var (r := dFld K i) rfl dp)) (hadd [some v11] _ e6) hu fun v H7 e7 d hO7 => q [some v11] v H7 rfl (e6.trans e7) d hO7
    · have dr : dL (dV (fdiv a b).2) (.ref o) H5 := ⟨o, _, rfl, hO5, al5⟩
      exact s_ret (ev_tup (rs := [dAny, dL (dV (fdiv a b).2)]) (ea_cons (ev_var rfl trivial) (ea_cons (ev_var rfl dr) ea_nil))) fun v6 H6 e6 d6 => k v6 H6 (s5.trans e6) d6
end
end K35
set_option Elab.async false
set_option linter.all false
set_option maxRecDepth 100000
set_option maxHeartbeats 4000000
namespace K35
open PySem PySem.Spec L2
section
variable {P : Program} {w : World} {K : PySem.W.Frag} {mg : Str → Option Value} {base : Heap}

theorem ok_m_Poly_mod (T : Tx K mg) : Met P w K mg base 6 (cP K) "__mod__" (spP (S_m_Poly_mod K)) := by
  have G_m_Field_eq := ok_m_Field_eq (P := P) (w := w) (base := base) T
  have G_m_Poly_init := ok_m_Poly_init (P := P) (w := w) (base := base) T
  have G_f_divide := ok_f_divide (P := P) (w := w) (base := base) T
  refine met_of T.d_m_Poly_mod sc_m_Poly_mod (by rintro H rs r ⟨_, _, _, _, _, _, _, rfl, _⟩; rfl) fun f cdv A outer s H vs Q E rs r hr hS ha k => ?_
  obtain ⟨i, a, b, la, lb, hb, hz, rfl, rfl⟩ := hS
  obtain ⟨vs, ws, rfl, dvs, ha⟩ := ha.cons_inv
  obtain ⟨vo, ws, rfl, dvo, ha⟩ := ha.cons_inv
  have e := ha.nil_inv
  subst e
  refine ⟨_, (pss_cons (ps_if (pt_cmpR (op_neO G_m_Field_eq T.x_ne hr (by decide)) (pe_fld (pv 0) rfl) (pe_fld (pv 1) rfl) (nomark _)) (pss_one ps_never) pss_nil)
    (pss_one (ps_ret (pe_mak G_m_Poly_init hr (by decide) (by rfl) (pa_cons (pe_fld (pv 0) rfl) (pa_cons (pe_ix ix_seq (pe_cal G_f_divide hr (by decide) (by rfl) (pa_cons (pe_fld (pv 0) rfl) (pa_cons (pe_fld (pv 1) rfl) (pa_cons (pe_fld (pv 0) rfl) pa_nil)))) pe_int (fun _ _ => rfl)) pa_nil)))))), ?_⟩
  refine q_no ((et_test (ev_neO (b := true) (ev_pf T (ev_var (r := dPol K a) rfl dvs)) (ev_pf T (ev_var (r := dPol K b) rfl dvo)) fun H1 => ⟨i, rfl, rfl⟩)).eq rfl) fun H1 e1 => ?_
  replace dvs := Mono.m _ _ _ e1 dvs
  replace dvo := Mono.m _ _ _ e1 dvo
  replace k := fun v H' e' d' => k v H' (Same.trans e1 e') d'
  exact s_ret (ev_make (S := S_m_Poly_init K) (ea_cons (ev_pf T (ev_var (r := dPol K a) rfl dvs)) (ea_cons (ev_ixI (k := 1) (rs := [dAny, dL (dV (fdiv a b).2)]) (ra := dT [dAny, dL (dV (fdiv a b).2)]) (ev_call (S := S_f_divide K) (ea_cons (ev_pr T (ev_var (r := dPol K a) rfl dvs)) (ea_cons (ev_pr T (ev_var (r := dPol K b) rfl dvo)) (ea_cons (ev_pf T (ev_var (r := dPol K a) rfl dvs)) ea_nil))) fun H2 => ⟨i, a, b, by omega, by omega, hb, hz, rfl, rfl⟩) (ev_int (i := 1)) rfl rfl) ea_nil)) ⟨i, _, _, by unfold fdiv; rw [(divOut_len ..).2]; omega, isSq, rfl, rfl⟩) k
end
end K35
set_option Elab.async false
set_option linter.all false
set_option maxRecDepth 100000
set_option maxHeartbeats 4000000
namespace K35
open PySem PySem.Spec L2
section
variable {P : Program} {w : World} {K : PySem.W.Frag} {mg : Str → Option Value} {base : Heap}

theorem ok_f_multiply (T : Tx K mg) : Cal P w K mg base 4 "_multiply" (spP (S_f_multiply K)) := by
  have G_f_member_of := ok_f_member_of (P := P) (w := w) (base := base) T
  have G_f_member_sum := ok_f_member_sum (P := P) (w := w) (base := base) T
  have G_f_member_product := ok_f_member_product (P := P) (w := w) (base := base) T
  refine cal_of T.d_f_multiply sc_f_multiply (by rintro H rs r ⟨_, _, _, _, _, rfl, _⟩; rfl) fun f cdv A outer s H vs Q E rs r hr hS ha k => ?_
  obtain ⟨i, a, b, la, lb, rfl, rfl⟩ := hS
  obtain ⟨va, ws, rfl, dva, ha⟩ := ha.cons_inv
  obtain ⟨vb, ws, rfl, dvb, ha⟩ := ha.cons_inv
  obtain ⟨vf, ws, rfl, dvf, ha⟩ := ha.cons_inv
  have e := ha.nil_inv
  subst e
  refine ⟨_, (pss_cons (ps_setLc (i := 3) (own := [("_", 6)]) (g := gName 6) (tt := tYes) rfl sc_f_multiply.nd rfl rfl (sw_true rfl rfl rfl (by decide +kernel)) (pi_range1 rfl T.z_range (pa_cons (pe_op c_add (pe_callB c_len (by rfl) T.z_len PySem.boot_len (pa_cons (pv 0) pa_nil)) (pe_callB c_len (by rfl) T.z_len PySem.boot_len (pa_cons (pv 1) pa_nil))) pa_nil)) (blkOk_by (own := [("_", 6)]) (N := n_f_multiply) (sc := defScope s_f_multiply) (by decide +kernel)) (fun _ _ _ _ _ => pg_name (i := 6) sc_f_multiply.nd rfl (Or.inl rfl)) (fun _ _ _ _ _ => pts_nil) (fun _ _ _ _ _ => (pe_cal G_f_member_of hr (by decide) (by rfl) (pa_cons (pe_tup pa_nil) (pa_cons (pe_fldK (K := K) (by rfl) (pv 2) (by rfl)) pa_nil)))))
    (pss_cons (ps_for PassesOwn.never rfl (pi_enX (by rfl) T.z_enumerate (pa_cons (pv 0) pa_nil)) (pg_tup rfl (pgs_cons (pg_name (i := 4) sc_f_multiply.nd rfl (by first | exact Or.inl rfl | exact Or.inr rfl)) (pgs_cons (pg_name (i := 5) sc_f_multiply.nd rfl (by first | exact Or.inl rfl | exact Or.inr rfl)) pgs_nil))) (pss_one (ps_for PassesOwn.never rfl (pi_enX (by rfl) T.z_enumerate (pa_cons (pv 1) pa_nil)) (pg_tup rfl (pgs_cons (pg_name (i := 7) sc_f_multiply.nd rfl (by first | exact Or.inl rfl | exact Or.inr rfl)) (pgs_cons (pg_name (i := 8) sc_f_multiply.nd rfl (by first | exact Or.inl rfl | exact Or.inr rfl)) pgs_nil))) (pss_one (ps_asg (pe_cal G_f_member_sum hr (by decide) (by rfl) (pa_cons (pe_ix ix_seq (pv 3) (pe_op c_add (pv 4) (pv 7)) (fun _ _ => rfl)) (pa_cons (pe_cal G_f_member_product hr (by decide) (by rfl) (pa_cons (pv 5) (pa_cons (pv 8) (pa_cons (pe_fld (pv 2) rfl) (pa_cons (pe_fld (pv 2) rfl) pa_nil))))) (pa_cons (pe_fld (pv 2) rfl) pa_nil)))) (pg_sub (pv 3) (pe_op c_add (pv 4) (pv 7)) set_list))))))
    (pss_one (ps_ret (pv 3))))), ?_⟩
  have hn : ((((dV a).length : Int) + ((dV b).length : Int)).toNat) = a.length + b.length := by
    rw [dV_len, dV_len]; omega
  refine q_asg (ev_lc1 (es := dV (List.replicate (a.length + b.length) (Fld.zero : El i))) (ei_rng1 (ev_add (ev_len (K := K) (ev_var (r := dT (dV a)) rfl dva)) (ev_len (K := K) (ev_var (r := dT (dV b)) rfl dvb))) (by rw [dV_len, dV_len]; omega) (by rw [dV_len, dV_len]; omega)).i ?_ (by rw [hn]; omega) (fun _ => rfl) fun j d x H1 hd e hx => ?_) fun v1 H1 e1 d1 => ?_
  · rw [hn, dV_len, List.length_replicate]
  · obtain ⟨c, hc, rfl⟩ := dV_inv hd
    have := List.mem_of_getElem? hc
    rw [(List.mem_replicate.mp this).2]
    exact ev_mz T (ev_var rfl (Mono.m _ _ _ e dvf))
  · obtain ⟨⟨o, rfl, ho⟩, o', us, eo, hO, al⟩ := d1
    cases eo
    refine mul_loops (enc := fun x : El i => dM x) (op := fMA) (z := Fld.zero) (a := a) (b := b) (H0 := H) (rp := dFld K i) (Imm.m _ _ _ (le_of e1) dva) (Imm.m _ _ _ (le_of e1) dvb) (Imm.m _ _ _ (le_of e1) dvf) e1 ho hO al (fun c x y σ H1 hx hy h1 h2 h3 h4 => ev_ms T h1 (ev_mp T h2 h3 h4) h4) fun x5 x6 x7 x8 H2 us' e2 l2 hO2 al2 => ?_
    exact s_ret (ev_var (r := dFr H (dL (dV (fmul a b)))) rfl ⟨⟨o, rfl, ho⟩, o, us', rfl, hO2, al2⟩) fun v3 H3 e3 d3 => k v3 H3 (e2.trans e3) d3
end
end K35
set_option Elab.async false
set_option linter.all false
set_option maxRecDepth 100000
set_option maxHeartbeats 4000000
namespace K35
open PySem PySem.Spec L2
section
variable {P : Program} {w : World} {K : PySem.W.Frag} {mg : Str → Option Value} {base : Heap}

theorem ok_m_Poly_mul (T : Tx K mg) : Met P w K mg base 5 (cP K) "__mul__" (spP (S_m_Poly_mul K)) := by
  have G_m_Field_eq := ok_m_Field_eq (P := P) (w := w) (base := base) T
  have G_m_Poly_init := ok_m_Poly_init (P := P) (w := w) (base := base) T
  have G_f_multiply := ok_f_multiply (P := P) (w := w) (base := base) T
  refine met_of T.d_m_Poly_mul sc_m_Poly_mul (by rintro H rs r ⟨_, _, _, _, _, rfl, _⟩; rfl) fun f cdv A outer s H vs Q E rs r hr hS ha k => ?_
  obtain ⟨i, a, b, la, lb, rfl, rfl⟩ := hS
  obtain ⟨vs, ws, rfl, dvs, ha⟩ := ha.cons_inv
  obtain ⟨vo, ws, rfl, dvo, ha⟩ := ha.cons_inv
  have e := ha.nil_inv
  subst e
  refine ⟨_, (pss_cons (ps_if (pt_cmpR (op_neO G_m_Field_eq T.x_ne hr (by decide)) (pe_fld (pv 0) rfl) (pe_fld (pv 1) rfl) (nomark _)) (pss_one ps_never) pss_nil)
    (pss_one (ps_ret (pe_mak G_m_Poly_init hr (by decide) (by rfl) (pa_cons (pe_fld (pv 0) rfl) (pa_cons (pe_cal G_f_multiply hr (by decide) (by rfl) (pa_cons (pe_fld (pv 0) rfl) (pa_cons (pe_fld (pv 1) rfl) (pa_cons (pe_fld (pv 0) rfl) pa_nil)))) pa_nil)))))), ?_⟩
  refine q_no ((et_test (ev_neO (b := true) (ev_pf T (ev_var (r := dPol K a) rfl dvs)) (ev_pf T (ev_var (r := dPol K b) rfl dvo)) fun H1 => ⟨i, rfl, rfl⟩)).eq rfl) fun H1 e1 => ?_
  replace dvs := Mono.m _ _ _ e1 dvs
  replace dvo := Mono.m _ _ _ e1 dvo
  replace k := fun v H' e' d' => k v H' (Same.trans e1 e') d'
  exact s_ret (ev_make (S := S_m_Poly_init K) (ea_cons (ev_pf T (ev_var (r := dPol K a) rfl dvs)) (ea_cons (ev_callF (S := S_f_multiply K) (r0 := dL (dV (fmul a b))) (ea_cons (ev_pr T (ev_var (r := dPol K a) rfl dvs)) (ea_cons (ev_pr T (ev_var (r := dPol K b) rfl dvo)) (ea_cons (ev_pf T (ev_var (r := dPol K a) rfl dvs)) ea_nil))) fun H2 => ⟨i, a, b, by omega, by omega, rfl, rfl⟩) ea_nil)) ⟨i, _, _, by unfold fmul; rw [mulOut_len]; omega, isSq, rfl, rfl⟩) k
end
end K35
set_option Elab.async false
set_option linter.all false
set_option maxRecDepth 100000
set_option maxHeartbeats 4000000
namespace K35
open PySem PySem.Spec L2
section
variable {P : Program} {w : World} {K : PySem.W.Frag} {mg : Str → Option Value} {base : Heap}

theorem ok_f_law_annihilates (T : Tx K mg) : Cal P w K mg base 5 "_law_annihilates" (spP (S_f_law_annihilates K)) := by
  have G_m_Field_zero := ok_m_Field_zero (P := P) (w := w) (base := base) T
  have G_m_Field_add := ok_m_Field_add (P := P) (w := w) (base := base) T
  have G_m_Field_multiply := ok_m_Field_multiply (P := P) (w := w) (base := base) T
  refine cal_of T.d_f_law_annihilates sc_f_law_annihilates (by rintro H rs r ⟨_, _, _, _, _, _, rfl, _⟩; rfl) fun f cdv A outer s H vs Q E rs r hr hS ha k => ?_
  obtain ⟨i, row, terms, hrr, ht, hrt, rfl, rfl⟩ := hS
  obtain ⟨vf, ws, rfl, dvf, ha⟩ := ha.cons_inv
  obtain ⟨vr, ws, rfl, dvr, ha⟩ := ha.cons_inv
  obtain ⟨vt, ws, rfl, dvt, ha⟩ := ha.cons_inv
  have e := ha.nil_inv
  subst e
  refine ⟨_, (pss_cons (ps_for PassesOwn.never rfl (pi_range1 rfl T.z_range (pa_cons (pe_op c_add (pe_op c_sub (pe_callB c_len (by rfl) T.z_len PySem.boot_len (pa_cons (pv 2) pa_nil)) (pe_callB c_len (by rfl) T.z_len PySem.boot_len (pa_cons (pv 1) pa_nil))) pe_int) pa_nil)) (pg_name (i := 3) sc_f_law_annihilates.nd rfl (by first | exact Or.inl rfl | exact Or.inr rfl)) (pss_cons (ps_set (i := 4) sc_f_law_annihilates.nd rfl (by first | exact Or.inl rfl | exact Or.inr rfl) (pe_met0 G_m_Field_zero hr (by decide) (pv 0)))
    (pss_cons (ps_for PassesOwn.never rfl (pi_range1 rfl T.z_range (pa_cons (pe_callB c_len (by rfl) T.z_len PySem.boot_len (pa_cons (pv 1) pa_nil)) pa_nil)) (pg_name (i := 5) sc_f_law_annihilates.nd rfl (by first | exact Or.inl rfl | exact Or.inr rfl)) (pss_one (ps_set (i := 4) sc_f_law_annihilates.nd rfl (by first | exact Or.inl rfl | exact Or.inr rfl) (pe_met G_m_Field_add hr (by decide) (pv 0) (pa_cons (pv 4) (pa_cons (pe_met G_m_Field_multiply hr (by decide) (pv 0) (pa_cons (pe_ix ix_seq (pv 1) (pv 5) (fun _ _ => rfl)) (pa_cons (pe_ix ix_seq (pv 2) (pe_op c_add (pv 3) (pv 5)) (fun _ _ => rfl)) pa_nil))) pa_nil))))))
    (pss_one (ps_if (pt_cmpR (op_neD hr.units) (pv 4) (pe_met0 G_m_Field_zero hr (by decide) (pv 0)) (nomark _)) (pss_one (ps_ret pe_bl)) pss_nil)))))
    (pss_one (ps_ret pe_bl))), ?_⟩
  have hn : ((dV terms).length : Int) - ((dV row).length : Int) + 1 = ((terms.length + 1 - row.length : Nat) : Int) := by rw [dV_len, dV_len]; omega
  refine q_forJ (ei_rng1 ((ev_add (ev_sub (ev_len (K := K) (ev_var (r := dT (dV terms)) rfl dvt)) (ev_len (K := K) (ev_var (r := dT (dV row)) rfl dvr))) (ev_int (i := 1))).eq (by rw [hn])) (by omega) (by omega)) fun H2 e2 => ⟨fun j σ' H' => Same H2 H' ∧ ∃ x3 x4 x5, σ' = [some vf, some vr, some vt, x3, x4, x5] ∧ ∀ q, q < j → lsum row terms q row.length = Fld.zero, ⟨Same.refl _, none, none, none, rfl, fun q h => absurd h (Nat.not_lt_zero q)⟩, fun j σ' H' hi h => le_of h.1, fun j σ' H' hi h xx H'' s'' y => ?_, fun σ' H' h => ?_⟩
  · obtain ⟨sm, x3, x4, x5, rfl, hq⟩ := h
    rw [Int.toNat_natCast] at hi
    have ex : xx = .int (j : Int) := y
    subst ex
    have E := e2.trans (sm.trans s'')
    replace dvf := Mono.m _ _ _ E dvf
    replace dvr := Mono.m _ _ _ E dvr
    replace dvt := Mono.m _ _ _ E dvt
    replace k := fun v H' e' d' => k v H' (Same.trans E e') d'
    show tSeq _ _ _ [some vf, some vr, some vt, some (.int (j : Int)), x4, x5] H''
    refine q_asg (ev_F0 (ev_var (r := dFld K i) rfl dvf)) fun v4 H3 e3 d4 => ?_
    replace dvf := Mono.m _ _ _ e3 dvf
    replace dvr := Mono.m _ _ _ e3 dvr
    replace dvt := Mono.m _ _ _ e3 dvt
    replace k := fun v H' e' d' => k v H' (Same.trans e3 e') d'
    refine q_forJ (ei_rng1 ((ev_len (K := K) (ev_var (r := dT (dV row)) rfl dvr)).eq (by rw [dV_len])) (by omega) (by omega)) fun H4 e4 => ⟨fun m σ' H' => Same H4 H' ∧ ∃ v4 x5, σ' = [some vf, some vr, some vt, some (.int (j : Int)), some v4, x5] ∧ dM (lsum row terms j m) v4 H', ⟨Same.refl _, v4, x5, rfl, Mono.m _ _ _ e4 d4⟩, fun j σ' H' hi h => le_of h.1, fun m σ' H' hm h xx H5 s5 y => ?_, fun σ' H' h => ?_⟩
    · obtain ⟨sm', v4, x5, rfl, d4⟩ := h
      rw [Int.toNat_natCast] at hm
      have ex : xx = .int (m : Int) := y
      subst ex
      have E5 := e4.trans (sm'.trans s5)
      replace dvf := Mono.m _ _ _ E5 dvf
      replace dvr := Mono.m _ _ _ E5 dvr
      replace dvt := Mono.m _ _ _ E5 dvt
      replace d4 := Mono.m _ _ _ s5 d4
      show tAsg _ _ _ [some vf, some vr, some vt, some (.int (j : Int)), some v4, some (.int (m : Int))] H5
      refine s_asg (ev_Fa (ev_var (r := dFld K i) rfl dvf) (ev_var rfl d4) (ev_Fm (ev_var (r := dFld K i) rfl dvf) (ev_atM (j := m) (ev_var (r := dT (dV row)) rfl dvr) (ev_var (r := dI (m : Int)) rfl rfl) rfl hm) (ev_atM (j := j + m) (ev_var (r := dT (dV terms)) rfl dvt) (ev_add (ev_var (r := dI (j : Int)) rfl rfl) (ev_var (r := dI (m : Int)) rfl rfl)) (by omega) (by omega)))) fun v6 H6 e6 d6 => ?_
      refine ⟨(sm'.trans s5).trans e6, v6, _, rfl, ?_⟩
      rw [lsum_succ]
      exact d6
    · obtain ⟨sm', v4, x5, rfl, d4⟩ := h
      rw [Int.toNat_natCast] at d4
      have E5 := e4.trans sm'
      replace dvf := Mono.m _ _ _ E5 dvf
      replace k := fun v H' e' d' => k v H' (Same.trans E5 e') d'
      have htt := et_test (ev_neM (K := K) (ev_var (σ := [some vf, some vr, some vt, some (.int (j : Int)), some v4, x5]) (n := 4) rfl d4) (ev_F0 (ev_var (n := 0) (r := dFld K i) rfl dvf)))
      by_cases hj : lsum row terms j row.length = Fld.zero
      · refine s_if (b := false) (htt.eq (by rw [decide_eq_true hj]; rfl)) (fun z => nomatch z) fun _ H6 e6 => ?_
        refine ⟨(sm.trans s'').trans ((e3.trans E5).trans e6), _, _, _, rfl, fun q h => ?_⟩
        by_cases hqj : q = j
        · rw [hqj]; exact hj
        · exact hq q (by omega)
      · refine s_if (b := true) (htt.eq (by rw [decide_eq_false hj]; rfl)) (fun _ H6 e6 => ?_) fun z => nomatch z
        have hf : lann row terms = false := by
          unfold lann
          refine List.all_eq_false.mpr ⟨j, List.mem_range.mpr hi, ?_⟩
          rw [decide_eq_false hj]
          decide
        rw [hf] at k
        exact s_ret (r := dB false) ev_bl fun v H7 e7 d => k v H7 (e6.trans e7) d
  · obtain ⟨sm, x3, x4, x5, rfl, hq⟩ := h
    rw [Int.toNat_natCast] at hq
    have hf : lann row terms = true := by
      unfold lann
      exact List.all_eq_true.mpr fun q h => decide_eq_true (hq q (List.mem_range.mp h))
    rw [hf] at k
    exact s_ret (r := dB true) ev_bl fun v H7 e7 d => k v H7 ((e2.trans sm).trans e7) d
end
end K35
set_option Elab.async false
set_option linter.all false
set_option maxRecDepth 100000
set_option maxHeartbeats 4000000
namespace K35
open PySem PySem.Spec L2
section
variable {P : Program} {w : World} {K : PySem.W.Frag} {mg : Str → Option Value} {base : Heap}
theorem dec_map_inj {i : Fin 6} : ∀ {c d : List (El i)}, c.map (fun a => dec a) = d.map (fun a => dec a) → c = d
  | [], [], _ => rfl
  | [], _ :: _, h => by cases h
  | _ :: _, [], h => by cases h
  | x :: c, y :: d, h => by
    rw [List.map_cons, List.map_cons] at h
    injection h with h1 h2
    rw [r_inj i x y h1, dec_map_inj h2]
theorem dV_TT {i : Fin 6} (c : List (El i)) : dT (dV c) = dTT (c.map fun a => dec a) := by
  unfold dTT dV
  rw [List.map_map]
  rfl
theorem ok_m_Recurrence_eq (T : Tx K mg) : Met P w K mg base 3 (cR K) "__eq__" (spP (S_m_Recurrence_eq K)) := by
  have G_m_Field_eq := ok_m_Field_eq (P := P) (w := w) (base := base) T
  refine met_of T.d_m_Recurrence_eq sc_m_Recurrence_eq (by rintro H rs r ⟨_, _, _, rfl, _⟩; rfl) fun f cdv A outer s H vs Q E rs r hr hS ha k => ?_
  obtain ⟨i, c, d, rfl, rfl⟩ := hS
  obtain ⟨vs, ws, rfl, dvs, ha⟩ := ha.cons_inv
  obtain ⟨vo, ws, rfl, dvo, ha⟩ := ha.cons_inv
  have e := ha.nil_inv
  subst e
  refine ⟨_, (pss_one (ps_ret (pe_and (pe_callB call_isi (by rfl) T.z_isinstance b_isinstance (pa_cons (pv 1) (pa_cons (pe_glob (v := .ref (cR K)) (by rfl) T.g_Recurrence rfl) pa_nil))) (pe_and (pe_cmpR (op_eqO G_m_Field_eq hr (by decide)) (pe_fld (pv 0) rfl) (pe_fld (pv 1) rfl) (nomark _)) (pe_one (pe_cmpR (op_eqD hr.units) (pe_fld (pv 0) rfl) (pe_fld (pv 1) rfl) (nomark _))))))), ?_⟩
  have h1 : Ev (tFld K (tVar 0) "multiples") (start n_m_Recurrence_eq [vs, vo]) H (dTT (c.map fun a => dec a)) := (ev_rm T (ev_var (r := dRec K c) rfl dvs)).eq (dV_TT c)
  have h2 : Ev (tFld K (tVar 1) "multiples") (start n_m_Recurrence_eq [vs, vo]) H (dTT (d.map fun a => dec a)) := (ev_rm T (ev_var (r := dRec K d) rfl dvo)).eq (dV_TT d)
  refine s_ret ((ev_and (b := true) (ev_isiO (ev_var (r := dRec K d) rfl dvo) fun v H d => (by obtain ⟨a, dx, ws, rfl, h, _⟩ := d; exact T.x_tyR _ a dx _ h)) fun _ => ev_and (b := true) (ev_own (S := S_m_Field_eq K) (ev_rf T (ev_var (r := dRec K c) rfl dvs)) (ev_rf T (ev_var (r := dRec K d) rfl dvo)) fun H1 => ⟨i, rfl, rfl⟩) fun _ => ev_eqTT h1 h2).eq ?_) k
  congr 1
  rw [Bool.true_and, Bool.true_and]
  by_cases h : c = d
  · subst h
    simp
  · rw [decide_eq_false h, decide_eq_false fun z => h (dec_map_inj z)]
end
end K35
set_option Elab.async false
set_option linter.all false
set_option maxRecDepth 100000
set_option maxHeartbeats 4000000
namespace K35
open PySem PySem.Spec L2
section
variable {P : Program} {w : World} {K : PySem.W.Frag} {mg : Str → Option Value} {base : Heap}

theorem ok_f_law (T : Tx K mg) {f0 : Addr} {fd0 : FuncData} (F0 : FunD K "law" "law" (defArgs s_f_law) (defBody s_f_law) (defScope s_f_law) [] [] f0 fd0) : FnOk P w K mg base CX0 10 f0 fd0 ["_law_script"] (spLaw K) := by
  have G_f_law_state := ok_f_law_state (P := P) (w := w) (base := base) T
  have G_f_law_field := ok_f_law_field (P := P) (w := w) (base := base) T
  have G_f_law_take := ok_f_law_take (P := P) (w := w) (base := base) T
  have G_f_law_drawn := ok_f_law_drawn (P := P) (w := w) (base := base) T
  have G_m_Recurrence_init := ok_m_Recurrence_init (P := P) (w := w) (base := base) T
  have G_m_Recurrence_least := ok_m_Recurrence_least (P := P) (w := w) (base := base) T
  have G_f_law_row := ok_f_law_row (P := P) (w := w) (base := base) T
  have G_m_Recurrence_is_satisfied := ok_m_Recurrence_is_satisfied (P := P) (w := w) (base := base) T
  have G_m_Recurrence_len := ok_m_Recurrence_len (P := P) (w := w) (base := base) T
  have G_m_Recurrence_polynomial := ok_m_Recurrence_polynomial (P := P) (w := w) (base := base) T
  have G_m_Poly_is_zero := ok_m_Poly_is_zero (P := P) (w := w) (base := base) T
  have G_m_Poly_mod := ok_m_Poly_mod (P := P) (w := w) (base := base) T
  have G_m_Poly_init := ok_m_Poly_init (P := P) (w := w) (base := base) T
  have G_m_Poly_mul := ok_m_Poly_mul (P := P) (w := w) (base := base) T
  have G_f_law_annihilates := ok_f_law_annihilates (P := P) (w := w) (base := base) T
  have G_m_Field_one := ok_m_Field_one (P := P) (w := w) (base := base) T
  have G_m_Field_zero := ok_m_Field_zero (P := P) (w := w) (base := base) T
  have G_f_law_solution := ok_f_law_solution (P := P) (w := w) (base := base) T
  have G_m_Recurrence_eq := ok_m_Recurrence_eq (P := P) (w := w) (base := base) T
  refine fn_ofG F0 sc_f_law (by rintro vs H Q E ⟨v, ns, rfl, _⟩; rfl) fun f cdv A outer s H vs Q E hr hS => ?_
  obtain ⟨vs, ns, rfl, hns, dscr, k⟩ := hS
  refine ⟨_, (pss_cons (ps_set (i := 1) sc_f_law.nd rfl (by first | exact Or.inl rfl | exact Or.inr rfl) (pe_cal G_f_law_state hr (by decide) (by rfl) (pa_cons (pv 0) pa_nil)))
    (pss_cons (ps_set (i := 2) sc_f_law.nd rfl (by first | exact Or.inl rfl | exact Or.inr rfl) (pe_cal G_f_law_field hr (by decide) (by rfl) (pa_cons (pv 1) pa_nil)))
    (pss_cons (ps_set (i := 3) sc_f_law.nd rfl (by first | exact Or.inl rfl | exact Or.inr rfl) (pe_cal G_f_law_take hr (by decide) (by rfl) (pa_cons (pv 1) (pa_cons pe_int pa_nil))))
    (pss_cons (ps_set (i := 4) sc_f_law.nd rfl (by first | exact Or.inl rfl | exact Or.inr rfl) (pe_callTy c_tuple (by rfl) T.z_tuple b_tuple (pa_cons (pe_lc (own := [("_law_k", 13)]) (g := gName 13) (tt := tYes) rfl sc_f_law.nd (pi_range1 rfl T.z_range (pa_cons (pv 3) pa_nil)) (blkOk_by (own := [("_law_k", 13)]) (N := n_f_law) (sc := defScope s_f_law) (by decide +kernel)) (fun _ _ _ _ _ => pg_name (i := 13) sc_f_law.nd rfl (Or.inl rfl)) (fun _ _ _ _ _ => pts_nil) (fun _ _ _ _ _ => (pe_cal G_f_law_drawn hr (by decide) (by rfl) (pa_cons (pv 1) (pa_cons (pv 2) pa_nil))))) pa_nil)))
    (pss_cons (ps_set (i := 5) sc_f_law.nd rfl (by first | exact Or.inl rfl | exact Or.inr rfl) (pe_callTy c_tuple (by rfl) T.z_tuple b_tuple (pa_cons (pe_lc (own := [("_law_k", 13)]) (g := gName 13) (tt := tYes) rfl sc_f_law.nd (pi_range1 rfl T.z_range (pa_cons (pv 3) pa_nil)) (blkOk_by (own := [("_law_k", 13)]) (N := n_f_law) (sc := defScope s_f_law) (by decide +kernel)) (fun _ _ _ _ _ => pg_name (i := 13) sc_f_law.nd rfl (Or.inl rfl)) (fun _ _ _ _ _ => pts_nil) (fun _ _ _ _ _ => (pe_cal G_f_law_drawn hr (by decide) (by rfl) (pa_cons (pv 1) (pa_cons (pv 2) pa_nil))))) pa_nil)))
    (pss_cons (ps_set (i := 6) sc_f_law.nd rfl (by first | exact Or.inl rfl | exact Or.inr rfl) (pe_mak G_m_Recurrence_init hr (by decide) (by rfl) (pa_cons (pv 2) (pa_cons (pv 4) pa_nil))))
    (pss_cons (ps_set (i := 7) sc_f_law.nd rfl (by first | exact Or.inl rfl | exact Or.inr rfl) (pe_met G_m_Recurrence_least hr (by decide) (pv 6) (pa_cons (pv 5) pa_nil)))
    (pss_cons (ps_set (i := 8) sc_f_law.nd rfl (by first | exact Or.inl rfl | exact Or.inr rfl) (pe_cal G_f_law_row hr (by decide) (by rfl) (pa_cons (pv 2) (pa_cons (pv 4) (pa_cons (pv 5) (pa_cons pe_int pa_nil))))))
    (pss_cons (ps_if (PW.pt (pw_or (pt_not (pt_val (pe_callB call_isi (by rfl) T.z_isinstance b_isinstance (pa_cons (pv 7) (pa_cons (pe_glob (v := .ref (cR K)) (by rfl) T.g_Recurrence rfl) pa_nil))))) (pw_or (pt_cmpR c_gt (pe_callB (call_lenO G_m_Recurrence_len hr (by decide)) (by rfl) T.z_len PySem.boot_len (pa_cons (pv 7) pa_nil)) (pv 3) (nomark _)) (pw_or1 (pt_not (pt_val (pe_met G_m_Recurrence_is_satisfied hr (by decide) (pv 7) (pa_cons (pv 8) pa_nil)))))))) (pss_one (ps_ret pe_bl)) pss_nil)
    (pss_cons (ps_set (i := 9) sc_f_law.nd rfl (by first | exact Or.inl rfl | exact Or.inr rfl) (pe_met0 G_m_Recurrence_polynomial hr (by decide) (pv 7)))
    (pss_cons (ps_if (pt_not (pt_val (pe_met0 G_m_Poly_is_zero hr (by decide) (pe_op (op_own G_m_Poly_mod (by decide +kernel) T.x_first hr (by decide)) (pe_met0 G_m_Recurrence_polynomial hr (by decide) (pv 6)) (pv 9))))) (pss_one (ps_ret pe_bl)) pss_nil)
    (pss_cons (ps_set (i := 10) sc_f_law.nd rfl (by first | exact Or.inl rfl | exact Or.inr rfl) (pe_mak G_m_Poly_init hr (by decide) (by rfl) (pa_cons (pv 2) (pa_cons (pe_lc (own := [("_law_k", 13)]) (g := gName 13) (tt := tYes) rfl sc_f_law.nd (pi_range1 rfl T.z_range (pa_cons (pe_cal G_f_law_take hr (by decide) (by rfl) (pa_cons (pv 1) (pa_cons pe_int pa_nil))) pa_nil)) (blkOk_by (own := [("_law_k", 13)]) (N := n_f_law) (sc := defScope s_f_law) (by decide +kernel)) (fun _ _ _ _ _ => pg_name (i := 13) sc_f_law.nd rfl (Or.inl rfl)) (fun _ _ _ _ _ => pts_nil) (fun _ _ _ _ _ => (pe_cal G_f_law_drawn hr (by decide) (by rfl) (pa_cons (pv 1) (pa_cons (pv 2) pa_nil))))) pa_nil))))
    (pss_cons (ps_if (pt_cmpR op_eq (pe_cal G_f_law_take hr (by decide) (by rfl) (pa_cons (pv 1) (pa_cons pe_int pa_nil))) pe_int (nomark _)) (pss_one (ps_set (i := 10) sc_f_law.nd rfl (by first | exact Or.inl rfl | exact Or.inr rfl) (pe_op (op_own G_m_Poly_mul (by decide +kernel) T.x_first hr (by decide)) (pe_mak G_m_Poly_init hr (by decide) (by rfl) (pa_cons (pv 2) (pa_cons (pe_lc (own := [("_law_k", 13)]) (g := gName 13) (tt := tYes) rfl sc_f_law.nd (pi_range1 rfl T.z_range (pa_cons pe_int pa_nil)) (blkOk_by (own := [("_law_k", 13)]) (N := n_f_law) (sc := defScope s_f_law) (by decide +kernel)) (fun _ _ _ _ _ => pg_name (i := 13) sc_f_law.nd rfl (Or.inl rfl)) (fun _ _ _ _ _ => pts_nil) (fun _ _ _ _ _ => (pe_cal G_f_law_drawn hr (by decide) (by rfl) (pa_cons (pv 1) (pa_cons (pv 2) pa_nil))))) pa_nil))) (pv 9)))) pss_nil)
    (pss_cons (ps_if (pt_cmpR op_ne (pe_cal G_f_law_annihilates hr (by decide) (by rfl) (pa_cons (pv 2) (pa_cons (pe_fld (pv 10) rfl) (pa_cons (pv 8) pa_nil)))) (pe_met0 G_m_Poly_is_zero hr (by decide) (pe_op (op_own G_m_Poly_mod (by decide +kernel) T.x_first hr (by decide)) (pv 10) (pv 9))) (nomark _)) (pss_one (ps_ret pe_bl)) pss_nil)
    (pss_cons (ps_set (i := 11) sc_f_law.nd rfl (by first | exact Or.inl rfl | exact Or.inr rfl) (pe_callB (call_lenO G_m_Recurrence_len hr (by decide)) (by rfl) T.z_len PySem.boot_len (pa_cons (pv 7) pa_nil)))
    (pss_cons (ps_setLc (i := 12) (own := [("_law_k", 13)]) (g := gName 13) (tt := tYes) rfl sc_f_law.nd rfl rfl (sw_true rfl rfl rfl (by decide +kernel)) (pi_range1 rfl T.z_range (pa_cons (pv 11) pa_nil)) (blkOk_by (own := [("_law_k", 13)]) (N := n_f_law) (sc := defScope s_f_law) (by decide +kernel)) (fun _ _ _ _ _ => pg_name (i := 13) sc_f_law.nd rfl (Or.inl rfl)) (fun _ _ _ _ _ => pts_nil) (fun _ _ _ _ _ => (pe_slice (c_slK (K := K) (by rfl)) (pv 8) (po_some (pv 13)) (po_some (pe_op c_add (pv 13) (pv 11))))))
    (pss_cons (ps_for PassesOwn.never rfl (pi_range1 rfl T.z_range (pa_cons (pv 11) pa_nil)) (pg_name (i := 13) sc_f_law.nd rfl (by first | exact Or.inl rfl | exact Or.inr rfl)) (pss_cons (ps_setLc (i := 14) (own := [("_law_i", 15)]) (g := gName 15) (tt := tYes) rfl sc_f_law.nd rfl rfl (sw_true rfl rfl rfl (by decide +kernel)) (pi_range1 rfl T.z_range (pa_cons (pv 11) pa_nil)) (blkOk_by (own := [("_law_i", 15)]) (N := n_f_law) (sc := defScope s_f_law) (by decide +kernel)) (fun _ _ _ _ _ => pg_name (i := 15) sc_f_law.nd rfl (Or.inl rfl)) (fun _ _ _ _ _ => pts_nil) (fun _ _ _ _ _ => (pe_ifExp (pt_cmpR op_eq (pv 15) (pv 13) (nomark _)) (pe_met0 G_m_Field_one hr (by decide) (pv 2)) (pe_met0 G_m_Field_zero hr (by decide) (pv 2)))))
    (pss_one (ps_if (pt_cmpR c_isN (pe_cal G_f_law_solution hr (by decide) (by rfl) (pa_cons (pv 2) (pa_cons (pv 12) (pa_cons (pv 14) (pa_cons (pv 11) pa_nil))))) pe_non (nomark _)) (pss_one (ps_ret pe_bl)) pss_nil))))
    (pss_one (ps_ret (pe_cmpR (op_eqO G_m_Recurrence_eq hr (by decide)) (pe_met G_m_Recurrence_least hr (by decide) (pv 7) (pa_cons (pe_slice c_sl (pv 8) po_none (po_some (pv 11))) pa_nil)) (pv 7) (nomark _))))))))))))))))))))), ?_⟩
  refine q_asg (ev_call (S := S_f_law_state K) (r := dSt) (ea_cons (ev_var (r := dScr K ns) rfl dscr) ea_nil) fun H1 => ⟨ns, rfl, rfl⟩) fun v1 H1 e1 d1 => ?_
  obtain ⟨st, rfl, s2⟩ := d1
  refine q_asgS s2 (es_fld rfl) fun v2 H2 k2 d2 => ?_
  obtain ⟨i, dF⟩ := d2
  have s2 := k2.s2
  refine q_asgS s2 (es_take (m := 5) rfl (by decide) (by decide) fun H3 k3 => ev_int) fun v3 H3 k3 d3 => ?_
  obtain ⟨n, hn, rfl⟩ := d3
  have dF := k3.imm s2 dF
  have s2 := k3.s2
  have hlc : ∀ (σ : St) (H4 : Hp), St2 st H4 → σ[1]? = some (some (.ref st)) → σ[2]? = some (some v2) → dFld K i v2 H4 → ∀ (tn : TE) (P : Nat → Prop), (∀ n, P n → n ≤ 1000) → EvS st tn σ H4 (dNP P) → (wipe σ [13])[1]? = some (some (.ref st)) → (wipe σ [13])[2]? = some (some v2) → (∀ x, wipe ((wipe σ [13]).set 13 (some x)) [13] = wipe σ [13]) → (∀ x, ((wipe σ [13]).set 13 (some x))[1]? = some (some (.ref st))) → (∀ x, ((wipe σ [13]).set 13 (some x))[2]? = some (some v2)) → EvS st (tLc (iRng1 (tCons tn tNil)) (gName 13) tYes (tCall (spDrawn K) [] E0 (tCons (tVar 1) (tCons (tVar 2) tNil))) [13]) σ H4 (dLn P i) := fun σ H4 s4 h1 h2 dF tn P hP hn h3 h4 hw h5 h6 =>
    es_lc hn hP hw fun v H5 k5 => es_drawn (h5 v) fun H6 k6 => ev_var (r := dFld K i) (h6 v) ((k5.trans k6).imm s4 dF)
  refine q_asgS s2 (es_tuple (hlc _ _ s2 rfl rfl dF _ (fun q => q = n) (fun q hq => by omega) ((es_of fun H4 k4 => ev_var (r := dI (n : Int)) rfl rfl).to fun v H d => ⟨n, rfl, d⟩) rfl rfl (fun _ => rfl) (fun _ => rfl) fun _ => rfl)) fun v4 H4 k4 d4 => ?_
  obtain ⟨c, hcl, dc⟩ := d4
  have dF := k4.imm s2 dF
  have s2 := k4.s2
  refine q_asgS s2 (es_tuple (hlc _ _ s2 rfl rfl dF _ (fun q => q = n) (fun q hq => by omega) ((es_of fun H4 k4 => ev_var (r := dI (n : Int)) rfl rfl).to fun v H d => ⟨n, rfl, d⟩) rfl rfl (fun _ => rfl) (fun _ => rfl) fun _ => rfl)) fun v5 H5 k5 d5 => ?_
  obtain ⟨fi, hfl, dfi⟩ := d5
  have dF := k5.imm s2 dF
  have dc := k5.imm s2 dc
  have s2 := k5.s2
  have hl : fi.length = c.length := by omega
  have hc : c.length ≤ 4 := by omega
  have m1 := told_len hl hc
  have m0 := row40 hl hc
  have m2 := told_sat hl hc
  have m3 := told_div hl hc
  have m4 := fun l h => told_ann (l := l) hl hc h
  have m5 := fun k h => told_hank (k := k) hl hc h
  have m6 := told_again hl hc
  have p1 := poly_lead (fleast c fi)
  have p2 := poly_lead c
  have hto : fleast c fi = fleast c fi := rfl
  generalize hte : fleast c fi = told at *
  generalize htm : frow c fi 40 = terms at *
  refine q_asg (ev_make (S := S_m_Recurrence_init K) (r := dRec K c) (ea_cons (ev_var (r := dFld K i) rfl dF) (ea_cons (ev_var (r := dT (dV c)) rfl dc) ea_nil)) ⟨i, c, rfl, rfl⟩) fun v6 H6 e6 dr => ?_
  replace dF := Mono.m _ _ _ e6 dF
  replace dc := Mono.m _ _ _ e6 dc
  replace dfi := Mono.m _ _ _ e6 dfi
  replace s2 := s2.same e6
  refine q_asg (r := dRec K told) (ev_met (S := S_m_Recurrence_least K) (ev_var (r := dRec K c) rfl dr) (ea_cons (ev_var (r := dT (dV fi)) rfl dfi) ea_nil) (by decide) fun H1 => ⟨i, c, fi, by omega, hl, rfl, by rw [hte]⟩) fun v7 H7 e7 dt => ?_
  replace dF := Mono.m _ _ _ e7 dF
  replace dc := Mono.m _ _ _ e7 dc
  replace dfi := Mono.m _ _ _ e7 dfi
  replace dr := Mono.m _ _ _ e7 dr
  replace s2 := s2.same e7
  refine q_asg (r := dT (dV terms)) (ev_call (S := S_f_law_row K) (ea_cons (ev_var (r := dFld K i) rfl dF) (ea_cons (ev_var (r := dT (dV c)) rfl dc) (ea_cons (ev_var (r := dT (dV fi)) rfl dfi) (ea_cons (ev_int (i := 40)) ea_nil)))) fun H1 => ⟨i, c, fi, 40, by omega, hl, by decide, rfl, by rw [htm]⟩) fun v8 H8 e8 dm => ?_
  replace dF := Mono.m _ _ _ e8 dF
  replace dr := Mono.m _ _ _ e8 dr
  replace dt := Mono.m _ _ _ e8 dt
  replace s2 := s2.same e8
  refine q_no (et_or (b := false) (c := false) (et_not (b := true) (et_test (ev_isiO (ev_var (r := dRec K told) rfl dt) fun v H d => (by obtain ⟨a, dx, ws, rfl, h, _⟩ := d; exact T.x_tyR _ a dx _ h)))) fun _ => et_or (b := false) (c := false) ((et_test (ev_gt (ev_lenO (S := S_m_Recurrence_len K) (n := told.length) (ev_var (r := dRec K told) rfl dt) (by omega) fun H1 => ⟨i, told, rfl, rfl⟩) (ev_var (r := dI (n : Int)) rfl rfl))).eq (decide_eq_false (by omega))) fun _ => et_not (b := true) (et_test (ev_met (S := S_m_Recurrence_is_satisfied K) (r := dB true) (ev_var (r := dRec K told) rfl dt) (ea_cons (ev_var (r := dT (dV terms)) rfl dm) ea_nil) (by decide) fun H1 => ⟨i, told, terms, by omega, by omega, by omega, rfl, by rw [m2]⟩))) fun H9 e9 => ?_
  replace dF := Mono.m _ _ _ e9 dF
  replace dr := Mono.m _ _ _ e9 dr
  replace dt := Mono.m _ _ _ e9 dt
  replace dm := Mono.m _ _ _ e9 dm
  replace s2 := s2.same e9
  refine q_asg (r := dPol K (fpoly told)) (ev_met (S := S_m_Recurrence_polynomial K) (ev_var (r := dRec K told) rfl dt) ea_nil (by decide) fun H1 => ⟨i, told, by omega, rfl, rfl⟩) fun v9 H10 e10 dp => ?_
  replace dF := Mono.m _ _ _ e10 dF
  replace dr := Mono.m _ _ _ e10 dr
  replace dt := Mono.m _ _ _ e10 dt
  replace dm := Mono.m _ _ _ e10 dm
  replace s2 := s2.same e10
  have hp0 : fpoly told ≠ [] := fun z => by
    have := p1.1
    rw [z] at this
    cases this
  refine q_no (et_not (b := true) (et_test (ev_met (S := S_m_Poly_is_zero K) (r := dB true) (ev_own (S := S_m_Poly_mod K) (r := dPol K (fmod (fpoly c) (fpoly told))) (ev_met (S := S_m_Recurrence_polynomial K) (r := dPol K (fpoly c)) (ev_var (r := dRec K c) rfl dr) ea_nil (by decide) fun H1 => ⟨i, c, by omega, rfl, rfl⟩) (ev_var (r := dPol K (fpoly told)) rfl dp) fun H1 => ⟨i, _, _, by omega, by omega, hp0, p1.2, rfl, rfl⟩) ea_nil (by decide) fun H1 => ⟨i, _, rfl, by rw [m3]⟩))) fun H11 e11 => ?_
  replace dF := Mono.m _ _ _ e11 dF
  replace dt := Mono.m _ _ _ e11 dt
  replace dm := Mono.m _ _ _ e11 dm
  replace dp := Mono.m _ _ _ e11 dp
  replace s2 := s2.same e11
  refine q_asgS s2 (es_poly (fun q hq => by omega) (fun H1 k1 => ev_var (r := dFld K i) rfl (k1.imm s2 dF)) (hlc _ _ s2 rfl rfl dF _ (fun q => q < 7) (fun q hq => by omega) ((es_take (m := 7) rfl (by decide) (by decide) fun H3 k3 => ev_int).to fun v H d => (by obtain ⟨q, hq, rfl⟩ := d; exact ⟨q, by omega, rfl⟩)) rfl rfl (fun _ => rfl) (fun _ => rfl) fun _ => rfl)) fun v10 H12 k12 dg => ?_
  have dF := k12.imm s2 dF
  have dt := k12.imm s2 dt
  have dm := k12.imm s2 dm
  have dp := k12.imm s2 dp
  replace s2 := k12.s2
  refine q_if2S (r := fun v H => ∃ l : List (El i), l.length ≤ 8 ∧ dPol K (ftrim l) v H) s2 (es_eq0 (es_take (m := 2) rfl (by decide) (by decide) fun H3 k3 => ev_int)) ((es_mul (P := fun q => q = 3) (P' := fun _ => True) (g := fpoly told) (fun q hq => ⟨by omega, trivial⟩) (by omega) (es_poly (fun q hq => by omega) (fun H1 k1 => ev_var (r := dFld K i) rfl (k1.imm s2 dF)) (hlc _ _ s2 rfl rfl dF _ (fun q => q = 3) (fun q hq => by omega) ((es_of fun H4 k4 => ev_int (i := 3)).to fun v H d => ⟨3, rfl, d⟩) rfl rfl (fun _ => rfl) (fun _ => rfl) fun _ => rfl)) fun H1 k1 => ev_var (r := dPol K (fpoly told)) rfl (k1.imm s2 dp)).to fun v H d => ?_) (fun H1 k1 => ?_) rfl fun v10 H13 k13 dg => ?_
  · obtain ⟨l, hl3, d⟩ := d
    have h3 := mulOut_len (op := fMA) (z := (Fld.zero : El i)) (a := ftrim l) (b := fpoly told) (n := (ftrim l).length)
    have h4 := ftrim_len l
    have h5 : (fmul (ftrim l) (fpoly told)).length = (ftrim l).length + (fpoly told).length := h3
    exact ⟨_, by omega, d⟩
  · obtain ⟨l, hl7, d⟩ := dg
    exact ⟨l, by omega, k1.imm s2 d⟩
  obtain ⟨l, hl8, dg⟩ := dg
  have dF := k13.imm s2 dF
  have dt := k13.imm s2 dt
  have dm := k13.imm s2 dm
  have dp := k13.imm s2 dp
  have h4 := ftrim_len l
  refine q_no ((et_test (ev_neB (ev_call (S := S_f_law_annihilates K) (r := dB (lann (ftrim l) terms)) (ea_cons (ev_var (r := dFld K i) rfl dF) (ea_cons (ev_pr T (ev_var (r := dPol K (ftrim l)) rfl dg)) (ea_cons (ev_var (r := dT (dV terms)) rfl dm) ea_nil))) fun H1 => ⟨i, ftrim l, terms, by omega, by omega, by omega, rfl, rfl⟩) (ev_met (S := S_m_Poly_is_zero K) (r := dB (fmod (ftrim l) (fpoly told)).isEmpty) (ev_own (S := S_m_Poly_mod K) (r := dPol K (fmod (ftrim l) (fpoly told))) (ev_var (r := dPol K (ftrim l)) rfl dg) (ev_var (r := dPol K (fpoly told)) rfl dp) fun H1 => ⟨i, _, _, by omega, by omega, hp0, p1.2, rfl, rfl⟩) ea_nil (by decide) fun H1 => ⟨i, _, rfl, rfl⟩))).eq (by rw [m4 l hl8, decide_eq_true rfl]; rfl)) fun H14 e14 => ?_
  replace dF := Mono.m _ _ _ e14 dF
  replace dt := Mono.m _ _ _ e14 dt
  replace dm := Mono.m _ _ _ e14 dm
  refine q_asg (r := dI (told.length : Int)) (ev_lenO (S := S_m_Recurrence_len K) (n := told.length) (ev_var (r := dRec K told) rfl dt) (by omega) fun H1 => ⟨i, told, rfl, rfl⟩) fun v11 H15 e15 d11 => ?_
  have ev : v11 = .int (told.length : Int) := d11
  subst ev
  replace dF := Mono.m _ _ _ e15 dF
  replace dt := Mono.m _ _ _ e15 dt
  replace dm := Mono.m _ _ _ e15 dm
  refine q_asg (r := dL (dRows ((List.range told.length).map fun k => (terms.drop k).take told.length))) ((ev_lc1 (es := dRows ((List.range told.length).map fun k => (terms.drop k).take told.length)) (ei_rng1 (ev_var (r := dI (told.length : Int)) rfl rfl) (by omega) (by omega)).i ?_ (by omega) (fun _ => rfl) fun q d x H16 hd e16 hx => ?_).to fun v H d e => e.2) fun v12 H16 e16 d12 => ?_
  · unfold dRows
    rw [List.length_map, List.length_map, List.length_range, Int.toNat_natCast]
  · obtain ⟨row, hrow, rfl⟩ := map_inv hd
    obtain ⟨kk, hkk, rfl⟩ := map_inv hrow
    have hq2 : q < told.length := by
      have := (List.getElem?_eq_some_iff.mp hkk).1
      rw [List.length_range] at this
      exact this
    rw [List.getElem?_range hq2] at hkk
    cases hkk
    exact ev_slT (K := K) (ss := dV ((terms.drop q).take told.length)) (ev_var (r := dT (dV terms)) rfl (Mono.m _ _ _ e16 dm)) (eo_some (ev_var rfl hx)) (eo_some ((ev_add (ev_var rfl hx) (ev_var (r := dI (told.length : Int)) rfl rfl)).eq (by rw [show ((q : Int) + (told.length : Int)) = ((q + told.length : Nat) : Int) by omega]))) (by rw [cut_some_some (by rw [dV_len]; omega), dV_drop, dV_take])
  replace dF := Mono.m _ _ _ e16 dF
  replace dt := Mono.m _ _ _ e16 dt
  replace dm := Mono.m _ _ _ e16 dm
  refine q_forJ (ei_rng1 (ev_var (r := dI (told.length : Int)) rfl rfl) (by omega) (by omega)) fun H17 e17 => ⟨fun j σ' H' => Same H17 H' ∧ ∃ x13 x14, σ' = [some vs, some (.ref st), some v2, some (.int (n : Int)), some v4, some v5, some v6, some v7, some v8, some v9, some v10, some (.int (told.length : Int)), some v12, x13, x14, none], ⟨Same.refl _, none, none, rfl⟩, fun j σ' H' hi h => le_of h.1, fun j σ' H' hi h xx H18 s18 y => ?_, fun σ' H' h => ?_⟩
  · obtain ⟨sm, x13, x14, rfl⟩ := h
    rw [Int.toNat_natCast] at hi
    have ex : xx = .int (j : Int) := y
    subst ex
    have E := e17.trans (sm.trans s18)
    replace dF := Mono.m _ _ _ E dF
    replace d12 := Mono.m _ _ _ E d12
    show tSeq _ _ _ [some vs, some (.ref st), some v2, some (.int (n : Int)), some v4, some v5, some v6, some v7, some v8, some v9, some v10, some (.int (told.length : Int)), some v12, some (.int (j : Int)), x14, none] H18
    refine q_asg (r := dL (dV ((List.range told.length).map fun q => if q = j then (Fld.one : El i) else Fld.zero))) ((ev_lc1 (es := dV ((List.range told.length).map fun q => if q = j then (Fld.one : El i) else Fld.zero)) (ei_rng1 (ev_var (r := dI (told.length : Int)) rfl rfl) (by omega) (by omega)).i ?_ (by omega) (fun _ => rfl) fun q d x H19 hd e19 hx => ?_).to fun v H d e => e.2) fun v14 H19 e19 d14 => ?_
    · rw [dV_len, List.length_map, List.length_range, Int.toNat_natCast]
    · obtain ⟨c1, hc1, rfl⟩ := dV_inv hd
      obtain ⟨q1, h1, rfl⟩ := map_inv hc1
      have hq := (List.getElem?_eq_some_iff.mp h1).1
      rw [List.length_range] at hq
      rw [List.getElem?_range hq] at h1
      cases h1
      have dF := Mono.m _ _ _ e19 dF
      have tt := et_test (ev_eqI (ev_var (σ := (wipe [some vs, some (.ref st), some v2, some (.int (n : Int)), some v4, some v5, some v6, some v7, some v8, some v9, some v10, some (.int (told.length : Int)), some v12, some (.int (j : Int)), x14, none] [15]).set 15 (some x)) (n := 15) rfl hx) (ev_var (n := 13) (r := dI (j : Int)) rfl rfl))
      by_cases hqj : q = j
      · rw [if_pos hqj]
        exact ev_if (b := true) (tt.eq (decide_eq_true (by omega))) (fun _ => ev_F1 (ev_var (r := dFld K i) rfl dF)) (fun z => nomatch z)
      · rw [if_neg hqj]
        exact ev_if (b := false) (tt.eq (decide_eq_false (by omega))) (fun z => nomatch z) (fun _ => ev_F0 (ev_var (r := dFld K i) rfl dF))
    · replace dF := Mono.m _ _ _ e19 dF
      replace d12 := Mono.m _ _ _ e19 d12
      refine s_if (b := false) ((et_test (ev_isN (b := false) (ev_call (S := S_f_law_solution K) (r := dOpt true) (ea_cons (ev_var (r := dFld K i) rfl dF) (ea_cons (ev_var rfl d12) (ea_cons (ev_var rfl d14) (ea_cons (ev_var (r := dI (told.length : Int)) rfl rfl) ea_nil)))) fun H1 => ⟨i, _, _, told.length, _, _, by omega, by rw [List.length_map, List.length_range], by rw [List.length_map, List.length_range], fun row hrow => ?_, isLs, isLs, rfl, by rw [m5 j hi]⟩) fun v H d => d))) (fun z => nomatch z) fun _ H20 e20 => ?_
      · obtain ⟨kk, hkk, rfl⟩ := List.mem_map.mp hrow
        have := List.mem_range.mp hkk
        rw [List.length_take, List.length_drop]
        omega
      · exact ⟨(sm.trans s18).trans (e19.trans e20), _, _, rfl⟩
  · obtain ⟨sm, x13, x14, rfl⟩ := h
    have E := e17.trans sm
    replace dt := Mono.m _ _ _ E dt
    replace dm := Mono.m _ _ _ E dm
    refine s_ret ((ev_own (S := S_m_Recurrence_eq K) (r := dB (decide (fleast told (terms.take told.length) = told))) (ev_met (S := S_m_Recurrence_least K) (r := dRec K (fleast told (terms.take told.length))) (ev_var (r := dRec K told) rfl dt) (ea_cons (ev_slT (K := K) (ss := dV (terms.take told.length)) (ev_var (r := dT (dV terms)) rfl dm) eo_none (eo_some (ev_var (r := dI (told.length : Int)) rfl rfl)) (by rw [cut_none_some, dV_take])) ea_nil) (by decide) fun H1 => ⟨i, told, terms.take told.length, by omega, by rw [List.length_take]; omega, rfl, rfl⟩) (ev_var (r := dRec K told) rfl dt) fun H1 => ⟨i, _, told, rfl, rfl⟩)) fun v H20 e20 d => ?_
    rw [m6, decide_eq_true rfl] at d
    rw [show v = .bl true from d]
    exact k H20
end
end K35
set_option Elab.async false
set_option linter.all false
set_option maxRecDepth 100000
set_option maxHeartbeats 0
namespace K35
open PySem PySem.Spec PyProof.Rows L2
theorem isB_ty {K : PySem.W.Frag} {C : Addr} (hc : Cls K C) (h : isB K C = true) (H : Hp) (a dx : Addr) (fs : List (Str × V)) (e : H a = some (.ins C dx fs)) : TyX K H (.ref a) (.ref C) := by
  have e1 := He.ba (show (He.eqO (PySem.W.findIn K (.ref C) "__class__") (some (some (.builtin "object.__class__"))) && (decide (PySem.W.specialIn K (.builtin "object.__class__") "__get__" = some (some (.builtin "getset_descriptor.__get__"))) && (decide (PySem.W.takesIn K (.builtin "object.__class__") = some true) && decide (PySem.W.mroIn K C (.type "object") = some true)))) = true from h)
  have e2 := He.ba e1.2
  have e3 := He.ba e2.2
  exact .base (.ins e hc (He.eqO_ok e1.1) (of_decide_eq_true e2.1) (of_decide_eq_true e3.1) (of_decide_eq_true e3.2))
theorem facts {K : PySem.W.Frag} {h : Heap} {mg : Str → Option Value} (X : K.In h) (G : h.Ns mainGlobals mg) (c : He.SaysD fa fn K) (ex : exB K = true) : Tx K mg := by
  have e1 := He.ba (show (PySem.W.selfFirst K (He.ga K "Field") && (PySem.W.selfFirst K (He.ga K "Poly") && (PySem.W.selfFirst K (He.ga K "Recurrence") && (isB K (He.ga K "Field") && (isB K (He.ga K "Recurrence") && He.eqO (PySem.W.findIn K (.ref (He.ga K "Field")) "__ne__") (some (some (.builtin "object.__ne__")))))))) = true from ex)
  have e2 := He.ba e1.2
  have e3 := He.ba e2.2
  have e4 := He.ba e3.2
  have e5 := He.ba e4.2
  exact {
  d_f_subtract := by
    obtain ⟨fd, F⟩ := c.def_ 0 (d := d_f_subtract) rfl
    exact ⟨He.ga K "subtract", fd, He.glo_ok X G (c.fact 0 (f := .glo "subtract") rfl), F, FunD.bindsN F fun _ _ _ _ _ _ us hl => match us, hl with | [_, _, _], _ => rfl⟩
  d_f_dot := by
    obtain ⟨fd, F⟩ := c.def_ 1 (d := d_f_dot) rfl
    exact ⟨He.ga K "dot", fd, He.glo_ok X G (c.fact 1 (f := .glo "dot") rfl), F, FunD.bindsN F fun _ _ _ _ _ _ us hl => match us, hl with | [_, _, _], _ => rfl⟩
  d_f_cleared := by
    obtain ⟨fd, F⟩ := c.def_ 2 (d := d_f_cleared) rfl
    exact ⟨He.ga K "cleared", fd, He.glo_ok X G (c.fact 2 (f := .glo "cleared") rfl), F, FunD.bindsN F fun _ _ _ _ _ _ us hl => match us, hl with | [_, _, _, _], _ => rfl⟩
  d_f_reduced := by
    obtain ⟨fd, F⟩ := c.def_ 3 (d := d_f_reduced) rfl
    exact ⟨He.ga K "reduced", fd, He.glo_ok X G (c.fact 3 (f := .glo "reduced") rfl), F, FunD.bindsN F fun _ _ _ _ _ _ us hl => match us, hl with | [_, _, _], _ => rfl⟩
  d_f_solve := by
    obtain ⟨fd, F⟩ := c.def_ 4 (d := d_f_solve) rfl
    exact ⟨He.ga K "solve", fd, He.glo_ok X G (c.fact 4 (f := .glo "solve") rfl), F, FunD.bindsN F fun _ _ _ _ _ _ us hl => match us, hl with | [_, _, _, _], _ => rfl⟩
  d_f_is_integer := by
    obtain ⟨fd, F⟩ := c.def_ 5 (d := d_f_is_integer) rfl
    exact ⟨He.ga K "is_integer", fd, He.glo_ok X G (c.fact 5 (f := .glo "is_integer") rfl), F, FunD.bindsN F fun _ _ _ _ _ _ us hl => match us, hl with | [_], _ => rfl⟩
  d_f_prime_powers := by
    obtain ⟨fd, F⟩ := c.def_ 6 (d := d_f_prime_powers) rfl
    exact ⟨He.ga K "prime_powers", fd, He.glo_ok X G (c.fact 6 (f := .glo "prime_powers") rfl), F, FunD.bindsN F fun _ _ _ _ _ _ us hl => match us, hl with | [_], _ => rfl⟩
  d_f_is_prime := by
    obtain ⟨fd, F⟩ := c.def_ 7 (d := d_f_is_prime) rfl
    exact ⟨He.ga K "is_prime", fd, He.glo_ok X G (c.fact 7 (f := .glo "is_prime") rfl), F, FunD.bindsN F fun _ _ _ _ _ _ us hl => match us, hl with | [_], _ => rfl⟩
  d_f_inverse_modulo := by
    obtain ⟨fd, F⟩ := c.def_ 8 (d := d_f_inverse_modulo) rfl
    exact ⟨He.ga K "inverse_modulo", fd, He.glo_ok X G (c.fact 8 (f := .glo "inverse_modulo") rfl), F, FunD.bindsN F fun _ _ _ _ _ _ us hl => match us, hl with | [_, _], _ => rfl⟩
  d_f_trimmed := by
    obtain ⟨fd, F⟩ := c.def_ 9 (d := d_f_trimmed) rfl
    exact ⟨He.ga K "trimmed", fd, He.glo_ok X G (c.fact 9 (f := .glo "trimmed") rfl), F, FunD.bindsN F fun _ _ _ _ _ _ us hl => match us, hl with | [_, _], _ => rfl⟩
  d_f_add_rows := by
    obtain ⟨fd, F⟩ := c.def_ 10 (d := d_f_add_rows) rfl
    exact ⟨He.ga K "add_rows", fd, He.glo_ok X G (c.fact 10 (f := .glo "add_rows") rfl), F, FunD.bindsN F fun _ _ _ _ _ _ us hl => match us, hl with | [_, _, _], _ => rfl⟩
  d_f_subtract_rows := by
    obtain ⟨fd, F⟩ := c.def_ 11 (d := d_f_subtract_rows) rfl
    exact ⟨He.ga K "subtract_rows", fd, He.glo_ok X G (c.fact 11 (f := .glo "subtract_rows") rfl), F, FunD.bindsN F fun _ _ _ _ _ _ us hl => match us, hl with | [_, _, _], _ => rfl⟩
  d_f_multiply_rows := by
    obtain ⟨fd, F⟩ := c.def_ 12 (d := d_f_multiply_rows) rfl
    exact ⟨He.ga K "multiply_rows", fd, He.glo_ok X G (c.fact 12 (f := .glo "multiply_rows") rfl), F, FunD.bindsN F fun _ _ _ _ _ _ us hl => match us, hl with | [_, _, _], _ => rfl⟩
  d_f_divide_rows := by
    obtain ⟨fd, F⟩ := c.def_ 13 (d := d_f_divide_rows) rfl
    exact ⟨He.ga K "divide_rows", fd, He.glo_ok X G (c.fact 13 (f := .glo "divide_rows") rfl), F, FunD.bindsN F fun _ _ _ _ _ _ us hl => match us, hl with | [_, _, _], _ => rfl⟩
  d_f_common_row := by
    obtain ⟨fd, F⟩ := c.def_ 14 (d := d_f_common_row) rfl
    exact ⟨He.ga K "common_row", fd, He.glo_ok X G (c.fact 14 (f := .glo "common_row") rfl), F, FunD.bindsN F fun _ _ _ _ _ _ us hl => match us, hl with | [_, _, _], _ => rfl⟩
  d_f_power_row := by
    obtain ⟨fd, F⟩ := c.def_ 15 (d := d_f_power_row) rfl
    exact ⟨He.ga K "power_row", fd, He.glo_ok X G (c.fact 15 (f := .glo "power_row") rfl), F, FunD.bindsN F fun _ _ _ _ _ _ us hl => match us, hl with | [_, _, _, _], _ => rfl⟩
  d_f_is_irreducible_row := by
    obtain ⟨fd, F⟩ := c.def_ 16 (d := d_f_is_irreducible_row) rfl
    exact ⟨He.ga K "is_irreducible_row", fd, He.glo_ok X G (c.fact 16 (f := .glo "is_irreducible_row") rfl), F, FunD.bindsN F fun _ _ _ _ _ _ us hl => match us, hl with | [_, _], _ => rfl⟩
  d_f_is_member_row := by
    obtain ⟨fd, F⟩ := c.def_ 17 (d := d_f_is_member_row) rfl
    exact ⟨He.ga K "is_member_row", fd, He.glo_ok X G (c.fact 17 (f := .glo "is_member_row") rfl), F, FunD.bindsN F fun _ _ _ _ _ _ us hl => match us, hl with | [_, _, _], _ => rfl⟩
  d_f_member_of := by
    obtain ⟨fd, F⟩ := c.def_ 18 (d := d_f_member_of) rfl
    exact ⟨He.ga K "member_of", fd, He.glo_ok X G (c.fact 18 (f := .glo "member_of") rfl), F, FunD.bindsN F fun _ _ _ _ _ _ us hl => match us, hl with | [_, _], _ => rfl⟩
  d_f_member_sum := by
    obtain ⟨fd, F⟩ := c.def_ 19 (d := d_f_member_sum) rfl
    exact ⟨He.ga K "member_sum", fd, He.glo_ok X G (c.fact 19 (f := .glo "member_sum") rfl), F, FunD.bindsN F fun _ _ _ _ _ _ us hl => match us, hl with | [_, _, _], _ => rfl⟩
  d_f_member_negative := by
    obtain ⟨fd, F⟩ := c.def_ 20 (d := d_f_member_negative) rfl
    exact ⟨He.ga K "member_negative", fd, He.glo_ok X G (c.fact 20 (f := .glo "member_negative") rfl), F, FunD.bindsN F fun _ _ _ _ _ _ us hl => match us, hl with | [_, _], _ => rfl⟩
  d_f_member_product := by
    obtain ⟨fd, F⟩ := c.def_ 21 (d := d_f_member_product) rfl
    exact ⟨He.ga K "member_product", fd, He.glo_ok X G (c.fact 21 (f := .glo "member_product") rfl), F, FunD.bindsN F fun _ _ _ _ _ _ us hl => match us, hl with | [_, _, _, _], _ => rfl⟩
  d_f_member_inverse := by
    obtain ⟨fd, F⟩ := c.def_ 22 (d := d_f_member_inverse) rfl
    exact ⟨He.ga K "member_inverse", fd, He.glo_ok X G (c.fact 22 (f := .glo "member_inverse") rfl), F, FunD.bindsN F fun _ _ _ _ _ _ us hl => match us, hl with | [_, _, _], _ => rfl⟩
  d_f_u_trimmed := by
    obtain ⟨fd, F⟩ := c.def_ 23 (d := d_f_u_trimmed) rfl
    exact ⟨He.ga K "_trimmed", fd, He.glo_ok X G (c.fact 23 (f := .glo "_trimmed") rfl), F, FunD.bindsN F fun _ _ _ _ _ _ us hl => match us, hl with | [_, _], _ => rfl⟩
  d_f_add := by
    obtain ⟨fd, F⟩ := c.def_ 24 (d := d_f_add) rfl
    exact ⟨He.ga K "_add", fd, He.glo_ok X G (c.fact 24 (f := .glo "_add") rfl), F, FunD.bindsN F fun _ _ _ _ _ _ us hl => match us, hl with | [_, _, _], _ => rfl⟩
  d_f_negative := by
    obtain ⟨fd, F⟩ := c.def_ 25 (d := d_f_negative) rfl
    exact ⟨He.ga K "_negative", fd, He.glo_ok X G (c.fact 25 (f := .glo "_negative") rfl), F, FunD.bindsN F fun _ _ _ _ _ _ us hl => match us, hl with | [_, _], _ => rfl⟩
  d_f_multiply := by
    obtain ⟨fd, F⟩ := c.def_ 26 (d := d_f_multiply) rfl
    exact ⟨He.ga K "_multiply", fd, He.glo_ok X G (c.fact 26 (f := .glo "_multiply") rfl), F, FunD.bindsN F fun _ _ _ _ _ _ us hl => match us, hl with | [_, _, _], _ => rfl⟩
  d_f_divide := by
    obtain ⟨fd, F⟩ := c.def_ 27 (d := d_f_divide) rfl
    exact ⟨He.ga K "_divide", fd, He.glo_ok X G (c.fact 27 (f := .glo "_divide") rfl), F, FunD.bindsN F fun _ _ _ _ _ _ us hl => match us, hl with | [_, _, _], _ => rfl⟩
  d_m_Poly_init := by
    obtain ⟨fd, F⟩ := c.def_ 28 (d := d_m_Poly_init) rfl
    exact ⟨He.ma K (He.ga K "Poly") "__init__", fd, [], He.mkr_ok (c.fact 42 (f := .mkr "Poly") rfl), He.glo_ok X G (c.fact 40 (f := .glo "Poly") rfl), F, FunD.bindsN F fun _ _ _ _ _ _ us hl => match us, hl with | [_, _, _], _ => rfl⟩
  d_m_Poly_sub := by
    obtain ⟨fd, F⟩ := c.def_ 29 (d := d_m_Poly_sub) rfl
    exact ⟨He.ma K (He.ga K "Poly") "__sub__", fd, He.cls_ok (c.fact 41 (f := .cls "Poly") rfl), He.meth_ok (c.fact 58 (f := .meth "Poly" "__sub__") rfl), F, FunD.bindsN F fun _ _ _ _ _ _ us hl => match us, hl with | [_, _], _ => rfl⟩
  d_m_Poly_mul := by
    obtain ⟨fd, F⟩ := c.def_ 30 (d := d_m_Poly_mul) rfl
    exact ⟨He.ma K (He.ga K "Poly") "__mul__", fd, He.cls_ok (c.fact 41 (f := .cls "Poly") rfl), He.meth_ok (c.fact 59 (f := .meth "Poly" "__mul__") rfl), F, FunD.bindsN F fun _ _ _ _ _ _ us hl => match us, hl with | [_, _], _ => rfl⟩
  d_m_Poly_mod := by
    obtain ⟨fd, F⟩ := c.def_ 31 (d := d_m_Poly_mod) rfl
    exact ⟨He.ma K (He.ga K "Poly") "__mod__", fd, He.cls_ok (c.fact 41 (f := .cls "Poly") rfl), He.meth_ok (c.fact 60 (f := .meth "Poly" "__mod__") rfl), F, FunD.bindsN F fun _ _ _ _ _ _ us hl => match us, hl with | [_, _], _ => rfl⟩
  d_m_Poly_is_zero := by
    obtain ⟨fd, F⟩ := c.def_ 32 (d := d_m_Poly_is_zero) rfl
    exact ⟨He.ma K (He.ga K "Poly") "is_zero", fd, He.cls_ok (c.fact 41 (f := .cls "Poly") rfl), He.meth_ok (c.fact 61 (f := .meth "Poly" "is_zero") rfl), F, FunD.bindsN F fun _ _ _ _ _ _ us hl => match us, hl with | [_], _ => rfl⟩
  d_f_monomial := by
    obtain ⟨fd, F⟩ := c.def_ 33 (d := d_f_monomial) rfl
    exact ⟨He.ga K "monomial", fd, He.glo_ok X G (c.fact 28 (f := .glo "monomial") rfl), F, FunD.bindsN F fun _ _ _ _ _ _ us hl => match us, hl with | [_, _, _], _ => rfl⟩
  d_m_Recurrence_init := by
    obtain ⟨fd, F⟩ := c.def_ 34 (d := d_m_Recurrence_init) rfl
    exact ⟨He.ma K (He.ga K "Recurrence") "__init__", fd, [], He.mkr_ok (c.fact 45 (f := .mkr "Recurrence") rfl), He.glo_ok X G (c.fact 43 (f := .glo "Recurrence") rfl), F, FunD.bindsN F fun _ _ _ _ _ _ us hl => match us, hl with | [_, _, _], _ => rfl⟩
  d_m_Recurrence_eq := by
    obtain ⟨fd, F⟩ := c.def_ 35 (d := d_m_Recurrence_eq) rfl
    exact ⟨He.ma K (He.ga K "Recurrence") "__eq__", fd, He.cls_ok (c.fact 44 (f := .cls "Recurrence") rfl), He.meth_ok (c.fact 63 (f := .meth "Recurrence" "__eq__") rfl), F, FunD.bindsN F fun _ _ _ _ _ _ us hl => match us, hl with | [_, _], _ => rfl⟩
  d_m_Recurrence_len := by
    obtain ⟨fd, F⟩ := c.def_ 36 (d := d_m_Recurrence_len) rfl
    exact ⟨He.ma K (He.ga K "Recurrence") "__len__", fd, He.cls_ok (c.fact 44 (f := .cls "Recurrence") rfl), He.meth_ok (c.fact 64 (f := .meth "Recurrence" "__len__") rfl), F, FunD.bindsN F fun _ _ _ _ _ _ us hl => match us, hl with | [_], _ => rfl⟩
  d_m_Recurrence_polynomial := by
    obtain ⟨fd, F⟩ := c.def_ 37 (d := d_m_Recurrence_polynomial) rfl
    exact ⟨He.ma K (He.ga K "Recurrence") "polynomial", fd, He.cls_ok (c.fact 44 (f := .cls "Recurrence") rfl), He.meth_ok (c.fact 65 (f := .meth "Recurrence" "polynomial") rfl), F, FunD.bindsN F fun _ _ _ _ _ _ us hl => match us, hl with | [_], _ => rfl⟩
  d_m_Recurrence_checked := by
    obtain ⟨fd, F⟩ := c.def_ 38 (d := d_m_Recurrence_checked) rfl
    exact ⟨He.ma K (He.ga K "Recurrence") "_checked", fd, He.cls_ok (c.fact 44 (f := .cls "Recurrence") rfl), He.meth_ok (c.fact 66 (f := .meth "Recurrence" "_checked") rfl), F, FunD.bindsN F fun _ _ _ _ _ _ us hl => match us, hl with | [_, _], _ => rfl⟩
  d_m_Recurrence_row := by
    obtain ⟨fd, F⟩ := c.def_ 39 (d := d_m_Recurrence_row) rfl
    exact ⟨He.ma K (He.ga K "Recurrence") "_row", fd, He.cls_ok (c.fact 44 (f := .cls "Recurrence") rfl), He.meth_ok (c.fact 67 (f := .meth "Recurrence" "_row") rfl), F, FunD.bindsN F fun _ _ _ _ _ _ us hl => match us, hl with | [_, _, _], _ => rfl⟩
  d_m_Recurrence_is_satisfied := by
    obtain ⟨fd, F⟩ := c.def_ 40 (d := d_m_Recurrence_is_satisfied) rfl
    exact ⟨He.ma K (He.ga K "Recurrence") "is_satisfied", fd, He.cls_ok (c.fact 44 (f := .cls "Recurrence") rfl), He.meth_ok (c.fact 68 (f := .meth "Recurrence" "is_satisfied") rfl), F, FunD.bindsN F fun _ _ _ _ _ _ us hl => match us, hl with | [_, _], _ => rfl⟩
  d_m_Recurrence_least := by
    obtain ⟨fd, F⟩ := c.def_ 41 (d := d_m_Recurrence_least) rfl
    exact ⟨He.ma K (He.ga K "Recurrence") "least", fd, He.cls_ok (c.fact 44 (f := .cls "Recurrence") rfl), He.meth_ok (c.fact 69 (f := .meth "Recurrence" "least") rfl), F, FunD.bindsN F fun _ _ _ _ _ _ us hl => match us, hl with | [_, _], _ => rfl⟩
  d_f_least_recurrence := by
    obtain ⟨fd, F⟩ := c.def_ 42 (d := d_f_least_recurrence) rfl
    exact ⟨He.ga K "least_recurrence", fd, He.glo_ok X G (c.fact 29 (f := .glo "least_recurrence") rfl), F, FunD.bindsN F fun _ _ _ _ _ _ us hl => match us, hl with | [_, _], _ => rfl⟩
  d_f_checked_modulus := by
    obtain ⟨fd, F⟩ := c.def_ 43 (d := d_f_checked_modulus) rfl
    exact ⟨He.ga K "_checked_modulus", fd, He.glo_ok X G (c.fact 30 (f := .glo "_checked_modulus") rfl), F, FunD.bindsN F fun _ _ _ _ _ _ us hl => match us, hl with | [_, _], _ => rfl⟩
  d_m_Field_init := by
    obtain ⟨fd, F⟩ := c.def_ 44 (d := d_m_Field_init) rfl
    obtain ⟨ds, hv, hb⟩ := FunD.binds1 (ps := ["self", "p", "modulus"]) F 3 1 (by exact List.cons_ne_nil _ _) rfl fun T kV doc pm an cdv ct us its hu hi => match us, its, hu, hi with | [_, _, _], [_], _, _ => ⟨_, rfl, rfl⟩
    cases hv
    exact ⟨He.ma K (He.ga K "Field") "__init__", fd, _, He.mkr_ok (c.fact 48 (f := .mkr "Field") rfl), He.glo_ok X G (c.fact 46 (f := .glo "Field") rfl), F, hb⟩
  d_m_Field_eq := by
    obtain ⟨fd, F⟩ := c.def_ 45 (d := d_m_Field_eq) rfl
    exact ⟨He.ma K (He.ga K "Field") "__eq__", fd, He.cls_ok (c.fact 47 (f := .cls "Field") rfl), He.meth_ok (c.fact 71 (f := .meth "Field" "__eq__") rfl), F, FunD.bindsN F fun _ _ _ _ _ _ us hl => match us, hl with | [_, _], _ => rfl⟩
  d_m_Field_is_member := by
    obtain ⟨fd, F⟩ := c.def_ 46 (d := d_m_Field_is_member) rfl
    exact ⟨He.ma K (He.ga K "Field") "is_member", fd, He.cls_ok (c.fact 47 (f := .cls "Field") rfl), He.meth_ok (c.fact 72 (f := .meth "Field" "is_member") rfl), F, FunD.bindsN F fun _ _ _ _ _ _ us hl => match us, hl with | [_, _], _ => rfl⟩
  d_m_Field_integer := by
    obtain ⟨fd, F⟩ := c.def_ 47 (d := d_m_Field_integer) rfl
    exact ⟨He.ma K (He.ga K "Field") "integer", fd, He.cls_ok (c.fact 47 (f := .cls "Field") rfl), He.meth_ok (c.fact 73 (f := .meth "Field" "integer") rfl), F, FunD.bindsN F fun _ _ _ _ _ _ us hl => match us, hl with | [_, _], _ => rfl⟩
  d_m_Field_zero := by
    obtain ⟨fd, F⟩ := c.def_ 48 (d := d_m_Field_zero) rfl
    exact ⟨He.ma K (He.ga K "Field") "zero", fd, He.cls_ok (c.fact 47 (f := .cls "Field") rfl), He.meth_ok (c.fact 74 (f := .meth "Field" "zero") rfl), F, FunD.bindsN F fun _ _ _ _ _ _ us hl => match us, hl with | [_], _ => rfl⟩
  d_m_Field_one := by
    obtain ⟨fd, F⟩ := c.def_ 49 (d := d_m_Field_one) rfl
    exact ⟨He.ma K (He.ga K "Field") "one", fd, He.cls_ok (c.fact 47 (f := .cls "Field") rfl), He.meth_ok (c.fact 75 (f := .meth "Field" "one") rfl), F, FunD.bindsN F fun _ _ _ _ _ _ us hl => match us, hl with | [_], _ => rfl⟩
  d_m_Field_add := by
    obtain ⟨fd, F⟩ := c.def_ 50 (d := d_m_Field_add) rfl
    exact ⟨He.ma K (He.ga K "Field") "add", fd, He.cls_ok (c.fact 47 (f := .cls "Field") rfl), He.meth_ok (c.fact 76 (f := .meth "Field" "add") rfl), F, FunD.bindsN F fun _ _ _ _ _ _ us hl => match us, hl with | [_, _, _], _ => rfl⟩
  d_m_Field_negative := by
    obtain ⟨fd, F⟩ := c.def_ 51 (d := d_m_Field_negative) rfl
    exact ⟨He.ma K (He.ga K "Field") "negative", fd, He.cls_ok (c.fact 47 (f := .cls "Field") rfl), He.meth_ok (c.fact 77 (f := .meth "Field" "negative") rfl), F, FunD.bindsN F fun _ _ _ _ _ _ us hl => match us, hl with | [_, _], _ => rfl⟩
  d_m_Field_multiply := by
    obtain ⟨fd, F⟩ := c.def_ 52 (d := d_m_Field_multiply) rfl
    exact ⟨He.ma K (He.ga K "Field") "multiply", fd, He.cls_ok (c.fact 47 (f := .cls "Field") rfl), He.meth_ok (c.fact 78 (f := .meth "Field" "multiply") rfl), F, FunD.bindsN F fun _ _ _ _ _ _ us hl => match us, hl with | [_, _, _], _ => rfl⟩
  d_m_Field_inverse := by
    obtain ⟨fd, F⟩ := c.def_ 53 (d := d_m_Field_inverse) rfl
    exact ⟨He.ma K (He.ga K "Field") "inverse", fd, He.cls_ok (c.fact 47 (f := .cls "Field") rfl), He.meth_ok (c.fact 79 (f := .meth "Field" "inverse") rfl), F, FunD.bindsN F fun _ _ _ _ _ _ us hl => match us, hl with | [_, _], _ => rfl⟩
  d_m_Field_member := by
    obtain ⟨fd, F⟩ := c.def_ 54 (d := d_m_Field_member) rfl
    exact ⟨He.ma K (He.ga K "Field") "member", fd, He.cls_ok (c.fact 47 (f := .cls "Field") rfl), He.meth_ok (c.fact 80 (f := .meth "Field" "member") rfl), F, FunD.bindsN F fun _ _ _ _ _ _ us hl => match us, hl with | [_, _], _ => rfl⟩
  d_f_law_state := by
    obtain ⟨fd, F⟩ := c.def_ 55 (d := d_f_law_state) rfl
    exact ⟨He.ga K "_law_state", fd, He.glo_ok X G (c.fact 31 (f := .glo "_law_state") rfl), F, FunD.bindsN F fun _ _ _ _ _ _ us hl => match us, hl with | [_], _ => rfl⟩
  d_f_law_take := by
    obtain ⟨fd, F⟩ := c.def_ 56 (d := d_f_law_take) rfl
    exact ⟨He.ga K "_law_take", fd, He.glo_ok X G (c.fact 32 (f := .glo "_law_take") rfl), F, FunD.bindsN F fun _ _ _ _ _ _ us hl => match us, hl with | [_, _], _ => rfl⟩
  d_f_law_field := by
    obtain ⟨fd, F⟩ := c.def_ 57 (d := d_f_law_field) rfl
    exact ⟨He.ga K "_law_field", fd, He.glo_ok X G (c.fact 33 (f := .glo "_law_field") rfl), F, FunD.bindsN F fun _ _ _ _ _ _ us hl => match us, hl with | [_], _ => rfl⟩
  d_f_law_drawn := by
    obtain ⟨fd, F⟩ := c.def_ 58 (d := d_f_law_drawn) rfl
    exact ⟨He.ga K "_law_drawn", fd, He.glo_ok X G (c.fact 34 (f := .glo "_law_drawn") rfl), F, FunD.bindsN F fun _ _ _ _ _ _ us hl => match us, hl with | [_, _], _ => rfl⟩
  d_f_law_next := by
    obtain ⟨fd, F⟩ := c.def_ 59 (d := d_f_law_next) rfl
    exact ⟨He.ga K "_law_next", fd, He.glo_ok X G (c.fact 35 (f := .glo "_law_next") rfl), F, FunD.bindsN F fun _ _ _ _ _ _ us hl => match us, hl with | [_, _, _], _ => rfl⟩
  d_f_law_row := by
    obtain ⟨fd, F⟩ := c.def_ 60 (d := d_f_law_row) rfl
    exact ⟨He.ga K "_law_row", fd, He.glo_ok X G (c.fact 36 (f := .glo "_law_row") rfl), F, FunD.bindsN F fun _ _ _ _ _ _ us hl => match us, hl with | [_, _, _, _], _ => rfl⟩
  d_f_law_solution := by
    obtain ⟨fd, F⟩ := c.def_ 61 (d := d_f_law_solution) rfl
    exact ⟨He.ga K "_law_solution", fd, He.glo_ok X G (c.fact 37 (f := .glo "_law_solution") rfl), F, FunD.bindsN F fun _ _ _ _ _ _ us hl => match us, hl with | [_, _, _, _], _ => rfl⟩
  d_f_law_annihilates := by
    obtain ⟨fd, F⟩ := c.def_ 62 (d := d_f_law_annihilates) rfl
    exact ⟨He.ga K "_law_annihilates", fd, He.glo_ok X G (c.fact 38 (f := .glo "_law_annihilates") rfl), F, FunD.bindsN F fun _ _ _ _ _ _ us hl => match us, hl with | [_, _, _], _ => rfl⟩
  d_f_law := by
    obtain ⟨fd, F⟩ := c.def_ 63 (d := d_f_law) rfl
    exact ⟨He.ga K "law", fd, He.glo_ok X G (c.fact 39 (f := .glo "law") rfl), F, FunD.bindsN F fun _ _ _ _ _ _ us hl => match us, hl with | [_], _ => rfl⟩
  g_Field := He.glo_ok X G (c.fact 46 (f := .glo "Field") rfl)
  c_Field := He.cls_ok (c.fact 47 (f := .cls "Field") rfl)
  g_Poly := He.glo_ok X G (c.fact 40 (f := .glo "Poly") rfl)
  c_Poly := He.cls_ok (c.fact 41 (f := .cls "Poly") rfl)
  g_Recurrence := He.glo_ok X G (c.fact 43 (f := .glo "Recurrence") rfl)
  c_Recurrence := He.cls_ok (c.fact 44 (f := .cls "Recurrence") rfl)
  n_Field_modulus := He.noat_ok (c.fact 49 (f := .noat "Field" "modulus") rfl)
  n_Field_p := He.noat_ok (c.fact 50 (f := .noat "Field" "p") rfl)
  n_Field_n := He.noat_ok (c.fact 51 (f := .noat "Field" "n") rfl)
  n_Field_q := He.noat_ok (c.fact 52 (f := .noat "Field" "q") rfl)
  n_Poly_field := He.noat_ok (c.fact 53 (f := .noat "Poly" "field") rfl)
  n_Poly_row := He.noat_ok (c.fact 54 (f := .noat "Poly" "row") rfl)
  n_Recurrence_field := He.noat_ok (c.fact 55 (f := .noat "Recurrence" "field") rfl)
  n_Recurrence_multiples := He.noat_ok (c.fact 56 (f := .noat "Recurrence" "multiples") rfl)
  z_len := He.free_ok X G (c.fact 81 (f := .free "len") rfl)
  z_range := He.free_ok X G (c.fact 82 (f := .free "range") rfl)
  z_zip := He.free_ok X G (c.fact 83 (f := .free "zip") rfl)
  z_enumerate := He.free_ok X G (c.fact 84 (f := .free "enumerate") rfl)
  z_isinstance := He.free_ok X G (c.fact 85 (f := .free "isinstance") rfl)
  z_tuple := He.free_ok X G (c.fact 86 (f := .free "tuple") rfl)
  z_list := He.free_ok X G (c.fact 87 (f := .free "list") rfl)
  z_max := He.free_ok X G (c.fact 88 (f := .free "max") rfl)
  z_abs := He.free_ok X G (c.fact 89 (f := .free "abs") rfl)
  z_int := He.free_ok X G (c.fact 90 (f := .free "int") rfl)
  z_bool := He.free_ok X G (c.fact 91 (f := .free "bool") rfl)
  x_most := He.int_ok X G (c.fact 92 (f := .int "MOST" 400) rfl)
  x_first := e2.1
  x_ne := He.eqO_ok e5.2
  x_tyF := isB_ty (He.cls_ok (c.fact 47 (f := .cls "Field") rfl)) e4.1
  x_tyR := isB_ty (He.cls_ok (c.fact 44 (f := .cls "Recurrence") rfl)) e5.1
  }
theorem law_fn {P : Program} {w : World} {K : PySem.W.Frag} {h : Heap} {mg : Str → Option Value} {f : Addr} (X : K.In h) (G : h.Ns mainGlobals mg) (hfa : mg ("law" : Str) = some (.ref f)) (c : He.SaysD fa fn K) (ex : exB K = true) :
    ∃ fd : FuncData, (∀ (s : Shared) (v : Value), BindsTo s fd ⟨[v], []⟩ [("_law_script", v)]) ∧ ∀ base : Heap, K.In base → base.Ns mainGlobals mg → FnOk P w K mg base CX0 10 f fd ["_law_script"] (spLaw K) := by
  have T := facts X G c ex
  obtain ⟨fd, F⟩ := c.def_ 63 (d := d_f_law) rfl
  have e := hfa.symm.trans (He.glo_ok X G (c.fact 39 (f := .glo "law") rfl))
  cases e
  have b := FunD.bindsA (ps := ["_law_script"]) F fun _ _ _ _ _ _ us hl => match us, hl with | [_], _ => rfl
  exact ⟨fd, fun s v => b s [v] rfl, fun base _ _ => ok_f_law T F⟩
end K35
open PySem PySem.W PySem.Calls PyProof.Rows
theorem PySem.Challenge.cw_fieldmaps_k35_whole_least_recurrence_of_holds : PySem.Challenge.rw_fieldmaps_k35_whole_least_recurrence_of.Holds := by
  w_on; o_law
  refine HandSHeadRun.head_any (r := OpenLaw.row PySem.Challenge.rw_fieldmaps_k35_whole_least_recurrence_of) (q := view (OpenLaw.row PySem.Challenge.rw_fieldmaps_k35_whole_least_recurrence_of).prog [58]) (H := K35.hkX 4) (ob := K35.ob) (M := 6000) (loose := K35.nms) (d := HandSHeadRun.topDef (OpenLaw.row PySem.Challenge.rw_fieldmaps_k35_whole_least_recurrence_of).prog 58) (kwd := []) K35.ob_eq
    (by kernel_rfl) (fun s => by kernel_rfl) K35.run (by kernel_rfl) (by kernel_rfl) (by kernel_rfl) (by rfl) (by first | assumption | decide +kernel) (by decide +kernel) ⟨rfl, rfl, rfl, rfl, rfl, by decide +kernel⟩ ?hw ?hc
  case hw => w_witness2
  case hc =>
    refine L2.walk_ofE (l := PySem.Challenge.rw_fieldmaps_k35_whole_least_recurrence_of) (n := 63) (k := 10) (x := "_law_script") (CX := L2.CX0) rfl (by decide) (by kernel_rfl) ⟨rfl, by decide, by decide⟩ ?F (fun _ _ _ _ z => z)
    intro w mg fa h Y G hmg0
    obtain ⟨K, KX, c, ex⟩ := Y
    have hmg : mg ("law" : PySem.Str) = some (.ref fa) := by
      have e : (HandSHeadRun.topDef (OpenLaw.row PySem.Challenge.rw_fieldmaps_k35_whole_least_recurrence_of).prog 58).name = ("law" : PySem.Str) := by kernel_rfl
      rw [← e]
      exact hmg0
    obtain ⟨fd, hb, hF⟩ := K35.law_fn (P := (PySem.Challenge.rw_fieldmaps_k35_whole_least_recurrence_of).prog) (w := w) KX G hmg c ex
    exact ⟨K, fd, K35.spLaw K, KX, hb, fun H a ns hl _ hS => ⟨.ref a, ns, rfl, hl, ⟨a, rfl, hS⟩, fun _ => rfl⟩, hF⟩

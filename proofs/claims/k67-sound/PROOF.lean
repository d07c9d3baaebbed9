import PyProof.Rows.All
import Wide.All
import OpenK.AllK
import Wide.FinOn
import HandS.ForMost
import HandS.Conv
import HandS.Flow
import HandS.TupAny
import HandS.Rev
import HandS.Deep
import KE.DataEq
import HandS.RaiseMore
import HandS.IsInst
import HandS.SortInts
import HandS.SetFor
import HandS.Style
import HandS.Zip
import PySem.Challenge.RW_stagelands_k67_whole_speakers_that_wait
set_option Elab.async false
set_option linter.all false
set_option maxRecDepth 100000
set_option exponentiation.threshold 2000
namespace Z
open PySem PySem.Spec PyProof.Rows L2

/-! ## predicate transformers -/
structure W (α : Type) where
  run : (α → Prop) → Prop
  mono : ∀ {Q Q' : α → Prop}, (∀ x, Q x → Q' x) → run Q → run Q'
namespace W
variable {α β : Type}
def p (x : α) : W α := ⟨fun Q => Q x, fun h q => h _ q⟩
def b (w : W α) (f : α → W β) : W β := ⟨fun Q => w.run fun x => (f x).run Q, fun h q => w.mono (fun x r => (f x).mono h r) q⟩
def fail : W α := ⟨fun _ => False, fun _ q => q⟩
/-- some of these, any of them -/
def any (S : α → Prop) : W α := ⟨fun Q => ∀ x, S x → Q x, fun h q x s => h x (q x s)⟩
def req (P : Prop) (w : W α) : W α := ⟨fun Q => P ∧ w.run Q, fun h q => ⟨q.1, w.mono h q.2⟩⟩
def opt (o : Option α) : W α := ⟨fun Q => ∃ x, o = some x ∧ Q x, fun h q => let ⟨x, e, r⟩ := q; ⟨x, e, h x r⟩⟩
theorem run_p {x : α} {Q : α → Prop} : (p x).run Q ↔ Q x := Iff.rfl
theorem run_b {w : W α} {f : α → W β} {Q : β → Prop} : (b w f).run Q ↔ w.run fun x => (f x).run Q := Iff.rfl
theorem run_any {S : α → Prop} {Q : α → Prop} : (any S).run Q ↔ ∀ x, S x → Q x := Iff.rfl
theorem run_req {P : Prop} {w : W α} {Q : α → Prop} : (req P w).run Q ↔ P ∧ w.run Q := Iff.rfl
theorem run_opt {o : Option α} {Q : α → Prop} : (opt o).run Q ↔ ∃ x, o = some x ∧ Q x := Iff.rfl
theorem run_ite {c : Prop} [Decidable c] {w u : W α} {Q : α → Prop} : (if c then w else u).run Q ↔ if c then w.run Q else u.run Q := by
  split <;> exact Iff.rfl
end W

/-! ## heaps -/
abbrev D := PyData
def hb (b : Option Addr) (H : Hp) : Hp := fun a => if some a = b then none else H a
theorem hb_some {b : Option Addr} {H : Hp} {a : Addr} {o : HO} : hb b H a = some o ↔ some a ≠ b ∧ H a = some o := by
  unfold hb
  by_cases h : some a = b
  · rw [if_pos h]; exact ⟨fun e => (by cases e), fun e => absurd h e.1⟩
  · rw [if_neg h]; exact ⟨fun e => ⟨h, e⟩, fun e => e.2⟩
theorem hb_none (H : Hp) : hb none H = H := by
  funext a
  unfold hb
  rw [if_neg (fun e => by cases e)]
theorem hb_sub {b : Option Addr} {H : Hp} : Same (hb b H) H := fun _ _ h => (hb_some.mp h).2
theorem hb_mono {b : Option Addr} {H H' : Hp} (h : Same H H') : Same (hb b H) (hb b H') := fun a o e => hb_some.mpr ⟨(hb_some.mp e).1, h a o (hb_some.mp e).2⟩

end Z
namespace L2
open PySem PySem.Spec PyProof.Rows Z
theorem Same.rd {H H' : Hp} (e : Same H H') {a : Addr} {u : HO} (h : Rd H a u) : Rd H' a u := by
  rcases h with h | ⟨o, h⟩
  · exact .inl (e a _ h)
  · exact .inr ⟨o, e a _ h⟩
theorem Same.sqT {K : PySem.W.Frag} {H H' : Hp} (e : Same H H') {a : Addr} {xs : List V} (h : SqT K H a xs) : SqT K H' a xs := by
  rcases h with h | h
  · exact .inl (e.rd h)
  · exact .inr h
theorem Same.sqL {K : PySem.W.Frag} {H H' : Hp} (e : Same H H') {a : Addr} {xs : List V} (h : SqL K H a xs) : SqL K H' a xs := by
  rcases h with h | h
  · exact .inl (e.rd h)
  · exact .inr h
mutual
theorem Dp.mono {K : PySem.W.Frag} {H H' : Hp} (e : Same H H') : ∀ {v : V} {d : D}, Dp K H v d → Dp K H' v d
  | _, _, .non => .non
  | _, _, .bl b => .bl b
  | _, _, .int i => .int i
  | _, _, .str x => .str x
  | _, _, .lst h a => .lst (e.sqL h) (DpAll.mono e a)
  | _, _, .tup h a => .tup (e.sqT h) (DpAll.mono e a)
theorem DpAll.mono {K : PySem.W.Frag} {H H' : Hp} (e : Same H H') : ∀ {vs : List V} {ds : List D}, DpAll K H vs ds → DpAll K H' vs ds
  | _, _, .nil => .nil
  | _, _, .cons h a => .cons (Dp.mono e h) (DpAll.mono e a)
end
section
variable {K : PySem.W.Frag} {H : Hp}
theorem DpAll.length : ∀ {vs : List V} {ds : List D}, DpAll K H vs ds → vs.length = ds.length
  | _, _, .nil => rfl
  | _, _, .cons _ a => by rw [List.length_cons, List.length_cons, DpAll.length a]
theorem DpAll.get : ∀ {vs : List V} {ds : List D} {i : Nat} {d : D}, DpAll K H vs ds → ds[i]? = some d → ∃ v, vs[i]? = some v ∧ Dp K H v d
  | _, _, _, _, .nil, e => by simp at e
  | _, _, 0, _, .cons h _, e => by simp at e; subst e; exact ⟨_, rfl, h⟩
  | _, _, i + 1, _, .cons _ a, e => by
    obtain ⟨v, h1, h2⟩ := DpAll.get (i := i) a (by simpa using e)
    exact ⟨v, by simpa using h1, h2⟩
theorem DpAll.getV : ∀ {vs : List V} {ds : List D} {i : Nat} {v : V}, DpAll K H vs ds → vs[i]? = some v → ∃ d, ds[i]? = some d ∧ Dp K H v d
  | _, _, _, _, .nil, e => by simp at e
  | _, _, 0, _, .cons h _, e => by simp at e; subst e; exact ⟨_, rfl, h⟩
  | _, _, i + 1, _, .cons _ a, e => by
    obtain ⟨v, h1, h2⟩ := DpAll.getV (i := i) a (by simpa using e)
    exact ⟨v, by simpa using h1, h2⟩
theorem DpAll.append : ∀ {vs us : List V} {ds es : List D}, DpAll K H vs ds → DpAll K H us es → DpAll K H (vs ++ us) (ds ++ es)
  | _, _, _, _, .nil, s => s
  | _, _, _, _, .cons h a, s => .cons h (DpAll.append a s)
theorem DpAll.take : ∀ {vs : List V} {ds : List D} (n : Nat), DpAll K H vs ds → DpAll K H (vs.take n) (ds.take n)
  | _, _, 0, _ => .nil
  | _, _, _ + 1, .nil => .nil
  | _, _, n + 1, .cons h a => .cons h (DpAll.take n a)
theorem DpAll.drop : ∀ {vs : List V} {ds : List D} (n : Nat), DpAll K H vs ds → DpAll K H (vs.drop n) (ds.drop n)
  | _, _, 0, r => r
  | _, _, _ + 1, .nil => .nil
  | _, _, n + 1, .cons _ a => DpAll.drop n a
theorem DpAll.set {v : V} {d : D} (r : Dp K H v d) : ∀ {vs : List V} {ds : List D} (i : Nat), DpAll K H vs ds → DpAll K H (vs.set i v) (ds.set i d)
  | _, _, _, .nil => .nil
  | _, _, 0, .cons _ a => .cons r a
  | _, _, i + 1, .cons h a => .cons h (DpAll.set r i a)
theorem DpAll.erase : ∀ {vs : List V} {ds : List D} (i : Nat), DpAll K H vs ds → DpAll K H (vs.eraseIdx i) (ds.eraseIdx i)
  | _, _, _, .nil => .nil
  | _, _, 0, .cons _ a => a
  | _, _, i + 1, .cons h a => .cons h (DpAll.erase i a)
theorem DpAll.one {v : V} {d : D} (h : Dp K H v d) : DpAll K H [v] [d] := .cons h .nil
theorem DpAll.reverse : ∀ {vs : List V} {ds : List D}, DpAll K H vs ds → DpAll K H vs.reverse ds.reverse
  | _, _, .nil => .nil
  | _, _, .cons h a => by rw [List.reverse_cons, List.reverse_cons]; exact (DpAll.reverse a).append (.one h)
theorem DpAll.at {vs : List V} {ds : List D} (a : DpAll K H vs ds) {i : Int} {d : D} (h : atI ds i = some d) : ∃ v, atI vs i = some v ∧ Dp K H v d := by
  unfold atI at *
  rw [a.length]
  cases e : ixN ds.length i with
  | none => rw [e] at h; cases h
  | some j =>
    rw [e] at h
    exact a.get h
end

end L2
namespace Z
open PySem PySem.Spec PyProof.Rows L2

/-! ## the law's box -/
def BoxOk (K : PySem.W.Frag) (G H : Hp) (p : Addr) : Prop := ∃ (a : Addr) (ns : List Int) (k : Int), H p = some (.lst [.ref a, .int k]) ∧ SqL K G a (ns.map V.int) ∧ ns.length ≤ 100000 ∧ 0 ≤ k
def BoxS (K : PySem.W.Frag) (b : Option Addr) (G H : Hp) : Prop := ∀ p, b = some p → BoxOk K G H p
structure Good (K : PySem.W.Frag) (b : Option Addr) (G H : Hp) : Prop where
  gh : Same G (hb b H)
  bx : BoxS K b G H
structure Ext (K : PySem.W.Frag) (b : Option Addr) (G H G2 H2 : Hp) : Prop where
  gg : Same G G2
  hh : Same (hb b H) (hb b H2)
  gh : Same G2 (hb b H2)
  nw : ∀ a, H a ≠ none → G2 a = G a
  bx : BoxS K b G2 H2
section
variable {K : PySem.W.Frag} {b : Option Addr} {G H G1 H1 G2 H2 : Hp}
theorem Good.ext (g : Good K b G H) : Ext K b G H G H := ⟨Same.refl G, Same.refl _, g.gh, fun _ _ => rfl, g.bx⟩
theorem Ext.good (e : Ext K b G H G2 H2) : Good K b G2 H2 := ⟨e.gh, e.bx⟩
theorem Ext.alive (e : Ext K b G H G2 H2) {a : Addr} (h : H a ≠ none) : H2 a ≠ none := by
  by_cases hb' : some a = b
  · obtain ⟨_, _, _, q, _⟩ := e.bx a hb'.symm
    rw [q]; intro z; cases z
  · cases q : H a with
    | none => exact absurd q h
    | some o =>
      have := (hb_some.mp (e.hh a o (hb_some.mpr ⟨hb', q⟩))).2
      rw [this]; intro z; cases z
theorem Ext.trans (e : Ext K b G H G1 H1) (f : Ext K b G1 H1 G2 H2) : Ext K b G H G2 H2 :=
  ⟨e.gg.trans f.gg, e.hh.trans f.hh, f.gh, fun a h => (f.nw a (e.alive h)).trans (e.nw a h), f.bx⟩
theorem Ext.free (e : Ext K b G H G2 H2) {a : Addr} (h : H2 a = none) : H a = none := by
  cases q : H a with
  | none => rfl
  | some o => exact absurd h (e.alive (by rw [q]; intro z; cases z))
/-- a value of the heap, kept -/
theorem Ext.keep (e : Ext K b G H G2 H2) {a : Addr} {o : HO} (h : H a = some o) (hn : some a ≠ b) : H2 a = some o := (hb_some.mp (e.hh a o (hb_some.mpr ⟨hn, h⟩))).2
theorem Good.noneG (g : Good K b G H) {a : Addr} (h : H a = none) : G a = none := by
  cases q : G a with
  | none => rfl
  | some o => rw [(hb_some.mp (g.gh a o q)).2] at h; cases h
theorem Good.neb (g : Good K b G H) {a : Addr} (h : H a = none) : some a ≠ b := fun e => by
  obtain ⟨_, _, _, q, _⟩ := g.bx a e.symm
  rw [h] at q; cases q
theorem BoxOk.mono {p : Addr} {G' H' : Hp} (h : BoxOk K G H p) (eg : Same G G') (eh : H p ≠ none → H' p = H p) : BoxOk K G' H' p := by
  obtain ⟨a, ns, k, h1, h2, h3⟩ := h
  exact ⟨a, ns, k, (eh (by rw [h1]; intro z; cases z)).trans h1, eg.sqL h2, h3⟩
/-- a new object, frozen at once -/
theorem Good.new (g : Good K b G H) {p : Addr} {o : HO} (h : H p = none) : Ext K b G H (upd G p o) (upd H p o) := by
  have hg := g.noneG h
  have hn := g.neb h
  have sg : Same G (upd G p o) := fun a u e => by rw [upd_ne (ne_of_none e hg)]; exact e
  have sh : Same H (upd H p o) := fun a u e => by rw [upd_ne (ne_of_none e h)]; exact e
  refine ⟨sg, hb_mono sh, fun a u e => ?_, fun a q => ?_, fun q e => ?_⟩
  · by_cases ha : a = p
    · subst ha
      rw [upd_same] at e
      exact hb_some.mpr ⟨hn, by rw [upd_same]; exact e⟩
    · rw [upd_ne ha] at e
      obtain ⟨h1, h2⟩ := hb_some.mp (g.gh a u e)
      exact hb_some.mpr ⟨h1, by rw [upd_ne ha]; exact h2⟩
  · exact upd_ne (fun e => q (by rw [e]; exact h))
  · exact (g.bx q e).mono sg fun z => by
      cases r : H q with
      | none => exact absurd r z
      | some u => exact sh q u r
/-- a new object, not frozen -/
theorem Good.newO (g : Good K b G H) {p : Addr} {o : HO} (h : H p = none) : Ext K b G H G (upd H p o) := by
  have hn := g.neb h
  have sh : Same H (upd H p o) := fun a u e => by rw [upd_ne (ne_of_none e h)]; exact e
  refine ⟨Same.refl G, hb_mono sh, fun a u e => ?_, fun a q => rfl, fun q e => ?_⟩
  · obtain ⟨h1, h2⟩ := hb_some.mp (g.gh a u e)
    exact hb_some.mpr ⟨h1, sh a u h2⟩
  · exact (g.bx q e).mono (Same.refl G) fun z => by
      cases r : H q with
      | none => exact absurd r z
      | some u => exact sh q u r
/-- an object of ours that is not frozen changes -/
theorem Ext.put (e : Ext K b G H G2 H2) {p : Addr} {o : HO} (hp : H p = none) (hg : G2 p = none) (hn : some p ≠ b) : Ext K b G H G2 (upd H2 p o) := by
  refine ⟨e.gg, fun a u q => ?_, fun a u q => ?_, e.nw, fun q z => ?_⟩
  · obtain ⟨h1, h2⟩ := hb_some.mp (e.hh a u q)
    have : a ≠ p := fun z => by
      subst z
      rw [(hb_some.mp q).2] at hp
      cases hp
    exact hb_some.mpr ⟨h1, by rw [upd_ne this]; exact h2⟩
  · obtain ⟨h1, h2⟩ := hb_some.mp (e.gh a u q)
    have : a ≠ p := fun z => by
      subst z
      rw [q] at hg
      cases hg
    exact hb_some.mpr ⟨h1, by rw [upd_ne this]; exact h2⟩
  · exact (e.bx q z).mono (Same.refl G2) fun _ => upd_ne (fun r => hn (r ▸ z.symm))
/-- an object of ours is frozen -/
theorem Ext.frz (e : Ext K b G H G2 H2) {p : Addr} {o : HO} (hp : H p = none) (hg : G2 p = none) (hn : some p ≠ b) (h2 : H2 p = some o) : Ext K b G H (upd G2 p o) H2 := by
  have sg : Same G2 (upd G2 p o) := fun a u q => by rw [upd_ne (ne_of_none q hg)]; exact q
  refine ⟨e.gg.trans sg, e.hh, fun a u q => ?_, fun a q => ?_, fun q z => (e.bx q z).mono sg fun _ => rfl⟩
  · by_cases ha : a = p
    · subst ha
      rw [upd_same] at q
      exact hb_some.mpr ⟨hn, h2.trans q⟩
    · rw [upd_ne ha] at q
      exact e.gh a u q
  · rw [upd_ne (fun z => q (by rw [z]; exact hp))]
    exact e.nw a q
/-- what a def without the box promises serves one with it -/
theorem Ext.boxed (g : Good K b G H) (e : Ext K none G H G2 H2) : Ext K b G H G2 H2 := by
  have sh : Same H H2 := by have := e.hh; rw [hb_none, hb_none] at this; exact this
  have sg : Same G2 H2 := by have := e.gh; rw [hb_none] at this; exact this
  refine ⟨e.gg, hb_mono sh, fun a u q => hb_some.mpr ⟨fun z => ?_, sg a u q⟩, e.nw, fun q z => ?_⟩
  · obtain ⟨a', ns, k, q1, _⟩ := g.bx a z.symm
    have := e.nw a (by rw [q1]; intro r; cases r)
    rw [q] at this
    exact (hb_some.mp (g.gh a u this.symm)).1 z
  · exact (g.bx q z).mono e.gg fun r => by
      cases t : H q with
      | none => exact absurd t r
      | some u => exact sh q u t
theorem Good.nobox (g : Good K b G H) : Good K none G H := ⟨by rw [hb_none]; exact g.gh.trans hb_sub, fun _ e => by cases e⟩
end

/-! ## slots -/
inductive Slot where
  | none
  | val (d : D)
  | rd (d : D)
  | rl (d : D)
  | own (a : Option Addr) (d : D)
  | box
  | never
/-- v, found in G2, H2, is so; G, H: where it began -/
def ArgOk (K : PySem.W.Frag) (b : Option Addr) (G H G2 H2 : Hp) (v : V) : Slot → Prop
  | .none => True
  | .val d => Dp K G2 v d
  | .rd d => Dp K (hb b H2) v d
  | .rl d => ∃ p vs ds, d = .list ds ∧ v = .ref p ∧ SqL K (hb b H2) p vs ∧ DpAll K G2 vs ds
  | .own a d => ∃ p vs ds, d = .list ds ∧ v = .ref p ∧ (∀ q, a = some q → p = q) ∧ H p = none ∧ G2 p = none ∧ H2 p = some (.lst vs) ∧ DpAll K G2 vs ds ∧ some p ≠ b
  | .box => ∃ p, v = .ref p ∧ b = some p
  | .never => False
def SlotOk (K : PySem.W.Frag) (b : Option Addr) (G0 H0 G H : Hp) (x : Option (Option V)) (s : Slot) : Prop :=
  match s with
  | .none => True
  | .rd d => ∃ v, x = some (some v) ∧ ArgOk K b G0 H0 G0 H0 v (.rd d)
  | .rl d => ∃ v, x = some (some v) ∧ ArgOk K b G0 H0 G0 H0 v (.rl d)
  | .val d => ∃ v, x = some (some v) ∧ ArgOk K b G0 H0 G H v (.val d)
  | .own a d => ∃ v, x = some (some v) ∧ ArgOk K b G0 H0 G H v (.own a d)
  | .box => ∃ v, x = some (some v) ∧ ArgOk K b G0 H0 G H v .box
  | .never => False
structure Env (K : PySem.W.Frag) (b : Option Addr) (G0 H0 : Hp) (ρ : List Slot) (σ : L2.St) (G H : Hp) : Prop where
  good : Good K b G0 H0
  ext : Ext K b G0 H0 G H
  len : ρ.length = σ.length
  ok : ∀ (i : Nat) s, ρ[i]? = some s → SlotOk K b G0 H0 G H σ[i]? s
  sep : ∀ (i j : Nat) a d a' d' p q, i ≠ j → ρ[i]? = some (.own a d) → ρ[j]? = some (.own a' d') → σ[i]? = some (some (V.ref p)) → σ[j]? = some (some (V.ref q)) → p ≠ q
section
variable {K : PySem.W.Frag} {b : Option Addr} {G0 H0 G H G1 H1 G2 H2 : Hp} {ρ : List Slot} {σ : L2.St}
theorem ArgOk.step {v : V} {s : Slot} (a : ArgOk K b G H G1 H1 v s) (hs : ∀ q d, s ≠ .own q d) (e : Ext K b G1 H1 G2 H2) : ArgOk K b G H G2 H2 v s := by
  cases s with
  | none => trivial
  | val d => exact Dp.mono e.gg a
  | rd d => exact Dp.mono e.hh a
  | rl d =>
    obtain ⟨p, vs, ds, h1, h2, h3, h4⟩ := a
    exact ⟨p, vs, ds, h1, h2, e.hh.sqL h3, DpAll.mono e.gg h4⟩
  | own q d => exact absurd rfl (hs q d)
  | box => exact a
  | never => exact a
theorem ArgOk.stepO {v : V} {q : Option Addr} {d : D} (a : ArgOk K b G H G1 H1 v (.own q d)) (e : Ext K b G1 H1 G2 H2) : ArgOk K b G H G2 H2 v (.own q d) := by
  obtain ⟨p, vs, ds, h1, h2, h3, h4, h5, h6, h7, h8⟩ := a
  refine ⟨p, vs, ds, h1, h2, h3, h4, ?_, e.keep h6 h8, DpAll.mono e.gg h7, h8⟩
  rw [e.nw p (by rw [h6]; intro z; cases z)]
  exact h5
/-- what was new for one who began later -/
theorem ArgOk.back {v : V} {s : Slot} (a : ArgOk K b G1 H1 G2 H2 v s) (e : Ext K b G H G1 H1) : ArgOk K b G H G2 H2 v s := by
  cases s with
  | own q d =>
    obtain ⟨p, vs, ds, h1, h2, h3, h4, h5⟩ := a
    exact ⟨p, vs, ds, h1, h2, h3, e.free h4, h5⟩
  | _ => exact a
theorem SlotOk.step {x : Option (Option V)} {s : Slot} (a : SlotOk K b G0 H0 G H x s) (e : Ext K b G H G2 H2) : SlotOk K b G0 H0 G2 H2 x s := by
  cases s with
  | none => trivial
  | rd d => exact a
  | rl d => exact a
  | val d => obtain ⟨v, h1, h2⟩ := a; exact ⟨v, h1, h2.step (fun _ _ z => (by cases z)) e⟩
  | own q d => obtain ⟨v, h1, h2⟩ := a; exact ⟨v, h1, h2.stepO e⟩
  | box => exact a
  | never => exact a
theorem Env.step (E : Env K b G0 H0 ρ σ G H) (e : Ext K b G H G2 H2) : Env K b G0 H0 ρ σ G2 H2 :=
  ⟨E.good, E.ext.trans e, E.len, fun i s h => (E.ok i s h).step e, E.sep⟩
theorem Env.gd (E : Env K b G0 H0 ρ σ G H) : Good K b G H := E.ext.good
/-- a slot is stored -/
theorem Env.set (E : Env K b G0 H0 ρ σ G H) {i : Nat} {v : V} {s : Slot} (a : ArgOk K b G0 H0 G H v s) (hr : ∀ d, s ≠ .rd d ∧ s ≠ .rl d)
    (hs : ∀ q d p, s = .own q d → v = .ref p → ∀ (j : Nat) a' d', j ≠ i → ρ[j]? = some (.own a' d') → σ[j]? ≠ some (some (.ref p))) :
    Env K b G0 H0 (ρ.set i s) (σ.set i (some v)) G H := by
  refine ⟨E.good, E.ext, by rw [List.length_set, List.length_set]; exact E.len, fun j t h => ?_, fun j k a1 d1 a2 d2 p q hjk h1 h2 h3 h4 => ?_⟩
  · by_cases hij : i = j
    · subst hij
      by_cases hi : i < ρ.length
      · rw [List.getElem?_set_self hi] at h
        cases h
        have hi' : i < σ.length := E.len ▸ hi
        rw [List.getElem?_set_self hi']
        cases s with
        | none => trivial
        | rd d => exact absurd rfl (hr d).1
        | rl d => exact absurd rfl (hr d).2
        | val d => exact ⟨v, rfl, a⟩
        | own q d => exact ⟨v, rfl, a⟩
        | box => exact ⟨v, rfl, a⟩
        | never => exact a
      · rw [List.getElem?_eq_none (by simpa using hi)] at h; cases h
    · rw [List.getElem?_set_ne hij] at h
      rw [List.getElem?_set_ne hij]
      exact E.ok j t h
  · by_cases hj : i = j
    · subst hj
      have hk : i ≠ k := hjk
      rw [List.getElem?_set_ne hk] at h2 h4
      by_cases hi : i < ρ.length
      · rw [List.getElem?_set_self hi] at h1
        have hi' : i < σ.length := E.len ▸ hi
        rw [List.getElem?_set_self hi'] at h3
        cases h1
        cases h3
        intro z
        subst z
        exact hs a1 d1 p rfl rfl k a2 d2 hk.symm h2 h4
      · rw [List.getElem?_eq_none (by simpa using hi)] at h1; cases h1
    · rw [List.getElem?_set_ne hj] at h1 h3
      by_cases hk : i = k
      · subst hk
        by_cases hi : i < ρ.length
        · rw [List.getElem?_set_self hi] at h2
          have hi' : i < σ.length := E.len ▸ hi
          rw [List.getElem?_set_self hi'] at h4
          cases h2
          cases h4
          intro z
          subst z
          exact hs a2 d2 p rfl rfl j a1 d1 hjk h1 h3
        · rw [List.getElem?_eq_none (by simpa using hi)] at h2; cases h2
      · rw [List.getElem?_set_ne hk] at h2 h4
        exact E.sep j k a1 d1 a2 d2 p q hjk h1 h2 h3 h4
/-- a new list that is ours is stored -/
theorem Env.setN (E : Env K b G0 H0 ρ σ G H) (e : Ext K b G H G2 H2) {i : Nat} {v : V} {q : Option Addr} {d : D} (a : ArgOk K b G H G2 H2 v (.own q d)) : Env K b G0 H0 (ρ.set i (.own q d)) (σ.set i (some v)) G2 H2 := by
  refine (E.step e).set (a.back E.ext) (fun d' => ⟨fun z => (by cases z), fun z => (by cases z)⟩) fun q' d' p h1 h2 j a' d'' hj h3 h4 => ?_
  subst h2
  obtain ⟨p', vs, ds, e1, e2, e3, e4, _⟩ := a
  cases e2
  obtain ⟨v', g1, p2, vs2, ds2, g2, g3, g4, g5, g6, g7, _⟩ := E.ok j _ h3
  rw [h4] at g1
  cases g1
  cases g3
  rw [g7] at e4
  cases e4
theorem Env.setV (E : Env K b G0 H0 ρ σ G H) (e : Ext K b G H G2 H2) {i : Nat} {v : V} {d : D} (a : Dp K G2 v d) : Env K b G0 H0 (ρ.set i (.val d)) (σ.set i (some v)) G2 H2 :=
  (E.step e).set (s := .val d) a (fun d' => ⟨fun z => (by cases z), fun z => (by cases z)⟩) fun q d' p h => by cases h
end
end Z
namespace Z
open PySem PySem.Spec PyProof.Rows L2

/-! ## codecs -/
section
variable {α β γ δ ε : Type}
def cI : Int → D := .int
def cB : Bool → D := .bool
def cS : Str → D := .str
def cN : Unit → D := fun _ => .none
def cD : D → D := id
def cL (c : α → D) (l : List α) : D := .list (l.map c)
def cT (c : α → D) (l : List α) : D := .tuple (l.map c)
def c2 (a : α → D) (b : β → D) (x : α × β) : D := .tuple [a x.1, b x.2]
def c3 (a : α → D) (b : β → D) (c : γ → D) (x : α × β × γ) : D := .tuple [a x.1, b x.2.1, c x.2.2]
def c4 (a : α → D) (b : β → D) (c : γ → D) (d : δ → D) (x : α × β × γ × δ) : D := .tuple [a x.1, b x.2.1, c x.2.2.1, d x.2.2.2]
def c5 (a : α → D) (b : β → D) (c : γ → D) (d : δ → D) (e : ε → D) (x : α × β × γ × δ × ε) : D := .tuple [a x.1, b x.2.1, c x.2.2.1, d x.2.2.2.1, e x.2.2.2.2]
def cO (c : α → D) : Option α → D
  | none => .none
  | some x => c x
def vS (c : α → D) (x : α) : Slot := .val (c x)
def rS (c : α → D) (x : α) : Slot := .rd (c x)
def lS (c : α → D) (l : List α) : Slot := .rl (cL c l)
def nS (c : α → D) (l : List α) : Slot := .own none (cL c l)
def oS (a : Option Addr) (c : α → D) (l : List α) : Slot := .own a (cL c l)
def bS : Unit → Slot := fun _ => .box
/-- no dict within, not deep -/
structure Pl (c : α → D) (n : Nat) : Prop where
  plain : ∀ x, (c x).plain = true
  dep : ∀ x, (c x).depth ≤ n
/-- == of two kinds of data -/
def Eqv (c : α → D) (c' : β → D) (q : α → β → Bool) : Prop := ∀ x y, PyData.eqv (c x) (c' y) = q x y
end
section
variable {α β γ δ ε : Type} {n m k : Nat} {c : α → D} {a : α → D} {b : β → D} {d : γ → D} {e : δ → D}
theorem plI : Pl cI 0 := ⟨fun _ => rfl, fun _ => Nat.le_refl _⟩
theorem plB : Pl cB 0 := ⟨fun _ => rfl, fun _ => Nat.le_refl _⟩
theorem plS : Pl cS 0 := ⟨fun _ => rfl, fun _ => Nat.le_refl _⟩
theorem plN : Pl cN 0 := ⟨fun _ => rfl, fun _ => Nat.le_refl _⟩
theorem pl_all (h : Pl c n) : ∀ l : List α, PyData.plainAll (l.map c) = true
  | [] => rfl
  | x :: l => by
    show ((c x).plain && PyData.plainAll (l.map c)) = true
    rw [h.plain x, pl_all h l]; rfl
theorem dep_all (h : Pl c n) : ∀ l : List α, PyData.depthAll (l.map c) ≤ n
  | [] => Nat.zero_le _
  | x :: l => by
    show max (c x).depth (PyData.depthAll (l.map c)) ≤ n
    exact Nat.max_le.mpr ⟨h.dep x, dep_all h l⟩
theorem plL (h : Pl c n) : Pl (cL c) (n + 1) := ⟨fun l => pl_all h l, fun l => Nat.succ_le_succ (dep_all h l)⟩
theorem plT (h : Pl c n) : Pl (cT c) (n + 1) := ⟨fun l => pl_all h l, fun l => Nat.succ_le_succ (dep_all h l)⟩
theorem plO (h : Pl c n) : Pl (cO c) n := ⟨fun | none => rfl | some x => h.plain x, fun | none => Nat.zero_le _ | some x => h.dep x⟩
theorem pl2 (ha : Pl a n) (hb : Pl b n) : Pl (c2 a b) (n + 1) := ⟨fun x => by
  show ((a x.1).plain && ((b x.2).plain && true)) = true
  rw [ha.plain, hb.plain]; rfl, fun x => by
  show max (a x.1).depth (max (b x.2).depth 0) + 1 ≤ n + 1
  have := ha.dep x.1; have := hb.dep x.2; omega⟩
theorem pl3 (ha : Pl a n) (hb : Pl b n) (hd : Pl d n) : Pl (c3 a b d) (n + 1) := ⟨fun x => by
  show ((a x.1).plain && ((b x.2.1).plain && ((d x.2.2).plain && true))) = true
  rw [ha.plain, hb.plain, hd.plain]; rfl, fun x => by
  show max (a x.1).depth (max (b x.2.1).depth (max (d x.2.2).depth 0)) + 1 ≤ n + 1
  have := ha.dep x.1; have := hb.dep x.2.1; have := hd.dep x.2.2; omega⟩
theorem pl4 (ha : Pl a n) (hb : Pl b n) (hd : Pl d n) (he : Pl e n) : Pl (c4 a b d e) (n + 1) := ⟨fun x => by
  show ((a x.1).plain && ((b x.2.1).plain && ((d x.2.2.1).plain && ((e x.2.2.2).plain && true)))) = true
  rw [ha.plain, hb.plain, hd.plain, he.plain]; rfl, fun x => by
  show max (a x.1).depth (max (b x.2.1).depth (max (d x.2.2.1).depth (max (e x.2.2.2).depth 0))) + 1 ≤ n + 1
  have := ha.dep x.1; have := hb.dep x.2.1; have := hd.dep x.2.2.1; have := he.dep x.2.2.2; omega⟩
theorem Pl.le (h : Pl c n) (hm : n ≤ m) : Pl c m := ⟨h.plain, fun x => Nat.le_trans (h.dep x) hm⟩
section
variable [DecidableEq α] [DecidableEq β] [DecidableEq γ] [DecidableEq δ]
theorem eqI : Eqv cI cI fun x y => decide (x = y) := fun x y => by
  show (x == y) = decide (x = y)
  rw [Bool.beq_eq_decide_eq]
theorem eqB : Eqv cB cB fun x y => decide (x = y) := fun x y => by
  show (x == y) = decide (x = y)
  rw [Bool.beq_eq_decide_eq]
theorem eqS : Eqv cS cS fun x y => decide (x = y) := fun x y => by
  show (x == y) = decide (x = y)
  rw [Bool.beq_eq_decide_eq]
theorem eqAll (h : Eqv c c fun x y => decide (x = y)) : ∀ l m : List α, PyData.eqvAll (l.map c) (m.map c) = decide (l = m)
  | [], [] => by simp [PyData.eqvAll]
  | [], _ :: _ => by simp [PyData.eqvAll]
  | _ :: _, [] => by simp [PyData.eqvAll]
  | x :: l, y :: m => by
    show (PyData.eqv (c x) (c y) && PyData.eqvAll (l.map c) (m.map c)) = _
    rw [h, eqAll h l m]
    by_cases h1 : x = y <;> by_cases h2 : l = m <;> simp [h1, h2]
theorem eqL (h : Eqv c c fun x y => decide (x = y)) : Eqv (cL c) (cL c) fun x y => decide (x = y) := fun l m => eqAll h l m
theorem eqT (h : Eqv c c fun x y => decide (x = y)) : Eqv (cT c) (cT c) fun x y => decide (x = y) := fun l m => eqAll h l m
theorem eq2 (ha : Eqv a a fun x y => decide (x = y)) (hb : Eqv b b fun x y => decide (x = y)) : Eqv (c2 a b) (c2 a b) fun x y => decide (x = y) := fun (x1, x2) (y1, y2) => by
  show (PyData.eqv (a x1) (a y1) && (PyData.eqv (b x2) (b y2) && true)) = _
  rw [ha, hb]
  by_cases h1 : x1 = y1 <;> by_cases h2 : x2 = y2 <;> simp [h1, h2]
theorem eq3 (ha : Eqv a a fun x y => decide (x = y)) (hb : Eqv b b fun x y => decide (x = y)) (hd : Eqv d d fun x y => decide (x = y)) : Eqv (c3 a b d) (c3 a b d) fun x y => decide (x = y) := fun (x1, x2, x3) (y1, y2, y3) => by
  show (PyData.eqv (a x1) (a y1) && (PyData.eqv (b x2) (b y2) && (PyData.eqv (d x3) (d y3) && true))) = _
  rw [ha, hb, hd]
  by_cases h1 : x1 = y1 <;> by_cases h2 : x2 = y2 <;> by_cases h3 : x3 = y3 <;> simp [h1, h2, h3]
theorem eq4 (ha : Eqv a a fun x y => decide (x = y)) (hb : Eqv b b fun x y => decide (x = y)) (hd : Eqv d d fun x y => decide (x = y)) (he : Eqv e e fun x y => decide (x = y)) : Eqv (c4 a b d e) (c4 a b d e) fun x y => decide (x = y) := fun (x1, x2, x3, x4) (y1, y2, y3, y4) => by
  show (PyData.eqv (a x1) (a y1) && (PyData.eqv (b x2) (b y2) && (PyData.eqv (d x3) (d y3) && (PyData.eqv (e x4) (e y4) && true)))) = _
  rw [ha, hb, hd, he]
  by_cases h1 : x1 = y1 <;> by_cases h2 : x2 = y2 <;> by_cases h3 : x3 = y3 <;> by_cases h4 : x4 = y4 <;> simp [h1, h2, h3, h4]
/-- data that are never None -/
def NotN (c : α → D) : Prop := ∀ x, PyData.eqv (c x) .none = false ∧ PyData.eqv .none (c x) = false
theorem nnI : NotN cI := fun _ => ⟨rfl, rfl⟩
theorem nnB : NotN cB := fun _ => ⟨rfl, rfl⟩
theorem nnS : NotN cS := fun _ => ⟨rfl, rfl⟩
theorem nnL : NotN (cL c) := fun _ => ⟨rfl, rfl⟩
theorem nnT : NotN (cT c) := fun _ => ⟨rfl, rfl⟩
theorem nn2 : NotN (c2 a b) := fun _ => ⟨rfl, rfl⟩
theorem nn3 : NotN (c3 a b d) := fun _ => ⟨rfl, rfl⟩
theorem eqO (h : Eqv c c fun x y => decide (x = y)) (hn : NotN c) : Eqv (cO c) (cO c) fun x y => decide (x = y)
  | none, none => by simp [cO, PyData.eqv]
  | none, some y => by show PyData.eqv .none (c y) = _; rw [(hn y).2]; simp
  | some x, none => by show PyData.eqv (c x) .none = _; rw [(hn x).1]; simp
  | some x, some y => by show PyData.eqv (c x) (c y) = _; rw [h]; simp
theorem eqOl (h : Eqv c c fun x y => decide (x = y)) (hn : NotN c) : Eqv (cO c) c fun x y => decide (x = some y)
  | none, y => by show PyData.eqv .none (c y) = _; rw [(hn y).2]; simp
  | some x, y => by show PyData.eqv (c x) (c y) = _; rw [h]; simp
theorem eqOr (h : Eqv c c fun x y => decide (x = y)) (hn : NotN c) : Eqv c (cO c) fun x y => decide (some x = y)
  | x, none => by show PyData.eqv (c x) .none = _; rw [(hn x).1]; simp
  | x, some y => by show PyData.eqv (c x) (c y) = _; rw [h]; simp
end
end

/-! ## what evaluates to what -/
def Ev (K : PySem.W.Frag) (b : Option Addr) (te : TE) (ρ : List Slot) {α : Type} (w : W α) (s : α → Slot) : Prop :=
  ∀ G0 H0 σ G H, Env K b G0 H0 ρ σ G H → ∀ Q : VK, w.run (fun x => ∀ v G2 H2, Ext K b G H G2 H2 → ArgOk K b G H G2 H2 v (s x) → Q v H2) → te σ H Q
def EvT (K : PySem.W.Frag) (b : Option Addr) (tt : TT) (ρ : List Slot) (w : W Bool) : Prop :=
  ∀ G0 H0 σ G H, Env K b G0 H0 ρ σ G H → ∀ Q : Bool → Hp → Prop, w.run (fun x => ∀ G2 H2, Ext K b G H G2 H2 → Q x H2) → tt σ H Q
/-- items of a display: n of them -/
def EvA (K : PySem.W.Frag) (b : Option Addr) (ta : TA) (ρ : List Slot) (n : Nat) {α : Type} (w : W (List α)) (c : α → D) : Prop :=
  ∀ G0 H0 σ G H, Env K b G0 H0 ρ σ G H → ∀ Q : List V → Hp → Prop, w.run (fun xs => ∀ vs G2 H2, Ext K b G H G2 H2 → DpAll K G2 vs (xs.map c) → vs.length = n → Q vs H2) → ta σ H Q
/-- an operation on values -/
def RV (K : PySem.W.Frag) (b : Option Addr) (r : R2) {α β γ : Type} (sa : α → Slot) (sb : β → Slot) (wk : α → β → W γ) (sk : γ → Slot) : Prop :=
  ∀ x y v u G H, Good K b G H → ArgOk K b G H G H v (sa x) → ArgOk K b G H G H u (sb y) → ∀ Q : VK, (wk x y).run (fun z => ∀ v' G2 H2, Ext K b G H G2 H2 → ArgOk K b G H G2 H2 v' (sk z) → Q v' H2) → r v u H Q
def RU (K : PySem.W.Frag) (b : Option Addr) (r : V → Hp → VK → Prop) {α γ : Type} (sa : α → Slot) (wk : α → W γ) (sk : γ → Slot) : Prop :=
  ∀ x v G H, Good K b G H → ArgOk K b G H G H v (sa x) → ∀ Q : VK, (wk x).run (fun z => ∀ v' G2 H2, Ext K b G H G2 H2 → ArgOk K b G H G2 H2 v' (sk z) → Q v' H2) → r v H Q
/-- slots that last: not a list of one's own -/
def NoO {α : Type} (s : α → Slot) : Prop := ∀ x q d, s x ≠ .own q d
section
variable {α β γ : Type}
theorem noV {c : α → D} : NoO (vS c) := fun _ _ _ z => (by cases z)
theorem noR {c : α → D} : NoO (rS c) := fun _ _ _ z => (by cases z)
theorem noL {c : α → D} : NoO (lS c) := fun _ _ _ z => (by cases z)
theorem noB : NoO bS := fun _ _ _ z => (by cases z)
end
section
variable {K : PySem.W.Frag} {b : Option Addr} {G0 H0 G H G1 H1 G2 H2 : Hp} {ρ : List Slot} {σ : L2.St} {α β γ : Type} {ta tb te tx : TE} {t u : TT}
theorem ArgOk.here {v : V} {s : Slot} (a : ArgOk K b G H G2 H2 v s) (hs : ∀ q d, s ≠ .own q d) : ArgOk K b G2 H2 G2 H2 v s := by
  cases s with
  | own q d => exact absurd rfl (hs q d)
  | _ => exact a
theorem ArgOk.toR {v : V} {d : D} (e : Good K b G2 H2) (a : ArgOk K b G H G2 H2 v (.val d)) : ArgOk K b G H G2 H2 v (.rd d) := Dp.mono e.gh a
theorem ArgOk.toL {c : α → D} {v : V} {l : List α} (e : Good K b G2 H2) (a : ArgOk K b G H G2 H2 v (vS (cL c) l)) : ArgOk K b G H G2 H2 v (lS c l) := by
  have a' : Dp K G2 v (.list (l.map c)) := a
  cases a' with
  | lst h1 h2 => exact ⟨_, _, _, rfl, rfl, e.gh.sqL h1, h2⟩
theorem ArgOk.lR {c : α → D} {v : V} {l : List α} (e : Good K b G2 H2) (a : ArgOk K b G H G2 H2 v (lS c l)) : ArgOk K b G H G2 H2 v (rS (cL c) l) := by
  obtain ⟨p, vs, ds, h1, h2, h3, h4⟩ := a
  cases h1
  subst h2
  exact Dp.lst h3 (DpAll.mono e.gh h4)
theorem ArgOk.oL {c : α → D} {v : V} {l : List α} {q : Option Addr} (a : ArgOk K b G H G2 H2 v (oS q c l)) : ArgOk K b G H G2 H2 v (lS c l) := by
  obtain ⟨p, vs, ds, h1, h2, h3, h4, h5, h6, h7, h8⟩ := a
  exact ⟨p, vs, ds, h1, h2, .inl (.inl (hb_some.mpr ⟨h8, h6⟩)), h7⟩
/-- our own list frozen -/
theorem ArgOk.oV {c : α → D} {v : V} {l : List α} {q : Option Addr} (e : Ext K b G H G2 H2) (a : ArgOk K b G H G2 H2 v (oS q c l)) : ∃ G3, Ext K b G H G3 H2 ∧ ArgOk K b G H G3 H2 v (vS (cL c) l) := by
  obtain ⟨p, vs, ds, h1, h2, h3, h4, h5, h6, h7, h8⟩ := a
  cases h1
  subst h2
  refine ⟨upd G2 p (.lst vs), e.frz h4 h5 h8 h6, ?_⟩
  have sg : Same G2 (upd G2 p (.lst vs)) := fun a u q => by rw [upd_ne (ne_of_none q h5)]; exact q
  exact Dp.lst (.inl (.inl upd_same)) (DpAll.mono sg h7)

/-! ### coercions -/
theorem Ev.map {w : W α} {s s' : α → Slot} (h : Ev K b te ρ w s) (f : ∀ x v G H G2 H2, Ext K b G H G2 H2 → ArgOk K b G H G2 H2 v (s x) → ArgOk K b G H G2 H2 v (s' x)) : Ev K b te ρ w s' := fun G0 H0 σ G H E Q q =>
  h G0 H0 σ G H E Q (w.mono (fun x r v G2 H2 e a => r v G2 H2 e (f x v G H G2 H2 e a)) q)
theorem Ev.vR {c : α → D} {w : W α} (h : Ev K b te ρ w (vS c)) : Ev K b te ρ w (rS c) := h.map fun _ _ _ _ _ _ e a => a.toR e.good
theorem Ev.vL {c : α → D} {w : W (List α)} (h : Ev K b te ρ w (vS (cL c))) : Ev K b te ρ w (lS c) := h.map fun _ _ _ _ _ _ e a => a.toL e.good
theorem Ev.lR {c : α → D} {w : W (List α)} (h : Ev K b te ρ w (lS c)) : Ev K b te ρ w (rS (cL c)) := h.map fun _ _ _ _ _ _ e a => a.lR e.good
theorem Ev.nL {c : α → D} {w : W (List α)} (h : Ev K b te ρ w (nS c)) : Ev K b te ρ w (lS c) := h.map fun _ _ _ _ _ _ e a => ArgOk.oL (q := none) a
theorem Ev.nR {c : α → D} {w : W (List α)} (h : Ev K b te ρ w (nS c)) : Ev K b te ρ w (rS (cL c)) := h.nL.lR
theorem Ev.nV {c : α → D} {w : W (List α)} (h : Ev K b te ρ w (nS c)) : Ev K b te ρ w (vS (cL c)) := fun G0 H0 σ G H E Q q =>
  h G0 H0 σ G H E Q (w.mono (fun x r v G2 H2 e a => by
    obtain ⟨G3, e3, a3⟩ := ArgOk.oV (q := none) e a
    exact r v G3 H2 e3 a3) q)
/-- another word for the same -/
theorem Ev.is {w w' : W α} {s : α → Slot} (h : Ev K b te ρ w s) (e : w = w') : Ev K b te ρ w' s := e ▸ h
theorem EvT.is {w w' : W Bool} (h : EvT K b t ρ w) (e : w = w') : EvT K b t ρ w' := e ▸ h
/-- a value as one that may be None; another form of its data -/
theorem Ev.cast {c : α → D} {c' : β → D} {w : W α} {g : α → β} (h : Ev K b te ρ w (vS c)) (e : ∀ x, c' (g x) = c x) : Ev K b te ρ (w.b fun x => W.p (g x)) (vS c') := fun G0 H0 σ G H E Q q =>
  h G0 H0 σ G H E Q (w.mono (fun x r v G2 H2 e2 a => r v G2 H2 e2 (by
    show Dp K G2 v (c' (g x))
    rw [e]
    exact a)) q)
theorem Ev.castR {c : α → D} {c' : β → D} {w : W α} {g : α → β} (h : Ev K b te ρ w (rS c)) (e : ∀ x, c' (g x) = c x) : Ev K b te ρ (w.b fun x => W.p (g x)) (rS c') := fun G0 H0 σ G H E Q q =>
  h G0 H0 σ G H E Q (w.mono (fun x r v G2 H2 e2 a => r v G2 H2 e2 (by
    show Dp K (hb b H2) v (c' (g x))
    rw [e]
    exact a)) q)
theorem Ev.some {c : α → D} {w : W α} (h : Ev K b te ρ w (vS c)) : Ev K b te ρ (w.b fun x => W.p (Option.some x)) (vS (cO c)) := h.cast fun _ => rfl

/-! ### names, constants -/
theorem ev_v {i : Nat} {c : α → D} {x : α} (h : ρ[i]? = some (vS c x)) : Ev K b (tVar i) ρ (W.p x) (vS c) := fun G0 H0 σ G H E Q q => by
  obtain ⟨v, h1, h2⟩ := E.ok i _ h
  exact ⟨v, h1, q v G H E.gd.ext h2⟩
theorem ev_r {i : Nat} {c : α → D} {x : α} (h : ρ[i]? = some (rS c x)) : Ev K b (tVar i) ρ (W.p x) (rS c) := fun G0 H0 σ G H E Q q => by
  obtain ⟨v, h1, h2⟩ := E.ok i _ h
  exact ⟨v, h1, q v G H E.gd.ext (Dp.mono E.ext.hh h2)⟩
theorem ev_l {i : Nat} {c : α → D} {x : List α} (h : ρ[i]? = some (lS c x)) : Ev K b (tVar i) ρ (W.p x) (lS c) := fun G0 H0 σ G H E Q q => by
  obtain ⟨v, h1, p, vs, ds, h2, h3, h4, h5⟩ := E.ok i _ h
  exact ⟨v, h1, q v G H E.gd.ext ⟨p, vs, ds, h2, h3, E.ext.hh.sqL h4, DpAll.mono E.ext.gg h5⟩⟩
theorem ev_o {i : Nat} {a : Option Addr} {c : α → D} {x : List α} (h : ρ[i]? = some (oS a c x)) : Ev K b (tVar i) ρ (W.p x) (lS c) := fun G0 H0 σ G H E Q q => by
  obtain ⟨v, h1, p, vs, ds, h2, h3, h4, h5, h6, h7, h8, h9⟩ := E.ok i _ h
  exact ⟨v, h1, q v G H E.gd.ext ⟨p, vs, ds, h2, h3, .inl (.inl (hb_some.mpr ⟨h9, h7⟩)), h8⟩⟩
theorem ev_b {i : Nat} (h : ρ[i]? = some .box) : Ev K b (tVar i) ρ (W.p ()) bS := fun G0 H0 σ G H E Q q => by
  obtain ⟨v, h1, h2⟩ := E.ok i _ h
  exact ⟨v, h1, q v G H E.gd.ext h2⟩
/-- a name that may hold None, where it does not -/
theorem ev_opt {i : Nat} {c : α → D} {o : Option α} (h : ρ[i]? = some (vS (cO c) o)) : Ev K b (tVar i) ρ (W.opt o) (vS c) := fun G0 H0 σ G H E Q q => by
  obtain ⟨x, e, q⟩ := q
  subst e
  obtain ⟨v, h1, h2⟩ := E.ok i _ h
  exact ⟨v, h1, q v G H E.gd.ext h2⟩
theorem Ev.opt {c : α → D} {w : W (Option α)} (h : Ev K b te ρ w (vS (cO c))) : Ev K b te ρ (w.b W.opt) (vS c) := fun G0 H0 σ G H E Q q =>
  h G0 H0 σ G H E Q (w.mono (fun o r v G2 H2 e2 a => by
    obtain ⟨x, e, r⟩ := r
    subst e
    exact r v G2 H2 e2 a) q)
theorem ev_int {i : Int} : Ev K b (tC (.int i)) ρ (W.p i) (vS cI) := fun G0 H0 σ G H E Q q => q _ G H E.gd.ext (Dp.int i)
theorem ev_bl {i : Bool} : Ev K b (tC (.bl i)) ρ (W.p i) (vS cB) := fun G0 H0 σ G H E Q q => q _ G H E.gd.ext (Dp.bl i)
theorem ev_str {i : Str} : Ev K b (tC (.str i)) ρ (W.p i) (vS cS) := fun G0 H0 σ G H E Q q => q _ G H E.gd.ext (Dp.str i)
theorem ev_non {c : α → D} : Ev K b (tC .non) ρ (W.p (none : Option α)) (vS (cO c)) := fun G0 H0 σ G H E Q q => q _ G H E.gd.ext Dp.non

/-! ### operators -/
theorem ev_op {r : R2} {wa : W α} {wb : W β} {sa : α → Slot} {sb : β → Slot} {wk : α → β → W γ} {sk : γ → Slot} (ha : Ev K b ta ρ wa sa) (hb' : Ev K b tb ρ wb sb) (na : NoO sa) (nb : NoO sb) (hr : RV K b r sa sb wk sk) :
    Ev K b (tOp r ta tb) ρ (wa.b fun x => wb.b fun y => wk x y) sk := fun G0 H0 σ G H E Q q =>
  ha G0 H0 σ G H E _ (wa.mono (fun x q v G1 H1 e1 a1 => hb' G0 H0 σ G1 H1 (E.step e1) _ (wb.mono (fun y q u G2 H2 e2 a2 =>
    hr x y v u G2 H2 e2.good ((a1.step (na x) e2).here (na x)) (a2.here (nb y)) Q ((wk x y).mono (fun z q v' G3 H3 e3 a3 => q v' G3 H3 ((e1.trans e2).trans e3) (a3.back (e1.trans e2))) q)) q)) q)
theorem ev_un {r : V → Hp → VK → Prop} {wa : W α} {sa : α → Slot} {wk : α → W γ} {sk : γ → Slot} (ha : Ev K b ta ρ wa sa) (na : NoO sa) (hr : RU K b r sa wk sk) : Ev K b (tUn r ta) ρ (wa.b wk) sk := fun G0 H0 σ G H E Q q =>
  ha G0 H0 σ G H E _ (wa.mono (fun x q v G1 H1 e1 a1 => hr x v G1 H1 e1.good (a1.here (na x)) Q ((wk x).mono (fun z q v' G3 H3 e3 a3 => q v' G3 H3 (e1.trans e3) (a3.back e1)) q)) q)
theorem vI {v : V} {i : Int} (h : ArgOk K b G H G2 H2 v (vS cI i)) : v = .int i := by
  have h' : Dp K G2 v (.int i) := h
  cases h'; rfl
theorem vB {v : V} {i : Bool} (h : ArgOk K b G H G2 H2 v (vS cB i)) : v = .bl i := by
  have h' : Dp K G2 v (.bool i) := h
  cases h'; rfl
theorem vTx {v : V} {i : Str} (h : ArgOk K b G H G2 H2 v (vS cS i)) : v = .str i := by
  have h' : Dp K G2 v (.str i) := h
  cases h'; rfl
theorem rv_I0 {g : Int → Int → Int} : RV K b (rI0 fun i j => .int (g i j)) (vS cI) (vS cI) (fun i j => W.p (g i j)) (vS cI) := fun x y v u G H g' hx hy Q q =>
  ⟨x, y, vI hx, vI hy, q _ G H g'.ext (Dp.int _)⟩
theorem rv_I {C : Int → Int → Prop} {g : Int → Int → Int} : RV K b (rI C fun i j => .int (g i j)) (vS cI) (vS cI) (fun i j => W.req (C i j) (W.p (g i j))) (vS cI) := fun x y v u G H g' hx hy Q q =>
  ⟨x, y, vI hx, vI hy, q.1, q.2 _ G H g'.ext (Dp.int _)⟩
theorem rv_cmp {g : Int → Int → Bool} : RV K b (rI0 fun i j => .bl (g i j)) (vS cI) (vS cI) (fun i j => W.p (g i j)) (vS cB) := fun x y v u G H g' hx hy Q q =>
  ⟨x, y, vI hx, vI hy, q _ G H g'.ext (Dp.bl _)⟩
theorem ru_I {g : Int → Int} : RU K b (rU fun i => .int (g i)) (vS cI) (fun i => W.p (g i)) (vS cI) := fun x v G H g' hx Q q => ⟨x, vI hx, q _ G H g'.ext (Dp.int _)⟩
/-- texts put together -/
theorem rv_cat : RV K b (fun x y H Q => ∃ i j, x = .str i ∧ y = .str j ∧ i.length + j.length ≤ sizeLine ∧ Q (.str (i ++ j)) H) (vS cS) (vS cS) (fun i j => W.req (i.length + j.length ≤ sizeLine) (W.p (i ++ j))) (vS cS) :=
  fun x y v u G H g' hx hy Q q => ⟨x, y, vTx hx, vTx hy, q.1, q.2 _ G H g'.ext (Dp.str _)⟩

/-! ### == and in -/
def rEqP (K : PySem.W.Frag) : R2 := fun x y H Q => ∃ d e, Dp K H x d ∧ Dp K H y e ∧ d.plain = true ∧ e.plain = true ∧ d.depth ≤ 40 ∧ Q (.bl (PyData.eqv d e)) H
def rNeP (K : PySem.W.Frag) : R2 := fun x y H Q => ∃ d e, Dp K H x d ∧ Dp K H y e ∧ d.plain = true ∧ e.plain = true ∧ d.depth ≤ 40 ∧ Q (.bl (!PyData.eqv d e)) H
def rInP (K : PySem.W.Frag) (neg : Bool) : R2 := fun x y H Q => ∃ d ds, Dp K H x d ∧ (Dp K H y (.list ds) ∨ Dp K H y (.tuple ds)) ∧ d.plain = true ∧ PyData.plainAll ds = true ∧ d.depth ≤ 40 ∧
  Q (.bl (if neg = true then !ds.any fun z => PyData.eqv z d else ds.any fun z => PyData.eqv z d)) H
theorem rv_eq {c : α → D} {c' : β → D} {n m : Nat} {q : α → β → Bool} (pa : Pl c n) (pb : Pl c' m) (hq : Eqv c c' q) (hn : n ≤ 40 := by decide) : RV K b (rEqP K) (rS c) (rS c') (fun x y => W.p (q x y)) (vS cB) := fun x y v u G H g hx hy Q k =>
  ⟨c x, c' y, Dp.mono hb_sub hx, Dp.mono hb_sub hy, pa.plain x, pb.plain y, Nat.le_trans (pa.dep x) hn, by rw [hq]; exact k _ G H g.ext (Dp.bl _)⟩
theorem rv_ne {c : α → D} {c' : β → D} {n m : Nat} {q : α → β → Bool} (pa : Pl c n) (pb : Pl c' m) (hq : Eqv c c' q) (hn : n ≤ 40 := by decide) : RV K b (rNeP K) (rS c) (rS c') (fun x y => W.p (!q x y)) (vS cB) := fun x y v u G H g hx hy Q k =>
  ⟨c x, c' y, Dp.mono hb_sub hx, Dp.mono hb_sub hy, pa.plain x, pb.plain y, Nat.le_trans (pa.dep x) hn, by rw [hq]; exact k _ G H g.ext (Dp.bl _)⟩
theorem any_map {c : α → D} {c' : β → D} {q : β → α → Bool} (hq : Eqv c' c q) (x : α) : ∀ l : List β, (l.map c').any (fun z => PyData.eqv z (c x)) = l.any fun z => q z x
  | [] => rfl
  | y :: l => by
    show (PyData.eqv (c' y) (c x) || (l.map c').any fun z => PyData.eqv z (c x)) = _
    rw [hq, any_map hq x l]; rfl
theorem any_mem [DecidableEq α] (x : α) : ∀ l : List α, (l.any fun z => decide (z = x)) = decide (x ∈ l)
  | [] => by simp
  | y :: l => by
    rw [List.any_cons, any_mem x l]
    by_cases h : y = x
    · simp [h]
    · simp [h, Ne.symm h]
/-- x in l -/
theorem rv_inL {neg : Bool} {c : α → D} {c' : β → D} {n m : Nat} {q : β → α → Bool} (pa : Pl c n) (pb : Pl c' m) (hq : Eqv c' c q) (hn : n ≤ 40 := by decide) :
    RV K b (rInP K neg) (rS c) (rS (cL c')) (fun x l => W.p (if neg = true then !l.any fun z => q z x else l.any fun z => q z x)) (vS cB) := fun x l v u G H g hx hy Q k =>
  ⟨c x, l.map c', Dp.mono hb_sub hx, .inl (Dp.mono hb_sub hy), pa.plain x, pl_all pb l, Nat.le_trans (pa.dep x) hn, by rw [any_map hq]; exact k _ G H g.ext (Dp.bl _)⟩
theorem rv_inT {neg : Bool} {c : α → D} {c' : β → D} {n m : Nat} {q : β → α → Bool} (pa : Pl c n) (pb : Pl c' m) (hq : Eqv c' c q) (hn : n ≤ 40 := by decide) :
    RV K b (rInP K neg) (rS c) (rS (cT c')) (fun x l => W.p (if neg = true then !l.any fun z => q z x else l.any fun z => q z x)) (vS cB) := fun x l v u G H g hx hy Q k =>
  ⟨c x, l.map c', Dp.mono hb_sub hx, .inr (Dp.mono hb_sub hy), pa.plain x, pl_all pb l, Nat.le_trans (pa.dep x) hn, by rw [any_map hq]; exact k _ G H g.ext (Dp.bl _)⟩
theorem rv_memL [DecidableEq α] {c : α → D} {n : Nat} (pa : Pl c n) (hq : Eqv c c fun x y => decide (x = y)) (hn : n ≤ 40 := by decide) : RV K b (rInP K false) (rS c) (rS (cL c)) (fun x l => W.p (decide (x ∈ l))) (vS cB) :=
  fun x l v u G H g hx hy Q k => rv_inL pa pa hq hn x l v u G H g hx hy Q (by simp only [any_mem]; exact k)
theorem rv_nmemL [DecidableEq α] {c : α → D} {n : Nat} (pa : Pl c n) (hq : Eqv c c fun x y => decide (x = y)) (hn : n ≤ 40 := by decide) : RV K b (rInP K true) (rS c) (rS (cL c)) (fun x l => W.p (!decide (x ∈ l))) (vS cB) :=
  fun x l v u G H g hx hy Q k => rv_inL pa pa hq hn x l v u G H g hx hy Q (by simp only [any_mem]; exact k)
theorem rv_memT [DecidableEq α] {c : α → D} {n : Nat} (pa : Pl c n) (hq : Eqv c c fun x y => decide (x = y)) (hn : n ≤ 40 := by decide) : RV K b (rInP K false) (rS c) (rS (cT c)) (fun x l => W.p (decide (x ∈ l))) (vS cB) :=
  fun x l v u G H g hx hy Q k => rv_inT pa pa hq hn x l v u G H g hx hy Q (by simp only [any_mem]; exact k)
theorem rv_nmemT [DecidableEq α] {c : α → D} {n : Nat} (pa : Pl c n) (hq : Eqv c c fun x y => decide (x = y)) (hn : n ≤ 40 := by decide) : RV K b (rInP K true) (rS c) (rS (cT c)) (fun x l => W.p (!decide (x ∈ l))) (vS cB) :=
  fun x l v u G H g hx hy Q k => rv_inT pa pa hq hn x l v u G H g hx hy Q (by simp only [any_mem]; exact k)
def rIsN0 : R2 := fun x y H Q => y = .non ∧ Q (.bl (decide (x = .non))) H
def rNotN0 : R2 := fun x y H Q => y = .non ∧ Q (.bl (!decide (x = .non))) H
/-- is None -/
theorem rv_isN {c : α → D} (hn : ∀ x, c x ≠ .none) : RV K b rIsN0 (rS (cO c)) (vS cN) (fun x _ => W.p x.isNone) (vS cB) := fun x y v u G H g hx hy Q k => by
  have hy' : Dp K G u .none := hy
  cases hy'
  have hx' : Dp K (hb b H) v (cO c x) := hx
  refine ⟨rfl, ?_⟩
  have e : decide (v = .non) = x.isNone := by
    cases x with
    | none => have h0 : Dp K (hb b H) v .none := hx'; cases h0; rfl
    | some z =>
      have h0 : Dp K (hb b H) v (c z) := hx'
      have : v ≠ .non := fun q => by subst q; generalize hc : c z = d at h0; cases h0; exact hn z hc
      simp [this]
  rw [e]
  exact k _ G H g.ext (Dp.bl _)
end
end Z
namespace Z
open PySem PySem.Spec PyProof.Rows L2

/-! ## rules of the machine that the layer lacks -/
section
variable {X : Cx}
theorem op_eqP {k : Nat} (hr : Room k X.A) : OpR X (compareOp .Eq) (rEqP X.K) := by
  intro pins s σ H x y v u Q I rx ry h
  obtain ⟨d, e, hd, he, sd, se, hz, q⟩ := h
  obtain ⟨as, r1⟩ := Dp.reads I d x v hd rx
  obtain ⟨bs, r2⟩ := Dp.reads I e y u he ry
  exact SeqAt.eq_plain r1 r2 sd se (Nat.lt_of_le_of_lt (Nat.add_le_add_left (Nat.le_trans (Nat.min_le_left _ _) (Nat.le_trans hz (by decide : 40 ≤ 64))) _) hr.units) ⟨.bl _, H, I, rfl, q⟩
theorem op_neP {k : Nat} (hr : Room k X.A) : OpR X (compareOp .NotEq) (rNeP X.K) := by
  intro pins s σ H x y v u Q I rx ry h
  obtain ⟨d, e, hd, he, sd, se, hz, q⟩ := h
  obtain ⟨as, r1⟩ := Dp.reads I d x v hd rx
  obtain ⟨bs, r2⟩ := Dp.reads I e y u he ry
  exact SeqAt.ne_plain r1 r2 sd se (Nat.lt_of_le_of_lt (Nat.add_le_add_left (Nat.le_trans (Nat.min_le_left _ _) (Nat.le_trans hz (by decide : 40 ≤ 64))) _) hr.units) ⟨.bl _, H, I, rfl, q⟩
theorem room_in {k : Nat} (hr : Room k X.A) {n m : Nat} (hz : n ≤ 40) : X.A.units + 1 + min m n < cLine := by
  have h1 := hr.units
  have h2 := Nat.min_le_right m n
  omega
theorem op_inP {k : Nat} (hr : Room k X.A) : OpR X (compareOp .In) (rInP X.K false) := by
  intro pins s σ H x y v u Q I rx ry h
  obtain ⟨d, ds, hd, he, sd, se, hz, q⟩ := h
  obtain ⟨as, r1⟩ := Dp.reads I d x v hd rx
  rcases he with he | he
  · obtain ⟨bs, r2⟩ := Dp.reads I _ y u he ry
    exact SeqAt.in_list_data r2 r1 se sd (room_in hr hz) ⟨.bl _, H, I, rfl, q⟩
  · obtain ⟨bs, r2⟩ := Dp.reads I _ y u he ry
    exact SeqAt.in_tuple_data r2 r1 se sd (room_in hr hz) ⟨.bl _, H, I, rfl, q⟩
theorem op_niP {k : Nat} (hr : Room k X.A) : OpR X (compareOp .NotIn) (rInP X.K true) := by
  intro pins s σ H x y v u Q I rx ry h
  obtain ⟨d, ds, hd, he, sd, se, hz, q⟩ := h
  obtain ⟨as, r1⟩ := Dp.reads I d x v hd rx
  rcases he with he | he
  · obtain ⟨bs, r2⟩ := Dp.reads I _ y u he ry
    exact SeqAt.notIn_list_data r2 r1 se sd (room_in hr hz) ⟨.bl _, H, I, rfl, q⟩
  · obtain ⟨bs, r2⟩ := Dp.reads I _ y u he ry
    exact SeqAt.notIn_tuple_data r2 r1 se sd (room_in hr hz) ⟨.bl _, H, I, rfl, q⟩
theorem op_isN0 : OpR X (compareOp .Is) rIsN0 := op_isN
theorem op_notN0 : OpR X (compareOp .IsNot) rNotN0 := op_notN
def rLenS (K : PySem.W.Frag) : List V → Hp → VK → Prop := fun xs H Q => ∃ p ys, xs = [.ref p] ∧ (SqL K H p ys ∨ SqT K H p ys) ∧ Q (.int ys.length) H
theorem call_lenS : CallR X (.builtin "len") (rLenS X.K) := call_len_seq
def rLenX : List V → Hp → VK → Prop := fun xs H Q => ∃ z, xs = [.str z] ∧ z.length ≤ sizeLine ∧ Q (.int z.length) H
theorem call_lenX : CallR X (.builtin "len") rLenX := call_len_str
def rMax2 : List V → Hp → VK → Prop := fun xs H Q => ∃ i j, xs = [.int i, .int j] ∧ Q (.int (if j > i then j else i)) H
theorem call_mx2 (hc : X.calm = true) : CallR X (.builtin "max") rMax2 := call_max2 hc
def rMin2 : List V → Hp → VK → Prop := fun xs H Q => ∃ i j, xs = [.int i, .int j] ∧ Q (.int (if j < i then j else i)) H
theorem call_mn2 (hc : X.calm = true) : CallR X (.builtin "min") rMin2 := call_min2 hc
def rAbs : List V → Hp → VK → Prop := fun xs H Q => ∃ i, xs = [.int i] ∧ Q (.int (if i < 0 then -i else i)) H
theorem call_ab : CallR X (.builtin "abs") rAbs := call_abs
def rInt1 : List V → Hp → VK → Prop := fun xs H Q => (∃ i, xs = [.int i] ∧ Q (.int i) H) ∨ ∃ k, xs = [.bl k] ∧ Q (.int (if k then 1 else 0)) H
theorem call_in1 : CallR X (.type "int") rInt1 := call_int1
def rLstOf (K : PySem.W.Frag) : List V → Hp → VK → Prop := fun xs H Q => ∃ p ys, xs = [.ref p] ∧ (SqL K H p ys ∨ SqT K H p ys) ∧ ∀ l, H l = none → Q (.ref l) (upd H l (.lst ys))
theorem call_lstOf : CallR X (.type "list") (rLstOf X.K) := call_list_of
def rTupOf (K : PySem.W.Frag) : List V → Hp → VK → Prop := fun xs H Q => ∃ p ys, xs = [.ref p] ∧ ((SqL K H p ys ∧ ∀ l, H l = none → Q (.ref l) (upd H l (.tup ys))) ∨ (SqT K H p ys ∧ Q (.ref p) H))
theorem call_tupOf : CallR X (.type "tuple") (rTupOf X.K) := call_tuple_of
def rCat' : R2 := fun x y H Q => ∃ l b xs zs, x = .ref l ∧ y = .ref b ∧ H l = some (.lst xs) ∧ H b = some (.lst zs) ∧ xs.length + zs.length ≤ sizeLine ∧ ∀ p, H p = none → Q (.ref p) (upd H p (.lst (xs ++ zs)))
end
/-! ## more expressions -/
def Big (n : Nat) : Prop := n ≤ 1000000
theorem Big.line {n : Nat} (h : Big n) : n ≤ sizeLine := Nat.le_trans h (by decide)
theorem Big.lt {n : Nat} (h : Big n) : n < sizeLine := Nat.lt_of_le_of_lt h (by decide)
namespace W
/-- an item by its place -/
def ix {α : Type} (l : List α) (i : Int) : W α := opt (atI l i)
def mul (i j : Int) : W Int := req (CMul i j) (p (i * j))
def div (i j : Int) : W Int := req (CDiv i j) (p (i / j))
def mod (i j : Int) : W Int := req (0 < j) (p (i % j))
def pow (i j : Int) : W Int := req (CPow i j) (p (i ^ j.toNat))
/-- a list of so many at the most -/
def sz {α : Type} (l : List α) : W (List α) := req (Big l.length) (p l)
end W
section
variable {K : PySem.W.Frag} {b : Option Addr} {G0 H0 G H G1 H1 G2 H2 : Hp} {ρ : List Slot} {σ : L2.St} {α β γ δ ε : Type} {ta tb te tx : TE} {t u : TT}

/-! ### places -/
theorem rv_ixL {c : α → D} : RV K b (rIxL K) (lS c) (vS cI) (fun l i => W.ix l i) (vS c) := fun l i v u G H g hx hy Q q => by
  obtain ⟨p, vs, ds, h1, h2, h3, h4⟩ := hx
  cases h1
  subst h2
  obtain ⟨x, e, q⟩ := q
  have e' : atI (l.map c) i = some (c x) := by
    unfold atI at *
    rw [List.length_map]
    cases r : ixN l.length i with
    | none => rw [r] at e; cases e
    | some j =>
      rw [r] at e
      show (l.map c)[j]? = some (c x)
      have e : l[j]? = some x := e
      rw [List.getElem?_map, e]; rfl
  obtain ⟨w, hw, hd⟩ := h4.at e'
  exact ⟨p, vs, i, w, rfl, vI hy, hb_sub.sqL h3, hw, q w G H g.ext hd⟩
/-- of a list that is only read -/
theorem rv_ixR {c : α → D} : RV K b (rIxL K) (rS (cL c)) (vS cI) (fun l i => W.ix l i) (rS c) := fun l i v u G H g hx hy Q q => by
  have hx' : Dp K (hb b H) v (.list (l.map c)) := hx
  cases hx' with
  | @lst p vs ds h3 h4 =>
    obtain ⟨x, e, q⟩ := q
    have e' : atI (l.map c) i = some (c x) := by
      unfold atI at *
      rw [List.length_map]
      cases r : ixN l.length i with
      | none => rw [r] at e; cases e
      | some j =>
        rw [r] at e
        show (l.map c)[j]? = some (c x)
        have e : l[j]? = some x := e
        rw [List.getElem?_map, e]; rfl
    obtain ⟨w, hw, hd⟩ := h4.at e'
    exact ⟨p, vs, i, w, rfl, vI hy, hb_sub.sqL h3, hw, q w G H g.ext hd⟩
theorem rv_ixT {c : α → D} : RV K b (rIxT K) (vS (cT c)) (vS cI) (fun l i => W.ix l i) (vS c) := fun l i v u G H g hx hy Q q => by
  have hx' : Dp K G v (.tuple (l.map c)) := hx
  cases hx' with
  | @tup p vs ds h3 h4 =>
    obtain ⟨x, e, q⟩ := q
    have e' : atI (l.map c) i = some (c x) := by
      unfold atI at *
      rw [List.length_map]
      cases r : ixN l.length i with
      | none => rw [r] at e; cases e
      | some j =>
        rw [r] at e
        show (l.map c)[j]? = some (c x)
        have e : l[j]? = some x := e
        rw [List.getElem?_map, e]; rfl
    obtain ⟨w, hw, hd⟩ := h4.at e'
    exact ⟨p, vs, i, w, rfl, vI hy, hb_sub.sqT (g.gh.sqT h3), hw, q w G H g.ext hd⟩
/-- of a tuple, the place written -/
theorem ev_fix {w : W α} {c : α → D} {c' : β → D} {f : α → β} {k : Nat} (h : Ev K b ta ρ w (vS c)) (hp : ∀ x, ∃ ds : List D, c x = .tuple ds ∧ ds[k]? = some (c' (f x))) :
    Ev K b (tOp (rIxT K) ta (tC (.int (k : Int)))) ρ (w.b fun x => W.p (f x)) (vS c') := fun G0 H0 σ G H E Q q =>
  h G0 H0 σ G H E _ (w.mono (fun x q v G1 H1 e1 a1 => by
    obtain ⟨ds, e2, e3⟩ := hp x
    have a1' : Dp K G1 v (c x) := a1
    rw [e2] at a1'
    cases a1' with
    | @tup p vs ds h3 h4 =>
      obtain ⟨z, h5, h6⟩ := h4.get e3
      exact ⟨p, vs, (k : Int), z, rfl, rfl, hb_sub.sqT (e1.good.gh.sqT h3), atI_nat h5, q z G1 H1 e1 h6⟩) q)
theorem f21 {a : α → D} {b' : β → D} (x : α × β) : ∃ ds : List D, c2 a b' x = .tuple ds ∧ ds[0]? = some (a x.1) := ⟨_, rfl, rfl⟩
theorem f22 {a : α → D} {b' : β → D} (x : α × β) : ∃ ds : List D, c2 a b' x = .tuple ds ∧ ds[1]? = some (b' x.2) := ⟨_, rfl, rfl⟩
theorem f31 {a : α → D} {b' : β → D} {d : γ → D} (x : α × β × γ) : ∃ ds : List D, c3 a b' d x = .tuple ds ∧ ds[0]? = some (a x.1) := ⟨_, rfl, rfl⟩
theorem f32 {a : α → D} {b' : β → D} {d : γ → D} (x : α × β × γ) : ∃ ds : List D, c3 a b' d x = .tuple ds ∧ ds[1]? = some (b' x.2.1) := ⟨_, rfl, rfl⟩
theorem f33 {a : α → D} {b' : β → D} {d : γ → D} (x : α × β × γ) : ∃ ds : List D, c3 a b' d x = .tuple ds ∧ ds[2]? = some (d x.2.2) := ⟨_, rfl, rfl⟩
theorem f41 {a : α → D} {b' : β → D} {d : γ → D} {e : δ → D} (x : α × β × γ × δ) : ∃ ds : List D, c4 a b' d e x = .tuple ds ∧ ds[0]? = some (a x.1) := ⟨_, rfl, rfl⟩
theorem f42 {a : α → D} {b' : β → D} {d : γ → D} {e : δ → D} (x : α × β × γ × δ) : ∃ ds : List D, c4 a b' d e x = .tuple ds ∧ ds[1]? = some (b' x.2.1) := ⟨_, rfl, rfl⟩
theorem f43 {a : α → D} {b' : β → D} {d : γ → D} {e : δ → D} (x : α × β × γ × δ) : ∃ ds : List D, c4 a b' d e x = .tuple ds ∧ ds[2]? = some (d x.2.2.1) := ⟨_, rfl, rfl⟩
theorem f44 {a : α → D} {b' : β → D} {d : γ → D} {e : δ → D} (x : α × β × γ × δ) : ∃ ds : List D, c4 a b' d e x = .tuple ds ∧ ds[3]? = some (e x.2.2.2) := ⟨_, rfl, rfl⟩
theorem rv_ixS : RV K b rIxS (vS cS) (vS cI) (fun z i => W.req (z.length ≤ sizeLine) (W.b (W.ix z.cps.toList i) fun k => W.p (⟨#[k]⟩ : Str))) (vS cS) := fun z i v u G H g hx hy Q q => by
  obtain ⟨h1, k, h2, q⟩ := q
  exact ⟨z, i, k, vTx hx, vI hy, h1, h2, q _ G H g.ext (Dp.str _)⟩

/-! ### displays -/
theorem ea_nil {c : α → D} : EvA K b tNil ρ 0 (W.p []) c := fun G0 H0 σ G H E Q q => q [] G H E.gd.ext .nil rfl
theorem ea_cons {c : α → D} {n : Nat} {w : W α} {ws : W (List α)} {tr : TA} (h : Ev K b te ρ w (vS c)) (hr : EvA K b tr ρ n ws c) : EvA K b (tCons te tr) ρ (n + 1) (w.b fun x => ws.b fun xs => W.p (x :: xs)) c := fun G0 H0 σ G H E Q q =>
  h G0 H0 σ G H E _ (w.mono (fun x q v G1 H1 e1 a1 => hr G0 H0 σ G1 H1 (E.step e1) _ (ws.mono (fun xs q vs G2 H2 e2 a2 hn =>
    q (v :: vs) G2 H2 (e1.trans e2) (.cons (Dp.mono e2.gg a1) a2) (by rw [List.length_cons, hn])) q)) q)
theorem ev_lst {c : α → D} {n : Nat} {ws : W (List α)} {tr : TA} (h : EvA K b tr ρ n ws c) (hn : n ≤ sizeLine := by decide) : Ev K b (tLst tr) ρ ws (nS c) := fun G0 H0 σ G H E Q q =>
  h G0 H0 σ G H E _ (ws.mono (fun xs q vs G1 H1 e1 a1 hl => ⟨by rw [hl]; exact hn, fun p hp => q (.ref p) G1 (upd H1 p (.lst vs)) (e1.trans (e1.good.newO hp))
    ⟨p, vs, _, rfl, rfl, (fun _ z => (by cases z)), e1.free hp, e1.good.noneG hp, upd_same, a1, e1.good.neb hp⟩⟩) q)
theorem ev_tupT {c : α → D} {n : Nat} {ws : W (List α)} {tr : TA} (h : EvA K b tr ρ n ws c) (hn : n ≤ sizeLine := by decide) : Ev K b (tTup tr) ρ ws (vS (cT c)) := fun G0 H0 σ G H E Q q =>
  h G0 H0 σ G H E _ (ws.mono (fun xs q vs G1 H1 e1 a1 hl => ⟨by rw [hl]; exact hn, fun p hp => by
    have f := e1.good.new (o := .tup vs) hp
    exact q (.ref p) _ _ (e1.trans f) (Dp.tup (.inl (.inl upd_same)) (DpAll.mono f.gg a1))⟩) q)
theorem ev_tup2 {a : α → D} {b' : β → D} {w1 : W α} {w2 : W β} (h1 : Ev K b ta ρ w1 (vS a)) (h2 : Ev K b tb ρ w2 (vS b')) : Ev K b (tTup (tCons ta (tCons tb tNil))) ρ (w1.b fun x => w2.b fun y => W.p (x, y)) (vS (c2 a b')) := fun G0 H0 σ G H E Q q =>
  h1 G0 H0 σ G H E _ (w1.mono (fun x q v G1 H1 e1 a1 => h2 G0 H0 σ G1 H1 (E.step e1) _ (w2.mono (fun y q u G2 H2 e2 a2 => ⟨by show 2 ≤ sizeLine; decide, fun p hp => by
    have f := e2.good.new (o := .tup [v, u]) hp
    exact q (.ref p) _ _ ((e1.trans e2).trans f) (Dp.tup (.inl (.inl upd_same)) (.cons (Dp.mono (e2.gg.trans f.gg) a1) (.cons (Dp.mono f.gg a2) .nil)))⟩) q)) q)
theorem ev_tup3 {a : α → D} {b' : β → D} {d : γ → D} {w1 : W α} {w2 : W β} {w3 : W γ} (h1 : Ev K b ta ρ w1 (vS a)) (h2 : Ev K b tb ρ w2 (vS b')) (h3 : Ev K b te ρ w3 (vS d)) :
    Ev K b (tTup (tCons ta (tCons tb (tCons te tNil)))) ρ (w1.b fun x => w2.b fun y => w3.b fun z => W.p (x, y, z)) (vS (c3 a b' d)) := fun G0 H0 σ G H E Q q =>
  h1 G0 H0 σ G H E _ (w1.mono (fun x q v G1 H1 e1 a1 => h2 G0 H0 σ G1 H1 (E.step e1) _ (w2.mono (fun y q u G2 H2 e2 a2 => h3 G0 H0 σ G2 H2 ((E.step e1).step e2) _ (w3.mono (fun z q r G3 H3 e3 a3 => ⟨by show 3 ≤ sizeLine; decide, fun p hp => by
    have f := e3.good.new (o := .tup [v, u, r]) hp
    exact q (.ref p) _ _ (((e1.trans e2).trans e3).trans f) (Dp.tup (.inl (.inl upd_same)) (.cons (Dp.mono ((e2.gg.trans e3.gg).trans f.gg) a1) (.cons (Dp.mono (e3.gg.trans f.gg) a2) (.cons (Dp.mono f.gg a3) .nil))))⟩) q)) q)) q)
theorem ev_tup4 {a : α → D} {b' : β → D} {d : γ → D} {d' : δ → D} {w1 : W α} {w2 : W β} {w3 : W γ} {w4 : W δ} (h1 : Ev K b ta ρ w1 (vS a)) (h2 : Ev K b tb ρ w2 (vS b')) (h3 : Ev K b te ρ w3 (vS d)) (h4 : Ev K b tx ρ w4 (vS d')) :
    Ev K b (tTup (tCons ta (tCons tb (tCons te (tCons tx tNil))))) ρ (w1.b fun x => w2.b fun y => w3.b fun z => w4.b fun o => W.p (x, y, z, o)) (vS (c4 a b' d d')) := fun G0 H0 σ G H E Q q =>
  h1 G0 H0 σ G H E _ (w1.mono (fun x q v G1 H1 e1 a1 => h2 G0 H0 σ G1 H1 (E.step e1) _ (w2.mono (fun y q u G2 H2 e2 a2 => h3 G0 H0 σ G2 H2 ((E.step e1).step e2) _ (w3.mono (fun z q r G3 H3 e3 a3 =>
    h4 G0 H0 σ G3 H3 (((E.step e1).step e2).step e3) _ (w4.mono (fun o q r' G4 H4 e4 a4 => ⟨by show 4 ≤ sizeLine; decide, fun p hp => by
    have f := e4.good.new (o := .tup [v, u, r, r']) hp
    exact q (.ref p) _ _ ((((e1.trans e2).trans e3).trans e4).trans f) (Dp.tup (.inl (.inl upd_same)) (.cons (Dp.mono (((e2.gg.trans e3.gg).trans e4.gg).trans f.gg) a1) (.cons (Dp.mono ((e3.gg.trans e4.gg).trans f.gg) a2) (.cons (Dp.mono (e4.gg.trans f.gg) a3) (.cons (Dp.mono f.gg a4) .nil)))))⟩) q)) q)) q)) q)

/-! ### built-ins -/
/-- a call with one argument -/
def RC1 (K : PySem.W.Frag) (b : Option Addr) (r : List V → Hp → VK → Prop) {α γ : Type} (sa : α → Slot) (wk : α → W γ) (sk : γ → Slot) : Prop :=
  ∀ x v G H, Good K b G H → ArgOk K b G H G H v (sa x) → ∀ Q : VK, (wk x).run (fun z => ∀ v' G2 H2, Ext K b G H G2 H2 → ArgOk K b G H G2 H2 v' (sk z) → Q v' H2) → r [v] H Q
def RC2 (K : PySem.W.Frag) (b : Option Addr) (r : List V → Hp → VK → Prop) {α β γ : Type} (sa : α → Slot) (sb : β → Slot) (wk : α → β → W γ) (sk : γ → Slot) : Prop :=
  ∀ x y v u G H, Good K b G H → ArgOk K b G H G H v (sa x) → ArgOk K b G H G H u (sb y) → ∀ Q : VK, (wk x y).run (fun z => ∀ v' G2 H2, Ext K b G H G2 H2 → ArgOk K b G H G2 H2 v' (sk z) → Q v' H2) → r [v, u] H Q
theorem ev_c1 {r : List V → Hp → VK → Prop} {w : W α} {sa : α → Slot} {wk : α → W γ} {sk : γ → Slot} (h : Ev K b ta ρ w sa) (na : NoO sa) (hr : RC1 K b r sa wk sk) : Ev K b (tCB r (tCons ta tNil)) ρ (w.b wk) sk := fun G0 H0 σ G H E Q q =>
  h G0 H0 σ G H E _ (w.mono (fun x q v G1 H1 e1 a1 => hr x v G1 H1 e1.good (a1.here (na x)) Q ((wk x).mono (fun z q v' G3 H3 e3 a3 => q v' G3 H3 (e1.trans e3) (a3.back e1)) q)) q)
theorem ev_c2 {r : List V → Hp → VK → Prop} {wa : W α} {wb : W β} {sa : α → Slot} {sb : β → Slot} {wk : α → β → W γ} {sk : γ → Slot} (ha : Ev K b ta ρ wa sa) (hb' : Ev K b tb ρ wb sb) (na : NoO sa) (nb : NoO sb) (hr : RC2 K b r sa sb wk sk) :
    Ev K b (tCB r (tCons ta (tCons tb tNil))) ρ (wa.b fun x => wb.b fun y => wk x y) sk := fun G0 H0 σ G H E Q q =>
  ha G0 H0 σ G H E _ (wa.mono (fun x q v G1 H1 e1 a1 => hb' G0 H0 σ G1 H1 (E.step e1) _ (wb.mono (fun y q u G2 H2 e2 a2 =>
    hr x y v u G2 H2 e2.good ((a1.step (na x) e2).here (na x)) (a2.here (nb y)) Q ((wk x y).mono (fun z q v' G3 H3 e3 a3 => q v' G3 H3 ((e1.trans e2).trans e3) (a3.back (e1.trans e2))) q)) q)) q)
theorem rc_lenR {c : α → D} : RC1 K b (rLenS K) (rS (cL c)) (fun l => W.p (l.length : Int)) (vS cI) := fun l v G H g hx Q q => by
  have hx' : Dp K (hb b H) v (.list (l.map c)) := hx
  cases hx' with
  | @lst p vs ds h3 h4 =>
    refine ⟨p, vs, rfl, .inl (hb_sub.sqL h3), ?_⟩
    rw [h4.length, List.length_map]
    exact q _ G H g.ext (Dp.int _)
theorem rc_lenT {c : α → D} : RC1 K b (rLenS K) (rS (cT c)) (fun l => W.p (l.length : Int)) (vS cI) := fun l v G H g hx Q q => by
  have hx' : Dp K (hb b H) v (.tuple (l.map c)) := hx
  cases hx' with
  | @tup p vs ds h3 h4 =>
    refine ⟨p, vs, rfl, .inr (hb_sub.sqT h3), ?_⟩
    rw [h4.length, List.length_map]
    exact q _ G H g.ext (Dp.int _)
theorem rc_lenX : RC1 K b rLenX (vS cS) (fun z => W.req (z.length ≤ sizeLine) (W.p (z.length : Int))) (vS cI) := fun z v G H g hx Q q => ⟨z, by rw [vTx hx], q.1, q.2 _ G H g.ext (Dp.int _)⟩
theorem rc_max2 : RC2 K b rMax2 (vS cI) (vS cI) (fun i j => W.p (max i j)) (vS cI) := fun i j v u G H g hx hy Q q => ⟨i, j, by rw [vI hx, vI hy], by
  have e : (if j > i then j else i) = max i j := by by_cases h : j > i <;> simp only [h, if_true, if_false] <;> omega
  rw [e]
  exact q _ G H g.ext (Dp.int _)⟩
theorem rc_min2 : RC2 K b rMin2 (vS cI) (vS cI) (fun i j => W.p (min i j)) (vS cI) := fun i j v u G H g hx hy Q q => ⟨i, j, by rw [vI hx, vI hy], by
  have e : (if j < i then j else i) = min i j := by by_cases h : j < i <;> simp only [h, if_true, if_false] <;> omega
  rw [e]
  exact q _ G H g.ext (Dp.int _)⟩
theorem rc_abs : RC1 K b rAbs (vS cI) (fun i => W.p (i.natAbs : Int)) (vS cI) := fun i v G H g hx Q q => ⟨i, by rw [vI hx], by
  have e : (if i < 0 then -i else i) = (i.natAbs : Int) := by by_cases h : i < 0 <;> simp only [h, if_true, if_false] <;> omega
  rw [e]
  exact q _ G H g.ext (Dp.int _)⟩
theorem rc_int : RC1 K b rInt1 (vS cI) (fun i => W.p i) (vS cI) := fun i v G H g hx Q q => .inl ⟨i, by rw [vI hx], q _ G H g.ext (Dp.int _)⟩
theorem rc_intB : RC1 K b rInt1 (vS cB) (fun k => W.p (if k then 1 else 0 : Int)) (vS cI) := fun i v G H g hx Q q => .inr ⟨i, by rw [vB hx], q _ G H g.ext (Dp.int _)⟩
theorem DpAll.ints {G : Hp} : ∀ {vs : List V} {l : List Int}, DpAll K G vs (l.map cI) → vs = l.map V.int
  | [], [], _ => rfl
  | [], _ :: _, h => by cases h
  | _ :: _, [], h => by cases h
  | v :: vs, i :: l, h => by
    cases h with
    | cons h1 h2 =>
      have h1' : Dp K G v (.int i) := h1
      cases h1'
      rw [DpAll.ints h2]; rfl
theorem DpAll.bools {G : Hp} : ∀ {vs : List V} {l : List Bool}, DpAll K G vs (l.map cB) → vs = l.map V.bl
  | [], [], _ => rfl
  | [], _ :: _, h => by cases h
  | _ :: _, [], h => by cases h
  | v :: vs, i :: l, h => by
    cases h with
    | cons h1 h2 =>
      have h1' : Dp K G v (.bool i) := h1
      cases h1'
      rw [DpAll.bools h2]; rfl
theorem DpAll.texts {G : Hp} : ∀ {vs : List V} {l : List Str}, DpAll K G vs (l.map cS) → vs = l.map V.str
  | [], [], _ => rfl
  | [], _ :: _, h => by cases h
  | _ :: _, [], h => by cases h
  | v :: vs, i :: l, h => by
    cases h with
    | cons h1 h2 =>
      have h1' : Dp K G v (.str i) := h1
      cases h1'
      rw [DpAll.texts h2]; rfl
theorem rS_ints {v : V} {l : List Int} (h : ArgOk K b G H G2 H2 v (rS (cL cI) l)) : ∃ p, v = .ref p ∧ SqL K H2 p (l.map V.int) := by
  have h' : Dp K (hb b H2) v (.list (l.map cI)) := h
  cases h' with
  | @lst p vs ds h3 h4 => exact ⟨p, rfl, DpAll.ints h4 ▸ hb_sub.sqL h3⟩
theorem rc_sum : RC1 K b (rSum K) (rS (cL cI)) (fun l => W.p l.sum) (vS cI) := fun l v G H g hx Q q => by
  obtain ⟨p, rfl, h⟩ := rS_ints hx
  exact ⟨p, l, rfl, h, q _ G H g.ext (Dp.int _)⟩
theorem rc_max : RC1 K b (rMax K) (rS (cL cI)) (fun l => W.req (l ≠ []) (W.any fun m => m ∈ l ∧ ∀ y ∈ l, y ≤ m)) (vS cI) := fun l v G H g hx Q q => by
  obtain ⟨p, rfl, h⟩ := rS_ints hx
  exact ⟨p, l, rfl, h, List.length_pos_iff.mpr q.1, fun m hm hle => q.2 m ⟨hm, hle⟩ _ G H g.ext (Dp.int _)⟩
theorem rc_min : RC1 K b (rMin K) (rS (cL cI)) (fun l => W.req (l ≠ []) (W.any fun m => m ∈ l ∧ ∀ y ∈ l, m ≤ y)) (vS cI) := fun l v G H g hx Q q => by
  obtain ⟨p, rfl, h⟩ := rS_ints hx
  exact ⟨p, l, rfl, h, List.length_pos_iff.mpr q.1, fun m hm hle => q.2 m ⟨hm, hle⟩ _ G H g.ext (Dp.int _)⟩
theorem rc_any : RC1 K b (rAny K) (rS (cL cB)) (fun l => W.p (l.any id)) (vS cB) := fun l v G H g hx Q q => by
  have h' : Dp K (hb b H) v (.list (l.map cB)) := hx
  cases h' with
  | @lst p vs ds h3 h4 => exact ⟨p, l, rfl, DpAll.bools h4 ▸ hb_sub.sqL h3, q _ G H g.ext (Dp.bl _)⟩
theorem rc_all : RC1 K b (rAll K) (rS (cL cB)) (fun l => W.p (l.all id)) (vS cB) := fun l v G H g hx Q q => by
  have h' : Dp K (hb b H) v (.list (l.map cB)) := hx
  cases h' with
  | @lst p vs ds h3 h4 => exact ⟨p, l, rfl, DpAll.bools h4 ▸ hb_sub.sqL h3, q _ G H g.ext (Dp.bl _)⟩
theorem rc_list {c : α → D} : RC1 K b (rLstOf K) (lS c) (fun l => W.p l) (nS c) := fun l v G H g hx Q q => by
  obtain ⟨p, vs, ds, h1, h2, h3, h4⟩ := hx
  cases h1
  exact ⟨p, vs, by rw [h2], .inl (hb_sub.sqL h3), fun r hr => q _ G _ (g.newO hr) ⟨r, vs, _, rfl, rfl, (fun _ z => (by cases z)), hr, g.noneG hr, upd_same, h4, g.neb hr⟩⟩
theorem rc_listT {c : α → D} : RC1 K b (rLstOf K) (vS (cT c)) (fun l => W.p l) (nS c) := fun l v G H g hx Q q => by
  have h' : Dp K G v (.tuple (l.map c)) := hx
  cases h' with
  | @tup p vs ds h3 h4 => exact ⟨p, vs, rfl, .inr (hb_sub.sqT (g.gh.sqT h3)), fun r hr => q _ G _ (g.newO hr) ⟨r, vs, _, rfl, rfl, (fun _ z => (by cases z)), hr, g.noneG hr, upd_same, h4, g.neb hr⟩⟩
theorem rc_tuple {c : α → D} : RC1 K b (rTupOf K) (lS c) (fun l => W.p l) (vS (cT c)) := fun l v G H g hx Q q => by
  obtain ⟨p, vs, ds, h1, h2, h3, h4⟩ := hx
  cases h1
  refine ⟨p, vs, by rw [h2], .inl ⟨hb_sub.sqL h3, fun r hr => ?_⟩⟩
  have f := g.new (o := .tup vs) hr
  exact q _ _ _ f (Dp.tup (.inl (.inl upd_same)) (DpAll.mono f.gg h4))
theorem rc_tupleT {c : α → D} : RC1 K b (rTupOf K) (vS (cT c)) (fun l => W.p l) (vS (cT c)) := fun l v G H g hx Q q => by
  have h' : Dp K G v (.tuple (l.map c)) := hx
  cases h' with
  | @tup p vs ds h3 h4 => exact ⟨p, vs, rfl, .inr ⟨hb_sub.sqT (g.gh.sqT h3), q _ G H g.ext (Dp.tup h3 h4)⟩⟩
/-- sorted ints -/
theorem rc_sortI : RC1 K b (rSortedI K) (rS (cL cI)) (fun l => W.any fun m : List Int => m.Perm l ∧ m.Pairwise (· ≤ ·)) (nS cI) := fun l v G H g hx Q q => by
  obtain ⟨p, rfl, h⟩ := rS_ints hx
  have allI : ∀ m : List Int, DpAll K G (m.map V.int) (m.map cI) := fun m => by
    induction m with
    | nil => exact .nil
    | cons i m ih => exact .cons (Dp.int i) ih
  exact ⟨p, l, rfl, h, fun m r hm hp hr => q m ⟨hm, hp⟩ _ G _ (g.newO hr) ⟨r, _, _, rfl, rfl, (fun _ z => (by cases z)), hr, g.noneG hr, upd_same, allI m, g.neb hr⟩⟩

end
end Z
namespace Z
open PySem PySem.Spec PyProof.Rows L2

section
variable {X : Cx}
/-- list + list -/
def rCatS (K : PySem.W.Frag) : R2 := fun x y H Q => ∃ l b xs zs, x = .ref l ∧ y = .ref b ∧ SqL K H l xs ∧ SqL K H b zs ∧ xs.length + zs.length ≤ sizeLine ∧ ∀ p, H p = none → Q (.ref p) (upd H p (.lst (xs ++ zs)))
theorem op_catS : OpR X (binaryOp .Add) (rCatS X.K) := by
  intro pins s σ H x y v u Q I rx ry h
  obtain ⟨l, b, xs, zs, rfl, rfl, hH, hB, hz, q⟩ := h
  cases rx
  cases ry
  obtain ⟨its, r, p1, z1⟩ := I.list hH
  obtain ⟨its2, r2, p2, z2⟩ := I.list hB
  obtain ⟨⟨cls, dd, data, sl⟩, ho, hc, n, hd⟩ := p1.isList
  obtain ⟨⟨cls2, dd2, data2, sl2⟩, ho2, hc2, n2, hd2⟩ := p2.isList
  simp only at hc hd hc2 hd2
  subst hc hd hc2 hd2
  have e : its.toArray ++ its2.toArray = (its ++ its2).toArray := by simp
  have n1 := r.length
  have n2' := r2.length
  refine concat_meets ⟨_, ho, rfl⟩ ⟨_, ho2, rfl⟩ noFill_list_add seq_list_add PySem.F.slot_list_add PySem.F.entry_list_add (PySem.F.args_list_add_2 _ _) (list_addW l b its.toArray its2.toArray n n2 dd dd2 sl sl2 (by rw [List.size_toArray, List.size_toArray]; omega)) ⟨ho, ho2, ?_⟩
  rw [e]
  exact ⟨.ref _, _, I.lnew (t' := s.toks) (r.append r2) (by rw [List.length_append]; omega), rfl, q _ I.fresh⟩
end

namespace W
variable {α β σ ρ : Type}
/-- a comprehension's list -/
def comp : List α → (α → W Bool) → (α → W β) → W (List β)
  | [], _, _ => p []
  | x :: l, t, f => (t x).b fun c => if c = true then (f x).b fun y => (comp l t f).b fun ys => p (y :: ys) else comp l t f
def comp0 (l : List α) (f : α → W β) : W (List β) := comp l (fun _ => p true) f
/-- lo, lo + 1, .. below hi -/
def rg (lo hi : Int) : List Int := (List.range (hi - lo).toNat).map fun (i : Nat) => lo + (i : Int)
def rgOk (lo hi : Int) : Prop := -(2 ^ 62) ≤ lo ∧ lo < 2 ^ 62 ∧ -(2 ^ 62) ≤ hi ∧ hi < 2 ^ 62
end W

/-! ## what a loop goes over -/
def ItOk (K : PySem.W.Frag) (b : Option Addr) (G0 H0 : Hp) (J : It) (G : Hp) {α : Type} (l : List α) (c : α → D) : Prop :=
  ∀ i G1 H1, Same G G1 → Ext K b G0 H0 G1 H1 → (∀ x, l[i]? = some x → J.go i H1 ∧ ∀ v H2, J.yld i H1 v H2 → ∃ G2, Ext K b G1 H1 G2 H2 ∧ Dp K G2 v (c x)) ∧ (l.length ≤ i → J.stop i H1)
def ItW (K : PySem.W.Frag) (b : Option Addr) (wi : TI) (ρ : List Slot) {α : Type} (w : W (List α)) (c : α → D) : Prop :=
  ∀ G0 H0 σ G H, Env K b G0 H0 ρ σ G H → ∀ R : It → Hp → Prop, w.run (fun l => ∀ J G1 H1, Ext K b G H G1 H1 → ItOk K b G0 H0 J G1 l c → R J H1) → wi σ H R
section
variable {K : PySem.W.Frag} {b : Option Addr} {G0 H0 G H G1 H1 G2 H2 : Hp} {ρ : List Slot} {σ : L2.St} {α β γ δ ε : Type} {ta tb te tx : TE} {t u : TT}
theorem rv_catS {c : α → D} : RV K b (rCatS K) (lS c) (lS c) (fun l m => W.req (Big (l.length + m.length)) (W.p (l ++ m))) (nS c) := fun l m v u G H g hx hy Q q => by
  obtain ⟨p1, vs, ds, h1, h2, h3, h4⟩ := hx
  obtain ⟨p2, vs', ds', k1, k2, k3, k4⟩ := hy
  cases h1
  cases k1
  subst h2 k2
  have n1 := h4.length
  have n2 := k4.length
  rw [List.length_map] at n1 n2
  refine ⟨p1, p2, vs, vs', rfl, rfl, hb_sub.sqL h3, hb_sub.sqL k3, by rw [n1, n2]; exact q.1.line, fun r hr => q.2 _ G _ (g.newO hr) ⟨r, _, _, rfl, rfl, (fun _ z => (by cases z)), hr, g.noneG hr, upd_same, ?_, g.neb hr⟩⟩
  rw [List.map_append]
  exact h4.append k4
theorem rv_catT {c : α → D} : RV K b (rCatA K) (vS (cT c)) (vS (cT c)) (fun l m => W.req (Big (l.length + m.length)) (W.p (l ++ m))) (vS (cT c)) := fun l m v u G H g hx hy Q q => by
  have hx' : Dp K G v (.tuple (l.map c)) := hx
  have hy' : Dp K G u (.tuple (m.map c)) := hy
  cases hx' with
  | @tup p1 vs _ h3 h4 =>
    cases hy' with
    | @tup p2 vs' _ k3 k4 =>
      have n1 := h4.length
      have n2 := k4.length
      rw [List.length_map] at n1 n2
      refine ⟨p1, p2, vs, vs', rfl, rfl, hb_sub.sqT (g.gh.sqT h3), hb_sub.sqT (g.gh.sqT k3), by rw [n1, n2]; exact q.1.line, fun e => ?_, fun _ e => ?_, fun _ _ r hr => ?_⟩
      · subst e
        have : l = [] := List.eq_nil_of_length_eq_zero (by simpa using n1.symm)
        subst this
        exact q.2 _ G H g.ext (Dp.tup k3 k4)
      · subst e
        have : m = [] := List.eq_nil_of_length_eq_zero (by simpa using n2.symm)
        subst this
        refine q.2 _ G H g.ext ?_
        rw [List.append_nil]
        exact Dp.tup h3 h4
      · have f := g.new (o := .tup (vs ++ vs')) hr
        refine q.2 _ _ _ f (Dp.tup (.inl (.inl upd_same)) ?_)
        rw [List.map_append]
        exact (DpAll.mono f.gg h4).append (DpAll.mono f.gg k4)

/-! ### tests, conditions -/
theorem et_test {w : W Bool} (h : Ev K b te ρ w (vS cB)) : EvT K b (tTest te) ρ w := fun G0 H0 σ G H E Q q =>
  h G0 H0 σ G H E _ (w.mono (fun c q v G1 H1 e1 a1 => ⟨c, vB a1, q G1 H1 e1⟩) q)
theorem et_B {w : W Bool} (h : Ev K b te ρ w (vS cB)) : EvT K b (tB te) ρ w := fun G0 H0 σ G H E Q q =>
  h G0 H0 σ G H E _ (w.mono (fun c q v G1 H1 e1 a1 => ⟨c, vB a1, q G1 H1 e1⟩) q)
theorem et_not {w : W Bool} (h : EvT K b t ρ w) : EvT K b (tNot t) ρ (w.b fun c => W.p (!c)) := fun G0 H0 σ G H E Q q =>
  h G0 H0 σ G H E _ (w.mono (fun c q G1 H1 e1 => q G1 H1 e1) q)
theorem et_and {w v : W Bool} (h : EvT K b t ρ w) (k : EvT K b u ρ v) : EvT K b (tAnd t u) ρ (w.b fun c => if c = true then v else W.p false) := fun G0 H0 σ G H E Q q =>
  h G0 H0 σ G H E _ (w.mono (fun c q G1 H1 e1 => by
    cases c with
    | true => exact k G0 H0 σ G1 H1 (E.step e1) Q (v.mono (fun c q G2 H2 e2 => q G2 H2 (e1.trans e2)) q)
    | false => exact q G1 H1 e1) q)
theorem et_or {w v : W Bool} (h : EvT K b t ρ w) (k : EvT K b u ρ v) : EvT K b (tOr t u) ρ (w.b fun c => if c = true then W.p true else v) := fun G0 H0 σ G H E Q q =>
  h G0 H0 σ G H E _ (w.mono (fun c q G1 H1 e1 => by
    cases c with
    | true => exact q G1 H1 e1
    | false => exact k G0 H0 σ G1 H1 (E.step e1) Q (v.mono (fun c q G2 H2 e2 => q G2 H2 (e1.trans e2)) q)) q)
theorem ev_not {w : W Bool} (h : Ev K b te ρ w (vS cB)) : Ev K b (tNotV te) ρ (w.b fun c => W.p (!c)) (vS cB) := fun G0 H0 σ G H E Q q =>
  h G0 H0 σ G H E _ (w.mono (fun c q v G1 H1 e1 a1 => ⟨c, vB a1, q _ G1 H1 e1 (Dp.bl _)⟩) q)
theorem ev_and {w v : W Bool} (h : Ev K b ta ρ w (vS cB)) (k : Ev K b tb ρ v (vS cB)) : Ev K b (tAndV ta tb) ρ (w.b fun c => if c = true then v else W.p false) (vS cB) := fun G0 H0 σ G H E Q q =>
  h G0 H0 σ G H E _ (w.mono (fun c q z G1 H1 e1 a1 => ⟨c, vB a1, by
    cases c with
    | true => exact k G0 H0 σ G1 H1 (E.step e1) Q (v.mono (fun c q z G2 H2 e2 a2 => q z G2 H2 (e1.trans e2) a2) q)
    | false => exact q _ G1 H1 e1 (Dp.bl _)⟩) q)
theorem ev_or {w v : W Bool} (h : Ev K b ta ρ w (vS cB)) (k : Ev K b tb ρ v (vS cB)) : Ev K b (tOrV ta tb) ρ (w.b fun c => if c = true then W.p true else v) (vS cB) := fun G0 H0 σ G H E Q q =>
  h G0 H0 σ G H E _ (w.mono (fun c q z G1 H1 e1 a1 => ⟨c, vB a1, by
    cases c with
    | true => exact q _ G1 H1 e1 (Dp.bl _)
    | false => exact k G0 H0 σ G1 H1 (E.step e1) Q (v.mono (fun c q z G2 H2 e2 a2 => q z G2 H2 (e1.trans e2) a2) q)⟩) q)
theorem ev_if {w : W Bool} {v z : W α} {s : α → Slot} (h : EvT K b t ρ w) (ha : Ev K b ta ρ v s) (hb' : Ev K b tb ρ z s) : Ev K b (tIf t ta tb) ρ (w.b fun c => if c = true then v else z) s := fun G0 H0 σ G H E Q q =>
  h G0 H0 σ G H E _ (w.mono (fun c q G1 H1 e1 => by
    cases c with
    | true => exact ha G0 H0 σ G1 H1 (E.step e1) Q (v.mono (fun c q z G2 H2 e2 a2 => q z G2 H2 (e1.trans e2) (a2.back e1)) q)
    | false => exact hb' G0 H0 σ G1 H1 (E.step e1) Q (z.mono (fun c q z G2 H2 e2 a2 => q z G2 H2 (e1.trans e2) (a2.back e1)) q)) q)
/-- a op1 b op2 c, ints -/
theorem ev_chain {f g : Int → Int → Bool} {wa wb wc : W Int} (ha : Ev K b ta ρ wa (vS cI)) (hb' : Ev K b tb ρ wb (vS cI)) (hc : Ev K b te ρ wc (vS cI)) :
    Ev K b (tChain (rI0 fun i j => .bl (f i j)) (rI0 fun i j => .bl (g i j)) ta tb te) ρ (wa.b fun x => wb.b fun y => if f x y = true then wc.b fun z => W.p (g y z) else W.p false) (vS cB) := fun G0 H0 σ G H E Q q =>
  ha G0 H0 σ G H E _ (wa.mono (fun x q v G1 H1 e1 a1 => hb' G0 H0 σ G1 H1 (E.step e1) _ (wb.mono (fun y q u G2 H2 e2 a2 => ⟨x, y, vI a1, vI a2, f x y, rfl, by
    cases hf : f x y with
    | true =>
      simp only [hf, if_true] at q
      exact hc G0 H0 σ G2 H2 ((E.step e1).step e2) _ (wc.mono (fun z q r G3 H3 e3 a3 => ⟨y, z, vI a2, vI a3, q _ G3 H3 ((e1.trans e2).trans e3) (Dp.bl _)⟩) q)
    | false =>
      simp only [hf] at q
      exact q _ G2 H2 (e1.trans e2) (Dp.bl _)⟩) q)) q)

/-! ### slices -/
def EvO (K : PySem.W.Frag) (b : Option Addr) (to : TO) (ρ : List Slot) (w : W (Option Int)) : Prop :=
  ∀ G0 H0 σ G H, Env K b G0 H0 ρ σ G H → ∀ Q : Option Int → Hp → Prop, w.run (fun x => ∀ G2 H2, Ext K b G H G2 H2 → Q x H2) → to σ H Q
theorem eo_none : EvO K b tNoPart ρ (W.p none) := fun G0 H0 σ G H E Q q => q G H E.gd.ext
theorem eo_some {w : W Int} (h : Ev K b te ρ w (vS cI)) : EvO K b (tPart te) ρ (w.b fun i => W.p (some i)) := fun G0 H0 σ G H E Q q =>
  h G0 H0 σ G H E _ (w.mono (fun c q v G1 H1 e1 a1 => ⟨c, vI a1, q G1 H1 e1⟩) q)
/-- l[lo:hi] -/
def cut (l : List α) (lo hi : Option Int) : List α := (l.drop (HT.sIx l.length 0 lo)).take (HT.sIx l.length l.length hi - HT.sIx l.length 0 lo)
theorem cut_map {c : α → D} {vs : List V} {l : List α} {lo hi : Option Int} (h : DpAll K G vs (l.map c)) : DpAll K G (cutV vs lo hi) ((cut l lo hi).map c) := by
  have n1 := h.length
  rw [List.length_map] at n1
  unfold cutV cut
  rw [n1, List.map_take, List.map_drop]
  exact (h.drop _).take _
theorem ev_slL {c : α → D} {w : W (List α)} {tl th : TO} {wl wh : W (Option Int)} (h : Ev K b te ρ w (lS c)) (hl : EvO K b tl ρ wl) (hh : EvO K b th ρ wh) :
    Ev K b (tSl (rSlL K) te tl th) ρ (w.b fun l => wl.b fun lo => wh.b fun hi => W.p (cut l lo hi)) (nS c) := fun G0 H0 σ G H E Q q =>
  h G0 H0 σ G H E _ (w.mono (fun l q v G1 H1 e1 a1 => hl G0 H0 σ G1 H1 (E.step e1) _ (wl.mono (fun lo q G2 H2 e2 => hh G0 H0 σ G2 H2 ((E.step e1).step e2) _ (wh.mono (fun hi q G3 H3 e3 => by
    obtain ⟨p, vs, ds, h1, h2, h3, h4⟩ := a1
    cases h1
    have e23 := e2.trans e3
    have g := e3.good
    exact ⟨p, vs, h2, hb_sub.sqL (e23.hh.sqL h3), fun r hr => q _ G3 _ ((e1.trans e23).trans (g.newO hr)) ⟨r, _, _, rfl, rfl, (fun _ z => (by cases z)), (e1.trans e23).free hr, g.noneG hr, upd_same, cut_map (DpAll.mono e23.gg h4), g.neb hr⟩⟩) q)) q)) q)
theorem ev_slT {c : α → D} {w : W (List α)} {tl th : TO} {wl wh : W (Option Int)} (h : Ev K b te ρ w (vS (cT c))) (hl : EvO K b tl ρ wl) (hh : EvO K b th ρ wh) :
    Ev K b (tSl (rSlA K) te tl th) ρ (w.b fun l => wl.b fun lo => wh.b fun hi => W.p (cut l lo hi)) (vS (cT c)) := fun G0 H0 σ G H E Q q =>
  h G0 H0 σ G H E _ (w.mono (fun l q v G1 H1 e1 a1 => hl G0 H0 σ G1 H1 (E.step e1) _ (wl.mono (fun lo q G2 H2 e2 => hh G0 H0 σ G2 H2 ((E.step e1).step e2) _ (wh.mono (fun hi q G3 H3 e3 => by
    have a' : Dp K G1 v (.tuple (l.map c)) := a1
    have e23 := e2.trans e3
    have g := e3.good
    cases a' with
    | @tup p vs _ h3 h4 =>
      have n1 := h4.length
      rw [List.length_map] at n1
      refine ⟨p, vs, rfl, hb_sub.sqT (g.gh.sqT (e23.gg.sqT h3)), fun ⟨z1, z2⟩ => ?_, fun _ r hr => ?_⟩
      · have : cut l lo hi = l := by
          unfold cut
          rw [n1] at z1 z2
          rw [z1, z2, List.drop_zero, Nat.sub_zero, List.take_length]
        refine q _ G3 H3 (e1.trans e23) ?_
        show Dp K G3 (.ref p) (cT c (cut l lo hi))
        rw [this]
        exact Dp.tup (e23.gg.sqT h3) (DpAll.mono e23.gg h4)
      · have f := g.new (o := .tup (cutV vs lo hi)) hr
        exact q _ _ _ ((e1.trans e23).trans f) (Dp.tup (.inl (.inl upd_same)) (DpAll.mono f.gg (cut_map (DpAll.mono e23.gg h4))))) q)) q)) q)
theorem ev_slS {w : W Str} {tl th : TO} {wl wh : W (Option Int)} (h : Ev K b te ρ w (vS cS)) (hl : EvO K b tl ρ wl) (hh : EvO K b th ρ wh) :
    Ev K b (tSl rSlS te tl th) ρ (w.b fun l => wl.b fun lo => wh.b fun hi => W.req (l.length ≤ sizeLine) (W.p (cutS l lo hi))) (vS cS) := fun G0 H0 σ G H E Q q =>
  h G0 H0 σ G H E _ (w.mono (fun l q v G1 H1 e1 a1 => hl G0 H0 σ G1 H1 (E.step e1) _ (wl.mono (fun lo q G2 H2 e2 => hh G0 H0 σ G2 H2 ((E.step e1).step e2) _ (wh.mono (fun hi q G3 H3 e3 =>
    ⟨l, vTx a1, q.1, q.2 _ G3 H3 ((e1.trans e2).trans e3) (Dp.str _)⟩) q)) q)) q)

/-! ### targets -/
/-- a store: the slots js alone are touched -/
def GW (K : PySem.W.Frag) (b : Option Addr) (g : TG) {α : Type} (c : α → D) (js : List Nat) (st : α → List Slot → List Slot) : Prop :=
  ∀ x G0 H0 ρ σ G H v, Env K b G0 H0 ρ σ G H → Dp K G v (c x) → ∀ Q : L2.St → Hp → Prop, (∀ σ', (∀ G' H', Same G G' → Env K b G0 H0 ρ σ G' H' → Env K b G0 H0 (st x ρ) σ' G' H') → σ'.length = σ.length → (∀ k, k ∉ js → σ'[k]? = σ[k]?) → Q σ' H) → g v σ H Q
theorem gw_name {c : α → D} {j : Nat} : GW K b (gName j) c [j] (fun x ρ => ρ.set j (vS c x)) := fun x G0 H0 ρ σ G H v E a Q q =>
  q _ (fun G' H' s' E' => E'.setV E'.gd.ext (Dp.mono s' a)) (by rw [List.length_set]) fun k hk => by
    rw [List.getElem?_set_ne]
    exact fun z => hk (by rw [z]; exact List.mem_singleton_self _)
theorem gw_tup2 {a : α → D} {b' : β → D} {g1 g2 : TG} {j1 j2 : List Nat} {s1 : α → List Slot → List Slot} {s2 : β → List Slot → List Slot} (h1 : GW K b g1 a j1 s1) (h2 : GW K b g2 b' j2 s2) :
    GW K b (gTup K 2 (gCons g1 (gCons g2 gNil))) (c2 a b') (j1 ++ j2) (fun x ρ => s2 x.2 (s1 x.1 ρ)) := fun x G0 H0 ρ σ G H v E d Q q => by
  have d' : Dp K G v (.tuple [a x.1, b' x.2]) := d
  cases d' with
  | @tup p vs _ h3 h4 =>
    cases h4 with
    | cons k1 h4 =>
      cases h4 with
      | cons k2 h4 =>
        cases h4
        refine ⟨p, _, rfl, hb_sub.sqT (E.gd.gh.sqT h3), rfl, _, _, rfl, ?_⟩
        refine h1 x.1 G0 H0 ρ σ G H _ E k1 _ fun σ1 E1 l1 n1 => ?_
        refine ⟨_, _, rfl, ?_⟩
        refine h2 x.2 G0 H0 _ σ1 G H _ (E1 G H (Same.refl G) E) k2 _ fun σ2 E2 l2 n2 => ⟨rfl, ?_⟩
        exact q σ2 (fun G' H' s' E' => E2 G' H' s' (E1 G' H' s' E')) (l2.trans l1) fun k hk => (n2 k fun z => hk (List.mem_append_right _ z)).trans (n1 k fun z => hk (List.mem_append_left _ z))
theorem gw_tup3 {a : α → D} {b' : β → D} {d : γ → D} {g1 g2 g3 : TG} {j1 j2 j3 : List Nat} {s1 : α → List Slot → List Slot} {s2 : β → List Slot → List Slot} {s3 : γ → List Slot → List Slot} (h1 : GW K b g1 a j1 s1) (h2 : GW K b g2 b' j2 s2) (h3' : GW K b g3 d j3 s3) :
    GW K b (gTup K 3 (gCons g1 (gCons g2 (gCons g3 gNil)))) (c3 a b' d) (j1 ++ (j2 ++ j3)) (fun x ρ => s3 x.2.2 (s2 x.2.1 (s1 x.1 ρ))) := fun x G0 H0 ρ σ G H v E dd Q q => by
  have d' : Dp K G v (.tuple [a x.1, b' x.2.1, d x.2.2]) := dd
  cases d' with
  | @tup p vs _ h3 h4 =>
    cases h4 with
    | cons k1 h4 =>
      cases h4 with
      | cons k2 h4 =>
        cases h4 with
        | cons k3 h4 =>
          cases h4
          refine ⟨p, _, rfl, hb_sub.sqT (E.gd.gh.sqT h3), rfl, _, _, rfl, ?_⟩
          refine h1 x.1 G0 H0 ρ σ G H _ E k1 _ fun σ1 E1 l1 n1 => ?_
          refine ⟨_, _, rfl, ?_⟩
          refine h2 x.2.1 G0 H0 _ σ1 G H _ (E1 G H (Same.refl G) E) k2 _ fun σ2 E2 l2 n2 => ⟨_, _, rfl, ?_⟩
          refine h3' x.2.2 G0 H0 _ σ2 G H _ (E2 G H (Same.refl G) (E1 G H (Same.refl G) E)) k3 _ fun σ3 E3 l3 n3 => ⟨rfl, ?_⟩
          exact q σ3 (fun G' H' s' E' => E3 G' H' s' (E2 G' H' s' (E1 G' H' s' E'))) ((l3.trans l2).trans l1) fun k hk => ((n3 k fun z => hk (List.mem_append_right _ (List.mem_append_right _ z))).trans (n2 k fun z => hk (List.mem_append_right _ (List.mem_append_left _ z)))).trans (n1 k fun z => hk (List.mem_append_left _ z))
theorem gw_tup4 {a : α → D} {b' : β → D} {d : γ → D} {e : δ → D} {g1 g2 g3 g4 : TG} {j1 j2 j3 j4 : List Nat} {s1 : α → List Slot → List Slot} {s2 : β → List Slot → List Slot} {s3 : γ → List Slot → List Slot} {s4 : δ → List Slot → List Slot} (h1 : GW K b g1 a j1 s1) (h2 : GW K b g2 b' j2 s2) (h3' : GW K b g3 d j3 s3) (h4' : GW K b g4 e j4 s4) :
    GW K b (gTup K 4 (gCons g1 (gCons g2 (gCons g3 (gCons g4 gNil))))) (c4 a b' d e) (j1 ++ (j2 ++ (j3 ++ j4))) (fun x ρ => s4 x.2.2.2 (s3 x.2.2.1 (s2 x.2.1 (s1 x.1 ρ)))) := fun x G0 H0 ρ σ G H v E dd Q q => by
  have d' : Dp K G v (.tuple [a x.1, b' x.2.1, d x.2.2.1, e x.2.2.2]) := dd
  cases d' with
  | @tup p vs _ h3 h4 =>
    cases h4 with
    | cons k1 h4 =>
      cases h4 with
      | cons k2 h4 =>
        cases h4 with
        | cons k3 h4 =>
          cases h4 with
          | cons k4 h4 =>
            cases h4
            refine ⟨p, _, rfl, hb_sub.sqT (E.gd.gh.sqT h3), rfl, _, _, rfl, ?_⟩
            refine h1 x.1 G0 H0 ρ σ G H _ E k1 _ fun σ1 E1 l1 n1 => ?_
            refine ⟨_, _, rfl, ?_⟩
            refine h2 x.2.1 G0 H0 _ σ1 G H _ (E1 G H (Same.refl G) E) k2 _ fun σ2 E2 l2 n2 => ⟨_, _, rfl, ?_⟩
            refine h3' x.2.2.1 G0 H0 _ σ2 G H _ (E2 G H (Same.refl G) (E1 G H (Same.refl G) E)) k3 _ fun σ3 E3 l3 n3 => ⟨_, _, rfl, ?_⟩
            refine h4' x.2.2.2 G0 H0 _ σ3 G H _ (E3 G H (Same.refl G) (E2 G H (Same.refl G) (E1 G H (Same.refl G) E))) k4 _ fun σ4 E4 l4 n4 => ⟨rfl, ?_⟩
            exact q σ4 (fun G' H' s' E' => E4 G' H' s' (E3 G' H' s' (E2 G' H' s' (E1 G' H' s' E')))) (((l4.trans l3).trans l2).trans l1) fun k hk => (((n4 k fun z => hk (List.mem_append_right _ (List.mem_append_right _ (List.mem_append_right _ z)))).trans (n3 k fun z => hk (List.mem_append_right _ (List.mem_append_right _ (List.mem_append_left _ z))))).trans (n2 k fun z => hk (List.mem_append_right _ (List.mem_append_left _ z)))).trans (n1 k fun z => hk (List.mem_append_left _ z))

/-! ### what a loop goes over: the sources -/
theorem it_list {c : α → D} {w : W (List α)} (h : Ev K b te ρ w (vS (cL c))) : ItW K b (iList K te) ρ w c := fun G0 H0 σ G H E R q =>
  h G0 H0 σ G H E _ (w.mono (fun l q v G1 H1 e1 a1 => by
    have a' : Dp K G1 v (.list (l.map c)) := a1
    cases a' with
    | @lst p vs _ h3 h4 =>
      refine ⟨p, rfl, ⟨vs, hb_sub.sqL (e1.good.gh.sqL h3)⟩, q _ G1 H1 e1 fun i G2 H2 s2 e2 => ?_⟩
      have h5 : SqL K H2 p vs := hb_sub.sqL (e2.good.gh.sqL (s2.sqL h3))
      refine ⟨fun x hx => ?_, fun hi => ⟨vs, h5, by rw [h4.length, List.length_map]; exact hi⟩⟩
      have hx' : (l.map c)[i]? = some (c x) := by rw [List.getElem?_map, hx]; rfl
      obtain ⟨z, hz, hd⟩ := h4.get hx'
      refine ⟨⟨vs, z, h5, hz⟩, fun v' H3 hy => ?_⟩
      obtain ⟨rfl, hy⟩ := hy
      have : z = v' := Option.some.inj (hz.symm.trans (hy vs h5))
      subst this
      exact ⟨G2, e2.good.ext, Dp.mono s2 hd⟩) q)
theorem it_tup {c : α → D} {w : W (List α)} (h : Ev K b te ρ w (vS (cT c))) : ItW K b (iTup K te) ρ w c := fun G0 H0 σ G H E R q =>
  h G0 H0 σ G H E _ (w.mono (fun l q v G1 H1 e1 a1 => by
    have a' : Dp K G1 v (.tuple (l.map c)) := a1
    cases a' with
    | @tup p vs _ h3 h4 =>
      refine ⟨p, rfl, ⟨vs, hb_sub.sqT (e1.good.gh.sqT h3)⟩, q _ G1 H1 e1 fun i G2 H2 s2 e2 => ?_⟩
      have h5 : SqT K H2 p vs := hb_sub.sqT (e2.good.gh.sqT (s2.sqT h3))
      refine ⟨fun x hx => ?_, fun hi => ⟨vs, h5, by rw [h4.length, List.length_map]; exact hi⟩⟩
      have hx' : (l.map c)[i]? = some (c x) := by rw [List.getElem?_map, hx]; rfl
      obtain ⟨z, hz, hd⟩ := h4.get hx'
      refine ⟨⟨vs, z, h5, hz⟩, fun v' H3 hy => ?_⟩
      obtain ⟨rfl, hy⟩ := hy
      have : z = v' := Option.some.inj (hz.symm.trans (hy vs h5))
      subst this
      exact ⟨G2, e2.good.ext, Dp.mono s2 hd⟩) q)
/-- a list that is a parameter, only read -/
theorem it_rl {c : α → D} {i : Nat} {l : List α} (h : ρ[i]? = some (lS c l)) : ItW K b (iList K (tVar i)) ρ (W.p l) c := fun G0 H0 σ G H E R q => by
  obtain ⟨v, h1, p, vs, ds, h2, h3, h4, h5⟩ := E.ok i _ h
  cases h2
  subst h3
  refine ⟨_, h1, p, rfl, ⟨vs, hb_sub.sqL (E.ext.hh.sqL h4)⟩, q _ G H E.gd.ext fun j G2 H2 s2 e2 => ?_⟩
  have h6 : SqL K H2 p vs := hb_sub.sqL (e2.hh.sqL h4)
  refine ⟨fun x hx => ?_, fun hi => ⟨vs, h6, by rw [h5.length, List.length_map]; exact hi⟩⟩
  have hx' : (l.map c)[j]? = some (c x) := by rw [List.getElem?_map, hx]; rfl
  obtain ⟨z, hz, hd⟩ := h5.get hx'
  refine ⟨⟨vs, z, h6, hz⟩, fun v' H3 hy => ?_⟩
  obtain ⟨rfl, hy⟩ := hy
  have : z = v' := Option.some.inj (hz.symm.trans (hy vs h6))
  subst this
  exact ⟨G2, e2.good.ext, Dp.mono e2.gg hd⟩
theorem itOk_rg {lo hi : Int} {n : Nat} (hn : n = (hi - lo).toNat) : ItOk K b G0 H0 (Itr lo n) G (W.rg lo hi) cI := fun i G1 H1 s1 e1 => by
  subst hn
  have hl : (W.rg lo hi).length = (hi - lo).toNat := by unfold W.rg; rw [List.length_map, List.length_range]
  refine ⟨fun x hx => ?_, fun hi' => by rw [hl] at hi'; exact hi'⟩
  have hi' : i < (hi - lo).toNat := by rw [← hl]; exact (List.getElem?_eq_some_iff.mp hx).1
  have ex : x = lo + (i : Int) := by
    unfold W.rg at hx
    rw [List.getElem?_map, List.getElem?_range hi'] at hx
    exact (Option.some.inj hx).symm
  refine ⟨hi', fun v H2 hy => ?_⟩
  obtain ⟨rfl, rfl⟩ := hy
  subst ex
  exact ⟨G1, e1.good.ext, Dp.int _⟩
theorem it_rg1 {w : W Int} (h : Ev K b te ρ w (vS cI)) : ItW K b (iRng1 (tCons te tNil)) ρ (w.b fun n => W.req (W.rgOk 0 n) (W.p (W.rg 0 n))) cI := fun G0 H0 σ G H E R q =>
  h G0 H0 σ G H E _ (w.mono (fun n q v G1 H1 e1 a1 => ⟨n, by rw [vI a1], q.1.2.2.1, q.1.2.2.2, q.2 _ G1 H1 e1 (itOk_rg (by rw [Int.sub_zero]))⟩) q)
theorem it_rg2 {w w' : W Int} (h : Ev K b ta ρ w (vS cI)) (h' : Ev K b tb ρ w' (vS cI)) : ItW K b (iRng2 (tCons ta (tCons tb tNil))) ρ (w.b fun m => w'.b fun n => W.req (W.rgOk m n) (W.p (W.rg m n))) cI := fun G0 H0 σ G H E R q =>
  h G0 H0 σ G H E _ (w.mono (fun m q v G1 H1 e1 a1 => h' G0 H0 σ G1 H1 (E.step e1) _ (w'.mono (fun n q u G2 H2 e2 a2 => ⟨m, n, by rw [vI a1, vI a2], q.1, q.2 _ G2 H2 (e1.trans e2) (itOk_rg rfl)⟩) q)) q)
def signs (z : Str) : List Str := z.cps.toList.map fun k => ⟨#[k]⟩
theorem it_str {w : W Str} (h : Ev K b te ρ w (vS cS)) : ItW K b (iStr te) ρ (w.b fun z => W.p (signs z)) cS := fun G0 H0 σ G H E R q =>
  h G0 H0 σ G H E _ (w.mono (fun z q v G1 H1 e1 a1 => ⟨z, vTx a1, q _ G1 H1 e1 fun i G2 H2 s2 e2 => by
    refine ⟨fun x hx => ?_, fun hi => by
      have : (signs z).length = z.cps.size := by unfold signs; rw [List.length_map, Array.length_toList]
      show z.cps.size ≤ i
      omega⟩
    unfold signs at hx
    rw [List.getElem?_map, Array.getElem?_toList] at hx
    cases hk : z.cps[i]? with
    | none => rw [hk] at hx; cases hx
    | some k =>
      rw [hk] at hx
      have ex : (⟨#[k]⟩ : Str) = x := Option.some.inj hx
      subst ex
      refine ⟨(Array.getElem?_eq_some_iff.mp hk).1, fun v' H3 hy => ?_⟩
      obtain ⟨rfl, k', hk', rfl⟩ := hy
      rw [hk] at hk'
      cases hk'
      exact ⟨G2, e2.good.ext, Dp.str _⟩⟩) q)
end
end Z
namespace Z
open PySem PySem.Spec PyProof.Rows L2

/-- the slots of a comprehension's own names forgotten -/
def wipeE (ρ : List Slot) : List Nat → List Slot
  | [] => ρ
  | v :: vs => (wipeE ρ vs).set v .none
theorem wipe_get {σ : L2.St} {k : Nat} : ∀ {vs : List Nat}, k ∉ vs → (wipe σ vs)[k]? = σ[k]?
  | [], _ => rfl
  | v :: vs, h => by
    show ((wipe σ vs).set v none)[k]? = _
    rw [List.getElem?_set_ne (fun e => h (by rw [e]; exact List.mem_cons_self)), wipe_get fun z => h (List.mem_cons_of_mem _ z)]
theorem wipe_in {σ : L2.St} {k : Nat} : ∀ {vs : List Nat}, k ∈ vs → k < σ.length → (wipe σ vs)[k]? = some none
  | v :: vs, h, hk => by
    show ((wipe σ vs).set v none)[k]? = _
    by_cases e : v = k
    · subst e
      rw [List.getElem?_set_self (by rw [wipe_length]; exact hk)]
    · rw [List.getElem?_set_ne e]
      exact wipe_in ((List.mem_cons.mp h).resolve_left fun z => e z.symm) hk
theorem wipe_same {σ σ' : L2.St} {vs js : List Nat} (hl : σ'.length = (wipe σ vs).length) (hk : ∀ k, k ∉ js → σ'[k]? = (wipe σ vs)[k]?) (hj : ∀ j ∈ js, j ∈ vs) : wipe σ' vs = wipe σ vs := by
  have hl' : σ'.length = σ.length := by rw [hl, wipe_length]
  refine List.ext_getElem? fun k => ?_
  by_cases hv : k ∈ vs
  · by_cases hlt : k < σ.length
    · rw [wipe_in hv hlt, wipe_in hv (by rw [hl']; exact hlt)]
    · rw [List.getElem?_eq_none (by rw [wipe_length, hl']; omega), List.getElem?_eq_none (by rw [wipe_length]; omega)]
  · rw [wipe_get hv, hk k fun z => hv (hj k z)]
section
variable {K : PySem.W.Frag} {b : Option Addr} {G0 H0 G H G1 H1 G2 H2 : Hp} {ρ : List Slot} {σ : L2.St} {α β γ δ ε : Type} {ta tb te tx : TE} {t u : TT}
theorem Env.forget (E : Env K b G0 H0 ρ σ G H) {i : Nat} {v : Option V} : Env K b G0 H0 (ρ.set i .none) (σ.set i v) G H := by
  refine ⟨E.good, E.ext, by rw [List.length_set, List.length_set]; exact E.len, fun j s h => ?_, fun j k a1 d1 a2 d2 p q hjk h1 h2 h3 h4 => ?_⟩
  · by_cases hij : i = j
    · subst hij
      by_cases hi : i < ρ.length
      · rw [List.getElem?_set_self hi] at h
        cases h
        trivial
      · rw [List.getElem?_eq_none (by simpa using hi)] at h; cases h
    · rw [List.getElem?_set_ne hij] at h ⊢
      exact E.ok j s h
  · have g1 : i ≠ j := fun e => by
      subst e
      by_cases hi : i < ρ.length
      · rw [List.getElem?_set_self hi] at h1; cases h1
      · rw [List.getElem?_eq_none (by simpa using hi)] at h1; cases h1
    have g2 : i ≠ k := fun e => by
      subst e
      by_cases hi : i < ρ.length
      · rw [List.getElem?_set_self hi] at h2; cases h2
      · rw [List.getElem?_eq_none (by simpa using hi)] at h2; cases h2
    rw [List.getElem?_set_ne g1] at h1 h3
    rw [List.getElem?_set_ne g2] at h2 h4
    exact E.sep j k a1 d1 a2 d2 p q hjk h1 h2 h3 h4
theorem Env.wipe (E : Env K b G0 H0 ρ σ G H) : ∀ vs : List Nat, Env K b G0 H0 (wipeE ρ vs) (wipe σ vs) G H
  | [] => E
  | v :: vs => (E.wipe vs).forget

/-- where a comprehension stands: its list so far at Dl -/
structure LcW (K : PySem.W.Frag) (b : Option Addr) (G H : Hp) (Dl : Addr) (ys : List D) (G1 H1 : Hp) : Prop where
  ext : Ext K b G H G1 H1
  new : H Dl = none
  hid : G1 Dl = none
  at_ : ∃ vs, H1 Dl = some (.lst vs) ∧ DpAll K G1 vs ys
theorem ev_lc {wi : TI} {g : TG} {tt : TT} {vs js : List Nat} {c : α → D} {c' : β → D} {w : W (List α)} {st : α → List Slot → List Slot} {wt : α → W Bool} {wf : α → W β}
    (hi : ItW K b wi ρ w c) (hg : GW K b g c js st) (ht : ∀ x, EvT K b tt (st x (wipeE ρ vs)) (wt x)) (he : ∀ x, Ev K b te (st x (wipeE ρ vs)) (wf x) (vS c')) (hj : ∀ j ∈ js, j ∈ vs := by decide) :
    Ev K b (tLc wi g tt te vs) ρ (w.b fun l => W.req (Big l.length) (W.comp l wt wf)) (nS c') := fun G0 H0 σ G H E Q q =>
  hi G0 H0 σ G H E _ (w.mono (fun l q J G1 H1 e1 iok Dl hD => by
    obtain ⟨big, q⟩ := q
    -- the word: behind i turns ys are made; what is left of the list makes the rest
    refine ⟨fun i m H' => m + i = l.length + 1 ∧ i ≤ l.length ∧ ∃ ys G', ys.length ≤ i ∧ LcW K b G H Dl (ys.map c') G' H' ∧ Same G1 G' ∧ Ext K b G1 H1 G' H' ∧ (W.comp (l.drop i) wt wf).run (fun zs => ∀ v G2 H2, Ext K b G H G2 H2 → ArgOk K b G H G2 H2 v (nS c' (ys ++ zs)) → Q v H2),
      ⟨l.length + 1, by omega, Nat.zero_le _, [], G1, Nat.le_refl _, ⟨e1.trans (e1.good.newO hD), e1.free hD, e1.good.noneG hD, [], upd_same, .nil⟩, Same.refl _, e1.good.newO hD, by rw [List.drop_zero]; exact q⟩, fun i m H' hW => ?_⟩
    obtain ⟨hm, hil, ys, G', hys, L, s', e', r⟩ := hW
    have eiO : Ext K b G0 H0 G' H' := E.ext.trans L.ext
    obtain ⟨hgo, hstop⟩ := iok i G' H' s' eiO
    by_cases hlt : i < l.length
    · have hx : l[i]? = some l[i] := List.getElem?_eq_getElem hlt
      obtain ⟨go, yld⟩ := hgo _ hx
      rw [List.drop_eq_getElem_cons hlt] at r
      refine .inr ⟨go, fun H'' => ∃ ys' G'', ys'.length ≤ i + 1 ∧ LcW K b G H Dl (ys'.map c') G'' H'' ∧ Same G1 G'' ∧ Ext K b G1 H1 G'' H'' ∧ (W.comp (l.drop (i + 1)) wt wf).run (fun zs => ∀ v G2 H2, Ext K b G H G2 H2 → ArgOk K b G H G2 H2 v (nS c' (ys' ++ zs)) → Q v H2),
        fun H'' ⟨ys', G'', h1, h2, h3, h4, h5⟩ => ⟨m - 1, by omega, by omega, by omega, ys', G'', h1, h2, h3, h4, h5⟩, fun v H2 hy => ?_⟩
      obtain ⟨G2, e2, hv⟩ := yld v H2 hy
      have E2 : Env K b G0 H0 (wipeE ρ vs) (L2.wipe σ vs) G2 H2 := ((E.step L.ext).step e2).wipe vs
      refine hg l[i] G0 H0 _ _ G2 H2 v E2 hv _ fun σ3 E3' l3 n3 => ⟨wipe_same l3 n3 hj, ?_⟩
      have E3 := E3' G2 H2 (Same.refl G2) E2
      have r' : (wt l[i]).run fun c => (if c = true then (wf l[i]).b fun y => (W.comp (l.drop (i + 1)) wt wf).b fun ys => W.p (y :: ys) else W.comp (l.drop (i + 1)) wt wf).run (fun zs => ∀ v G2 H2, Ext K b G H G2 H2 → ArgOk K b G H G2 H2 v (nS c' (ys ++ zs)) → Q v H2) := r
      obtain ⟨ws, hws, hda⟩ := L.at_
      have nDb : some Dl ≠ b := e1.good.neb hD
      refine ht l[i] G0 H0 σ3 G2 H2 E3 _ ((wt l[i]).mono (fun cc r G3 H3 e3 => ?_) r')
      have e23 := e2.trans e3
      have hD3 : H3 Dl = some (.lst ws) := e23.keep hws nDb
      have hid3 : G3 Dl = none := by rw [e23.nw Dl (by rw [hws]; intro z; cases z)]; exact L.hid
      cases cc with
      | true =>
        simp only [if_true] at r ⊢
        refine he l[i] G0 H0 σ3 G3 H3 (E3.step e3) _ ((wf l[i]).mono (fun y r v' G4 H4 e4 a4 => ?_) r)
        have e24 := e23.trans e4
        have hD4 : H4 Dl = some (.lst ws) := e24.keep hws nDb
        have hid4 : G4 Dl = none := by rw [e24.nw Dl (by rw [hws]; intro z; cases z)]; exact L.hid
        have hlen : ws.length = ys.length := by rw [hda.length, List.length_map]
        have xx := L.ext.trans e24
        have yy := e'.trans e24
        refine ⟨ws, hD4, by rw [hlen]; exact Nat.lt_of_le_of_lt hys (Nat.lt_of_lt_of_le hlt big.line), ys ++ [y], G4, by rw [List.length_append, List.length_singleton]; omega, ⟨xx.put L.new hid4 nDb, L.new, hid4, _, upd_same, ?_⟩, s'.trans e24.gg, ?_, ?_⟩
        · rw [List.map_append]
          exact (DpAll.mono e24.gg hda).append (.one a4)
        · exact yy.put hD hid4 nDb
        · have r' : (W.comp (l.drop (i + 1)) wt wf).run fun zs => ∀ v G2 H2, Ext K b G H G2 H2 → ArgOk K b G H G2 H2 v (nS c' (ys ++ (y :: zs))) → Q v H2 := r
          refine (W.comp (l.drop (i + 1)) wt wf).mono (fun zs r => ?_) r'
          rw [List.append_assoc]
          exact r
      | false =>
        simp only at r ⊢
        exact ⟨ys, G3, by omega, ⟨L.ext.trans e23, L.new, hid3, ws, hD3, DpAll.mono e23.gg hda⟩, s'.trans e23.gg, e'.trans e23, r⟩
    · refine .inl ⟨hstop (by omega), ?_⟩
      have hz : l.drop i = [] := List.drop_eq_nil_of_le (by omega)
      rw [hz] at r
      have r' : ∀ v G2 H2, Ext K b G H G2 H2 → ArgOk K b G H G2 H2 v (nS c' (ys ++ [])) → Q v H2 := r
      rw [List.append_nil] at r'
      obtain ⟨ws, hws, hda⟩ := L.at_
      exact r' (.ref Dl) G' H' L.ext ⟨Dl, ws, _, rfl, rfl, (fun _ z => (by cases z)), L.new, L.hid, hws, hda, e1.good.neb hD⟩) q)
end
end Z
namespace Z
open PySem PySem.Spec PyProof.Rows L2

/-- how a block ends: it goes on, the loop is left, its next turn, a value comes back -/
inductive Fl (S B R : Type) where
  | nx (s : S)
  | brk (x : B)
  | ct (x : B)
  | ret (r : R)
namespace W
variable {α S S' B B' R : Type}
/-- what follows, where the block goes on -/
def andThen (w : W (Fl S B R)) (k : S → W (Fl S' B R)) : W (Fl S' B R) := w.b fun
  | .nx s => k s
  | .brk x => p (.brk x)
  | .ct x => p (.ct x)
  | .ret r => p (.ret r)
/-- a loop's turns -/
def for_ : List α → (α → S → W (Fl S S R)) → S → W (Fl S B R)
  | [], _, s => p (.nx s)
  | x :: l, f, s => (f x s).b fun
    | .nx s' => for_ l f s'
    | .ct s' => for_ l f s'
    | .brk s' => p (.nx s')
    | .ret r => p (.ret r)
def while_ (c : S → W Bool) (f : S → W (Fl S S R)) (s0 : S) : W (Fl S B R) :=
  ⟨fun Q => ∃ Inv : Nat → S → Prop, (∃ m, Inv m s0) ∧ ∀ m s, Inv m s → (c s).run fun t => if t = true then (f s).run (fun
      | .nx s' => ∃ m', m' < m ∧ Inv m' s'
      | .ct s' => ∃ m', m' < m ∧ Inv m' s'
      | .brk s' => Q (.nx s')
      | .ret r => Q (.ret r)) else Q (.nx s), fun h ⟨J, i0, st⟩ => ⟨J, i0, fun m s i => (c s).mono (fun t q => by
    cases t with
    | true =>
      simp only [if_true] at q ⊢
      refine (f s).mono (fun z q => ?_) q
      cases z with
      | nx s' => exact q
      | ct s' => exact q
      | brk s' => exact h _ q
      | ret r => exact h _ q
    | false => exact h _ q) (st m s i)⟩⟩
/-- the result of a def's body -/
def fin (w : W (Fl S Empty R)) : W R := ⟨fun Q => w.run fun
    | .ret r => Q r
    | .nx _ => False
    | .brk x => x.elim
    | .ct x => x.elim, fun h q => w.mono (fun z r => by
    cases z with
    | ret r' => exact h _ r
    | nx _ => exact r
    | brk x => exact x.elim
    | ct x => exact x.elim) q⟩
/-- put at a place -/
def put {α : Type} (l : List α) (i : Int) (x : α) : W (List α) := opt ((ixN l.length i).map fun k => l.set k x)
end W

def Tgt (K : PySem.W.Frag) (b : Option Addr) (G0 H0 G : Hp) (D : Ends) {S B R : Type} (sh : S → List Slot) (sb : B → List Slot) (ret : R → Slot) : Fl S B R → Prop
  | .nx s => ∀ σ G' H', Same G G' → Env K b G0 H0 (sh s) σ G' H' → D.nx σ H'
  | .brk x => ∀ σ G' H', Same G G' → Env K b G0 H0 (sb x) σ G' H' → D.bk σ H'
  | .ct x => ∀ σ G' H', Same G G' → Env K b G0 H0 (sb x) σ G' H' → D.ct σ H'
  | .ret r => ∀ v G' H', Same G G' → Ext K b G0 H0 G' H' → ArgOk K b G0 H0 G' H' v (ret r) → D.rt v H'
/-- a block's reading follows its word -/
def SW (K : PySem.W.Frag) (b : Option Addr) (t : TS) (ρ : List Slot) {S B R : Type} (w : W (Fl S B R)) (sh : S → List Slot) (sb : B → List Slot) (ret : R → Slot) : Prop :=
  ∀ G0 H0 D σ G H, Env K b G0 H0 ρ σ G H → w.run (Tgt K b G0 H0 G D sh sb ret) → t D σ H
/-- no way goes on -/
def shN {S : Type} : S → List Slot := fun _ => [.never]
/-- slots forgotten, own lists frozen -/
def Weak (ρ ρ' : List Slot) : Prop := ∀ (K : PySem.W.Frag) b G0 H0 σ G H, Env K b G0 H0 ρ σ G H → ∃ G', Same G G' ∧ Env K b G0 H0 ρ' σ G' H
inductive We : List Slot → List Slot → Prop
  | nil : We [] []
  | k {s : Slot} {l l' : List Slot} : We l l' → We (s :: l) (s :: l')
  | d {s : Slot} {l l' : List Slot} : We l l' → We (s :: l) (.none :: l')
  | f {a : Option Addr} {d : D} {l l' : List Slot} : We l l' → We (.own a d :: l) (.val d :: l')
  | n {a : Option Addr} {d : D} {l l' : List Slot} : We l l' → We (.own a d :: l) (.own none d :: l')
section
variable {K : PySem.W.Frag} {b : Option Addr} {G0 H0 G H G1 H1 G2 H2 : Hp} {ρ ρ' ρ1 ρ2 : List Slot} {σ : L2.St} {α β γ δ ε S S' B R : Type} {ta tb te tx : TE} {t u : TT} {ts us : TS}
  {sh : S → List Slot} {sh' : S' → List Slot} {sb : B → List Slot} {ret : R → Slot}
theorem Tgt.mono {D : Ends} {f : Fl S B R} (h : Tgt K b G0 H0 G D sh sb ret f) (s : Same G G1) : Tgt K b G0 H0 G1 D sh sb ret f := by
  cases f with
  | nx x => exact fun σ G' H' s' E => h σ G' H' (s.trans s') E
  | brk x => exact fun σ G' H' s' E => h σ G' H' (s.trans s') E
  | ct x => exact fun σ G' H' s' E => h σ G' H' (s.trans s') E
  | ret r => exact fun v G' H' s' e a => h v G' H' (s.trans s') e a
/-- one slot put by another that says less -/
theorem Env.less (E : Env K b G0 H0 ρ σ G H) {i : Nat} {s s' : Slot} (hi : ρ[i]? = some s) (h : SlotOk K b G0 H0 G H σ[i]? s → SlotOk K b G0 H0 G H σ[i]? s') (ho : ∀ a d, s' = .own a d → ∃ a' d', s = .own a' d') : Env K b G0 H0 (ρ.set i s') σ G H := by
  have hlt : i < ρ.length := (List.getElem?_eq_some_iff.mp hi).1
  refine ⟨E.good, E.ext, by rw [List.length_set]; exact E.len, fun j t hj => ?_, fun j k a1 d1 a2 d2 p q hjk h1 h2 h3 h4 => ?_⟩
  · by_cases e : i = j
    · subst e
      rw [List.getElem?_set_self hlt] at hj
      cases hj
      exact h (E.ok i s hi)
    · rw [List.getElem?_set_ne e] at hj
      exact E.ok j t hj
  · have g : ∀ (m : Nat) a d, (ρ.set i s')[m]? = some (Slot.own a d) → ∃ a' d', ρ[m]? = some (Slot.own a' d') := fun m a d hm => by
      by_cases e : i = m
      · subst e
        rw [List.getElem?_set_self hlt] at hm
        obtain ⟨a', d', z⟩ := ho a d (Option.some.inj hm)
        exact ⟨a', d', by rw [hi, z]⟩
      · rw [List.getElem?_set_ne e] at hm
        exact ⟨a, d, hm⟩
    obtain ⟨a1', d1', g1⟩ := g j a1 d1 h1
    obtain ⟨a2', d2', g2⟩ := g k a2 d2 h2
    exact E.sep j k _ _ _ _ p q hjk g1 g2 h3 h4
/-- our own list frozen where it stands -/
theorem Env.frz (E : Env K b G0 H0 ρ σ G H) {i : Nat} {a : Option Addr} {dd : D} (hi : ρ[i]? = some (.own a dd)) : ∃ G', Same G G' ∧ Env K b G0 H0 (ρ.set i (.val dd)) σ G' H := by
  have hlt : i < ρ.length := (List.getElem?_eq_some_iff.mp hi).1
  obtain ⟨v, h1, p, vs, ds, h2, h3, h4, h5, h6, h7, h8, h9⟩ := E.ok i _ hi
  subst h2 h3
  have sg : Same G (upd G p (.lst vs)) := fun a u q => by rw [upd_ne (ne_of_none q h6)]; exact q
  have e' := E.ext.frz h5 h6 h9 h7
  refine ⟨_, sg, ⟨E.good, e', by rw [List.length_set]; exact E.len, fun j t hj => ?_, fun j k a1 d1 a2 d2 p' q hjk g1 g2 g3 g4 => ?_⟩⟩
  · by_cases e : i = j
    · subst e
      rw [List.getElem?_set_self hlt] at hj
      cases hj
      exact ⟨_, h1, Dp.lst (.inl (.inl upd_same)) (DpAll.mono sg h8)⟩
    · rw [List.getElem?_set_ne e] at hj
      have x := E.ok j t hj
      cases t with
      | none => trivial
      | rd d => exact x
      | rl d => exact x
      | val d => obtain ⟨v', k1, k2⟩ := x; exact ⟨v', k1, Dp.mono sg k2⟩
      | own a' d' =>
        obtain ⟨v', k1, p', vs', ds', k2, k3, k4, k5, k6, k7, k8, k9⟩ := x
        subst k3
        have hne : p' ≠ p := (E.sep i j _ _ _ _ p p' e hi hj h1 k1).symm
        exact ⟨_, k1, p', vs', ds', k2, rfl, k4, k5, by rw [upd_ne hne]; exact k6, k7, DpAll.mono sg k8, k9⟩
      | box => exact x
      | never => exact x
  · have g : ∀ (m : Nat) a' d', (ρ.set i (Slot.val (PyData.list ds)))[m]? = some (Slot.own a' d') → ρ[m]? = some (Slot.own a' d') := fun m a d' hm => by
      by_cases e : i = m
      · subst e
        rw [List.getElem?_set_self hlt] at hm
        cases hm
      · rw [List.getElem?_set_ne e] at hm
        exact hm
    exact E.sep j k _ _ _ _ p' q hjk (g j a1 d1 g1) (g k a2 d2 g2) g3 g4
theorem Weak.refl : Weak ρ ρ := fun K b G0 H0 σ G H E => ⟨G, Same.refl G, E⟩
theorem We.go {l l' : List Slot} (h : We l l') : ∀ pre : List Slot, Weak (pre ++ l) (pre ++ l') := by
  have tl : ∀ {s s' : Slot} {l l' : List Slot}, (∀ pre, Weak (pre ++ l) (pre ++ l')) → (∀ (K : PySem.W.Frag) b G0 H0 σ G H (pre r : List Slot), Env K b G0 H0 (pre ++ s :: r) σ G H → ∃ G', Same G G' ∧ Env K b G0 H0 (pre ++ s' :: r) σ G' H) → ∀ pre, Weak (pre ++ s :: l) (pre ++ s' :: l') := fun {s s' l l'} ih f pre K b G0 H0 σ G H E => by
    obtain ⟨G1, s1, E1⟩ := f K b G0 H0 σ G H pre l E
    have e : pre ++ s' :: l = (pre ++ [s']) ++ l := by simp
    rw [e] at E1
    obtain ⟨G2, s2, E2⟩ := ih _ K b G0 H0 σ G1 H E1
    have e2 : (pre ++ [s']) ++ l' = pre ++ s' :: l' := by simp
    rw [e2] at E2
    exact ⟨G2, s1.trans s2, E2⟩
  have ix : ∀ (pre r : List Slot) (s : Slot), (pre ++ s :: r)[pre.length]? = some s := fun pre r s => by simp
  have st : ∀ (pre r : List Slot) (s s' : Slot), (pre ++ s :: r).set pre.length s' = pre ++ s' :: r := fun pre r s s' => by simp
  induction h with
  | nil => exact fun pre => Weak.refl
  | k h ih => exact tl ih fun K b G0 H0 σ G H pre r E => ⟨G, Same.refl G, E⟩
  | @d s l l' h ih => exact tl ih fun K b G0 H0 σ G H pre r E => ⟨G, Same.refl G, by rw [← st pre r s .none]; exact E.less (ix pre r s) (fun _ => trivial) fun _ _ z => (by cases z)⟩
  | @f a d l l' h ih => exact tl ih fun K b G0 H0 σ G H pre r E => by rw [← st pre r (.own a d) (.val d)]; exact E.frz (ix pre r _)
  | @n a d l l' h ih => exact tl ih fun K b G0 H0 σ G H pre r E => ⟨G, Same.refl G, by
      rw [← st pre r (.own a d) (.own none d)]
      refine E.less (ix pre r _) (fun x => ?_) fun _ _ z => ⟨a, d, rfl⟩
      obtain ⟨v, h1, p, vs, ds, h2, h3, h4, h5⟩ := x
      exact ⟨v, h1, p, vs, ds, h2, h3, (fun _ z => (by cases z)), h5⟩⟩
theorem We.w (h : We ρ ρ') : Weak ρ ρ' := h.go []

/-! ### statements -/
theorem sw_nx {s : S} (h : Weak ρ (sh s)) : SW K b tNext ρ (W.p (.nx s)) sh sb ret := fun G0 H0 D σ G H E q => by
  obtain ⟨G', s', E'⟩ := h K b G0 H0 σ G H E
  exact q σ G' H s' E'
theorem sw_brk {x : B} (h : Weak ρ (sb x)) : SW K b (tSeq tBreak us) ρ (W.p (.brk x)) sh sb ret := fun G0 H0 D σ G H E q => by
  obtain ⟨G', s', E'⟩ := h K b G0 H0 σ G H E
  exact q σ G' H s' E'
theorem sw_ct {x : B} (h : Weak ρ (sb x)) : SW K b (tSeq tCont us) ρ (W.p (.ct x)) sh sb ret := fun G0 H0 D σ G H E q => by
  obtain ⟨G', s', E'⟩ := h K b G0 H0 σ G H E
  exact q σ G' H s' E'
/-- slots said less of -/
theorem SW.weak {w : W (Fl S B R)} (h : SW K b ts ρ' w sh sb ret) (hw : Weak ρ ρ') : SW K b ts ρ w sh sb ret := fun G0 H0 D σ G H E q => by
  obtain ⟨G', s', E'⟩ := hw K b G0 H0 σ G H E
  exact h G0 H0 D σ G' H E' (w.mono (fun f z => z.mono s') q)
theorem sw_set {i : Nat} {c : α → D} {w : W α} {k : α → W (Fl S B R)} (h : Ev K b te ρ w (vS c)) (hk : ∀ x, SW K b us (ρ.set i (vS c x)) (k x) sh sb ret) :
    SW K b (tSeq (tAsg te (gName i)) us) ρ (w.b k) sh sb ret := fun G0 H0 D σ G H E q =>
  h G0 H0 σ G H E _ (w.mono (fun x q v G1 H1 e1 a1 => hk x G0 H0 D _ G1 H1 (E.setV e1 a1) ((k x).mono (fun f z => z.mono e1.gg) q)) q)
/-- a new list, ours -/
theorem sw_new {i : Nat} {c : α → D} {w : W (List α)} {k : List α → W (Fl S B R)} (h : Ev K b te ρ w (nS c)) (hk : ∀ x, SW K b us (ρ.set i (oS none c x)) (k x) sh sb ret) :
    SW K b (tSeq (tAsg te (gName i)) us) ρ (w.b k) sh sb ret := fun G0 H0 D σ G H E q =>
  h G0 H0 σ G H E _ (w.mono (fun x q v G1 H1 e1 a1 => hk x G0 H0 D _ G1 H1 (E.setN e1 a1) ((k x).mono (fun f z => z.mono e1.gg) q)) q)
/-- .. whose address is kept -/
theorem sw_newA {i : Nat} {c : α → D} {w : W (List α)} {k : List α → W (Fl S B R)} (h : Ev K b te ρ w (nS c)) (hk : ∀ a x, SW K b us (ρ.set i (oS (some a) c x)) (k x) sh sb ret) :
    SW K b (tSeq (tAsg te (gName i)) us) ρ (w.b k) sh sb ret := fun G0 H0 D σ G H E q =>
  h G0 H0 σ G H E _ (w.mono (fun x q v G1 H1 e1 a1 => by
    obtain ⟨p, vs, ds, h1, h2, h3, h4⟩ := a1
    exact hk p x G0 H0 D _ G1 H1 (E.setN (q := some p) e1 ⟨p, vs, ds, h1, h2, (fun _ z => Option.some.inj z), h4⟩) ((k x).mono (fun f z => z.mono e1.gg) q)) q)
/-- a target of several names -/
theorem sw_tup {g : TG} {c : α → D} {js : List Nat} {st : α → List Slot → List Slot} {w : W α} {k : α → W (Fl S B R)} (h : Ev K b te ρ w (vS c)) (hg : GW K b g c js st) (hk : ∀ x, SW K b us (st x ρ) (k x) sh sb ret) :
    SW K b (tSeq (tAsg te g) us) ρ (w.b k) sh sb ret := fun G0 H0 D σ G H E q =>
  h G0 H0 σ G H E _ (w.mono (fun x q v G1 H1 e1 a1 => hg x G0 H0 ρ σ G1 H1 v (E.step e1) a1 _ fun σ' E' _ _ => hk x G0 H0 D _ G1 H1 (E' G1 H1 (Same.refl G1) (E.step e1)) ((k x).mono (fun f z => z.mono e1.gg) q)) q)
theorem sw_drop {s : α → Slot} {w : W α} {k : α → W (Fl S B R)} (h : Ev K b te ρ w s) (hk : ∀ x, SW K b us ρ (k x) sh sb ret) : SW K b (tSeq (tDrop te) us) ρ (w.b k) sh sb ret := fun G0 H0 D σ G H E q =>
  h G0 H0 σ G H E _ (w.mono (fun x q v G1 H1 e1 a1 => hk x G0 H0 D _ G1 H1 (E.step e1) ((k x).mono (fun f z => z.mono e1.gg) q)) q)
theorem sw_ret {w : W R} {S1 : Type} {sh1 : S1 → List Slot} (h : Ev K b te ρ w ret) : SW K b (tSeq (tRet te) us) ρ (w.b fun r => W.p (.ret r)) sh1 sb ret := fun G0 H0 D σ G H E q =>
  h G0 H0 σ G H E _ (w.mono (fun x q v G1 H1 e1 a1 => q v G1 H1 e1.gg (E.ext.trans e1) (a1.back E.ext)) q)
/-- our own list handed back -/
theorem sw_retO {i : Nat} {a : Option Addr} {c : α → D} {l : List α} {S1 : Type} {sh1 : S1 → List Slot} (hi : ρ[i]? = some (oS a c l)) : SW K b (tSeq (tRet (tVar i)) us) ρ (W.p (.ret l)) sh1 sb (nS c) := fun G0 H0 D σ G H E q => by
  obtain ⟨v, h1, p, vs, ds, h2, h3, h4, h5⟩ := E.ok i _ hi
  exact ⟨v, h1, q v G H (Same.refl G) E.ext ⟨p, vs, ds, h2, h3, (fun _ z => (by cases z)), h5⟩⟩
theorem sw_retOV {i : Nat} {a : Option Addr} {c : α → D} {l : List α} {S1 : Type} {sh1 : S1 → List Slot} (hi : ρ[i]? = some (oS a c l)) : SW K b (tSeq (tRet (tVar i)) us) ρ (W.p (.ret l)) sh1 sb (vS (cL c)) := fun G0 H0 D σ G H E q => by
  obtain ⟨G', s', E'⟩ := E.frz hi
  have hlt : i < ρ.length := (List.getElem?_eq_some_iff.mp hi).1
  obtain ⟨v, h1, h2⟩ := E'.ok i _ (List.getElem?_set_self hlt)
  exact ⟨v, h1, q v G' H s' E'.ext h2⟩

/-! ### if -/
/-- the ways meet -/
theorem sw_if {wc : W Bool} {wa wb : W (Fl S' B R)} {k : S' → W (Fl S B R)} {t1 t2 : TS} (h : EvT K b t ρ wc) (ha : SW K b t1 ρ wa sh' sb ret) (hb' : SW K b t2 ρ wb sh' sb ret) (hk : ∀ s, SW K b us (sh' s) (k s) sh sb ret) :
    SW K b (tSeq (tIfS t t1 t2) us) ρ (wc.b fun c => W.andThen (if c = true then wa else wb) k) sh sb ret := fun G0 H0 D σ G H E q =>
  h G0 H0 σ G H E _ (wc.mono (fun c q G1 H1 e1 => by
    have conv : ∀ f : Fl S' B R, (match f with | .nx s => k s | .brk x => W.p (.brk x) | .ct x => W.p (.ct x) | .ret r => W.p (.ret r)).run (Tgt K b G0 H0 G D sh sb ret) → Tgt K b G0 H0 G1 { D with nx := us D } sh' sb ret f := fun f z => by
      cases f with
      | nx s => exact fun σ' G' H' s' E' => hk s G0 H0 D σ' G' H' E' ((k s).mono (fun f z => z.mono (e1.gg.trans s')) z)
      | brk x => exact fun σ' G' H' s' E' => z σ' G' H' (e1.gg.trans s') E'
      | ct x => exact fun σ' G' H' s' E' => z σ' G' H' (e1.gg.trans s') E'
      | ret r => exact fun v G' H' s' e a => z v G' H' (e1.gg.trans s') e a
    cases c with
    | true => exact ha G0 H0 { D with nx := us D } σ G1 H1 (E.step e1) (wa.mono conv q)
    | false => exact hb' G0 H0 { D with nx := us D } σ G1 H1 (E.step e1) (wb.mono conv q)) q)
theorem Tgt.never {D D' : Ends} {f : Fl S B R} (h : Tgt K b G0 H0 G D sh sb ret f) (hr : D'.rt = D.rt) (hbk : D'.bk = D.bk) (hct : D'.ct = D.ct) : Tgt K b G0 H0 G D' (shN : S → List Slot) sb ret f := by
  cases f with
  | nx x => exact fun σ G' H' s' E => (E.ok 0 .never rfl).elim
  | brk x => exact fun σ G' H' s' E => hbk ▸ h σ G' H' s' E
  | ct x => exact fun σ G' H' s' E => hct ▸ h σ G' H' s' E
  | ret r => exact fun v G' H' s' e a => hr ▸ h v G' H' s' e a
/-- the first way never goes on -/
theorem sw_ifr {wc : W Bool} {wa wr : W (Fl S B R)} {t1 : TS} (h : EvT K b t ρ wc) (ha : SW K b t1 ρ wa shN sb ret) (hk : SW K b us ρ wr sh sb ret) :
    SW K b (tSeq (tIfS t t1 tNext) us) ρ (wc.b fun c => if c = true then wa else wr) sh sb ret := fun G0 H0 D σ G H E q =>
  h G0 H0 σ G H E _ (wc.mono (fun c q G1 H1 e1 => by
    cases c with
    | true => exact ha G0 H0 { D with nx := us D } σ G1 H1 (E.step e1) (wa.mono (fun f z => (z.mono e1.gg).never rfl rfl rfl) q)
    | false => exact hk G0 H0 D σ G1 H1 (E.step e1) (wr.mono (fun f z => z.mono e1.gg) q)) q)
/-- if, else: the first way never goes on -/
theorem sw_ifre {wc : W Bool} {wa wb : W (Fl S B R)} {t1 t2 : TS} (h : EvT K b t ρ wc) (ha : SW K b t1 ρ wa shN sb ret) (hk : SW K b (tSeq t2 us) ρ wb sh sb ret) :
    SW K b (tSeq (tIfS t t1 t2) us) ρ (wc.b fun c => if c = true then wa else wb) sh sb ret := fun G0 H0 D σ G H E q =>
  h G0 H0 σ G H E _ (wc.mono (fun c q G1 H1 e1 => by
    cases c with
    | true => exact ha G0 H0 { D with nx := us D } σ G1 H1 (E.step e1) (wa.mono (fun f z => (z.mono e1.gg).never rfl rfl rfl) q)
    | false => exact hk G0 H0 D σ G1 H1 (E.step e1) (wb.mono (fun f z => z.mono e1.gg) q)) q)
/-- neither way goes on -/
theorem sw_ifrr {wc : W Bool} {wa wb : W (Fl S B R)} {t1 t2 : TS} (h : EvT K b t ρ wc) (ha : SW K b t1 ρ wa shN sb ret) (hk : SW K b t2 ρ wb shN sb ret) :
    SW K b (tSeq (tIfS t t1 t2) us) ρ (wc.b fun c => if c = true then wa else wb) sh sb ret := fun G0 H0 D σ G H E q =>
  h G0 H0 σ G H E _ (wc.mono (fun c q G1 H1 e1 => by
    cases c with
    | true => exact ha G0 H0 { D with nx := us D } σ G1 H1 (E.step e1) (wa.mono (fun f z => (z.mono e1.gg).never rfl rfl rfl) q)
    | false => exact hk G0 H0 { D with nx := us D } σ G1 H1 (E.step e1) (wb.mono (fun f z => (z.mono e1.gg).never rfl rfl rfl) q)) q)
theorem sw_pass {w : W (Fl S B R)} (h : SW K b us ρ w sh sb ret) : SW K b (tSeq tNext us) ρ w sh sb ret := h

/-! ### loops -/
theorem sw_for {wi : TI} {g : TG} {js : List Nat} {c : α → D} {st : α → List Slot → List Slot} {wl : W (List α)} {body : α → S' → W (Fl S' S' R)} {s0 : S'} {k : S' → W (Fl S B R)}
    (hi : ItW K b wi ρ wl c) (h0 : Weak ρ (sh' s0)) (hg : GW K b g c js st) (hbd : ∀ x s, SW K b ts (st x (sh' s)) (body x s) sh' sh' ret) (hk : ∀ s, SW K b us (sh' s) (k s) sh sb ret) :
    SW K b (tSeq (tFor wi g ts) us) ρ (wl.b fun l => W.andThen (W.for_ (B := B) l body s0) k) sh sb ret := fun G0 H0 D σ G H E q =>
  hi G0 H0 σ G H E _ (wl.mono (fun l q J G1 H1 e1 iok => by
    obtain ⟨Ga, sa, Ea⟩ := h0 K b G0 H0 σ G1 H1 (E.step e1)
    let T : Fl S' B R → Prop := fun f => (match f with | .nx s => k s | .brk x => W.p (.brk x) | .ct x => W.p (.ct x) | .ret r => W.p (.ret r)).run (Tgt K b G0 H0 G D sh sb ret)
    refine ⟨fun i m σ' H' => m + i = l.length + 1 ∧ i ≤ l.length ∧ ∃ s G', Same G1 G' ∧ Env K b G0 H0 (sh' s) σ' G' H' ∧ (W.for_ (B := B) (l.drop i) body s).run T, ⟨l.length + 1, by omega, Nat.zero_le _, s0, Ga, sa, Ea, by rw [List.drop_zero]; exact q⟩, fun i m σ' H' hW => ?_⟩
    obtain ⟨hm, hil, s, G', s', E', r⟩ := hW
    obtain ⟨hgo, hstop⟩ := iok i G' H' s' E'.ext
    by_cases hlt : i < l.length
    · have hx : l[i]? = some l[i] := List.getElem?_eq_getElem hlt
      obtain ⟨go, yld⟩ := hgo _ hx
      rw [List.drop_eq_getElem_cons hlt] at r
      refine .inr ⟨go, fun σ2 H2 => ∃ s2 G2, Same G1 G2 ∧ Env K b G0 H0 (sh' s2) σ2 G2 H2 ∧ (W.for_ (B := B) (l.drop (i + 1)) body s2).run T, fun σ2 H2 ⟨s2, G2, z1, z2, z3⟩ => ⟨m - 1, by omega, by omega, by omega, s2, G2, z1, z2, z3⟩, fun v H2 hy => ?_⟩
      obtain ⟨G2, e2, hv⟩ := yld v H2 hy
      refine hg l[i] G0 H0 _ _ G2 H2 v (E'.step e2) hv _ fun σ3 E3' l3 n3 => ?_
      have E3 := E3' G2 H2 (Same.refl G2) (E'.step e2)
      refine hbd l[i] s G0 H0 _ σ3 G2 H2 E3 ((body l[i] s).mono (fun f z => ?_) r)
      have s12 := s'.trans e2.gg
      cases f with
      | nx s2 => exact fun σ4 G4 H4 s4 E4 => ⟨s2, G4, s12.trans s4, E4, z⟩
      | ct s2 => exact fun σ4 G4 H4 s4 E4 => ⟨s2, G4, s12.trans s4, E4, z⟩
      | brk s2 => exact fun σ4 G4 H4 s4 E4 => hk s2 G0 H0 D σ4 G4 H4 E4 ((k s2).mono (fun f z => z.mono ((e1.gg.trans s12).trans s4)) z)
      | ret r2 => exact fun v G4 H4 s4 e4 a4 => z v G4 H4 ((e1.gg.trans s12).trans s4) e4 a4
    · have hz : l.drop i = [] := List.drop_eq_nil_of_le (by omega)
      rw [hz] at r
      exact .inl ⟨hstop (by omega), hk s G0 H0 D σ' G' H' E' ((k s).mono (fun f z => z.mono (e1.gg.trans s')) r)⟩) q)
theorem sw_while {wc : S' → W Bool} {body : S' → W (Fl S' S' R)} {s0 : S'} {k : S' → W (Fl S B R)} (h0 : Weak ρ (sh' s0)) (hc : ∀ s, EvT K b t (sh' s) (wc s)) (hbd : ∀ s, SW K b ts (sh' s) (body s) sh' sh' ret) (hk : ∀ s, SW K b us (sh' s) (k s) sh sb ret) :
    SW K b (tSeq (tWhile t ts) us) ρ (W.andThen (W.while_ (B := B) wc body s0) k) sh sb ret := fun G0 H0 D σ G H E q => by
  obtain ⟨J, ⟨m0, i0⟩, st⟩ := q
  obtain ⟨Ga, sa, Ea⟩ := h0 K b G0 H0 σ G H E
  refine ⟨fun m σ' H' => ∃ s G', Same G G' ∧ Env K b G0 H0 (sh' s) σ' G' H' ∧ J m s, ⟨m0, s0, Ga, sa, Ea, i0⟩, fun m σ' H' ⟨s, G', s', E', im⟩ => ?_⟩
  refine hc s G0 H0 σ' G' H' E' _ ((wc s).mono (fun c q G1 H1 e1 => ?_) (st m s im))
  cases c with
  | true =>
    simp only [if_true] at q ⊢
    refine ⟨fun σ2 H2 => ∃ m', m' < m ∧ ∃ s2 G2, Same G G2 ∧ Env K b G0 H0 (sh' s2) σ2 G2 H2 ∧ J m' s2, fun σ2 H2 ⟨m', h1, h2⟩ => ⟨m', h1, h2⟩, ?_⟩
    refine hbd s G0 H0 _ σ' G1 H1 (E'.step e1) ((body s).mono (fun f z => ?_) q)
    have s1 := s'.trans e1.gg
    cases f with
    | nx s2 => obtain ⟨m', z1, z2⟩ := z; exact fun σ4 G4 H4 s4 E4 => ⟨m', z1, s2, G4, s1.trans s4, E4, z2⟩
    | ct s2 => obtain ⟨m', z1, z2⟩ := z; exact fun σ4 G4 H4 s4 E4 => ⟨m', z1, s2, G4, s1.trans s4, E4, z2⟩
    | brk s2 => exact fun σ4 G4 H4 s4 E4 => hk s2 G0 H0 D σ4 G4 H4 E4 ((k s2).mono (fun f z => z.mono (s1.trans s4)) z)
    | ret r2 => exact fun v G4 H4 s4 e4 a4 => z v G4 H4 (s1.trans s4) e4 a4
  | false =>
    simp only at q ⊢
    exact hk s G0 H0 D σ' G1 H1 (E'.step e1) ((k s).mono (fun f z => z.mono (s'.trans e1.gg)) q)
end
end Z
namespace Z
open PySem PySem.Spec PyProof.Rows L2
theorem map_erase {α β : Type} (c : α → β) : ∀ (l : List α) (n : Nat), (l.eraseIdx n).map c = (l.map c).eraseIdx n
  | [], _ => rfl
  | _ :: _, 0 => rfl
  | x :: l, n + 1 => by
    show c x :: (l.eraseIdx n).map c = c x :: (l.map c).eraseIdx n
    rw [map_erase c l n]
section
variable {K : PySem.W.Frag} {b : Option Addr} {G0 H0 G H G1 H1 G2 H2 : Hp} {ρ ρ' ρ1 ρ2 : List Slot} {σ : L2.St} {α β γ δ ε S S' B R : Type} {ta tb te tx : TE} {t u : TT} {ts us : TS}
  {sh : S → List Slot} {sh' : S' → List Slot} {sb : B → List Slot} {ret : R → Slot}
/-- our own list in slot i, as it stands -/
theorem Env.own (E : Env K b G0 H0 ρ σ G H) {i : Nat} {a : Option Addr} {c : α → D} {l : List α} (hi : ρ[i]? = some (oS a c l)) :
    ∃ p vs, σ[i]? = some (some (V.ref p)) ∧ (∀ q, a = some q → p = q) ∧ H p = some (.lst vs) ∧ DpAll K G vs (l.map c) ∧ G p = none ∧ H0 p = none ∧ some p ≠ b := by
  obtain ⟨v, h1, p, vs, ds, h2, h3, h4, h5, h6, h7, h8, h9⟩ := E.ok i _ hi
  cases h2
  subst h3
  exact ⟨p, vs, h1, h4, h7, h8, h6, h5, h9⟩
/-- .. written -/
theorem Env.put (E : Env K b G0 H0 ρ σ G H) {i : Nat} {a : Option Addr} {c : α → D} {l l' : List α} {p : Addr} {vs : List V} (hi : ρ[i]? = some (oS a c l)) (hs : σ[i]? = some (some (V.ref p))) (hv : DpAll K G vs (l'.map c)) :
    Env K b G0 H0 (ρ.set i (oS a c l')) σ G (upd H p (.lst vs)) := by
  have hlt : i < ρ.length := (List.getElem?_eq_some_iff.mp hi).1
  obtain ⟨p', vs', h1, h2, h3, h4, h5, h6, h7⟩ := E.own hi
  rw [hs] at h1
  cases h1
  refine ⟨E.good, E.ext.put h6 h5 h7, by rw [List.length_set]; exact E.len, fun j t hj => ?_, fun j k a1 d1 a2 d2 p' q hjk g1 g2 g3 g4 => ?_⟩
  · by_cases e : i = j
    · subst e
      rw [List.getElem?_set_self hlt] at hj
      cases hj
      exact ⟨_, hs, p, vs, _, rfl, rfl, h2, h6, h5, upd_same, hv, h7⟩
    · rw [List.getElem?_set_ne e] at hj
      have x := E.ok j t hj
      cases t with
      | none => trivial
      | rd d => exact x
      | rl d => exact x
      | val d => exact x
      | own a' d' =>
        obtain ⟨v', k1, p', vs'', ds', k2, k3, k4, k5, k6, k7, k8, k9⟩ := x
        subst k3
        have hne : p' ≠ p := (E.sep i j _ _ _ _ p p' e hi hj hs k1).symm
        exact ⟨_, k1, p', vs'', ds', k2, rfl, k4, k5, k6, by rw [upd_ne hne]; exact k7, k8, k9⟩
      | box => exact x
      | never => exact x
  · have g : ∀ (m : Nat) a' d', (ρ.set i (oS a c l'))[m]? = some (Slot.own a' d') → ∃ a'' d'', ρ[m]? = some (Slot.own a'' d'') := fun m a' d' hm => by
      by_cases e : i = m
      · subst e
        exact ⟨_, _, hi⟩
      · rw [List.getElem?_set_ne e] at hm
        exact ⟨_, _, hm⟩
    obtain ⟨_, _, z1⟩ := g j a1 d1 g1
    obtain ⟨_, _, z2⟩ := g k a2 d2 g2
    exact E.sep j k _ _ _ _ p' q hjk z1 z2 g3 g4
theorem tyV_lst {p : Addr} {vs : List V} (h : H p = some (.lst vs)) : tyV K "list" (.ref p) H := .inl ⟨rfl, vs, .inl (.inl h)⟩

/-! ### what is done to a list of one's own -/
theorem sw_append {i : Nat} {a : Option Addr} {c : α → D} {l : List α} {w : W α} {k : α → W (Fl S B R)} (hi : ρ[i]? = some (oS a c l)) (h : Ev K b te ρ w (vS c)) (hk : ∀ x, SW K b us (ρ.set i (oS a c (l ++ [x]))) (k x) sh sb ret) :
    SW K b (tSeq (tDrop (tBM K "list" rAppend (tVar i) (tCons te tNil))) us) ρ (w.b fun x => W.req (Big l.length) (k x)) sh sb ret := fun G0 H0 D σ G H E q => by
  obtain ⟨p, vs, h1, h2, h3, h4, h5, h6, h7⟩ := E.own hi
  refine ⟨_, h1, tyV_lst h3, h G0 H0 σ G H E _ (w.mono (fun x q v G1 H1 e1 a1 => ?_) q)⟩
  obtain ⟨p', vs', g1, g2, g3, g4, g5, g6, g7⟩ := (E.step e1).own hi
  rw [h1] at g1
  cases g1
  have hl : vs'.length = l.length := by rw [g4.length, List.length_map]
  refine ⟨p, vs', v, rfl, rfl, g3, by rw [hl]; exact q.1.lt, ?_⟩
  refine hk x G0 H0 D σ G1 _ ((E.step e1).put hi h1 ?_) ((k x).mono (fun f z => z.mono e1.gg) q.2)
  rw [List.map_append]
  exact g4.append (.one a1)
theorem Same.lsO {c : α → D} {v : V} {m : List α} (h : ArgOk K b G H G1 H1 v (lS c m)) : ∃ p vs, v = .ref p ∧ SqL K (hb b H1) p vs ∧ DpAll K G1 vs (m.map c) := by
  obtain ⟨p, vs, ds, h1, h2, h3, h4⟩ := h
  cases h1
  exact ⟨p, vs, h2, h3, h4⟩
end
section
variable {K : PySem.W.Frag} {b : Option Addr} {G0 H0 G H G1 H1 G2 H2 : Hp} {ρ ρ' ρ1 ρ2 : List Slot} {σ : L2.St} {α β γ δ ε S S' B R : Type} {ta tb te tx : TE} {t u : TT} {ts us : TS}
  {sh : S → List Slot} {sh' : S' → List Slot} {sb : B → List Slot} {ret : R → Slot}
/-- a list that may be read as the heap has it -/
def EvH (K : PySem.W.Frag) (b : Option Addr) (te : TE) (ρ : List Slot) {α : Type} (w : W (List α)) (c : α → D) : Prop :=
  ∀ G0 H0 σ G H, Env K b G0 H0 ρ σ G H → ∀ Q : VK, w.run (fun x => ∀ p vs G2 H2, Ext K b G H G2 H2 → H2 p = some (.lst vs) → DpAll K G2 vs (x.map c) → Q (.ref p) H2) → te σ H Q
theorem Ev.h {c : α → D} {w : W (List α)} (h : Ev K b te ρ w (nS c)) : EvH K b te ρ w c := fun G0 H0 σ G H E Q q =>
  h G0 H0 σ G H E Q (w.mono (fun x q v G2 H2 e a => by
    obtain ⟨p, vs, ds, h1, h2, h3, h4, h5, h6, h7, h8⟩ := a
    cases h1
    subst h2
    exact q p vs G2 H2 e h6 h7) q)
theorem eh_o {j : Nat} {a : Option Addr} {c : α → D} {l : List α} (hj : ρ[j]? = some (oS a c l)) : EvH K b (tVar j) ρ (W.p l) c := fun G0 H0 σ G H E Q q => by
  obtain ⟨p, vs, h1, h2, h3, h4, h5, h6, h7⟩ := E.own hj
  exact ⟨_, h1, q p vs G H E.gd.ext h3 h4⟩
theorem sw_extend {i : Nat} {a : Option Addr} {c : α → D} {l : List α} {w : W (List α)} {k : List α → W (Fl S B R)} (hi : ρ[i]? = some (oS a c l)) (h : EvH K b te ρ w c) (hk : ∀ x, SW K b us (ρ.set i (oS a c (l ++ x))) (k x) sh sb ret) :
    SW K b (tSeq (tDrop (tBM K "list" rExtend (tVar i) (tCons te tNil))) us) ρ (w.b fun x => W.req (Big (l.length + x.length)) (k x)) sh sb ret := fun G0 H0 D σ G H E q => by
  obtain ⟨p, vs, h1, h2, h3, h4, h5, h6, h7⟩ := E.own hi
  refine ⟨_, h1, tyV_lst h3, h G0 H0 σ G H E _ (w.mono (fun x q r ws G1 H1 e1 hr hws => ?_) q)⟩
  obtain ⟨p', vs', g1, g2, g3, g4, g5, g6, g7⟩ := (E.step e1).own hi
  rw [h1] at g1
  cases g1
  have hl : vs'.length = l.length := by rw [g4.length, List.length_map]
  have hw : ws.length = x.length := by rw [hws.length, List.length_map]
  refine ⟨p, r, vs', ws, rfl, rfl, g3, hr, by rw [hl, hw]; exact q.1.line, ?_⟩
  refine hk x G0 H0 D σ G1 _ ((E.step e1).put hi h1 ?_) ((k x).mono (fun f z => z.mono e1.gg) q.2)
  rw [List.map_append]
  exact g4.append hws
/-- l[i] = e -/
theorem sw_put {i : Nat} {a : Option Addr} {c : α → D} {l : List α} {w : W α} {wi : W Int} {k : List α → W (Fl S B R)} (hi : ρ[i]? = some (oS a c l)) (h : Ev K b te ρ w (vS c)) (hx : Ev K b tx ρ wi (vS cI))
    (hk : ∀ m, SW K b us (ρ.set i (oS a c m)) (k m) sh sb ret) : SW K b (tSeq (tAsg te (gSub (tVar i) tx rSetL)) us) ρ (w.b fun x => wi.b fun j => (W.put l j x).b k) sh sb ret := fun G0 H0 D σ G H E q => by
  refine h G0 H0 σ G H E _ (w.mono (fun x q v G1 H1 e1 a1 => ?_) q)
  obtain ⟨p, vs, h1, h2, h3, h4, h5, h6, h7⟩ := (E.step e1).own hi
  refine ⟨_, h1, hx G0 H0 σ G1 H1 (E.step e1) _ (wi.mono (fun j q v2 G2 H2 e2 a2 => ?_) q)⟩
  obtain ⟨m, hm, q⟩ := q
  obtain ⟨p', vs', g1, g2, g3, g4, g5, g6, g7⟩ := ((E.step e1).step e2).own hi
  rw [h1] at g1
  cases g1
  have hl : vs'.length = l.length := by rw [g4.length, List.length_map]
  cases hn : ixN l.length j with
  | none => rw [hn] at hm; cases hm
  | some n =>
    rw [hn] at hm
    have hm : l.set n x = m := Option.some.inj hm
    subst hm
    refine ⟨p, vs', j, n, rfl, vI a2, g3, by rw [hl]; exact hn, ?_⟩
    refine hk _ G0 H0 D σ G2 _ (((E.step e1).step e2).put hi h1 ?_) ((k _).mono (fun f z => z.mono (e1.gg.trans e2.gg)) q)
    rw [List.map_set]
    exact DpAll.set (Dp.mono e2.gg a1) n g4
/-- x = l.pop() and its like: the target g -/
theorem sw_pop {i : Nat} {a : Option Addr} {c : α → D} {l : List α} {g : TG} {js : List Nat} {st : α → List Slot → List Slot} {k : α → W (Fl S B R)} (hi : ρ[i]? = some (oS a c l)) (hg : GW K b g c js st)
    (hk : ∀ x, SW K b us (st x (ρ.set i (oS a c l.dropLast))) (k x) sh sb ret) : SW K b (tSeq (tAsg (tBM0 K "list" rPop (tVar i)) g) us) ρ ((W.opt l.getLast?).b k) sh sb ret := fun G0 H0 D σ G H E q => by
  obtain ⟨p, vs, h1, h2, h3, h4, h5, h6, h7⟩ := E.own hi
  obtain ⟨x, hx, q⟩ := q
  have hl : vs.length = l.length := by rw [h4.length, List.length_map]
  have hx' : (l.map c)[vs.length - 1]? = some (c x) := by
    rw [List.getLast?_eq_getElem?] at hx
    rw [hl, List.getElem?_map, hx]; rfl
  obtain ⟨v, hv, hd⟩ := h4.get hx'
  refine ⟨_, h1, tyV_lst h3, p, vs, v, rfl, rfl, h3, hv, ?_⟩
  have E2 := E.put (l' := l.dropLast) (vs := vs.dropLast) hi h1 (by
    rw [List.map_dropLast, List.dropLast_eq_take, List.dropLast_eq_take, hl, List.length_map]
    exact h4.take _)
  exact hg x G0 H0 _ σ G _ v E2 hd _ fun σ' E' _ _ => hk x G0 H0 D _ G _ (E' G _ (Same.refl G) E2) q
/-- l.pop() alone -/
theorem sw_pop0 {i : Nat} {a : Option Addr} {c : α → D} {l : List α} {k : W (Fl S B R)} (hi : ρ[i]? = some (oS a c l))
    (hk : SW K b us (ρ.set i (oS a c l.dropLast)) k sh sb ret) : SW K b (tSeq (tDrop (tBM0 K "list" rPop (tVar i))) us) ρ (W.req (l ≠ []) k) sh sb ret := fun G0 H0 D σ G H E q => by
  obtain ⟨p, vs, h1, h2, h3, h4, h5, h6, h7⟩ := E.own hi
  have hl : vs.length = l.length := by rw [h4.length, List.length_map]
  have hpos : 0 < l.length := List.length_pos_iff.mpr q.1
  have hv : vs[vs.length - 1]? = some vs[vs.length - 1] := List.getElem?_eq_getElem (by omega)
  refine ⟨_, h1, tyV_lst h3, p, vs, _, rfl, rfl, h3, hv, ?_⟩
  refine hk G0 H0 D _ G _ (E.put (l' := l.dropLast) (vs := vs.dropLast) hi h1 ?_) q.2
  rw [List.map_dropLast, List.dropLast_eq_take, List.dropLast_eq_take, hl, List.length_map]
  exact h4.take _
/-- x = l.pop(i) -/
theorem sw_popAt {i : Nat} {a : Option Addr} {c : α → D} {l : List α} {wi : W Int} {k : List α → W (Fl S B R)} (hi : ρ[i]? = some (oS a c l)) (hx : Ev K b tx ρ wi (vS cI))
    (hk : ∀ m, SW K b us (ρ.set i (oS a c m)) (k m) sh sb ret) : SW K b (tSeq (tDrop (tBM K "list" rPopAt (tVar i) (tCons tx tNil))) us) ρ (wi.b fun j => (W.opt ((ixN l.length j).map fun n => l.eraseIdx n)).b fun m => W.req (-(2 ^ 63) ≤ j ∧ j < 2 ^ 63) (k m)) sh sb ret := fun G0 H0 D σ G H E q => by
  obtain ⟨p, vs, h1, h2, h3, h4, h5, h6, h7⟩ := E.own hi
  refine ⟨_, h1, tyV_lst h3, hx G0 H0 σ G H E _ (wi.mono (fun j q v G1 H1 e1 a1 => ?_) q)⟩
  obtain ⟨m, hm, hj, q⟩ := q
  obtain ⟨p', vs', g1, g2, g3, g4, g5, g6, g7⟩ := (E.step e1).own hi
  rw [h1] at g1
  cases g1
  have hl : vs'.length = l.length := by rw [g4.length, List.length_map]
  cases hn : ixN l.length j with
  | none => rw [hn] at hm; cases hm
  | some n =>
    rw [hn] at hm
    have hm : l.eraseIdx n = m := Option.some.inj hm
    subst hm
    obtain ⟨z1, z2, z3, z4⟩ := ixN_seq hn
    have hv : vs'[n]? = some vs'[n] := List.getElem?_eq_getElem (by omega)
    refine ⟨p, vs', j, n, _, rfl, by rw [vI a1], g3, hj.1, hj.2, by rw [hl]; exact z1, hv, ?_⟩
    refine hk _ G0 H0 D σ G1 _ ((E.step e1).put hi h1 ?_) ((k _).mono (fun f z => z.mono e1.gg) q)
    rw [map_erase]
    exact DpAll.erase n g4

/-! ### x op= e, a, b = c, d -/
theorem sw_aug {i : Nat} {f : Int → Int → Int} {x : Int} {w : W Int} {k : Int → W (Fl S B R)} (hi : ρ[i]? = some (vS cI x)) (h : Ev K b te ρ w (vS cI)) (hk : ∀ y, SW K b us (ρ.set i (vS cI y)) (k y) sh sb ret) :
    SW K b (tSeq (tAug i te (ipI f)) us) ρ (w.b fun y => (W.p (f x y)).b k) sh sb ret := fun G0 H0 D σ G H E q => by
  obtain ⟨v, h1, h2⟩ := E.ok i _ hi
  have e0 : v = .int x := vI h2
  subst e0
  refine ⟨_, h1, h G0 H0 σ G H E _ (w.mono (fun y q v G1 H1 e1 a1 => ⟨x, y, rfl, vI a1, ?_⟩) q)⟩
  exact hk (f x y) G0 H0 D _ G1 H1 (E.setV e1 (Dp.int _)) ((k _).mono (fun f z => z.mono e1.gg) q)
theorem sw_par {i j : Nat} {c : α → D} {c' : β → D} {w : W α} {w' : W β} {k : α → β → W (Fl S B R)} (h : Ev K b ta ρ w (vS c)) (h' : Ev K b tb ρ w' (vS c')) (hk : ∀ x y, SW K b us ((ρ.set i (vS c x)).set j (vS c' y)) (k x y) sh sb ret) :
    SW K b (tSeq (tPar i j (tCons ta (tCons tb tNil))) us) ρ (w.b fun x => w'.b fun y => k x y) sh sb ret := fun G0 H0 D σ G H E q =>
  h G0 H0 σ G H E _ (w.mono (fun x q v G1 H1 e1 a1 => h' G0 H0 σ G1 H1 (E.step e1) _ (w'.mono (fun y q v' G2 H2 e2 a2 => ⟨v, v', rfl, by
    have E1 := (E.step e1).setV (i := i) (d := c x) e2 (Dp.mono e2.gg a1)
    exact hk x y G0 H0 D _ G2 H2 (E1.setV (i := j) E1.gd.ext a2) ((k x y).mono (fun f z => z.mono (e1.gg.trans e2.gg)) q)⟩) q)) q)
end

/-! ## defs -/
def ArgsOk (K : PySem.W.Frag) (b : Option Addr) (G H : Hp) : List V → List Slot → Prop
  | [], [] => True
  | v :: vs, s :: ss => ArgOk K b G H G H v s ∧ ArgsOk K b G H vs ss
  | _, _ => False
/-- what a def promises: rel ties its arguments to its word -/
def spF (K : PySem.W.Frag) {R : Type} (rel : List Slot → W R → Prop) (ret : R → Slot) : Sp := fun vs H Q _ =>
  ∃ b G ρ w, Good K b G H ∧ ArgsOk K b G H vs ρ ∧ rel ρ w ∧ w.run fun r => ∀ v G2 H2, Ext K b G H G2 H2 → ArgOk K b G H G2 H2 v (ret r) → Q v H2
def noOwn : Slot → Bool
  | .own _ _ => false
  | .never => false
  | _ => true
section
variable {K : PySem.W.Frag} {b : Option Addr} {G0 H0 G H G1 H1 G2 H2 : Hp} {ρ ρ' ρ1 ρ2 : List Slot} {σ : L2.St} {α β γ δ ε S S' B R : Type} {ta tb te tx t1 t2 t3 t4 t5 : TE} {t u : TT} {ts us : TS}
theorem ArgsOk.length : ∀ {vs : List V} {ρ : List Slot}, ArgsOk K b G H vs ρ → vs.length = ρ.length
  | [], [], _ => rfl
  | [], _ :: _, h => h.elim
  | _ :: _, [], h => h.elim
  | _ :: vs, _ :: ρ, h => by rw [List.length_cons, List.length_cons, ArgsOk.length h.2]
theorem ArgsOk.get : ∀ {vs : List V} {ρ : List Slot} {i : Nat} {s : Slot}, ArgsOk K b G H vs ρ → ρ[i]? = some s → ∃ v, vs[i]? = some v ∧ ArgOk K b G H G H v s
  | [], [], _, _, _, e => by simp at e
  | [], _ :: _, _, _, h, _ => h.elim
  | _ :: _, [], _, _, h, _ => h.elim
  | v :: vs, t :: ρ, 0, s, h, e => by
    simp at e
    subst e
    exact ⟨v, rfl, h.1⟩
  | v :: vs, t :: ρ, i + 1, s, h, e => by
    obtain ⟨v', h1, h2⟩ := ArgsOk.get (i := i) h.2 (by simpa using e)
    exact ⟨v', by simpa using h1, h2⟩
theorem Env.start {N : List Str} {vs : List V} (g : Good K b G H) (a : ArgsOk K b G H vs ρ) (hn : ∀ s ∈ ρ, noOwn s = true) : Env K b G H (ρ ++ List.replicate (N.length - ρ.length) .none) (L2.start N vs) G H := by
  have hl := a.length
  have own : ∀ (i : Nat) a' d, (ρ ++ List.replicate (N.length - ρ.length) Slot.none)[i]? ≠ some (Slot.own a' d) := fun i a' d h => by
    by_cases hi : i < ρ.length
    · rw [List.getElem?_append_left hi] at h
      have := hn _ (List.mem_of_getElem? h)
      cases this
    · rw [List.getElem?_append_right (by omega)] at h
      have := (List.mem_replicate.mp (List.mem_of_getElem? h)).2
      cases this
  refine ⟨g, g.ext, ?_, fun i s h => ?_, fun i j a1 d1 a2 d2 p q hij h1 => absurd h1 (own i a1 d1)⟩
  · unfold L2.start
    rw [List.length_append, List.length_append, List.length_map, List.length_replicate, List.length_replicate, hl]
  · by_cases hi : i < ρ.length
    · rw [List.getElem?_append_left hi] at h
      obtain ⟨v, h1, h2⟩ := a.get h
      have hv : (L2.start N vs)[i]? = some (some v) := by
        unfold L2.start
        rw [List.getElem?_append_left (by rw [List.length_map]; omega), List.getElem?_map, h1]; rfl
      rw [hv]
      have := hn _ (List.mem_of_getElem? h)
      cases s with
      | none => trivial
      | val d => exact ⟨v, rfl, h2⟩
      | rd d => exact ⟨v, rfl, h2⟩
      | rl d => exact ⟨v, rfl, h2⟩
      | own a' d => cases this
      | box => exact ⟨v, rfl, h2⟩
      | never => cases this
    · rw [List.getElem?_append_right (by omega)] at h
      have := (List.mem_replicate.mp (List.mem_of_getElem? h)).2
      subst this
      trivial
/-- a def's body done -/
theorem body_ok {N : List Str} {vs : List V} {Q : VK} {E : XK} {rel : List Slot → W R → Prop} {ret : R → Slot} (h : spF K rel ret vs H Q E)
    (hn : ∀ ρ w, rel ρ w → ∀ s ∈ ρ, noOwn s = true) (hb : ∀ b ρ w, rel ρ w → ∃ (S : Type) (w' : W (Fl S Empty R)), w = w'.fin ∧ SW K b ts (ρ ++ List.replicate (N.length - ρ.length) .none) w' (shN : S → List Slot) (shN : Empty → List Slot) ret) :
    ts { nx := fun _ H' => Q .non H', rt := Q } (L2.start N vs) H := by
  obtain ⟨b, G, ρ, w, g, a, r, q⟩ := h
  obtain ⟨S, w', rfl, sw⟩ := hb b ρ w r
  refine sw G H _ _ G H (Env.start g a (hn ρ _ r)) (w'.mono (fun f z => ?_) q)
  cases f with
  | nx x => exact z.elim
  | brk x => exact x.elim
  | ct x => exact x.elim
  | ret x => exact fun v G' H' _ e a => z v G' H' e a
/-! calls -/
theorem ev_call1 {rel : List Slot → W R → Prop} {ret : R → Slot} {E : XK} {w1 : W α} {s1 : α → Slot} {f : α → W R} (n1 : NoO s1) (h1 : Ev K b t1 ρ w1 s1) (hr : ∀ x, rel [s1 x] (f x)) : Ev K b (tCall (spF K rel ret) [] E (tCons t1 tNil)) ρ (w1.b f) ret := fun G0 H0 σ G H E' Q q =>
  h1 G0 H0 σ G H E' _ (w1.mono (fun x q v G1 H1 e1 a1 => ⟨b, G1, [s1 x], f x, e1.good, ⟨a1.here (n1 x), trivial⟩, hr x, (f x).mono (fun r q v G2 H2 e2 a2 => q v G2 H2 (e1.trans e2) (a2.back e1)) q⟩) q)
theorem ev_call2 {rel : List Slot → W R → Prop} {ret : R → Slot} {E : XK} {w1 : W α} {s1 : α → Slot} {w2 : W β} {s2 : β → Slot} {f : α → β → W R} (n1 : NoO s1) (n2 : NoO s2) (h1 : Ev K b t1 ρ w1 s1) (h2 : Ev K b t2 ρ w2 s2) (hr : ∀ x y, rel [s1 x, s2 y] (f x y)) :
    Ev K b (tCall (spF K rel ret) [] E (tCons t1 (tCons t2 tNil))) ρ (w1.b fun x => w2.b fun y => f x y) ret := fun G0 H0 σ G H E' Q q =>
  h1 G0 H0 σ G H E' _ (w1.mono (fun x q v1 G1 H1 e1 a1 => h2 G0 H0 σ G1 H1 (E'.step e1) _ (w2.mono (fun y q v2 G2 H2 e2 a2 =>
    ⟨b, G2, [s1 x, s2 y], f x y, e2.good, ⟨(a1.step (n1 x) e2).here (n1 x), a2.here (n2 y), trivial⟩, hr x y, (f x y).mono (fun r q v G3 H3 e3 a3 => q v G3 H3 ((e1.trans e2).trans e3) (a3.back (e1.trans e2))) q⟩) q)) q)
theorem ev_call3 {rel : List Slot → W R → Prop} {ret : R → Slot} {E : XK} {w1 : W α} {s1 : α → Slot} {w2 : W β} {s2 : β → Slot} {w3 : W γ} {s3 : γ → Slot} {f : α → β → γ → W R} (n1 : NoO s1) (n2 : NoO s2) (n3 : NoO s3) (h1 : Ev K b t1 ρ w1 s1) (h2 : Ev K b t2 ρ w2 s2) (h3 : Ev K b t3 ρ w3 s3) (hr : ∀ x y z, rel [s1 x, s2 y, s3 z] (f x y z)) :
    Ev K b (tCall (spF K rel ret) [] E (tCons t1 (tCons t2 (tCons t3 tNil)))) ρ (w1.b fun x => w2.b fun y => w3.b fun z => f x y z) ret := fun G0 H0 σ G H E' Q q =>
  h1 G0 H0 σ G H E' _ (w1.mono (fun x q v1 G1 H1 e1 a1 => h2 G0 H0 σ G1 H1 (E'.step e1) _ (w2.mono (fun y q v2 G2 H2 e2 a2 => h3 G0 H0 σ G2 H2 ((E'.step e1).step e2) _ (w3.mono (fun z q v3 G3 H3 e3 a3 =>
    have e12 := e1.trans e2
    have e13 := e12.trans e3
    ⟨b, G3, [s1 x, s2 y, s3 z], f x y z, e3.good, ⟨(a1.step (n1 x) (e2.trans e3)).here (n1 x), (a2.step (n2 y) e3).here (n2 y), a3.here (n3 z), trivial⟩, hr x y z, (f x y z).mono (fun r q v G4 H4 e4 a4 => q v G4 H4 (e13.trans e4) (a4.back e13)) q⟩) q)) q)) q)
theorem ev_call4 {rel : List Slot → W R → Prop} {ret : R → Slot} {E : XK} {w1 : W α} {s1 : α → Slot} {w2 : W β} {s2 : β → Slot} {w3 : W γ} {s3 : γ → Slot} {w4 : W δ} {s4 : δ → Slot} {f : α → β → γ → δ → W R} (n1 : NoO s1) (n2 : NoO s2) (n3 : NoO s3) (n4 : NoO s4) (h1 : Ev K b t1 ρ w1 s1) (h2 : Ev K b t2 ρ w2 s2) (h3 : Ev K b t3 ρ w3 s3) (h4 : Ev K b t4 ρ w4 s4) (hr : ∀ x y z o, rel [s1 x, s2 y, s3 z, s4 o] (f x y z o)) :
    Ev K b (tCall (spF K rel ret) [] E (tCons t1 (tCons t2 (tCons t3 (tCons t4 tNil))))) ρ (w1.b fun x => w2.b fun y => w3.b fun z => w4.b fun o => f x y z o) ret := fun G0 H0 σ G H E' Q q =>
  h1 G0 H0 σ G H E' _ (w1.mono (fun x q v1 G1 H1 e1 a1 => h2 G0 H0 σ G1 H1 (E'.step e1) _ (w2.mono (fun y q v2 G2 H2 e2 a2 => h3 G0 H0 σ G2 H2 ((E'.step e1).step e2) _ (w3.mono (fun z q v3 G3 H3 e3 a3 =>
    h4 G0 H0 σ G3 H3 (((E'.step e1).step e2).step e3) _ (w4.mono (fun o q v4 G4 H4 e4 a4 =>
    have e12 := e1.trans e2
    have e13 := e12.trans e3
    have e14 := e13.trans e4
    ⟨b, G4, [s1 x, s2 y, s3 z, s4 o], f x y z o, e4.good, ⟨(a1.step (n1 x) ((e2.trans e3).trans e4)).here (n1 x), (a2.step (n2 y) (e3.trans e4)).here (n2 y), (a3.step (n3 z) e4).here (n3 z), a4.here (n4 o), trivial⟩, hr x y z o, (f x y z o).mono (fun r q v G5 H5 e5 a5 => q v G5 H5 (e14.trans e5) (a5.back e14)) q⟩) q)) q)) q)) q)
theorem ev_call5 {rel : List Slot → W R → Prop} {ret : R → Slot} {E : XK} {w1 : W α} {s1 : α → Slot} {w2 : W β} {s2 : β → Slot} {w3 : W γ} {s3 : γ → Slot} {w4 : W δ} {s4 : δ → Slot} {w5 : W ε} {s5 : ε → Slot} {f : α → β → γ → δ → ε → W R} (n1 : NoO s1) (n2 : NoO s2) (n3 : NoO s3) (n4 : NoO s4) (n5 : NoO s5) (h1 : Ev K b t1 ρ w1 s1) (h2 : Ev K b t2 ρ w2 s2) (h3 : Ev K b t3 ρ w3 s3) (h4 : Ev K b t4 ρ w4 s4) (h5 : Ev K b t5 ρ w5 s5) (hr : ∀ x y z o r, rel [s1 x, s2 y, s3 z, s4 o, s5 r] (f x y z o r)) :
    Ev K b (tCall (spF K rel ret) [] E (tCons t1 (tCons t2 (tCons t3 (tCons t4 (tCons t5 tNil)))))) ρ (w1.b fun x => w2.b fun y => w3.b fun z => w4.b fun o => w5.b fun r => f x y z o r) ret := fun G0 H0 σ G H E' Q q =>
  h1 G0 H0 σ G H E' _ (w1.mono (fun x q v1 G1 H1 e1 a1 => h2 G0 H0 σ G1 H1 (E'.step e1) _ (w2.mono (fun y q v2 G2 H2 e2 a2 => h3 G0 H0 σ G2 H2 ((E'.step e1).step e2) _ (w3.mono (fun z q v3 G3 H3 e3 a3 =>
    h4 G0 H0 σ G3 H3 (((E'.step e1).step e2).step e3) _ (w4.mono (fun o q v4 G4 H4 e4 a4 => h5 G0 H0 σ G4 H4 ((((E'.step e1).step e2).step e3).step e4) _ (w5.mono (fun r q v5 G5 H5 e5 a5 =>
    have e12 := e1.trans e2
    have e13 := e12.trans e3
    have e14 := e13.trans e4
    have e15 := e14.trans e5
    ⟨b, G5, [s1 x, s2 y, s3 z, s4 o, s5 r], f x y z o r, e5.good, ⟨(a1.step (n1 x) (((e2.trans e3).trans e4).trans e5)).here (n1 x), (a2.step (n2 y) ((e3.trans e4).trans e5)).here (n2 y), (a3.step (n3 z) (e4.trans e5)).here (n3 z), (a4.step (n4 o) e5).here (n4 o), a5.here (n5 r), trivial⟩, hr x y z o r, (f x y z o r).mono (fun r q v G5 H5 e5 a5 => q v G5 H5 (e15.trans e5) (a5.back e15)) q⟩) q)) q)) q)) q)) q)
end
end Z
namespace Z
open PySem PySem.Spec PyProof.Rows L2

/-- a def of the text, found under its name -/
def HasFn (K : PySem.W.Frag) (mg : Str → Option Value) (x : Str) (st : Stmt) (ps : List Str) : Prop := ∃ a fd, Fun K x x st a fd ∧ mg x = some (.ref a) ∧ Binds K fd ps []
/-- a def of the text that keeps a promise -/
structure Cal (P : Program) (w : World) (K : PySem.W.Frag) (mg : Str → Option Value) (base : Heap) (k : Nat) (x : Str) (sp : Sp) : Prop where
  ex : ∃ f fd ps, FnOk P w K mg base CX0 k f fd ps sp ∧ mg x = some (.ref f) ∧ PySem.W.keepIn K (.ref f) = true ∧ Binds K fd ps []
theorem pe_c {X : Cx} {k j : Nat} {x : Str} {sp : Sp} {e : Expr} {es : List Expr} {t : TA} {p pos : Pos} (c : Cal X.prog X.w X.K X.mg X.base k x sp) (hr : Room j X.A) (hk : k ≤ j) (hg : Gl X x) (ha : PA X (e :: es) t)
    (hdb : (x == ("__debug__" : Str)) = false := by decide) (he : starEach (e :: es) X.env = (false, eval e X.env) :: starEach es X.env := by rfl) (hpl : (backTo pos (starEach es X.env)).any (·.1) = false := by rfl) :
    PE X (.Call (.Name x p) (e :: es) [] pos) (tCall sp [] E0 t) := by
  obtain ⟨f, fd, ps, F, hm, kp, b⟩ := c.ex
  exact pe_call F (hr.mono hk) hg hm kp b .nil pass0 ha hdb he hpl
theorem cal_of {P : Program} {w : World} {K : PySem.W.Frag} {mg : Str → Option Value} {base : Heap} {x : Str} {st : Stmt} {ps N : List Str} {k : Nat} {sp : Sp} (h : HasFn K mg x st ps) (S : FnScope N ps (defScope st)) (len : ∀ vs H Q E, sp vs H Q E → vs.length = ps.length)
    (hb : ∀ (f : Addr) (cdv : Value) (A : Around) (outer : List PySem.Env) (s : Shared) (H : Hp) (vs : List V) (Q : VK) (E : XK), Room k (A.deeper (envOfC x (defScope st) s.heap.objs.size f cdv)) → sp vs H Q E →
      ∃ t, PSs (cxOf CX0 P w K mg base N x (defScope st) f cdv A outer s H E).nox (defBody st) t ∧ t { nx := fun _ H' => Q .non H', rt := Q } (L2.start N vs) H) : Cal P w K mg base (k + 1) x sp := by
  obtain ⟨a, fd, F, hm, hbd⟩ := h
  exact ⟨a, fd, ps, F.ok S len (fun cdv A outer s H vs Q E hr q => hb a cdv A outer s H vs Q E hr q), hm, F.kp, hbd⟩
theorem spF_len {K : PySem.W.Frag} {R : Type} {rel : List Slot → W R → Prop} {ret : R → Slot} {n : Nat} (h : ∀ ρ w, rel ρ w → ρ.length = n) : ∀ vs H Q E, spF K rel ret vs H Q E → vs.length = n := fun vs H Q E ⟨b, G, ρ, w, g, a, r, _⟩ => a.length.trans (h ρ w r)

/-! ## the law's own helpers -/
namespace W
/-- a draw -/
def draw (m : Int) : W Int := req (0 < m) (any fun r => 0 ≤ r ∧ r < m)
def pick {α : Type} (l : List α) : W α := req (l ≠ [] ∧ Big l.length) (any fun x => x ∈ l)
end W
mutual
/-- data whose ints and texts are of common sizes -/
def small : D → Bool
  | .none => true
  | .bool _ => true
  | .int i => decide (i.natAbs < 2 ^ 1900)
  | .str x => decide (x.length ≤ 1000) && x.cps.toList.all fun c => decide (c < 16 ^ 8)
  | .list ds => decide (ds.length ≤ 1000000) && smallAll ds
  | .tuple ds => decide (ds.length ≤ 1000000) && smallAll ds
  | .dict _ => false
def smallAll : List D → Bool
  | [] => true
  | d :: ds => small d && smallAll ds
end
def relDraw : List Slot → W Int → Prop := fun ρ w => ∃ m : Int, ρ = [.box, vS cI m] ∧ w = W.draw m
def relPick : List Slot → W D → Prop := fun ρ w => ∃ l : List D, ρ = [.box, .rl (.list l)] ∧ w = W.pick l
/-- alike data are told so -/
def relSame (n : Nat) : List Slot → W Bool → Prop := fun ρ w => ∃ d : D, ρ = [.rd d, .rd d] ∧ d.depth ≤ n ∧ small d = true ∧ w = W.p true
namespace W
/-- asked whether two are the same: they must be -/
def same {α β : Type} (c : α → D) (c' : β → D) (n : Nat) (x : α) (y : β) : W Bool := req (c x = c' y ∧ (c' y).depth ≤ n ∧ small (c' y) = true) (p true)
end W
section
variable {K : PySem.W.Frag} {b : Option Addr} {G0 H0 G H G1 H1 G2 H2 : Hp} {ρ ρ' ρ1 ρ2 : List Slot} {σ : L2.St} {α β γ δ ε S S' B R : Type} {ta tb te tx t1 t2 t3 t4 t5 : TE} {t u : TT} {ts us : TS}
theorem ev_draw {i : Nat} {E : XK} {w : W Int} (hb : ρ[i]? = some .box) (h : Ev K b t2 ρ w (vS cI)) : Ev K b (tCall (spF K relDraw (vS cI)) [] E (tCons (tVar i) (tCons t2 tNil))) ρ (w.b W.draw) (vS cI) :=
  (ev_call2 (f := fun _ m => W.draw m) noB noV (ev_b hb) h (fun _ m => ⟨m, rfl, rfl⟩))
theorem ev_pick {i : Nat} {E : XK} {c : α → D} {w : W (List α)} (hb : ρ[i]? = some .box) (h : Ev K b t2 ρ w (lS c)) : Ev K b (tCall (spF K relPick (fun d => .val d)) [] E (tCons (tVar i) (tCons t2 tNil))) ρ (w.b W.pick) (vS c) := fun G0 H0 σ G H E' Q q =>
  (ev_call2 (f := fun _ m => W.pick (m.map c)) noB noL (ev_b hb) h (fun _ m => ⟨m.map c, rfl, rfl⟩)) G0 H0 σ G H E' Q (w.mono (fun l q => by
    obtain ⟨⟨h1, h2⟩, q⟩ := q
    refine ⟨⟨fun e => h1 (List.map_eq_nil_iff.mp e), by rw [List.length_map]; exact h2⟩, fun d hd v G2 H2 e a => ?_⟩
    obtain ⟨x, hx, rfl⟩ := List.mem_map.mp hd
    exact q x hx v G2 H2 e a) q)
theorem ev_same {n : Nat} {E : XK} {c : α → D} {c' : β → D} {w : W α} {w' : W β} (h : Ev K b t1 ρ w (rS c)) (h' : Ev K b t2 ρ w' (rS c')) :
    Ev K b (tCall (spF K (relSame n) (vS cB)) [] E (tCons t1 (tCons t2 tNil))) ρ (w.b fun x => w'.b fun y => W.same c c' n x y) (vS cB) := fun G0 H0 σ G H E' Q q =>
  h G0 H0 σ G H E' _ (w.mono (fun x q v1 G1 H1 e1 a1 => h' G0 H0 σ G1 H1 (E'.step e1) _ (w'.mono (fun y q v2 G2 H2 e2 a2 => by
    obtain ⟨⟨h1, h2, h3⟩, q⟩ := q
    have a1' : ArgOk K b G2 H2 G2 H2 v1 (.rd (c' y)) := by
      rw [← h1]
      exact (a1.step noR' e2).here noR'
    exact ⟨b, G2, [.rd (c' y), .rd (c' y)], W.p true, e2.good, ⟨a1', a2.here noR', trivial⟩, ⟨c' y, rfl, h2, h3, rfl⟩, fun v G3 H3 e3 a3 => q v G3 H3 ((e1.trans e2).trans e3) (a3.back (e1.trans e2))⟩) q)) q)
where
  noR' : ∀ {α : Type} {c : α → D} {x : α} q d, rS c x ≠ .own q d := fun q d z => by cases z
/-- a literal beside a product, a quotient, a rest -/
theorem ev_mulK {w : W Int} {k : Int} (h : Ev K b ta ρ w (vS cI)) (hk : -(2 ^ 64) < k ∧ k < 2 ^ 64 := by decide) : Ev K b (tOp (rI CMul fun i j => .int (i * j)) ta (tC (.int k))) ρ (w.b fun i => W.p (i * k)) (vS cI) := fun G0 H0 σ G H E Q q =>
  h G0 H0 σ G H E _ (w.mono (fun i q v G1 H1 e1 a1 => ⟨i, k, vI a1, rfl, .inr hk, q _ G1 H1 e1 (Dp.int _)⟩) q)
theorem ev_kmul {w : W Int} {k : Int} (h : Ev K b ta ρ w (vS cI)) (hk : -(2 ^ 64) < k ∧ k < 2 ^ 64 := by decide) : Ev K b (tOp (rI CMul fun i j => .int (i * j)) (tC (.int k)) ta) ρ (w.b fun i => W.p (k * i)) (vS cI) := fun G0 H0 σ G H E Q q =>
  h G0 H0 σ G H E _ (w.mono (fun i q v G1 H1 e1 a1 => ⟨k, i, rfl, vI a1, .inl hk, q _ G1 H1 e1 (Dp.int _)⟩) q)
theorem ev_divK {w : W Int} {k : Int} (h : Ev K b ta ρ w (vS cI)) (hk : 0 < k ∧ k < 1073741824 := by decide) : Ev K b (tOp (rI CDiv fun i j => .int (i / j)) ta (tC (.int k))) ρ (w.b fun i => W.p (i / k)) (vS cI) := fun G0 H0 σ G H E Q q =>
  h G0 H0 σ G H E _ (w.mono (fun i q v G1 H1 e1 a1 => ⟨i, k, vI a1, rfl, hk, q _ G1 H1 e1 (Dp.int _)⟩) q)
theorem ev_modK {w : W Int} {k : Int} (h : Ev K b ta ρ w (vS cI)) (hk : 0 < k := by decide) : Ev K b (tOp (rI (fun _ j => 0 < j) fun i j => .int (i % j)) ta (tC (.int k))) ρ (w.b fun i => W.p (i % k)) (vS cI) := fun G0 H0 σ G H E Q q =>
  h G0 H0 σ G H E _ (w.mono (fun i q v G1 H1 e1 a1 => ⟨i, k, vI a1, rfl, hk, q _ G1 H1 e1 (Dp.int _)⟩) q)
end
/-! ## the law itself -/
section
variable {K : PySem.W.Frag} {b : Option Addr} {G0 H0 G H G1 H1 G2 H2 : Hp} {ρ ρ' ρ1 ρ2 : List Slot} {σ : L2.St} {α β γ δ ε S S' B R : Type} {ta tb te tx t1 t2 t3 t4 t5 : TE} {t u : TT} {ts us : TS}
def spLaw (K : PySem.W.Frag) : Sp := fun vs H Q _ => ∃ (a : Addr) (ns : List Int), vs = [.ref a] ∧ SqL K H a (ns.map V.int) ∧ ns.length ≤ 63 ∧ ∀ H', Q (.bl true) H'
theorem dp_ints {a : Addr} {ns : List Int} (h : SqL K H a (ns.map V.int)) : Dp K H (.ref a) (cL cI ns) := by
  have allI : ∀ m : List Int, DpAll K H (m.map V.int) (m.map cI) := fun m => by
    induction m with
    | nil => exact .nil
    | cons i m ih => exact .cons (Dp.int i) ih
  exact Dp.lst h (allI ns)
/-- box = [digits, 0]; the rest -/
theorem law_box {i : Nat} {N : List Str} {vs : List V} {Q : VK} {E : XK} {wd : List Int → W (List Int)} {w : W (Fl S Empty Bool)} (h : spLaw K vs H Q E)
    (hd : ∀ ns, Ev K none te (vS (cL cI) ns :: List.replicate (N.length - 1) .none) (wd ns) (vS (cL cI))) (hl : ∀ ns : List Int, ns.length ≤ 63 → (wd ns).run fun ds => ds.length ≤ 100000)
    (hs : ∀ b, SW K b us ((List.replicate N.length Slot.none).set i .box) w (shN : S → List Slot) (shN : Empty → List Slot) (vS cB)) (hw : w.fin.run fun r => r = true) (hN : 1 ≤ N.length := by decide) :
    tSeq (tAsg (tLst (tCons te (tCons (tC (.int 0)) tNil))) (gName i)) us { nx := fun _ H' => Q .non H', rt := Q } (L2.start N vs) H := by
  obtain ⟨a, ns, rfl, hS, hlen, q⟩ := h
  have g0 : Good K none H H := ⟨by rw [hb_none]; exact Same.refl H, fun _ z => (by cases z)⟩
  have E0 : Env K none H H (vS (cL cI) ns :: List.replicate (N.length - 1) .none) (L2.start N [.ref a]) H H := Env.start (N := N) (ρ := [vS (cL cI) ns]) g0 ⟨dp_ints hS, trivial⟩ fun s hs => by
    rcases List.mem_cons.mp hs with e | e
    · rw [e]; rfl
    · cases e
  refine hd ns H H _ H H E0 _ ((wd ns).mono (fun ds hds v G1 H1 e1 a1 => ?_) (hl ns hlen))
  refine ⟨by show 2 ≤ sizeLine; decide, fun p hp => ?_⟩
  have a1' : Dp K G1 v (.list (ds.map cI)) := a1
  cases a1' with
  | @lst a2 vs2 _ h3 h4 =>
    have h5 := DpAll.ints h4
    subst h5
    have hg : G1 p = none := e1.good.noneG hp
    have gd : Good K (some p) G1 (upd H1 p (.lst [.ref a2, .int 0])) := by
      refine ⟨fun x u e => hb_some.mpr ⟨fun z => ?_, ?_⟩, fun z hz => ?_⟩
      · cases z
        rw [e] at hg
        cases hg
      · have := hb_sub _ _ (e1.good.gh x u e)
        rw [upd_ne (ne_of_none this hp)]
        exact this
      · cases hz
        exact ⟨a2, ds, 0, upd_same, h3, hds, Int.le_refl 0⟩
    have hlen2 : (L2.start N [V.ref a]).length = N.length := by
      unfold L2.start
      rw [List.length_append, List.length_map, List.length_replicate]
      show 1 + (N.length - 1) = N.length
      omega
    have E1 : Env K (some p) G1 (upd H1 p (.lst [.ref a2, .int 0])) ((List.replicate N.length Slot.none).set i .box) ((L2.start N [.ref a]).set i (some (.ref p))) G1 (upd H1 p (.lst [.ref a2, .int 0])) := by
      refine Env.set (ρ := List.replicate N.length Slot.none) (s := .box) ⟨gd, gd.ext, by rw [List.length_replicate, hlen2], fun j s hj => ?_, fun j k a1 d1 a2 d2 p q _ h1 => ?_⟩ ⟨p, rfl, rfl⟩ (fun d => ⟨fun z => (by cases z), fun z => (by cases z)⟩) fun q d p hq => (by cases hq)
      · have := (List.mem_replicate.mp (List.mem_of_getElem? hj)).2
        subst this
        trivial
      · have := (List.mem_replicate.mp (List.mem_of_getElem? h1)).2
        cases this
    refine hs (some p) G1 _ _ _ G1 _ E1 (w.mono (fun f z => ?_) hw)
    cases f with
    | nx x => exact z.elim
    | brk x => exact x.elim
    | ct x => exact x.elim
    | ret r =>
      intro v G' H' _ e a
      have z : r = true := z
      subst z
      rw [vB a]
      exact q H'
end
section
variable {K : PySem.W.Frag} {b : Option Addr} {G0 H0 G H G1 H1 G2 H2 : Hp} {ρ ρ' ρ1 ρ2 : List Slot} {σ : L2.St} {α β γ δ ε S S' B R : Type} {ta tb te tx t1 t2 t3 t4 t5 : TE} {t u : TT} {ts us : TS}
  {sh : S → List Slot} {sh' : S' → List Slot} {sb : B → List Slot} {ret : R → Slot}
/-- an if that stands last -/
theorem sw_ifl {wc : W Bool} {wa wb : W (Fl S B R)} {t1 t2 : TS} (h : EvT K b t ρ wc) (ha : SW K b t1 ρ wa sh sb ret) (hb' : SW K b t2 ρ wb sh sb ret) :
    SW K b (tSeq (tIfS t t1 t2) tNext) ρ (wc.b fun c => if c = true then wa else wb) sh sb ret := fun G0 H0 D σ G H E q =>
  h G0 H0 σ G H E _ (wc.mono (fun c q G1 H1 e1 => by
    cases c with
    | true => exact ha G0 H0 D σ G1 H1 (E.step e1) (wa.mono (fun f z => z.mono e1.gg) q)
    | false => exact hb' G0 H0 D σ G1 H1 (E.step e1) (wb.mono (fun f z => z.mono e1.gg) q)) q)
/-- a block within a block -/
theorem sw_blk {w : W (Fl S' B R)} {k : S' → W (Fl S B R)} (h : SW K b ts ρ w sh' sb ret) (hk : ∀ s, SW K b us (sh' s) (k s) sh sb ret) : SW K b (tSeq ts us) ρ (w.andThen k) sh sb ret := fun G0 H0 D σ G H E q =>
  h G0 H0 { D with nx := us D } σ G H E (w.mono (fun f z => by
    cases f with
    | nx s => exact fun σ' G' H' s' E' => hk s G0 H0 D σ' G' H' E' ((k s).mono (fun f z => z.mono s') z)
    | brk x => exact z
    | ct x => exact z
    | ret r => exact z) q)
end
end Z
set_option maxHeartbeats 1000000
namespace ZM
open PySem PySem.Spec PyProof.Rows L2 RZ
open PySem.Sem (wp)
section
variable {prog : Program} {w : World} {A : Around} {E : Value → Shared → Prop} {s : Shared}
theorem zipM_next_item {z TI TO i1 i2 l1 l2 : Addr} {k1 k2 : Nat} {xs ys : Array Value} {x y a b : Value} {Q : Value → Shared → Prop} (D : ZipApart z TI TO i1 i2 l1 l2)
    (gz : IsZip s.heap z TI TO .none) (gTI : IsPair s.heap TI (.ref i1) (.ref i2)) (gTO : IsPair s.heap TO a b)
    (h1 : s.heap.IsTupleIter i1 l1 k1) (h2 : s.heap.IsListIter i2 l2 k2) (gl1 : s.heap.IsTuple l1 xs) (gl2 : s.heap.IsList l2 ys) (gx : xs[k1]? = some x) (gy : ys[k2]? = some y)
    (gQ : ∀ h', IsZip h' z TI TO (rawInt s.heap.objs.size) → IsPair h' TO x y → h'.IsTupleIter i1 l1 (k1 + 1) → h'.IsListIter i2 l2 (k2 + 1) → IsPair h' s.heap.objs.size x y → h'.objs.size = s.heap.objs.size + 1 →
      (∀ c o, c ≠ z → c ≠ TO → c ≠ i1 → c ≠ i2 → s.heap.get? c = some o → h'.get? c = some o) → Q (.ref s.heap.objs.size) { s with heap := h' }) :
    wpAny (model prog w) A (Builtin.«zip.__next__» ⟨[.ref z], []⟩) (fun fin s' => ∃ v, fin = .done (.ret v) ∧ Q v s') E s := by
  show wpAny _ _ (field (.ref z) 2 >>= _) _ _ _; refine wpAny_bind (wpAny_field gz rfl (x := .bool false) rfl ?_); show wpAny _ _ (field (.ref z) 3 >>= _) _ _ _; refine wpAny_bind (wpAny_field gz rfl (x := .ref TI) rfl ?_); refine wpAny_bind (wpAny_seqItems gTI rfl ?_); show wpAny _ _ (Builtin.SmallTypes.ownedTupleIsFree (.ref z) >>= _) _ _ _; refine wpAny_bind ?_; unfold Builtin.SmallTypes.ownedTupleIsFree; refine wpAny_bind (wpAny_field gz rfl (x := .none) rfl (wpAny_pure ?_)); simp only [if_true]; refine wpAny_bind (wpAny_rule ?_); refine wpAny_bind (wpAny_field gz rfl (x := .ref TO) rfl ?_); refine wpAny_bind (wpAny_setField_rec gz (by simp) fun h₁ gz₁ hs₁ => ?_); replace gz₁ : IsZip h₁ z TI TO .ellipsis := gz₁; refine wpAny_bind ?_; simp only [List.zipIdx_cons, List.zipIdx_nil, List.forIn_cons, List.forIn_nil]; refine wpAny_bind (wpAny_bind (wpAny_onRaise ?_)); show wpAny _ _ (Builtin.SmallTypes.nextOf (.ref i1) >>= _) _ _ _; refine wpAny_bind (nextOf_tuple_item (h1.extBut hs₁.extBut D.i1z) (gl1.extBut hs₁.extBut D.l1z) gx fun h₂ h1₂ hs₂ => wpAny_pure ?_); have gTO₂ : IsPair h₂ TO a b := hs₂.extBut _ _ D.TOi1 (hs₁.extBut _ _ D.TOz gTO); refine wpAny_bind (wpAny_seqItems gTO₂ rfl ?_); refine wpAny_bind (wpAny_updateSeq_pair gTO₂ fun h₃ gTO₃ hs₃ => ?_); replace gTO₃ : IsPair h₃ TO x b := gTO₃; refine wpAny_bind (wpAny_letGo (wpAny_pure ?_)); refine wpAny_bind (wpAny_bind (wpAny_onRaise ?_)); show wpAny _ _ (Builtin.SmallTypes.nextOf (.ref i2) >>= _) _ _ _; refine wpAny_bind (wpAny_nextOf_list_item (((h2.extBut hs₁.extBut D.i2z).extBut hs₂.extBut D.i12.symm).extBut hs₃.extBut D.TOi2.symm)
    (((gl2.extBut hs₁.extBut D.l2z).extBut hs₂.extBut D.l2i1).extBut hs₃.extBut D.l2TO) gy fun h₄ h2₄ hs₄ => wpAny_pure ?_)
  have gTO₄ : IsPair h₄ TO x b := hs₄.extBut _ _ D.TOi2 gTO₃; refine wpAny_bind (wpAny_seqItems gTO₄ rfl ?_); refine wpAny_bind (wpAny_updateSeq_pair gTO₄ fun h₅ gTO₅ hs₅ => ?_); replace gTO₅ : IsPair h₅ TO x y := gTO₅; refine wpAny_bind (wpAny_letGo (wpAny_pure (wpAny_pure ?_))); refine wpAny_bind (wpAny_seqItems gTO₅ rfl ?_); refine wpAny_bind (wpAny_newTuple ?_); have hsz : h₅.objs.size = s.heap.objs.size := by rw [hs₅.1, hs₄.1, hs₃.1, hs₂.1, hs₁.1]
  have gz₅ : IsZip h₅ z TI TO .ellipsis := hs₅.extBut _ _ D.TOz.symm (hs₄.extBut _ _ D.i2z.symm (hs₃.extBut _ _ D.TOz.symm (hs₂.extBut _ _ D.i1z.symm gz₁))); have gk₅ : ∀ c o, c ≠ z → c ≠ TO → c ≠ i1 → c ≠ i2 → s.heap.get? c = some o → h₅.get? c = some o := fun c o c1 c2 c3 c4 e =>
    hs₅.extBut _ _ c2 (hs₄.extBut _ _ c4 (hs₃.extBut _ _ c2 (hs₂.extBut _ _ c3 (hs₁.extBut _ _ c1 e))))
  have h1₅ : h₅.IsTupleIter i1 l1 (k1 + 1) := ((h1₂.extBut hs₃.extBut D.TOi1.symm).extBut hs₄.extBut D.i12).extBut hs₅.extBut D.TOi1.symm; have h2₅ : h₅.IsListIter i2 l2 (k2 + 1) := h2₄.extBut hs₅.extBut D.TOi2.symm; have hzlt : z < h₅.objs.size := Heap.lt_size gz₅; have hTOlt : TO < h₅.objs.size := Heap.lt_size gTO₅; have gi1lt : i1 < h₅.objs.size := by obtain ⟨_, e, _⟩ := h1₅; exact Heap.lt_size e
  have gi2lt : i2 < h₅.objs.size := by obtain ⟨_, e, _⟩ := h2₅; exact Heap.lt_size e
  show wpAny _ _ (Builtin.SmallTypes.ownedTupleHandOut (.ref z) (.ref h₅.objs.size) >>= _) _ _ _; refine wpAny_bind ?_; unfold Builtin.SmallTypes.ownedTupleHandOut; have gz₆ : IsZip (h₅.push { cls := .type "tuple", data := .seq #[x, y] }) z TI TO .ellipsis := Heap.get?_push_of_some _ gz₅; refine wpAny_bind (wpAny_setField_rec gz₆ (by simp) fun h₇ gz₇ hs₇ => ?_); replace gz₇ : IsZip h₇ z TI TO (rawInt h₅.objs.size) := gz₇; refine wpAny_setField_rec gz₇ (by simp) fun h₈ gz₈ hs₈ => ?_
  replace gz₈ : IsZip h₈ z TI TO (rawInt h₅.objs.size) := gz₈; have up : ∀ c o, c ≠ z → h₅.get? c = some o → h₈.get? c = some o := fun c o c1 e => hs₈.extBut _ _ c1 (hs₇.extBut _ _ c1 (Heap.get?_push_of_some _ e))
  have hT₈ : IsPair h₈ h₅.objs.size x y := hs₈.extBut _ _ (Nat.ne_of_gt hzlt) (hs₇.extBut _ _ (Nat.ne_of_gt hzlt) (Heap.get?_push_size _ rfl)); have gz8 : h₈.objs.size = h₅.objs.size + 1 := by rw [hs₈.1, hs₇.1, Heap.size_push]
  rw [hsz] at gz₈ hT₈ gz8; refine wpAny_pure ⟨_, rfl, ?_⟩; show Q (.ref h₅.objs.size) _; rw [hsz]; exact gQ h₈ gz₈ (up _ _ D.TOz gTO₅) (h1₅.at fun o e => up _ o D.i1z e) (h2₅.at fun o e => up _ o D.i2z e) hT₈ gz8 fun c o c1 c2 c3 c4 e => up c o c1 (gk₅ c o c1 c2 c3 c4 e)
theorem zipM_next_end {z TI TO i1 i2 l1 l2 : Addr} {k1 k2 : Nat} {xs ys : Array Value} {a b : Value} {Q : Fin → Shared → Prop} (hh : A.handled = none) (D : ZipApart z TI TO i1 i2 l1 l2)
    (gz : IsZip s.heap z TI TO .none) (gTI : IsPair s.heap TI (.ref i1) (.ref i2)) (gTO : IsPair s.heap TO a b)
    (h1 : s.heap.IsTupleIter i1 l1 k1) (h2 : s.heap.IsListIter i2 l2 k2) (gl1 : s.heap.IsTuple l1 xs) (gl2 : s.heap.IsList l2 ys) (gend : xs[k1]? = none ∨ ys[k2]? = none)
    (gE : ∀ h' e, (∀ c o, c ≠ z → c ≠ TO → c ≠ i1 → c ≠ i2 → s.heap.get? c = some o → h'.get? c = some o) → (∃ o, h'.get? e = some o ∧ o.cls = .type "StopIteration") → E (.ref e) { s with heap := h' }) :
    wpAny (model prog w) A (Builtin.«zip.__next__» ⟨[.ref z], []⟩) Q E s := by
  show wpAny _ _ (field (.ref z) 2 >>= _) _ _ _; refine wpAny_bind (wpAny_field gz rfl (x := .bool false) rfl ?_); show wpAny _ _ (field (.ref z) 3 >>= _) _ _ _; refine wpAny_bind (wpAny_field gz rfl (x := .ref TI) rfl ?_); refine wpAny_bind (wpAny_seqItems gTI rfl ?_); show wpAny _ _ (Builtin.SmallTypes.ownedTupleIsFree (.ref z) >>= _) _ _ _; refine wpAny_bind ?_; unfold Builtin.SmallTypes.ownedTupleIsFree; refine wpAny_bind (wpAny_field gz rfl (x := .none) rfl (wpAny_pure ?_)); simp only [if_true]; refine wpAny_bind (wpAny_rule ?_); refine wpAny_bind (wpAny_field gz rfl (x := .ref TO) rfl ?_); refine wpAny_bind (wpAny_setField_rec gz (by simp) fun h₁ gz₁ hs₁ => ?_); replace gz₁ : IsZip h₁ z TI TO .ellipsis := gz₁; refine wpAny_bind ?_; simp only [List.zipIdx_cons, List.zipIdx_nil, List.forIn_cons, List.forIn_nil]; refine wpAny_bind (wpAny_bind (wpAny_onRaise ?_)); show wpAny _ _ (Builtin.SmallTypes.nextOf (.ref i1) >>= _) _ _ _
  cases gx : xs[k1]? with
  | none =>
    refine wpAny_bind (nextOf_tuple_end hh (h1.extBut hs₁.extBut D.i1z) (gl1.extBut hs₁.extBut D.l1z) gx fun h₂ e hs₂ he => ?_); obtain ⟨oe, goe, hce⟩ := he; have gz₂ : IsZip h₂ z TI TO .ellipsis := hs₂ _ _ D.i1z.symm gz₁; have hez : e ≠ z := fun x => by subst x; rw [gz₂] at goe; cases goe; simp at hce
    refine wpAny_setField_rec gz₂ (by simp) fun h₃ _ hs₃ => gE h₃ e (fun c o c1 _ c3 _ x => hs₃.extBut _ _ c1 (hs₂ _ _ c3 (hs₁.extBut _ _ c1 x))) ⟨oe, hs₃.extBut _ _ hez goe, hce⟩
  | some x =>
    have gy : ys[k2]? = none := by rcases gend with h | h; rw [gx] at h; cases h; exact h
    refine wpAny_bind (nextOf_tuple_item (h1.extBut hs₁.extBut D.i1z) (gl1.extBut hs₁.extBut D.l1z) gx fun h₂ h1₂ hs₂ => wpAny_pure ?_); have gTO₂ : IsPair h₂ TO a b := hs₂.extBut _ _ D.TOi1 (hs₁.extBut _ _ D.TOz gTO); refine wpAny_bind (wpAny_seqItems gTO₂ rfl ?_); refine wpAny_bind (wpAny_updateSeq_pair gTO₂ fun h₃ gTO₃ hs₃ => ?_); refine wpAny_bind (wpAny_letGo (wpAny_pure ?_)); refine wpAny_bind (wpAny_bind (wpAny_onRaise ?_)); show wpAny _ _ (Builtin.SmallTypes.nextOf (.ref i2) >>= _) _ _ _; refine wpAny_bind (wpAny_nextOf_list_end hh (((h2.extBut hs₁.extBut D.i2z).extBut hs₂.extBut D.i12.symm).extBut hs₃.extBut D.TOi2.symm)
      (((gl2.extBut hs₁.extBut D.l2z).extBut hs₂.extBut D.l2i1).extBut hs₃.extBut D.l2TO) gy fun h₄ e hs₄ he => ?_)
    obtain ⟨oe, goe, hce⟩ := he; have gz₄ : IsZip h₄ z TI TO .ellipsis := hs₄ _ _ D.i2z.symm (hs₃.extBut _ _ D.TOz.symm (hs₂.extBut _ _ D.i1z.symm gz₁)); have hez : e ≠ z := fun x => by subst x; rw [gz₄] at goe; cases goe; simp at hce
    refine wpAny_setField_rec gz₄ (by simp) fun h₅ _ hs₅ => gE h₅ e (fun c o c1 c2 c3 c4 x => hs₅.extBut _ _ c1 (hs₄ _ _ c4 (hs₃.extBut _ _ c2 (hs₂.extBut _ _ c3 (hs₁.extBut _ _ c1 x))))) ⟨oe, hs₅.extBut _ _ hez goe, hce⟩
theorem pyNext_zipM_item {z TI TO i1 i2 l1 l2 : Addr} {k1 k2 : Nat} {xs ys : Array Value} {x y a b : Value} {Q : Option Value → Shared → Prop} (D : ZipApart z TI TO i1 i2 l1 l2)
    (gz : IsZip s.heap z TI TO .none) (gTI : IsPair s.heap TI (.ref i1) (.ref i2)) (gTO : IsPair s.heap TO a b)
    (h1 : s.heap.IsTupleIter i1 l1 k1) (h2 : s.heap.IsListIter i2 l2 k2) (gl1 : s.heap.IsTuple l1 xs) (gl2 : s.heap.IsList l2 ys) (gx : xs[k1]? = some x) (gy : ys[k2]? = some y)
    (gQ : ∀ h', IsZip h' z TI TO (rawInt s.heap.objs.size) → IsPair h' TO x y → h'.IsTupleIter i1 l1 (k1 + 1) → h'.IsListIter i2 l2 (k2 + 1) → IsPair h' s.heap.objs.size x y → h'.objs.size = s.heap.objs.size + 1 →
      (∀ c o, c ≠ z → c ≠ TO → c ≠ i1 → c ≠ i2 → s.heap.get? c = some o → h'.get? c = some o) → Q (some (.ref s.heap.objs.size)) { s with heap := h' }) :
    wpAny (model prog w) A (pyNext (.ref z)) Q E s := by
  have hT : s.TypeIs (.ref z) "zip" := ⟨_, gz, rfl⟩; unfold pyNext; exact wpAny_bind (wpAny_attempt (wpAny_callSpecial?_slot (name := Str.ofString "__next__") hT F.slot_zip_next
    (wpAny_call_entry F.slot_zip_next hT F.entry_zip_next
      (zipM_next_item D gz gTI gTO h1 h2 gl1 gl2 gx gy fun h' a1 a2 a3 a4 a5 a6 a7 => wpAny_pure (gQ h' a1 a2 a3 a4 a5 a6 a7)) (F.args_zip_next_1 _))))
theorem pyNext_zipM_end {z TI TO i1 i2 l1 l2 : Addr} {k1 k2 : Nat} {xs ys : Array Value} {a b : Value} {Q : Option Value → Shared → Prop} (hh : A.handled = none) (D : ZipApart z TI TO i1 i2 l1 l2)
    (gz : IsZip s.heap z TI TO .none) (gTI : IsPair s.heap TI (.ref i1) (.ref i2)) (gTO : IsPair s.heap TO a b)
    (h1 : s.heap.IsTupleIter i1 l1 k1) (h2 : s.heap.IsListIter i2 l2 k2) (gl1 : s.heap.IsTuple l1 xs) (gl2 : s.heap.IsList l2 ys) (gend : xs[k1]? = none ∨ ys[k2]? = none)
    (gQ : ∀ h', (∀ c o, c ≠ z → c ≠ TO → c ≠ i1 → c ≠ i2 → s.heap.get? c = some o → h'.get? c = some o) → Q none { s with heap := h' }) : wpAny (model prog w) A (pyNext (.ref z)) Q E s := by
  have hT : s.TypeIs (.ref z) "zip" := ⟨_, gz, rfl⟩; unfold pyNext; refine wpAny_bind (wpAny_attempt (wpAny_callSpecial?_slot (name := Str.ofString "__next__") hT F.slot_zip_next
    (wpAny_call_entry F.slot_zip_next hT F.entry_zip_next (zipM_next_end hh D gz gTI gTO h1 h2 gl1 gl2 gend fun h' e hk he => ?_) (F.args_zip_next_1 _))))
  obtain ⟨o, ho, hc⟩ := he; refine wpAny_bind (wpAny_isInstance (T := "StopIteration") (b := true) ⟨o, ho, hc⟩ isSubtype_stop ?_); exact wpAny_pure (gQ _ hk)
abbrev zipMH1 (h : Heap) (l1 : Addr) : Heap := h.push { cls := .type "tuple_iterator", data := .fields #[.ref l1, .int 0 0] }
abbrev zipMH2 (h : Heap) (l1 l2 : Addr) : Heap := (zipMH1 h l1).push { cls := .type "list_iterator", data := .fields #[.ref l2, .int 0 0] }
abbrev zipMH3 (h : Heap) (l1 l2 : Addr) : Heap := (zipMH2 h l1 l2).push { cls := .type "tuple", data := .seq #[.ref h.objs.size, .ref (zipMH1 h l1).objs.size] }
abbrev zipMH4 (h : Heap) (l1 l2 : Addr) : Heap := (zipMH3 h l1 l2).push { cls := .type "tuple", data := .seq #[.none, .none] }
abbrev zipMH5 (h : Heap) (l1 l2 : Addr) : Heap := (zipMH4 h l1 l2).push { cls := .type "zip", data := .fields #[.none, .bool false, .bool false, .ref (zipMH2 h l1 l2).objs.size, .ref (zipMH3 h l1 l2).objs.size] }
theorem meets_zipM_new (l1 l2 : Addr) (xs ys : Array Value) :
    Meets (Builtin.«zip.__new__» ⟨[.type "zip", .ref l1, .ref l2], []⟩) (fun _ R s => s.heap.IsTuple l1 xs ∧ s.heap.IsList l2 ys ∧
      R (.ok (.ret (.ref (zipMH4 s.heap l1 l2).objs.size))) { s with heap := zipMH5 s.heap l1 l2 }) :=
  .of_wp fun prog w A R s h => by
    obtain ⟨hp, g, d, tk, os⟩ := s; obtain ⟨gl1, gl2, h⟩ := h; have hsub := sub_zip; have hL1 : Heap.IsTuple (Shared.heap ⟨hp, g, d, tk, os⟩) l1 xs := gl1; have hL2 : Heap.IsList (Shared.heap ⟨hp.push { cls := .type "tuple_iterator", data := .fields #[.ref l1, .int 0 0] }, g, d, tk, os⟩) l2 ys := Heap.IsList.push gl2 _; wp_walk using wpAny_pyIter_tuple hL1, wpAny_pyIter_list hL2; exact ⟨_, rfl, h⟩
section
variable {prog : Program} {w : World} {A : Around} {E : Value → Shared → Prop} {s : Shared}
theorem call_zipM {l1 l2 : Addr} {xs ys : Array Value} {Q : Value → Shared → Prop} (gl1 : s.heap.IsTuple l1 xs) (gl2 : s.heap.IsList l2 ys)
    (h : ∀ h', IsZip h' (s.heap.objs.size + 4) (s.heap.objs.size + 2) (s.heap.objs.size + 3) .none → IsPair h' (s.heap.objs.size + 2) (.ref s.heap.objs.size) (.ref (s.heap.objs.size + 1)) →
      IsPair h' (s.heap.objs.size + 3) .none .none → h'.IsTupleIter s.heap.objs.size l1 0 → h'.IsListIter (s.heap.objs.size + 1) l2 0 → h'.objs.size = s.heap.objs.size + 5 →
      (∀ c o, s.heap.get? c = some o → h'.get? c = some o) → Q (.ref (s.heap.objs.size + 4)) { s with heap := h' }) :
    wpAny (model prog w) A (call (.type "zip") [.ref l1, .ref l2]) Q E s := by
  refine callType_new F.called_zip (by decide) (F.typeCall_zip_2 _ _) (F.newCall_zip_2 _ _) (fun obj => F.args_object_init_3 obj _ _) F.entry_zip_new
    (meets_zipM_new l1 l2 xs ys) ⟨gl1, gl2, ?_⟩
  have z1 : (zipMH1 s.heap l1).objs.size = s.heap.objs.size + 1 := Heap.size_push ..; have z2 : (zipMH2 s.heap l1 l2).objs.size = s.heap.objs.size + 2 := by rw [Heap.size_push, z1]
  have z3 : (zipMH3 s.heap l1 l2).objs.size = s.heap.objs.size + 3 := by rw [Heap.size_push, z2]
  have z4 : (zipMH4 s.heap l1 l2).objs.size = s.heap.objs.size + 4 := by rw [Heap.size_push, z3]
  have z5 : (zipMH5 s.heap l1 l2).objs.size = s.heap.objs.size + 5 := by rw [Heap.size_push, z4]
  have g5 : (zipMH5 s.heap l1 l2).get? (zipMH4 s.heap l1 l2).objs.size = some _ := Heap.get?_push_size _ rfl; have g4 : (zipMH5 s.heap l1 l2).get? (zipMH3 s.heap l1 l2).objs.size = some _ := Heap.get?_push_of_some _ (Heap.get?_push_size _ rfl); have g3 : (zipMH5 s.heap l1 l2).get? (zipMH2 s.heap l1 l2).objs.size = some _ := Heap.get?_push_of_some _ (Heap.get?_push_of_some _ (Heap.get?_push_size _ rfl)); have g2 : (zipMH5 s.heap l1 l2).get? (zipMH1 s.heap l1).objs.size = some _ := Heap.get?_push_of_some _ (Heap.get?_push_of_some _ (Heap.get?_push_of_some _ (Heap.get?_push_size _ rfl))); have g1 : (zipMH5 s.heap l1 l2).get? s.heap.objs.size = some _ := Heap.get?_push_of_some _ (Heap.get?_push_of_some _ (Heap.get?_push_of_some _ (Heap.get?_push_of_some _ (Heap.get?_push_size _ rfl)))); show _ ∧ _
  rw [z2, z3, z4] at g5; rw [z1, z2] at g3; rw [z3] at g4; rw [z1] at g2; rw [z4]; exact ⟨⟨_, g5, rfl⟩, h _ g5 g3 g4 ⟨_, g1, rfl, rfl⟩ ⟨_, g2, rfl, rfl⟩ z5 fun c o x =>
    Heap.get?_push_of_some _ (Heap.get?_push_of_some _ (Heap.get?_push_of_some _ (Heap.get?_push_of_some _ (Heap.get?_push_of_some _ x))))⟩
end
/-- the tuple at a and the list at b as they stand at each turn, the items in new pairs -/
def ItzM (K : PySem.W.Frag) (a b : Addr) : It :=
  ⟨fun i H => ∃ (xs ys : List V) (x y : V), SqT K H a xs ∧ SqL K H b ys ∧ xs[i]? = some x ∧ ys[i]? = some y, fun i H v H' => ∃ T x y, v = .ref T ∧ H T = none ∧ H' = upd H T (.tup [x, y]) ∧ (∀ xs, SqT K H a xs → xs[i]? = some x) ∧ ∀ ys, SqL K H b ys → ys[i]? = some y, fun i H => ∃ xs ys : List V, SqT K H a xs ∧ SqL K H b ys ∧ (xs.length ≤ i ∨ ys.length ≤ i)⟩
theorem turn_zipM {P : Program} {w : World} {K : PySem.W.Frag} {elts : List Expr} {kk : Nat} {tpos : Pos} {a b z TI TO i1 i2 : Addr} (D : ZipApart z TI TO i1 i2 a b) :
    Turn P w K (.Tuple elts kk tpos) (ItzM K a b) [z, TI, TO, i1, i2] z (fun i h => IsZip h z TI TO .none ∧ IsPair h TI (.ref i1) (.ref i2) ∧ (∃ x y, IsPair h TO x y) ∧ h.IsTupleIter i1 a i ∧ h.IsListIter i2 b i) where
  mem := by simp
  obj := fun i h st c hc => by
    obtain ⟨gz, gTI, ⟨x, y, gTO⟩, ⟨o1, e1, _, d1⟩, ⟨o2, e2, _, d2⟩⟩ := st; have e' : c = z ∨ c = TI ∨ c = TO ∨ c = i1 ∨ c = i2 := by simpa using hc
    rcases e' with q | q | q | q | q
    · rw [q]; exact ⟨_, gz, fun v q => nomatch q⟩
    · rw [q]; exact ⟨_, gTI, fun v q => nomatch q⟩
    · rw [q]; exact ⟨_, gTO, fun v q => nomatch q⟩
    · rw [q]; exact ⟨o1, e1, fun v q => by rw [d1] at q; cases q⟩
    · rw [q]; exact ⟨o2, e2, fun v q => by rw [d2] at q; cases q⟩
  keep := fun i h h' st k => by
    obtain ⟨gz, gTI, ⟨x, y, gTO⟩, h1, h2⟩ := st; exact ⟨k z (by simp) _ gz, k TI (by simp) _ gTI, ⟨x, y, k TO (by simp) _ gTO⟩, h1.at fun o q => k i1 (by simp) o q, h2.at fun o q => k i2 (by simp) o q⟩
  item := by
    intro X hP hw hK hc i pins s σ H E I hf st hg
    subst hP hw hK; obtain ⟨gz, gTI, ⟨x0, y0, gTO⟩, h1, h2⟩ := st; obtain ⟨xs, ys, x, y, gqx, gqy, gx, gy⟩ := hg; obtain ⟨its, rv, p, _⟩ := I.tuple gqx; obtain ⟨its2, rv2, p2, _⟩ := I.list gqy; obtain ⟨u, hu, ru⟩ := rv.get gx; obtain ⟨u2, hu2, ru2⟩ := rv2.get gy; have hzl : z < s.heap.objs.size := Heap.lt_size gz; refine pyNext_zipM_item D gz gTI gTO h1 h2 p p2.isList (x := u) (y := u2) (by simpa using hu) (by simpa using hu2) fun h' z' TO' h1' h2' hT hsz hk => ?_
    refine ⟨_, rfl, wpAny_letOwnedTupleGo_zip (s := { s with heap := h' }) z' fun h'' z'' sb => ?_⟩; have hT2 : h''.get? s.heap.objs.size = some { cls := .type "tuple", data := .seq #[u, u2] } := (sb.2 _ (Nat.ne_of_gt hzl)).trans hT; have new : ObjOk X.prog X.w (upd H s.heap.objs.size (.tup [x, y])) h'' s.heap.objs.size (.tup [x, y]) :=
      ⟨by show 2 ≤ sizeLine; decide, [u, u2], .cons ru (.cons ru2 .nil), ⟨_, hT2, rfl, _, rfl⟩⟩
    have I1 : Inv X pins σ (upd H s.heap.objs.size (.tup [x, y])) { s with heap := h'' } :=
      I.turnedNew (t' := s.toks) (ch := [z, TI, TO, i1, i2]) (fun c o hb q => (sb.2 c (fun q' => hb (by simp [q']))).trans (hk c o (fun q' => hb (by simp [q'])) (fun q' => hb (by simp [q'])) (fun q' => hb (by simp [q'])) (fun q' => hb (by simp [q'])) q)) hf (Nat.le_refl _) new
    refine ⟨.ref s.heap.objs.size, _, I1, rfl, ⟨_, x, y, rfl, I.hok.fresh (Nat.le_refl _), rfl, fun l hl => by rw [I.tuple_inj hl gqx]; exact gx, fun l hl => by rw [I.list_inj hl gqy]; exact gy⟩, ⟨z'', ?_, ⟨u, u2, ?_⟩, ?_, ?_⟩, fun c hcm => ?_⟩
    · exact (sb.2 _ D.TIz).trans (hk _ _ D.TIz D.TITO D.TIi1 D.TIi2 gTI)
    · exact (sb.2 _ D.TOz).trans TO'
    · exact h1'.at fun o q => (sb.2 _ D.i1z).trans q
    · exact h2'.at fun o q => (sb.2 _ D.i2z).trans q
    · have hlt : c < s.heap.objs.size := by
        have e' : c = z ∨ c = TI ∨ c = TO ∨ c = i1 ∨ c = i2 := by simpa using hcm
        rcases e' with q | q | q | q | q
        · rw [q]; exact hzl
        · rw [q]; exact Heap.lt_size gTI
        · rw [q]; exact Heap.lt_size gTO
        · rw [q]; obtain ⟨_, e1, _⟩ := h1; exact Heap.lt_size e1
        · rw [q]; obtain ⟨_, e2, _⟩ := h2; exact Heap.lt_size e2
      rw [upd_ne (Nat.ne_of_lt hlt)]; exact (hf c hcm).1
  done := by
    intro X hP hw hK hc i pins s σ H E I hf st hg
    subst hP hw hK; obtain ⟨gz, gTI, ⟨x0, y0, gTO⟩, h1, h2⟩ := st; obtain ⟨xs, ys, gqx, gqy, gend⟩ := hg; obtain ⟨its, rv, p, _⟩ := I.tuple gqx; obtain ⟨its2, rv2, p2, _⟩ := I.list gqy; have l1 := rv.length; have l2 := rv2.length; have he : its.toArray[i]? = none ∨ its2.toArray[i]? = none := by
      rcases gend with q | q
      · exact .inl (by simp; omega)
      · exact .inr (by simp; omega)
    exact pyNext_zipM_end (I.ok.hd hc) D gz gTI gTO h1 h2 p p2.isList he fun h' hk => ⟨rfl, I.turnedL (t' := s.toks) (ch := [z, TI, TO, i1, i2]) (fun c o hb q =>
      hk c o (fun q' => hb (by simp [q'])) (fun q' => hb (by simp [q'])) (fun q' => hb (by simp [q'])) (fun q' => hb (by simp [q'])) q) hf⟩
  self := fun A i s Q E st h => wpAny_pyIter_zip st.1 h
def iZipM (K : PySem.W.Frag) (ta : TA) : TI := fun σ H R => ta σ H fun vs H1 => ∃ a b xs ys, vs = [.ref a, .ref b] ∧ SqT K H1 a xs ∧ SqL K H1 b ys ∧ R (ItzM K a b) H1
theorem pi_zipM {X : Cx} {e e2 : Expr} {ta : TA} {p pos tpos : Pos} {elts : List Expr} {kk : Nat} (hg : Gl X "zip") (hm : X.mg "zip" = none) (ha : PA X [e, e2] ta) (hs : starEach [e, e2] X.env = (false, eval e X.env) :: starEach [e2] X.env := by rfl) (hpl : (backTo pos (starEach [e2] X.env)).any (·.1) = false := by rfl) :
    PI X (.Tuple elts kk tpos) (.Call (.Name "zip" p) [e, e2] [] pos) (iZipM X.K ta) := by
  refine ⟨fun pins s σ H R I h => ?_⟩
  refine Call_ (ld_blt I hg hm PyProof.Rows.boot_zip (PyProof.Rows.callWith_type1 (thn (ha.run pos pins s σ H _ I h) fun us s1 ⟨vs, H1, I1, r1, q1⟩ => ?_) hs hpl))
  obtain ⟨a, b, xs, ys, ex, hqx, hqy, q⟩ := q1
  subst ex
  cases r1 with
  | cons r rr =>
    cases rr with
    | cons r' rr =>
      cases rr; cases r; cases r'
      have fr : ∀ c, s1.heap.objs.size ≤ c → FpOk X pins H1 c := fun c hle => I1.fpOk hle (I1.hok.fresh hle)
      obtain ⟨its, rv, p1, _⟩ := I1.tuple hqx
      obtain ⟨its2, rv2, p2, _⟩ := I1.list hqy
      obtain ⟨o1, ho1, _⟩ := id p1
      refine call_zipM (show s1.heap.IsTuple a its.toArray from p1) p2.isList fun h' hz hTI hTO h1 h2 hsz hk => wpAny_pyIter_zip hz ?_
      have I2 : Inv X pins σ H1 { s1 with heap := h' } := I1.kept (t' := s1.toks) hk
      refine ⟨s1.heap.objs.size + 4, [s1.heap.objs.size + 4, s1.heap.objs.size + 2, s1.heap.objs.size + 3, s1.heap.objs.size, s1.heap.objs.size + 1], _, _, H1, rfl, I2, turn_zipM (PySem.W.ktu_apart s1.heap.objs.size a b (Heap.lt_size ho1) p2.lt), ⟨hz, hTI, ⟨_, _, hTO⟩, h1, h2⟩, fun c hcm => fr c ?_, q⟩
      have e' : c = s1.heap.objs.size + 4 ∨ c = s1.heap.objs.size + 2 ∨ c = s1.heap.objs.size + 3 ∨ c = s1.heap.objs.size ∨ c = s1.heap.objs.size + 1 := (by simpa using hcm)
      rcases e' with k | k | k | k | k <;> rw [k] <;> first | exact Nat.le_add_right _ _ | exact Nat.le_refl _
end
end ZM
namespace Z
open PySem PySem.Spec PyProof.Rows L2
namespace W
variable {α β γ σ ρ : Type}
/-- some number of one's own -/
def sm (f : Nat → W α) : W α := ⟨fun Q => ∃ B, (f B).run Q, fun h ⟨B, q⟩ => ⟨B, (f B).mono h q⟩⟩
theorem run_sm {f : Nat → W α} {Q : α → Prop} : (sm f).run Q ↔ ∃ B, (f B).run Q := Iff.rfl
def comp2 (B : Nat) : List α → (α → W Bool) → (α → W (List β)) → (α → β → W Bool) → (α → β → W γ) → W (List γ)
  | [], _, _, _, _ => p []
  | x :: l, t, m, t1, f => (t x).b fun c => if c = true then (m x).b fun l1 => req (l1.length ≤ B) ((comp l1 (t1 x) (f x)).b fun ys => (comp2 B l t m t1 f).b fun zs => p (ys ++ zs)) else comp2 B l t m t1 f
def cmp2 (l : List α) (t : α → W Bool) (m : α → W (List β)) (t1 : α → β → W Bool) (f : α → β → W γ) : W (List γ) := sm fun B => req (Big (l.length * B)) (comp2 B l t m t1 f)
def cmp (l : List α) (t : α → W Bool) (f : α → W β) : W (List β) := req (Big l.length) (comp l t f)
def and (c : Bool) (w : W Bool) : W Bool := if c = true then w else p false
def or (c : Bool) (w : W Bool) : W Bool := if c = true then p true else w
def ite (c : Bool) (w u : W α) : W α := if c = true then w else u
def cat (l m : List α) : W (List α) := req (Big (l.length + m.length)) (p (l ++ m))
def catS (i j : Str) : W Str := req (i.length + j.length ≤ sizeLine) (p (i ++ j))
def cutS (l : Str) (lo hi : Option Int) : W Str := req (l.length ≤ sizeLine) (p (L2.cutS l lo hi))
def ixS (z : Str) (i : Int) : W Str := req (z.length ≤ sizeLine) (b (ix z.cps.toList i) fun k => p (⟨#[k]⟩ : Str))
def lenS (z : Str) : W Int := req (z.length ≤ sizeLine) (p (z.length : Int))
def range (m n : Int) : W (List Int) := req (rgOk m n) (p (rg m n))
def rg3 (lo hi k : Int) : List Int := (List.range ((hi - lo + (k - 1)) / k).toNat).map fun (i : Nat) => lo + (i : Int) * k
def range3 (lo hi k : Int) : W (List Int) := req (rgOk lo hi ∧ 0 < k ∧ k < 1000000) (p (rg3 lo hi k))
def enumFrom : Nat → List α → List (Int × α)
  | _, [] => []
  | n, x :: l => ((n : Int), x) :: enumFrom (n + 1) l
def enum (l : List α) : List (Int × α) := enumFrom 0 l
def maxL (l : List Int) : W Int := req (l ≠ []) (any fun m => m ∈ l ∧ ∀ y ∈ l, y ≤ m)
def minL (l : List Int) : W Int := req (l ≠ []) (any fun m => m ∈ l ∧ ∀ y ∈ l, m ≤ y)
def sortI (l : List Int) : W (List Int) := any fun m : List Int => m.Perm l ∧ m.Pairwise (· ≤ ·)
end W
theorem args2 {K : PySem.W.Frag} {b : Option Addr} {G H : Hp} {vs : List V} {s1 s2 : Slot} (a : ArgsOk K b G H vs [s1, s2]) : ∃ v1 v2, vs = [v1, v2] ∧ ArgOk K b G H G H v1 s1 ∧ ArgOk K b G H G H v2 s2 := by
  match vs, a with
  | [v1, v2], ⟨h1, h2, _⟩ => exact ⟨v1, v2, rfl, h1, h2⟩
def noSlice : Expr → Bool
  | .Slice _ _ _ _ => false
  | _ => true
theorem pix {e : Expr} (h : noSlice e = true) : PlainIx e := by
  intro o i
  cases e <;> first | rfl | cases h
theorem noOwns {ρ : List Slot} (h : ρ.all noOwn = true) : ∀ s ∈ ρ, noOwn s = true := List.all_eq_true.mp h
section
variable {K : PySem.W.Frag} {b : Option Addr} {G0 H0 G H G1 H1 G2 H2 : Hp} {ρ ρ' ρ1 ρ2 : List Slot} {σ : L2.St} {α β γ δ ε S S' B R : Type} {ta tb te tx t1 t2 t3 t4 t5 : TE} {t u : TT} {ts us : TS}
  {sh : S → List Slot} {sh' : S' → List Slot} {sb : B → List Slot} {ret : R → Slot}
theorem EvH.is {w w' : W (List α)} {c : α → D} (h : EvH K b te ρ w c) (e : w = w') : EvH K b te ρ w' c := e ▸ h
theorem ItW.is {wi : TI} {w w' : W (List α)} {c : α → D} (h : ItW K b wi ρ w c) (e : w = w') : ItW K b wi ρ w' c := e ▸ h
theorem et_yes : EvT K b tYes ρ (W.p true) := fun G0 H0 σ G H E Q q => q G H E.gd.ext
theorem ev_nonN : Ev K b (tC .non) ρ (W.p ()) (vS cN) := fun G0 H0 σ G H E Q q => q _ G H E.gd.ext Dp.non
theorem ev_lc2 {wi wi1 : TI} {g g1 : TG} {tt tt1 : TT} {vs vs1 js js1 : List Nat} {c : α → D} {c1 : β → D} {c' : γ → D} {w : W (List α)} {st : α → List Slot → List Slot} {st1 : β → List Slot → List Slot} {wt : α → W Bool} {w1 : α → W (List β)} {wt1 : α → β → W Bool} {wf : α → β → W γ}
    (hi : ItW K b wi ρ w c) (hg : GW K b g c js st) (ht : ∀ x, EvT K b tt (st x (wipeE ρ vs)) (wt x)) (hi1 : ∀ x, ItW K b wi1 (st x (wipeE ρ vs)) (w1 x) c1) (hg1 : GW K b g1 c1 js1 st1)
    (ht1 : ∀ x y, EvT K b tt1 (st1 y (wipeE (st x (wipeE ρ vs)) vs1)) (wt1 x y)) (he : ∀ x y, Ev K b te (st1 y (wipeE (st x (wipeE ρ vs)) vs1)) (wf x y) (vS c')) (hj : ∀ j ∈ js, j ∈ vs := by decide) (hj1 : ∀ j ∈ js1, j ∈ vs1 := by decide) :
    Ev K b (tLc2 wi g tt wi1 g1 tt1 te vs vs1) ρ (w.b fun l => W.cmp2 l wt w1 wt1 wf) (nS c') := fun G0 H0 σ G H E Q q =>
  hi G0 H0 σ G H E _ (w.mono (fun l q J G1 H1 e1 iok Dl hD => by
    obtain ⟨B, big, q⟩ := q
    refine ⟨fun i m H' => m + i = l.length + 1 ∧ i ≤ l.length ∧ ∃ ys G', ys.length ≤ i * B ∧ LcW K b G H Dl (ys.map c') G' H' ∧ Same G1 G' ∧ Ext K b G1 H1 G' H' ∧ (W.comp2 B (l.drop i) wt w1 wt1 wf).run (fun zs => ∀ v G2 H2, Ext K b G H G2 H2 → ArgOk K b G H G2 H2 v (nS c' (ys ++ zs)) → Q v H2),
      ⟨l.length + 1, by omega, Nat.zero_le _, [], G1, Nat.zero_le _, ⟨e1.trans (e1.good.newO hD), e1.free hD, e1.good.noneG hD, [], upd_same, .nil⟩, Same.refl _, e1.good.newO hD, by rw [List.drop_zero]; exact q⟩, fun i m H' hW => ?_⟩
    obtain ⟨hm, hil, ys, G', hys, L, s', e', r⟩ := hW
    have eiO : Ext K b G0 H0 G' H' := E.ext.trans L.ext
    obtain ⟨hgo, hstop⟩ := iok i G' H' s' eiO
    by_cases hlt : i < l.length
    · have hx : l[i]? = some l[i] := List.getElem?_eq_getElem hlt
      obtain ⟨go, yld⟩ := hgo _ hx
      rw [List.drop_eq_getElem_cons hlt] at r
      have hB : (i + 1) * B ≤ l.length * B := Nat.mul_le_mul_right B hlt
      have hB1 : (i + 1) * B = i * B + B := by rw [Nat.add_mul, Nat.one_mul]
      let Nx : Hp → Prop := fun H'' => ∃ ys' G'', ys'.length ≤ (i + 1) * B ∧ LcW K b G H Dl (ys'.map c') G'' H'' ∧ Same G1 G'' ∧ Ext K b G1 H1 G'' H'' ∧ (W.comp2 B (l.drop (i + 1)) wt w1 wt1 wf).run (fun zs => ∀ v G2 H2, Ext K b G H G2 H2 → ArgOk K b G H G2 H2 v (nS c' (ys' ++ zs)) → Q v H2)
      refine .inr ⟨go, Nx, fun H'' ⟨ys', G'', h1, h2, h3, h4, h5⟩ => ⟨m - 1, by omega, by omega, by omega, ys', G'', h1, h2, h3, h4, h5⟩, fun v H2 hy => ?_⟩
      obtain ⟨G2, e2, hv⟩ := yld v H2 hy
      have E2 : Env K b G0 H0 (wipeE ρ vs) (L2.wipe σ vs) G2 H2 := ((E.step L.ext).step e2).wipe vs
      refine hg l[i] G0 H0 _ _ G2 H2 v E2 hv _ fun σ3 E3' l3 n3 => ⟨wipe_same l3 n3 hj, ?_⟩
      have E3 := E3' G2 H2 (Same.refl G2) E2
      have r' : (wt l[i]).run fun c => (if c = true then (w1 l[i]).b fun l1 => W.req (l1.length ≤ B) ((W.comp l1 (wt1 l[i]) (wf l[i])).b fun ys => (W.comp2 B (l.drop (i + 1)) wt w1 wt1 wf).b fun zs => W.p (ys ++ zs)) else W.comp2 B (l.drop (i + 1)) wt w1 wt1 wf).run (fun zs => ∀ v G2 H2, Ext K b G H G2 H2 → ArgOk K b G H G2 H2 v (nS c' (ys ++ zs)) → Q v H2) := r
      obtain ⟨ws, hws, hda⟩ := L.at_
      have nDb : some Dl ≠ b := e1.good.neb hD
      refine ht l[i] G0 H0 σ3 G2 H2 E3 _ ((wt l[i]).mono (fun cc r G3 H3 e3 => ?_) r')
      have e23 := e2.trans e3
      have hD3 : H3 Dl = some (.lst ws) := e23.keep hws nDb
      have hid3 : G3 Dl = none := by rw [e23.nw Dl (by rw [hws]; intro z; cases z)]; exact L.hid
      cases cc with
      | true =>
        simp only [if_true] at r ⊢
        refine hi1 l[i] G0 H0 σ3 G3 H3 (E3.step e3) _ ((w1 l[i]).mono (fun l1 r J1 G4 H4 e4 iok1 => ?_) r)
        obtain ⟨hl1, r⟩ := r
        have e24 := e23.trans e4
        have hD4 : H4 Dl = some (.lst ws) := e24.keep hws nDb
        have hid4 : G4 Dl = none := by rw [e24.nw Dl (by rw [hws]; intro z; cases z)]; exact L.hid
        refine ⟨fun j m1 H' => m1 + j = l1.length + 1 ∧ j ≤ l1.length ∧ ∃ zs G', zs.length ≤ i * B + j ∧ LcW K b G H Dl (zs.map c') G' H' ∧ Same G4 G' ∧ Ext K b G1 H1 G' H' ∧
          (W.comp (l1.drop j) (wt1 l[i]) (wf l[i])).run (fun us => (W.comp2 B (l.drop (i + 1)) wt w1 wt1 wf).run (fun os => ∀ v G2 H2, Ext K b G H G2 H2 → ArgOk K b G H G2 H2 v (nS c' (zs ++ (us ++ os))) → Q v H2)),
          ⟨l1.length + 1, by omega, Nat.zero_le _, ys, G4, by omega, ⟨L.ext.trans e24, L.new, hid4, ws, hD4, DpAll.mono e24.gg hda⟩, Same.refl _, e'.trans e24, by rw [List.drop_zero]; exact r⟩, fun j m1 H5 hW1 => ?_⟩
        obtain ⟨hm1, hjl, zs, G5, hzs, L5, s5, e5, r5⟩ := hW1
        have eiO5 : Ext K b G0 H0 G5 H5 := E.ext.trans L5.ext
        obtain ⟨hgo1, hstop1⟩ := iok1 j G5 H5 s5 eiO5
        by_cases hlt1 : j < l1.length
        · have hx1 : l1[j]? = some l1[j] := List.getElem?_eq_getElem hlt1
          obtain ⟨go1, yld1⟩ := hgo1 _ hx1
          rw [List.drop_eq_getElem_cons hlt1] at r5
          refine .inr ⟨go1, fun H'' => ∃ zs' G'', zs'.length ≤ i * B + (j + 1) ∧ LcW K b G H Dl (zs'.map c') G'' H'' ∧ Same G4 G'' ∧ Ext K b G1 H1 G'' H'' ∧ (W.comp (l1.drop (j + 1)) (wt1 l[i]) (wf l[i])).run (fun us => (W.comp2 B (l.drop (i + 1)) wt w1 wt1 wf).run (fun os => ∀ v G2 H2, Ext K b G H G2 H2 → ArgOk K b G H G2 H2 v (nS c' (zs' ++ (us ++ os))) → Q v H2)),
            fun H'' ⟨zs', G'', h1, h2, h3, h4, h5⟩ => ⟨m1 - 1, by omega, by omega, by omega, zs', G'', h1, h2, h3, h4, h5⟩, fun v6 H6 hy6 => ?_⟩
          obtain ⟨G6, e6, hv6⟩ := yld1 v6 H6 hy6
          have E5 : Env K b G0 H0 (st l[i] (wipeE ρ vs)) σ3 G5 H5 := E3' G5 H5 ((e3.trans e4).gg.trans s5) ((E.step L5.ext).wipe vs)
          have E6 : Env K b G0 H0 (wipeE (st l[i] (wipeE ρ vs)) vs1) (L2.wipe σ3 vs1) G6 H6 := (E5.step e6).wipe vs1
          refine hg1 l1[j] G0 H0 _ _ G6 H6 v6 E6 hv6 _ fun σ6 E6' l6 n6 => ⟨wipe_same l6 n6 hj1, ?_⟩
          have E7 := E6' G6 H6 (Same.refl G6) E6
          obtain ⟨ws5, hws5, hda5⟩ := L5.at_
          have hD6 : H6 Dl = some (.lst ws5) := e6.keep hws5 nDb
          have hid6 : G6 Dl = none := by rw [e6.nw Dl (by rw [hws5]; intro z; cases z)]; exact L5.hid
          have r6 : (wt1 l[i] l1[j]).run fun c => (if c = true then (wf l[i] l1[j]).b fun y => (W.comp (l1.drop (j + 1)) (wt1 l[i]) (wf l[i])).b fun ys => W.p (y :: ys) else W.comp (l1.drop (j + 1)) (wt1 l[i]) (wf l[i])).run
              (fun us => (W.comp2 B (l.drop (i + 1)) wt w1 wt1 wf).run (fun os => ∀ v G2 H2, Ext K b G H G2 H2 → ArgOk K b G H G2 H2 v (nS c' (zs ++ (us ++ os))) → Q v H2)) := r5
          refine ht1 l[i] l1[j] G0 H0 σ6 G6 H6 E7 _ ((wt1 l[i] l1[j]).mono (fun cc6 r6 G7 H7 e7 => ?_) r6)
          have e67 := e6.trans e7
          have hD7 : H7 Dl = some (.lst ws5) := e67.keep hws5 nDb
          have hid7 : G7 Dl = none := by rw [e67.nw Dl (by rw [hws5]; intro z; cases z)]; exact L5.hid
          cases cc6 with
          | true =>
            simp only [if_true] at r6 ⊢
            refine he l[i] l1[j] G0 H0 σ6 G7 H7 (E7.step e7) _ ((wf l[i] l1[j]).mono (fun y r v' G8 H8 e8 a8 => ?_) r6)
            have e68 := e67.trans e8
            have hD8 : H8 Dl = some (.lst ws5) := e68.keep hws5 nDb
            have hid8 : G8 Dl = none := by rw [e68.nw Dl (by rw [hws5]; intro z; cases z)]; exact L5.hid
            have hlen : ws5.length = zs.length := by rw [hda5.length, List.length_map]
            have big' := big.lt
            have xx := L5.ext.trans e68
            have yy := e5.trans e68
            refine ⟨ws5, hD8, by rw [hlen]; omega, zs ++ [y], G8, by rw [List.length_append, List.length_singleton]; omega, ⟨xx.put L.new hid8 nDb, L.new, hid8, _, upd_same, ?_⟩, s5.trans e68.gg, yy.put hD hid8 nDb, ?_⟩
            · rw [List.map_append]
              exact (DpAll.mono e68.gg hda5).append (.one a8)
            · have r' : (W.comp (l1.drop (j + 1)) (wt1 l[i]) (wf l[i])).run fun us => (W.comp2 B (l.drop (i + 1)) wt w1 wt1 wf).run (fun os => ∀ v G2 H2, Ext K b G H G2 H2 → ArgOk K b G H G2 H2 v (nS c' (zs ++ ((y :: us) ++ os))) → Q v H2) := r
              refine (W.comp (l1.drop (j + 1)) (wt1 l[i]) (wf l[i])).mono (fun us r => (W.comp2 B (l.drop (i + 1)) wt w1 wt1 wf).mono (fun os r => ?_) r) r'
              rw [List.append_assoc]
              exact r
          | false =>
            simp only at r6 ⊢
            exact ⟨zs, G7, by omega, ⟨L5.ext.trans e67, L.new, hid7, ws5, hD7, DpAll.mono e67.gg hda5⟩, s5.trans e67.gg, e5.trans e67, r6⟩
        · refine .inl ⟨hstop1 (by omega), ?_⟩
          have hz : l1.drop j = [] := List.drop_eq_nil_of_le (by omega)
          rw [hz] at r5
          have r' : (W.comp2 B (l.drop (i + 1)) wt w1 wt1 wf).run (fun os => ∀ v G2 H2, Ext K b G H G2 H2 → ArgOk K b G H G2 H2 v (nS c' (zs ++ ([] ++ os))) → Q v H2) := r5
          exact ⟨zs, G5, by omega, L5, (s'.trans e24.gg).trans s5, e5, r'⟩
      | false =>
        exact ⟨ys, G3, by omega, ⟨L.ext.trans e23, L.new, hid3, ws, hD3, DpAll.mono e23.gg hda⟩, s'.trans e23.gg, e'.trans e23, r⟩
    · refine .inl ⟨hstop (by omega), ?_⟩
      have hz : l.drop i = [] := List.drop_eq_nil_of_le (by omega)
      rw [hz] at r
      have r' : ∀ v G2 H2, Ext K b G H G2 H2 → ArgOk K b G H G2 H2 v (nS c' (ys ++ [])) → Q v H2 := r
      rw [List.append_nil] at r'
      obtain ⟨ws, hws, hda⟩ := L.at_
      exact r' (.ref Dl) G' H' L.ext ⟨Dl, ws, _, rfl, rfl, (fun _ z => (by cases z)), L.new, L.hid, hws, hda, e1.good.neb hD⟩) q)

/-! ### lists and tuples that last, as they are gone over -/
def SqK (t : Bool) (K : PySem.W.Frag) (H : Hp) (p : Addr) (vs : List V) : Prop := match t with
  | true => SqT K H p vs
  | false => SqL K H p vs
def EvQ (t : Bool) (K : PySem.W.Frag) (b : Option Addr) (te : TE) (ρ : List Slot) {α : Type} (w : W (List α)) (c : α → D) : Prop :=
  ∀ G0 H0 σ G H, Env K b G0 H0 ρ σ G H → ∀ Q : VK, w.run (fun l => ∀ p vs G2 H2, Ext K b G H G2 H2 → (∀ G' H', Same G2 G' → Ext K b G0 H0 G' H' → SqK t K H' p vs ∧ DpAll K G' vs (l.map c)) → Q (.ref p) H2) → te σ H Q
theorem eq_v {c : α → D} {w : W (List α)} (h : Ev K b te ρ w (vS (cL c))) : EvQ false K b te ρ w c := fun G0 H0 σ G H E Q q =>
  h G0 H0 σ G H E Q (w.mono (fun l q v G1 H1 e1 a1 => by
    have a' : Dp K G1 v (.list (l.map c)) := a1
    cases a' with
    | @lst p vs _ h3 h4 => exact q p vs G1 H1 e1 fun G' H' s' e' => ⟨hb_sub.sqL (e'.good.gh.sqL (s'.sqL h3)), DpAll.mono s' h4⟩) q)
theorem eq_t {c : α → D} {w : W (List α)} (h : Ev K b te ρ w (vS (cT c))) : EvQ true K b te ρ w c := fun G0 H0 σ G H E Q q =>
  h G0 H0 σ G H E Q (w.mono (fun l q v G1 H1 e1 a1 => by
    have a' : Dp K G1 v (.tuple (l.map c)) := a1
    cases a' with
    | @tup p vs _ h3 h4 => exact q p vs G1 H1 e1 fun G' H' s' e' => ⟨hb_sub.sqT (e'.good.gh.sqT (s'.sqT h3)), DpAll.mono s' h4⟩) q)
theorem eq_l {c : α → D} {i : Nat} {l : List α} (h : ρ[i]? = some (lS c l)) : EvQ false K b (tVar i) ρ (W.p l) c := fun G0 H0 σ G H E Q q => by
  obtain ⟨v, h1, p, vs, ds, h2, h3, h4, h5⟩ := E.ok i _ h
  cases h2
  subst h3
  exact ⟨_, h1, q p vs G H E.gd.ext fun G' H' s' e' => ⟨hb_sub.sqL (e'.hh.sqL h4), DpAll.mono e'.gg h5⟩⟩
theorem EvQ.is {t : Bool} {c : α → D} {w w' : W (List α)} (h : EvQ t K b te ρ w c) (e : w = w') : EvQ t K b te ρ w' c := e ▸ h
theorem enum_len : ∀ (l : List α) (n : Nat), (W.enumFrom n l).length = l.length
  | [], _ => rfl
  | x :: l, n => by
    show (W.enumFrom (n + 1) l).length + 1 = l.length + 1
    rw [enum_len l]
theorem enum_get : ∀ (l : List α) (n i : Nat), (W.enumFrom n l)[i]? = l[i]?.map fun x => (((n + i : Nat) : Int), x)
  | [], _, _ => rfl
  | x :: l, n, 0 => rfl
  | x :: l, n, i + 1 => by
    show (W.enumFrom (n + 1) l)[i]? = l[i]?.map _
    rw [enum_get l (n + 1) i, show n + 1 + i = n + (i + 1) by omega]
theorem it_enum {c : α → D} {w : W (List α)} (h : EvQ false K b te ρ w c) : ItW K b (iEnum K (tCons te tNil)) ρ (w.b fun l => W.p (W.enum l)) (c2 cI c) := fun G0 H0 σ G H E R q =>
  h G0 H0 σ G H E _ (w.mono (fun l q p vs G1 H1 e1 hq => by
    have hz : vs.length = l.length := by rw [(hq G1 H1 (Same.refl G1) (E.ext.trans e1)).2.length, List.length_map]
    refine ⟨p, vs, rfl, (hq G1 H1 (Same.refl G1) (E.ext.trans e1)).1, q _ G1 H1 e1 fun i G2 H2 s2 e2 => ?_⟩
    obtain ⟨hs, hd⟩ := hq G2 H2 s2 e2
    refine ⟨fun x hx => ?_, fun hi => ⟨vs, hs, by unfold W.enum at hi; rw [enum_len] at hi; omega⟩⟩
    unfold W.enum at hx
    rw [enum_get, Nat.zero_add] at hx
    cases hl : l[i]? with
    | none => rw [hl] at hx; cases hx
    | some y =>
      rw [hl] at hx
      have hx : ((i : Int), y) = x := Option.some.inj hx
      subst hx
      obtain ⟨z, hz1, hz2⟩ := hd.get (i := i) (d := c y) (by rw [List.getElem?_map, hl]; rfl)
      refine ⟨⟨vs, z, hs, hz1⟩, fun v' H3 hy => ?_⟩
      obtain ⟨T, x', rfl, hT, rfl, hy⟩ := hy
      have : z = x' := Option.some.inj (hz1.symm.trans (hy vs hs))
      subst this
      have f := e2.good.new (o := .tup [.int (i : Nat), z]) hT
      exact ⟨_, f, Dp.tup (.inl (.inl upd_same)) (.cons (Dp.int _) (.cons (Dp.mono f.gg hz2) .nil))⟩) q)
theorem rg3_len {lo hi k : Int} : (W.rg3 lo hi k).length = ((hi - lo + (k - 1)) / k).toNat := by
  unfold W.rg3
  rw [List.length_map, List.length_range]
theorem it_rg3 {w w' w3 : W Int} (h : Ev K b ta ρ w (vS cI)) (h' : Ev K b tb ρ w' (vS cI)) (h3 : Ev K b tx ρ w3 (vS cI)) : ItW K b (iRng3 (tCons ta (tCons tb (tCons tx tNil)))) ρ (w.b fun m => w'.b fun n => w3.b fun k => W.range3 m n k) cI := fun G0 H0 σ G H E R q =>
  h G0 H0 σ G H E _ (w.mono (fun m q v G1 H1 e1 a1 => h' G0 H0 σ G1 H1 (E.step e1) _ (w'.mono (fun n q u G2 H2 e2 a2 => h3 G0 H0 σ G2 H2 ((E.step e1).step e2) _ (w3.mono (fun k q o G3 H3 e3 a3 => by
    obtain ⟨⟨⟨b1, b2, b3, b4⟩, k1, k2⟩, q⟩ := q
    have hsz : Builtin.Range.rangeSize m n k = (((n - m + (k - 1)) / k).toNat : Int) := by
      unfold Builtin.Range.rangeSize
      rw [if_pos k1]
      have e : n - m + (k - 1) = (n - m - 1) + k * 1 := by omega
      rw [e, Int.add_mul_ediv_left _ _ (by omega)]
      by_cases hlt : m < n
      · rw [if_pos hlt]
        have : 0 ≤ (n - m - 1) / k := Int.ediv_nonneg (by omega) (by omega)
        omega
      · rw [if_neg hlt]
        have : (n - m - 1) / k < 0 := Int.ediv_neg_of_neg_of_pos (by omega) k1
        omega
    have hle : (((n - m + (k - 1)) / k).toNat : Int) < 2 ^ 63 := by
      have h1 : (n - m + (k - 1)) / k < 2 ^ 63 := Int.ediv_lt_of_lt_mul k1 (by
        by_cases hk : k = 1
        · subst hk; omega
        · have h2 : (2 : Int) ^ 63 * 2 ≤ 2 ^ 63 * k := Int.mul_le_mul_of_nonneg_left (by omega) (by decide)
          omega)
      omega
    refine ⟨m, n, k, ((n - m + (k - 1)) / k).toNat, by rw [vI a1, vI a2, vI a3], ⟨by omega, by omega, ?_, hsz⟩, q _ G3 H3 ((e1.trans e2).trans e3) fun i G4 H4 s4 e4 => ?_⟩
    · unfold Builtin.Range.small
      rw [hsz]
      simp only [Builtin.Range.rangeFitsLong, Bool.and_eq_true, Bool.or_eq_true, decide_eq_true_eq, beq_iff_eq, gt_iff_lt, k1, if_true]
      omega
    · refine ⟨fun x hx => ?_, fun hi => by rw [rg3_len] at hi; exact hi⟩
      have hi : i < (W.rg3 m n k).length := (List.getElem?_eq_some_iff.mp hx).1
      rw [rg3_len] at hi
      have ex : m + (i : Int) * k = x := by
        unfold W.rg3 at hx
        rw [List.getElem?_map, List.getElem?_range hi] at hx
        exact Option.some.inj hx
      refine ⟨hi, fun v' H5 hy => ?_⟩
      obtain ⟨rfl, rfl⟩ := hy
      subst ex
      exact ⟨G4, e4.good.ext, Dp.int _⟩) q)) q)) q)

theorem it_zipLL {c : α → D} {c' : β → D} {w : W (List α)} {w' : W (List β)} (h : EvQ false K b ta ρ w c) (h' : EvQ false K b tb ρ w' c') : ItW K b (iZip K (tCons ta (tCons tb tNil))) ρ (w.b fun l => w'.b fun m => W.p (List.zip l m)) (c2 c c') := fun G0 H0 σ G H E R q =>
  h G0 H0 σ G H E _ (w.mono (fun l q p vs G1 H1 e1 hp => h' G0 H0 σ G1 H1 (E.step e1) _ (w'.mono (fun m q r us G2 H2 e2 hq => by
    have iok : ItOk K b G0 H0 (Itz K p r) G2 (List.zip l m) (c2 c c') := fun i G3 H3 s3 e3 => by
      obtain ⟨hs, hd⟩ := hp G3 H3 (e2.gg.trans s3) e3
      obtain ⟨ks, kd⟩ := hq G3 H3 s3 e3
      have hz : vs.length = l.length := by rw [hd.length, List.length_map]
      have kz : us.length = m.length := by rw [kd.length, List.length_map]
      refine ⟨fun x hx => ?_, fun hi => ⟨vs, us, hs, ks, by rw [List.length_zip] at hi; omega⟩⟩
      rw [List.getElem?_zip_eq_some] at hx
      obtain ⟨hx1, hx2⟩ := hx
      obtain ⟨z1, a1, a2⟩ := hd.get (i := i) (d := c x.1) (by rw [List.getElem?_map, hx1]; rfl)
      obtain ⟨z2, b1, b2⟩ := kd.get (i := i) (d := c' x.2) (by rw [List.getElem?_map, hx2]; rfl)
      refine ⟨⟨vs, us, z1, z2, hs, ks, a1, b1⟩, fun v' H4 hy => ?_⟩
      obtain ⟨T, y1, y2, rfl, hT, rfl, g1, g2⟩ := hy
      have f1 : z1 = y1 := Option.some.inj (a1.symm.trans (g1 vs hs))
      have f2 : z2 = y2 := Option.some.inj (b1.symm.trans (g2 us ks))
      subst f1 f2
      have f := e3.good.new (o := .tup [z1, z2]) hT
      exact ⟨_, f, Dp.tup (.inl (.inl upd_same)) (.cons (Dp.mono f.gg a2) (.cons (Dp.mono f.gg b2) .nil))⟩
    have hA := (hp G2 H2 e2.gg (E.ext.trans (e1.trans e2))).1
    have hB := (hq G2 H2 (Same.refl G2) (E.ext.trans (e1.trans e2))).1
    exact ⟨p, r, vs, us, rfl, hA, hB, q _ G2 H2 (e1.trans e2) iok⟩) q)) q)

theorem it_zipTT {c : α → D} {c' : β → D} {w : W (List α)} {w' : W (List β)} (h : EvQ true K b ta ρ w c) (h' : EvQ true K b tb ρ w' c') : ItW K b (RZ.iZipA K (tCons ta (tCons tb tNil))) ρ (w.b fun l => w'.b fun m => W.p (List.zip l m)) (c2 c c') := fun G0 H0 σ G H E R q =>
  h G0 H0 σ G H E _ (w.mono (fun l q p vs G1 H1 e1 hp => h' G0 H0 σ G1 H1 (E.step e1) _ (w'.mono (fun m q r us G2 H2 e2 hq => by
    have iok : ItOk K b G0 H0 (RZ.ItzT K p r) G2 (List.zip l m) (c2 c c') := fun i G3 H3 s3 e3 => by
      obtain ⟨hs, hd⟩ := hp G3 H3 (e2.gg.trans s3) e3
      obtain ⟨ks, kd⟩ := hq G3 H3 s3 e3
      have hz : vs.length = l.length := by rw [hd.length, List.length_map]
      have kz : us.length = m.length := by rw [kd.length, List.length_map]
      refine ⟨fun x hx => ?_, fun hi => ⟨vs, us, hs, ks, by rw [List.length_zip] at hi; omega⟩⟩
      rw [List.getElem?_zip_eq_some] at hx
      obtain ⟨hx1, hx2⟩ := hx
      obtain ⟨z1, a1, a2⟩ := hd.get (i := i) (d := c x.1) (by rw [List.getElem?_map, hx1]; rfl)
      obtain ⟨z2, b1, b2⟩ := kd.get (i := i) (d := c' x.2) (by rw [List.getElem?_map, hx2]; rfl)
      refine ⟨⟨vs, us, z1, z2, hs, ks, a1, b1⟩, fun v' H4 hy => ?_⟩
      obtain ⟨T, y1, y2, rfl, hT, rfl, g1, g2⟩ := hy
      have f1 : z1 = y1 := Option.some.inj (a1.symm.trans (g1 vs hs))
      have f2 : z2 = y2 := Option.some.inj (b1.symm.trans (g2 us ks))
      subst f1 f2
      have f := e3.good.new (o := .tup [z1, z2]) hT
      exact ⟨_, f, Dp.tup (.inl (.inl upd_same)) (.cons (Dp.mono f.gg a2) (.cons (Dp.mono f.gg b2) .nil))⟩
    have hA := (hp G2 H2 e2.gg (E.ext.trans (e1.trans e2))).1
    have hB := (hq G2 H2 (Same.refl G2) (E.ext.trans (e1.trans e2))).1
    exact ⟨p, r, vs, us, rfl, .inr ⟨hA, hB, q _ G2 H2 (e1.trans e2) iok⟩⟩) q)) q)

theorem it_zipLLA {c : α → D} {c' : β → D} {w : W (List α)} {w' : W (List β)} (h : EvQ false K b ta ρ w c) (h' : EvQ false K b tb ρ w' c') : ItW K b (RZ.iZipA K (tCons ta (tCons tb tNil))) ρ (w.b fun l => w'.b fun m => W.p (List.zip l m)) (c2 c c') := fun G0 H0 σ G H E R q =>
  h G0 H0 σ G H E _ (w.mono (fun l q p vs G1 H1 e1 hp => h' G0 H0 σ G1 H1 (E.step e1) _ (w'.mono (fun m q r us G2 H2 e2 hq => by
    have iok : ItOk K b G0 H0 (Itz K p r) G2 (List.zip l m) (c2 c c') := fun i G3 H3 s3 e3 => by
      obtain ⟨hs, hd⟩ := hp G3 H3 (e2.gg.trans s3) e3
      obtain ⟨ks, kd⟩ := hq G3 H3 s3 e3
      have hz : vs.length = l.length := by rw [hd.length, List.length_map]
      have kz : us.length = m.length := by rw [kd.length, List.length_map]
      refine ⟨fun x hx => ?_, fun hi => ⟨vs, us, hs, ks, by rw [List.length_zip] at hi; omega⟩⟩
      rw [List.getElem?_zip_eq_some] at hx
      obtain ⟨hx1, hx2⟩ := hx
      obtain ⟨z1, a1, a2⟩ := hd.get (i := i) (d := c x.1) (by rw [List.getElem?_map, hx1]; rfl)
      obtain ⟨z2, b1, b2⟩ := kd.get (i := i) (d := c' x.2) (by rw [List.getElem?_map, hx2]; rfl)
      refine ⟨⟨vs, us, z1, z2, hs, ks, a1, b1⟩, fun v' H4 hy => ?_⟩
      obtain ⟨T, y1, y2, rfl, hT, rfl, g1, g2⟩ := hy
      have f1 : z1 = y1 := Option.some.inj (a1.symm.trans (g1 vs hs))
      have f2 : z2 = y2 := Option.some.inj (b1.symm.trans (g2 us ks))
      subst f1 f2
      have f := e3.good.new (o := .tup [z1, z2]) hT
      exact ⟨_, f, Dp.tup (.inl (.inl upd_same)) (.cons (Dp.mono f.gg a2) (.cons (Dp.mono f.gg b2) .nil))⟩
    have hA := (hp G2 H2 e2.gg (E.ext.trans (e1.trans e2))).1
    have hB := (hq G2 H2 (Same.refl G2) (E.ext.trans (e1.trans e2))).1
    exact ⟨p, r, vs, us, rfl, .inl ⟨hA, hB, q _ G2 H2 (e1.trans e2) iok⟩⟩) q)) q)

theorem it_zipTL {c : α → D} {c' : β → D} {w : W (List α)} {w' : W (List β)} (h : EvQ true K b ta ρ w c) (h' : EvQ false K b tb ρ w' c') : ItW K b (ZM.iZipM K (tCons ta (tCons tb tNil))) ρ (w.b fun l => w'.b fun m => W.p (List.zip l m)) (c2 c c') := fun G0 H0 σ G H E R q =>
  h G0 H0 σ G H E _ (w.mono (fun l q p vs G1 H1 e1 hp => h' G0 H0 σ G1 H1 (E.step e1) _ (w'.mono (fun m q r us G2 H2 e2 hq => by
    have iok : ItOk K b G0 H0 (ZM.ItzM K p r) G2 (List.zip l m) (c2 c c') := fun i G3 H3 s3 e3 => by
      obtain ⟨hs, hd⟩ := hp G3 H3 (e2.gg.trans s3) e3
      obtain ⟨ks, kd⟩ := hq G3 H3 s3 e3
      have hz : vs.length = l.length := by rw [hd.length, List.length_map]
      have kz : us.length = m.length := by rw [kd.length, List.length_map]
      refine ⟨fun x hx => ?_, fun hi => ⟨vs, us, hs, ks, by rw [List.length_zip] at hi; omega⟩⟩
      rw [List.getElem?_zip_eq_some] at hx
      obtain ⟨hx1, hx2⟩ := hx
      obtain ⟨z1, a1, a2⟩ := hd.get (i := i) (d := c x.1) (by rw [List.getElem?_map, hx1]; rfl)
      obtain ⟨z2, b1, b2⟩ := kd.get (i := i) (d := c' x.2) (by rw [List.getElem?_map, hx2]; rfl)
      refine ⟨⟨vs, us, z1, z2, hs, ks, a1, b1⟩, fun v' H4 hy => ?_⟩
      obtain ⟨T, y1, y2, rfl, hT, rfl, g1, g2⟩ := hy
      have f1 : z1 = y1 := Option.some.inj (a1.symm.trans (g1 vs hs))
      have f2 : z2 = y2 := Option.some.inj (b1.symm.trans (g2 us ks))
      subst f1 f2
      have f := e3.good.new (o := .tup [z1, z2]) hT
      exact ⟨_, f, Dp.tup (.inl (.inl upd_same)) (.cons (Dp.mono f.gg a2) (.cons (Dp.mono f.gg b2) .nil))⟩
    have hA := (hp G2 H2 e2.gg (E.ext.trans (e1.trans e2))).1
    have hB := (hq G2 H2 (Same.refl G2) (E.ext.trans (e1.trans e2))).1
    exact ⟨p, r, vs, us, rfl, hA, hB, q _ G2 H2 (e1.trans e2) iok⟩) q)) q)

/-! ### reversed -/
theorem it_rev {c : α → D} {w : W (List α)} (h : EvQ false K b te ρ w c) : ItW K b (iRev K (tCons te tNil)) ρ (w.b fun l => W.p l.reverse) c := fun G0 H0 σ G H E R q =>
  h G0 H0 σ G H E _ (w.mono (fun l q p vs G1 H1 e1 hp => by
    have hz : vs.length = l.length := by rw [(hp G1 H1 (Same.refl G1) (E.ext.trans e1)).2.length, List.length_map]
    refine ⟨p, vs, rfl, (hp G1 H1 (Same.refl G1) (E.ext.trans e1)).1, q _ G1 H1 e1 fun i G3 H3 s3 e3 => ?_⟩
    obtain ⟨hs, hd⟩ := hp G3 H3 s3 e3
    refine ⟨fun x hx => ?_, fun hi => by rw [List.length_reverse] at hi; show vs.length ≤ i; omega⟩
    have hi : i < l.length := by have := (List.getElem?_eq_some_iff.mp hx).1; rwa [List.length_reverse] at this
    rw [List.getElem?_reverse hi] at hx
    obtain ⟨z1, a1, a2⟩ := hd.get (i := l.length - 1 - i) (d := c x) (by rw [List.getElem?_map, hx]; rfl)
    rw [← hz] at a1
    refine ⟨⟨by omega, vs, z1, hs, a1⟩, fun v' H4 hy => ?_⟩
    obtain ⟨rfl, hy⟩ := hy
    have : z1 = v' := Option.some.inj (a1.symm.trans (hy vs hs))
    subst this
    exact ⟨G3, e3.good.ext, a2⟩) q)
end
end Z
namespace Z
open PySem PySem.Spec PyProof.Rows L2
/-! ## what the law's own comparison needs -/
section
variable {X : Cx}
def rIsTF : R2 := fun x y H Q => ∃ c : Bool, y = .bl c ∧ Q (.bl (decide (x = .bl c))) H
theorem op_isTF : OpR X (compareOp .Is) rIsTF := by
  intro pins s σ H x y v u Q I rx ry h
  obtain ⟨c, rfl, q⟩ := h
  cases (show u = Value.bool c from ry)
  have other : ∀ w : Value, v = w → plainIs w (.bool c) = true → w ≠ .bool c → x ≠ .bl c → wpAny (model X.prog X.w) X.A (compareOp .Is v (.bool c)) (EP X pins σ Q) X.xe s := fun w e hp hn hx => by
    subst e
    exact wpAny_is_other hp hn ⟨.bl false, H, I, rfl, by simpa [hx] using q⟩
  cases x with
  | non => exact other _ rx rfl (fun z => nomatch z) (fun z => nomatch z)
  | bl a =>
    by_cases e : a = c
    · subst e
      cases (show v = Value.bool a from rx)
      exact wpAny_is_self rfl ⟨.bl true, H, I, rfl, by simpa using q⟩
    · exact other _ rx rfl (fun z => e (Value.bool.inj z)) (fun z => e (V.bl.inj z))
  | int i => obtain ⟨t, e⟩ := rx; exact other _ e rfl (fun z => nomatch z) (fun z => nomatch z)
  | str i => obtain ⟨t, e⟩ := rx; exact other _ e rfl (fun z => nomatch z) (fun z => nomatch z)
  | byt i => obtain ⟨t, e⟩ := rx; exact other _ e rfl (fun z => nomatch z) (fun z => nomatch z)
  | flt i => obtain ⟨t, e⟩ := rx; exact other _ e rfl (fun z => nomatch z) (fun z => nomatch z)
  | ref a => exact other _ rx rfl (fun z => nomatch z) (fun z => nomatch z)
  | ty n => exact other _ rx rfl (fun z => nomatch z) (fun z => nomatch z)
def rRepr : List V → Hp → VK → Prop := fun xs H Q => (∃ i, xs = [.int i] ∧ i.natAbs.log2 < 1920 ∧ Q (.str (toString i)) H) ∨ ∃ z, xs = [.str z] ∧ (reprText z).length ≤ sizeLine ∧ Q (.str (reprText z)) H
theorem call_reprX : CallR X (.builtin "repr") rRepr := by
  intro pins s σ H xs us Q I r h
  rcases h with ⟨i, rfl, hz, q⟩ | ⟨z, rfl, hz, q⟩
  · obtain ⟨u, rfl, t, rfl⟩ := vals1 r
    exact PySem.P.repr_of_int hz ⟨.str _, H, I.tok _, ⟨_, rfl⟩, q⟩
  · obtain ⟨u, rfl, t, rfl⟩ := vals1 r
    exact PySem.P.repr_of_str ⟨.str _, H, I.tok _, ⟨_, rfl⟩, q⟩ hz
/-- the kind of a datum -/
def tyD : D → String
  | .none => "NoneType"
  | .bool _ => "bool"
  | .int _ => "int"
  | .str _ => "str"
  | .list _ => "list"
  | .tuple _ => "tuple"
  | .dict _ => "dict"
theorem tyx_of {K : PySem.W.Frag} {H : Hp} {v : V} {d : D} (h : Dp K H v d) : TyX K H v (.type (tyD d)) := by
  cases h with
  | non => exact .base .non
  | bl b => exact .base (.bl b)
  | int i => exact .base (.int i)
  | str x => exact .base (.str x)
  | lst h _ =>
    rcases h with (h | ⟨o, h⟩) | ⟨o, its, n, h1, h2, _⟩
    · exact .base (.lst h)
    · exact .base (.frz h)
    · exact .kList h1 h2
  | tup h _ =>
    rcases h with (h | ⟨o, h⟩) | ⟨o, its, n, h1, h2, _⟩
    · exact .base (.tup h)
    · exact .fTuple h
    · exact .kTuple h1 h2
def rIsiD (K : PySem.W.Frag) : List V → Hp → VK → Prop := fun xs H Q => ∃ (x : V) (d : D) (T : String) (r : Bool), xs = [x, .ty T] ∧ Dp K H x d ∧ kitB (tyD d) T = some r ∧ Q (.bl r) H
theorem call_isiD : CallR X (.builtin "isinstance") (rIsiD X.K) := by
  intro pins s σ H xs us Q I r h
  obtain ⟨x, d, T, b, e, hd, hk, q⟩ := h
  exact call_isi pins s σ H xs us Q I r ⟨x, .ty T, .type (tyD d), .type T, b, e, .ty T, tyx_of hd, kit_ty hk, q⟩
theorem pe_dead {e : Expr} : PE X e (fun _ _ _ => False) := ⟨fun _ _ _ _ _ _ h => h.elim⟩
theorem pss_dead {e : List Stmt} : PSs X e (fun _ _ _ => False) := ⟨fun _ _ _ _ _ _ h => h.elim⟩
end
theorem kb_ss : kitB "str" "str" = some true := by decide +kernel
theorem kb_is : kitB "int" "str" = some false := by decide +kernel
theorem kb_ls : kitB "list" "str" = some false := by decide +kernel
theorem kb_ts : kitB "tuple" "str" = some false := by decide +kernel
theorem kb_ii : kitB "int" "int" = some true := by decide +kernel
theorem kb_ib : kitB "int" "bool" = some false := by decide +kernel
theorem kb_li : kitB "list" "int" = some false := by decide +kernel
theorem kb_ti : kitB "tuple" "int" = some false := by decide +kernel
theorem kb_lt : kitB "list" "tuple" = some false := by decide +kernel
theorem kb_tt : kitB "tuple" "tuple" = some true := by decide +kernel
theorem kb_ll : kitB "list" "list" = some true := by decide +kernel
theorem kb_tl : kitB "tuple" "list" = some false := by decide +kernel
theorem kb_bi : kitB "bool" "int" = some true := by decide +kernel
theorem kb_bb : kitB "bool" "bool" = some true := by decide +kernel
theorem kb_ni : kitB "NoneType" "int" = some false := by decide +kernel
theorem kb_nt : kitB "NoneType" "tuple" = some false := by decide +kernel
theorem kb_nl : kitB "NoneType" "list" = some false := by decide +kernel
theorem small_at : ∀ {ds : List D} {i : Nat} {d : D}, smallAll ds = true → ds[i]? = some d → small d = true
  | [], _, _, _, e => by simp at e
  | x :: ds, 0, d, h, e => by
    have h' : (small x && smallAll ds) = true := h
    rw [Bool.and_eq_true] at h'
    have e' : x = d := Option.some.inj e
    exact e' ▸ h'.1
  | x :: ds, i + 1, d, h, e => by
    have h' : (small x && smallAll ds) = true := h
    rw [Bool.and_eq_true] at h'
    exact small_at (i := i) h'.2 (by simpa using e)
theorem depth_at : ∀ {ds : List D} {i : Nat} {d : D}, ds[i]? = some d → d.depth ≤ PyData.depthAll ds
  | [], _, _, e => by simp at e
  | x :: ds, 0, d, e => by
    have e' : x = d := Option.some.inj e
    subst e'
    exact Nat.le_max_left _ _
  | x :: ds, i + 1, d, e => Nat.le_trans (depth_at (i := i) (by simpa using e)) (Nat.le_max_right _ _)
/-! ## sources whose K is told -/
section
variable {X : Cx} {K : PySem.W.Frag} {tg e e2 : Expr} {te : TE} {ta : TA} {p pos tpos : Pos} {elts : List Expr} {kk : Nat}
theorem pi_listK (he : PE X e te) (hK : X.K = K := by rfl) : PI X tg e (iList K te) := by subst hK; exact pi_list he
theorem pi_tupK (he : PE X e te) (hK : X.K = K := by rfl) : PI X tg e (iTup K te) := by subst hK; exact pi_tup he
theorem pi_enumK (hg : Gl X "enumerate") (hm : X.mg "enumerate" = none) (ha : PA X [e] ta) (hK : X.K = K := by rfl) (hs : starEach [e] X.env = (false, eval e X.env) :: starEach [] X.env := by rfl) (hpl : (backTo pos (starEach [] X.env)).any (·.1) = false := by rfl) :
    PI X (.Tuple elts kk tpos) (.Call (.Name "enumerate" p) [e] [] pos) (iEnum K ta) := by subst hK; exact pi_enum hg hm ha hs
theorem pi_zipK (hg : Gl X "zip") (hm : X.mg "zip" = none) (ha : PA X [e, e2] ta) (hK : X.K = K := by rfl) (hs : starEach [e, e2] X.env = (false, eval e X.env) :: starEach [e2] X.env := by rfl) (hpl : (backTo pos (starEach [e2] X.env)).any (·.1) = false := by rfl) :
    PI X (.Tuple elts kk tpos) (.Call (.Name "zip" p) [e, e2] [] pos) (iZip K ta) := by subst hK; exact pi_zip hg hm ha hs hpl
theorem pi_zipAK (hg : Gl X "zip") (hm : X.mg "zip" = none) (ha : PA X [e, e2] ta) (hK : X.K = K := by rfl) (hs : starEach [e, e2] X.env = (false, eval e X.env) :: starEach [e2] X.env := by rfl) (hpl : (backTo pos (starEach [e2] X.env)).any (·.1) = false := by rfl) :
    PI X (.Tuple elts kk tpos) (.Call (.Name "zip" p) [e, e2] [] pos) (RZ.iZipA K ta) := by subst hK; exact RZ.pi_zipA hg hm ha hs hpl
theorem pi_zipMK (hg : Gl X "zip") (hm : X.mg "zip" = none) (ha : PA X [e, e2] ta) (hK : X.K = K := by rfl) (hs : starEach [e, e2] X.env = (false, eval e X.env) :: starEach [e2] X.env := by rfl) (hpl : (backTo pos (starEach [e2] X.env)).any (·.1) = false := by rfl) :
    PI X (.Tuple elts kk tpos) (.Call (.Name "zip" p) [e, e2] [] pos) (ZM.iZipM K ta) := by subst hK; exact ZM.pi_zipM hg hm ha hs hpl
theorem pi_reversedK (hg : Gl X "reversed") (hm : X.mg "reversed" = none) (ha : PA X [e] ta) (hK : X.K = K := by rfl) (hs : starEach [e] X.env = (false, eval e X.env) :: starEach [] X.env := by rfl) (hpl : (backTo pos (starEach [] X.env)).any (·.1) = false := by rfl) :
    PI X tg (.Call (.Name "reversed" p) [e] [] pos) (iRev K ta) := by subst hK; exact pi_reversed hg hm ha hs
end
section
variable {X : Cx} {K : PySem.W.Frag}
theorem ix_listK (hK : X.K = K := by rfl) : IxR X (rIxL K) := by subst hK; exact ix_list
theorem ix_tupK (hK : X.K = K := by rfl) : IxR X (rIxT K) := by subst hK; exact ix_tup
theorem op_eqPK {k : Nat} (hr : Room k X.A) (hK : X.K = K := by rfl) : OpR X (compareOp .Eq) (rEqP K) := by subst hK; exact op_eqP hr
theorem op_nePK {k : Nat} (hr : Room k X.A) (hK : X.K = K := by rfl) : OpR X (compareOp .NotEq) (rNeP K) := by subst hK; exact op_neP hr
theorem op_inPK {k : Nat} (hr : Room k X.A) (hK : X.K = K := by rfl) : OpR X (compareOp .In) (rInP K false) := by subst hK; exact op_inP hr
theorem op_niPK {k : Nat} (hr : Room k X.A) (hK : X.K = K := by rfl) : OpR X (compareOp .NotIn) (rInP K true) := by subst hK; exact op_niP hr
theorem op_catSK (hK : X.K = K := by rfl) : OpR X (binaryOp .Add) (rCatS K) := by subst hK; exact op_catS
theorem op_catAK (hK : X.K = K := by rfl) : OpR X (binaryOp .Add) (rCatA K) := by subst hK; exact op_catA
theorem sl_listK (hK : X.K = K := by rfl) : SlR X (rSlL K) := by subst hK; exact sl_list
theorem sl_tupAK (hK : X.K = K := by rfl) : SlR X (rSlA K) := by subst hK; exact sl_tupA
theorem call_lenSK (hK : X.K = K := by rfl) : CallR X (.builtin "len") (rLenS K) := by subst hK; exact call_lenS
theorem call_lstOfK (hK : X.K = K := by rfl) : CallR X (.type "list") (rLstOf K) := by subst hK; exact call_lstOf
theorem call_tupOfK (hK : X.K = K := by rfl) : CallR X (.type "tuple") (rTupOf K) := by subst hK; exact call_tupOf
theorem cr_maxK (hc : X.calm = true) (hK : X.K = K := by rfl) : CallR X (.builtin "max") (rMax K) := by subst hK; exact cr_max hc
theorem cr_minK (hc : X.calm = true) (hK : X.K = K := by rfl) : CallR X (.builtin "min") (rMin K) := by subst hK; exact cr_min hc
theorem cr_sumK (hc : X.calm = true) (hK : X.K = K := by rfl) : CallR X (.builtin "sum") (rSum K) := by subst hK; exact cr_sum hc
theorem cr_anyK (hc : X.calm = true) (hK : X.K = K := by rfl) : CallR X (.builtin "any") (rAny K) := by subst hK; exact cr_any hc
theorem cr_allK (hc : X.calm = true) (hK : X.K = K := by rfl) : CallR X (.builtin "all") (rAll K) := by subst hK; exact cr_all hc
theorem cr_sortedIK (hK : X.K = K := by rfl) : CallR X (.builtin "sorted") (rSortedI K) := by subst hK; exact cr_sortedI
end
end Z
namespace Z
open PySem PySem.Spec PyProof.Rows L2
/-! ## plain reading of the words -/
namespace W
variable {α β γ S S' B B' R : Type}
theorem use {w : W α} {P Q : α → Prop} (h : w.run P) (k : ∀ x, P x → Q x) : w.run Q := w.mono k h
theorem bind {w : W α} {f : α → W β} {P : α → Prop} {Q : β → Prop} (h : w.run P) (k : ∀ x, P x → (f x).run Q) : (b w f).run Q := w.mono k h
theorem bis {w : W α} {f : α → W β} {v : α} {Q : β → Prop} (h : w.run (· = v)) (k : (f v).run Q) : (b w f).run Q := w.mono (fun x e => by rw [e]; exact k) h
theorem is_use {w : W α} {v : α} {Q : α → Prop} (h : w.run (· = v)) (q : Q v) : w.run Q := w.mono (fun x e => by rw [e]; exact q) h
theorem bp {x : α} {f : α → W β} {Q : β → Prop} (k : (f x).run Q) : (b (p x) f).run Q := k
/-- what a def's end asks -/
def finQ (Q : R → Prop) : Fl S Empty R → Prop
  | .ret r => Q r
  | .nx _ => False
  | .brk x => x.elim
  | .ct x => x.elim
theorem run_fin {w : W (Fl S Empty R)} {Q : R → Prop} : (fin w).run Q ↔ w.run (finQ Q) := Iff.rfl
theorem finQ_ret {Q : R → Prop} {r : R} : finQ (S := S) Q (.ret r) ↔ Q r := Iff.rfl
def thenQ (k : S → W (Fl S' B R)) (Q : Fl S' B R → Prop) : Fl S B R → Prop
  | .nx s => (k s).run Q
  | .brk x => Q (.brk x)
  | .ct x => Q (.ct x)
  | .ret r => Q (.ret r)
theorem run_then {w : W (Fl S B R)} {k : S → W (Fl S' B R)} {Q : Fl S' B R → Prop} : (andThen w k).run Q ↔ w.run (thenQ k Q) := by
  constructor
  · intro h
    exact w.mono (fun f z => by cases f <;> exact z) h
  · intro h
    exact w.mono (fun f z => by cases f <;> exact z) h
theorem thenQ_nx {k : S → W (Fl S' B R)} {Q : Fl S' B R → Prop} {s : S} : thenQ k Q (.nx s) ↔ (k s).run Q := Iff.rfl
theorem thenQ_brk {k : S → W (Fl S' B R)} {Q : Fl S' B R → Prop} {s : B} : thenQ k Q (.brk s) ↔ Q (.brk s) := Iff.rfl
theorem thenQ_ct {k : S → W (Fl S' B R)} {Q : Fl S' B R → Prop} {s : B} : thenQ k Q (.ct s) ↔ Q (.ct s) := Iff.rfl
theorem thenQ_ret {k : S → W (Fl S' B R)} {Q : Fl S' B R → Prop} {s : R} : thenQ k Q (.ret s) ↔ Q (.ret s) := Iff.rfl
/-- a turn of a loop ended: the next one's state, or the loop's end -/
def turnQ (N : S → Prop) (E : S → Prop) (Q : R → Prop) : Fl S S R → Prop
  | .nx s => N s
  | .ct s => N s
  | .brk s => E s
  | .ret r => Q r
theorem turnQ_nx {N E : S → Prop} {Q : R → Prop} {s : S} : turnQ N E Q (.nx s) ↔ N s := Iff.rfl
theorem turnQ_ct {N E : S → Prop} {Q : R → Prop} {s : S} : turnQ N E Q (.ct s) ↔ N s := Iff.rfl
theorem turnQ_brk {N E : S → Prop} {Q : R → Prop} {s : S} : turnQ N E Q (.brk s) ↔ E s := Iff.rfl
theorem turnQ_ret {N E : S → Prop} {Q : R → Prop} {s : R} : turnQ N E Q (.ret s) ↔ Q s := Iff.rfl
theorem for_go {f : α → S → W (Fl S S R)} {Q : Fl S B R → Prop} : ∀ (l : List α) (Jv : Nat → S → Prop) (s : S), Jv 0 s → (∀ i x s, l[i]? = some x → Jv i s → (f x s).run (turnQ (Jv (i + 1)) (fun s => Q (.nx s)) (fun r => Q (.ret r)))) → (∀ s, Jv l.length s → Q (.nx s)) → (for_ l f s).run Q
  | [], _, s, h0, _, hk => hk s h0
  | x :: l, Jv, s, h0, hs, hk => by
    have h1 := hs 0 x s rfl h0
    refine (f x s).mono (fun z q => ?_) h1
    have go : ∀ s', Jv 1 s' → (for_ (B := B) l f s').run Q := fun s' hi => for_go l (fun i => Jv (i + 1)) s' hi (fun i y s2 hy h2 => hs (i + 1) y s2 hy h2) hk
    cases z with
    | nx s' => exact go s' q
    | ct s' => exact go s' q
    | brk s' => exact q
    | ret r => exact q
/-- a loop over a list, by an invariant -/
theorem for_then {l : List α} {f : α → S → W (Fl S S R)} {s0 : S} {k : S → W (Fl S' B R)} {Q : Fl S' B R → Prop} (Jv : Nat → S → Prop) (h0 : Jv 0 s0)
    (hs : ∀ i x s, l[i]? = some x → Jv i s → (f x s).run (turnQ (Jv (i + 1)) (fun s => (k s).run Q) (fun r => Q (.ret r)))) (hk : ∀ s, Jv l.length s → (k s).run Q) : (andThen (for_ (B := B) l f s0) k).run Q :=
  run_then.mpr (for_go (Q := thenQ k Q) l Jv s0 h0 hs hk)
/-- .. that nothing is kept of -/
theorem for_unit {l : List α} {f : α → Unit → W (Fl Unit Unit R)} {k : Unit → W (Fl S' B R)} {Q : Fl S' B R → Prop}
    (hs : ∀ x ∈ l, (f x ()).run (turnQ (fun _ => True) (fun s => (k s).run Q) (fun r => Q (.ret r)))) (hk : (k ()).run Q) : (andThen (for_ (B := B) l f ()) k).run Q :=
  for_then (fun _ _ => True) trivial (fun i x s hx _ => hs x (List.mem_of_getElem? hx)) fun _ _ => hk
/-- a while loop, by an invariant and a measure -/
theorem while_then {c : S → W Bool} {f : S → W (Fl S S R)} {s0 : S} {k : S → W (Fl S' B R)} {Q : Fl S' B R → Prop} (Jv : Nat → S → Prop) (h0 : ∃ m, Jv m s0)
    (hs : ∀ m s, Jv m s → (c s).run fun t => if t = true then (f s).run (turnQ (fun s' => ∃ m', m' < m ∧ Jv m' s') (fun s => (k s).run Q) (fun r => Q (.ret r))) else (k s).run Q) : (andThen (while_ (B := B) c f s0) k).run Q := by
  rw [run_then]
  refine ⟨Jv, h0, fun m s i => (c s).mono (fun t q => ?_) (hs m s i)⟩
  cases t with
  | true =>
    simp only [if_true] at q ⊢
    exact (f s).mono (fun z q => by cases z <;> exact q) q
  | false => exact q
/-! ### conditions, reads -/
theorem run_bt {w : W Bool} {f : Bool → W β} {c : Bool} {Q : β → Prop} (h : w.run (· = c)) (k : (f c).run Q) : (b w f).run Q := bis h k
theorem run_mul {i j : Int} {Q : Int → Prop} : (mul i j).run Q ↔ CMul i j ∧ Q (i * j) := Iff.rfl
theorem run_div {i j : Int} {Q : Int → Prop} : (div i j).run Q ↔ CDiv i j ∧ Q (i / j) := Iff.rfl
theorem run_mod {i j : Int} {Q : Int → Prop} : (mod i j).run Q ↔ 0 < j ∧ Q (i % j) := Iff.rfl
theorem run_pow {i j : Int} {Q : Int → Prop} : (pow i j).run Q ↔ CPow i j ∧ Q (i ^ j.toNat) := Iff.rfl
theorem run_range {m n : Int} {Q : List Int → Prop} : (range m n).run Q ↔ rgOk m n ∧ Q (rg m n) := Iff.rfl
theorem run_range3 {m n k : Int} {Q : List Int → Prop} : (range3 m n k).run Q ↔ (rgOk m n ∧ 0 < k ∧ k < 1000000) ∧ Q (rg3 m n k) := Iff.rfl
theorem run_cat {l m : List α} {Q : List α → Prop} : (cat l m).run Q ↔ Big (l.length + m.length) ∧ Q (l ++ m) := Iff.rfl
theorem run_draw {m : Int} {Q : Int → Prop} : (draw m).run Q ↔ 0 < m ∧ ∀ r, 0 ≤ r ∧ r < m → Q r := Iff.rfl
theorem run_pick {l : List α} {Q : α → Prop} : (pick l).run Q ↔ (l ≠ [] ∧ Big l.length) ∧ ∀ x, x ∈ l → Q x := Iff.rfl
theorem run_same {c : α → D} {c' : β → D} {n : Nat} {x : α} {y : β} {Q : Bool → Prop} : (same c c' n x y).run Q ↔ (c x = c' y ∧ (c' y).depth ≤ n ∧ small (c' y) = true) ∧ Q true := Iff.rfl
theorem run_and {c : Bool} {w : W Bool} {Q : Bool → Prop} : (and c w).run Q ↔ if c = true then w.run Q else Q false := by unfold and; split <;> exact Iff.rfl
theorem run_or {c : Bool} {w : W Bool} {Q : Bool → Prop} : (or c w).run Q ↔ if c = true then Q true else w.run Q := by unfold or; split <;> exact Iff.rfl
theorem run_ite' {c : Bool} {w u : W α} {Q : α → Prop} : (ite c w u).run Q ↔ if c = true then w.run Q else u.run Q := by unfold ite; split <;> exact Iff.rfl
theorem run_ix {l : List α} {i : Int} {Q : α → Prop} : (ix l i).run Q ↔ ∃ x, atI l i = some x ∧ Q x := Iff.rfl
theorem run_put {l : List α} {i : Int} {x : α} {Q : List α → Prop} : (put l i x).run Q ↔ ∃ m, (ixN l.length i).map (fun k => l.set k x) = some m ∧ Q m := Iff.rfl
theorem run_fail {Q : α → Prop} : (fail : W α).run Q ↔ False := Iff.rfl
/-- an item by its place, from the front -/
theorem ix_is {l : List α} {i : Int} {n : Nat} {x : α} (hi : i = (n : Int)) (h : l[n]? = some x) : (ix l i).run (· = x) := ⟨x, by subst hi; exact atI_nat h, rfl⟩
theorem ix_lt {l : List α} {i : Int} (h0 : 0 ≤ i) (h : i < l.length) : (ix l i).run (· = l[i.toNat]'(by omega)) := ix_is (n := i.toNat) (by omega) (List.getElem?_eq_getElem _)
theorem ix_last {l : List α} (h : l ≠ []) : (ix l (-1)).run (· = l.getLast h) := ⟨l.getLast h, by
  have e := atI_last l.dropLast (l.getLast h)
  rw [List.dropLast_concat_getLast] at e
  exact e, rfl⟩
/-- both lists alike, item by item -/
inductive All2 (P : α → β → Prop) : List α → List β → Prop
  | nil : All2 P [] []
  | cons {x : α} {y : β} {l : List α} {m : List β} : P x y → All2 P l m → All2 P (x :: l) (y :: m)
theorem All2.length {P : α → β → Prop} : ∀ {l : List α} {m : List β}, All2 P l m → m.length = l.length
  | _, _, .nil => rfl
  | _, _, .cons _ t => by rw [List.length_cons, List.length_cons, t.length]
theorem All2.get {P : α → β → Prop} : ∀ {l : List α} {m : List β} {i : Nat} {y : β}, All2 P l m → m[i]? = some y → ∃ x, l[i]? = some x ∧ P x y
  | _, _, _, _, .nil, e => by simp at e
  | _, _, 0, _, .cons h _, e => by simp at e; subst e; exact ⟨_, rfl, h⟩
  | _, _, i + 1, _, .cons _ t, e => by
    obtain ⟨x, h1, h2⟩ := t.get (i := i) (by simpa using e)
    exact ⟨x, by simpa using h1, h2⟩
theorem All2.mem {P : α → β → Prop} {l : List α} {m : List β} {y : β} (h : All2 P l m) (hy : y ∈ m) : ∃ x ∈ l, P x y := by
  obtain ⟨i, hi⟩ := List.mem_iff_getElem?.mp hy
  obtain ⟨x, h1, h2⟩ := h.get hi
  exact ⟨x, List.mem_of_getElem? h1, h2⟩
theorem comp_run {P : α → β → Prop} {t : α → W Bool} {f : α → W β} (tt : α → Bool) : ∀ {l : List α} {Q : List β → Prop}, (∀ x ∈ l, (t x).run (· = tt x)) → (∀ x ∈ l, tt x = true → (f x).run (P x)) → (∀ ys, All2 P (l.filter tt) ys → Q ys) → (comp l t f).run Q
  | [], Q, _, _, q => q [] .nil
  | x :: l, Q, ht, hf, q => by
    refine bis (ht x List.mem_cons_self) ?_
    have hrec : ∀ {Q' : List β → Prop}, (∀ ys, All2 P (l.filter tt) ys → Q' ys) → (comp l t f).run Q' := fun q' => comp_run tt (fun y hy => ht y (List.mem_cons_of_mem _ hy)) (fun y hy => hf y (List.mem_cons_of_mem _ hy)) q'
    cases hx : tt x with
    | true =>
      refine bind (hf x List.mem_cons_self hx) fun y hy => bind (hrec (Q' := All2 P (l.filter tt)) fun _ z => z) fun ys hys => ?_
      refine q _ ?_
      rw [List.filter_cons, if_pos hx]
      exact .cons hy hys
    | false =>
      refine hrec fun ys hys => q ys ?_
      rw [List.filter_cons, if_neg (by rw [hx]; decide)]
      exact hys
theorem all2_map {g : α → β} : ∀ {l : List α} {ys : List β}, All2 (fun x y => y = g x) l ys → ys = l.map g
  | _, _, .nil => rfl
  | _, _, .cons h t => by rw [h, all2_map t]; rfl
theorem comp_is {t : α → W Bool} {f : α → W β} (tt : α → Bool) (g : α → β) {l : List α} (ht : ∀ x ∈ l, (t x).run (· = tt x)) (hf : ∀ x ∈ l, tt x = true → (f x).run (· = g x)) : (comp l t f).run (· = (l.filter tt).map g) :=
  comp_run (P := fun x y => y = g x) tt ht hf fun ys h => all2_map h
theorem cmp_is {t : α → W Bool} {f : α → W β} (tt : α → Bool) (g : α → β) {l : List α} (hl : l.length ≤ 1000000) (ht : ∀ x ∈ l, (t x).run (· = tt x)) (hf : ∀ x ∈ l, tt x = true → (f x).run (· = g x)) : (cmp l t f).run (· = (l.filter tt).map g) :=
  ⟨hl, comp_is tt g ht hf⟩
theorem cmp_map {f : α → W β} (g : α → β) {l : List α} (hl : l.length ≤ 1000000) (hf : ∀ x ∈ l, (f x).run (· = g x)) : (cmp l (fun _ => p true) f).run (· = l.map g) := by
  have h := cmp_is (t := fun _ => p true) (fun _ => true) g hl (fun _ _ => rfl) fun x hx _ => hf x hx
  have e : (l.filter fun _ => true) = l := List.filter_eq_self.mpr fun _ _ => rfl
  rw [e] at h
  exact h
theorem cmp_filter (tt : α → Bool) {t : α → W Bool} {l : List α} (hl : l.length ≤ 1000000) (ht : ∀ x ∈ l, (t x).run (· = tt x)) : (cmp l t fun x => p x).run (· = l.filter tt) := by
  have h := cmp_is (f := fun x => p x) tt id hl ht fun x _ _ => rfl
  rw [List.map_id] at h
  exact h
theorem cmp_all {P : α → β → Prop} {f : α → W β} {l : List α} (hl : l.length ≤ 1000000) (hf : ∀ x ∈ l, (f x).run (P x)) : (cmp l (fun _ => p true) f).run (All2 P l) := by
  refine ⟨hl, comp_run (P := P) (fun _ => true) (fun _ _ => rfl) (fun x hx _ => hf x hx) fun ys h => ?_⟩
  have e : (l.filter fun _ => true) = l := List.filter_eq_self.mpr fun _ _ => rfl
  rw [e] at h
  exact h
theorem cmp2_is {m : α → W (List β)} {f : α → β → W γ} (mm : α → List β) (g : α → β → γ) (B : Nat) {l : List α} (hb : l.length * B ≤ 1000000) (hm : ∀ x ∈ l, (m x).run (· = mm x)) (hB : ∀ x ∈ l, (mm x).length ≤ B) (hf : ∀ x ∈ l, ∀ y ∈ mm x, (f x y).run (· = g x y)) :
    (cmp2 l (fun _ => p true) m (fun _ _ => p true) f).run (· = l.flatMap fun x => (mm x).map (g x)) := by
  refine ⟨B, hb, ?_⟩
  clear hb
  induction l with
  | nil => rfl
  | cons x l ih =>
    refine bis (v := true) rfl ?_
    rw [if_pos rfl]
    refine bis (hm x List.mem_cons_self) ⟨hB x List.mem_cons_self, ?_⟩
    have h1 : (comp (mm x) (fun _ => p true) (f x)).run (· = (mm x).map (g x)) := by
      have h := comp_is (t := fun _ => p true) (fun _ => true) (g x) (l := mm x) (f := f x) (fun _ _ => rfl) fun y hy _ => hf x List.mem_cons_self y hy
      have e : ((mm x).filter fun _ => true) = mm x := List.filter_eq_self.mpr fun _ _ => rfl
      rw [e] at h
      exact h
    refine bis h1 (bis (ih (fun y hy => hm y (List.mem_cons_of_mem _ hy)) (fun y hy => hB y (List.mem_cons_of_mem _ hy)) fun y hy => hf y (List.mem_cons_of_mem _ hy)) ?_)
    show _ ++ _ = _
    rw [List.flatMap_cons]
end W
/-! ### the greatest, the least -/
def mxL : List Int → Int
  | [] => 0
  | [x] => x
  | x :: y :: l => max x (mxL (y :: l))
def mnL : List Int → Int
  | [] => 0
  | [x] => x
  | x :: y :: l => min x (mnL (y :: l))
theorem mxL_mem : ∀ {l : List Int}, l ≠ [] → mxL l ∈ l
  | [x], _ => List.mem_singleton_self x
  | x :: y :: l, _ => by
    have h := mxL_mem (l := y :: l) (List.cons_ne_nil _ _)
    show max x (mxL (y :: l)) ∈ _
    by_cases hx : x ≤ mxL (y :: l)
    · rw [Int.max_eq_right hx]; exact List.mem_cons_of_mem _ h
    · rw [Int.max_eq_left (by omega)]; exact List.mem_cons_self
theorem mxL_le : ∀ {l : List Int} {y : Int}, y ∈ l → y ≤ mxL l
  | [x], y, h => by rw [List.mem_singleton.mp h]; exact Int.le_refl _
  | x :: z :: l, y, h => by
    show y ≤ max x (mxL (z :: l))
    rcases List.mem_cons.mp h with e | e
    · subst e; omega
    · have := mxL_le e; omega
theorem mnL_mem : ∀ {l : List Int}, l ≠ [] → mnL l ∈ l
  | [x], _ => List.mem_singleton_self x
  | x :: y :: l, _ => by
    have h := mnL_mem (l := y :: l) (List.cons_ne_nil _ _)
    show min x (mnL (y :: l)) ∈ _
    by_cases hx : x ≤ mnL (y :: l)
    · rw [Int.min_eq_left hx]; exact List.mem_cons_self
    · rw [Int.min_eq_right (by omega)]; exact List.mem_cons_of_mem _ h
theorem mnL_le : ∀ {l : List Int} {y : Int}, y ∈ l → mnL l ≤ y
  | [x], y, h => by rw [List.mem_singleton.mp h]; exact Int.le_refl _
  | x :: z :: l, y, h => by
    show min x (mnL (z :: l)) ≤ y
    rcases List.mem_cons.mp h with e | e
    · subst e; omega
    · have := mnL_le e; omega
theorem mxL_eq {l : List Int} {m : Int} (hm : m ∈ l) (h : ∀ y ∈ l, y ≤ m) : m = mxL l := Int.le_antisymm (mxL_le hm) (h _ (mxL_mem fun e => by rw [e] at hm; cases hm))
theorem mnL_eq {l : List Int} {m : Int} (hm : m ∈ l) (h : ∀ y ∈ l, m ≤ y) : m = mnL l := Int.le_antisymm (h _ (mnL_mem fun e => by rw [e] at hm; cases hm)) (mnL_le hm)
theorem W.maxL_is {l : List Int} (h : l ≠ []) : (W.maxL l).run (· = mxL l) := ⟨h, fun m hm => mxL_eq hm.1 hm.2⟩
theorem W.minL_is {l : List Int} (h : l ≠ []) : (W.minL l).run (· = mnL l) := ⟨h, fun m hm => mnL_eq hm.1 hm.2⟩
/-! ### ranges -/
theorem rg_len {m n : Int} : (W.rg m n).length = (n - m).toNat := by unfold W.rg; rw [List.length_map, List.length_range]
theorem rg_get {m n : Int} {i : Nat} {x : Int} (h : (W.rg m n)[i]? = some x) : x = m + i ∧ (i : Int) < n - m := by
  have hi : i < (W.rg m n).length := (List.getElem?_eq_some_iff.mp h).1
  rw [rg_len] at hi
  unfold W.rg at h
  rw [List.getElem?_map, List.getElem?_range hi] at h
  exact ⟨(Option.some.inj h).symm, by omega⟩
theorem rg_mem {m n x : Int} : x ∈ W.rg m n ↔ m ≤ x ∧ x < n := by
  constructor
  · intro h
    obtain ⟨i, hi⟩ := List.mem_iff_getElem?.mp h
    have := rg_get hi
    omega
  · intro h
    unfold W.rg
    rw [List.mem_map]
    exact ⟨(x - m).toNat, List.mem_range.mpr (by omega), by omega⟩
theorem rgOk_of {m n : Int} (h1 : -1000000000000 ≤ m) (h2 : m ≤ 1000000000000) (h3 : -1000000000000 ≤ n) (h4 : n ≤ 1000000000000) : W.rgOk m n := ⟨by omega, by omega, by omega, by omega⟩
theorem cmul_small {i j : Int} (h1 : -18446744073709551615 ≤ i) (h2 : i ≤ 18446744073709551615) : CMul i j := .inl ⟨by omega, by omega⟩
theorem same_int {n : Nat} {x y : Int} {Q : Bool → Prop} (h : x = y) (hs : -(10 ^ 500) < y ∧ y < 10 ^ 500) (q : Q true) : (W.same cI cI n x y).run Q := by
  subst h
  refine ⟨⟨rfl, Nat.zero_le _, ?_⟩, q⟩
  show decide (x.natAbs < 2 ^ 1900) = true
  rw [decide_eq_true_eq]
  have h1 : x.natAbs < 10 ^ 500 := by omega
  exact Nat.lt_trans h1 (by decide)
/-- a list of ints that is alike -/
theorem small_ints {l : List Int} (h : ∀ x ∈ l, -(10 ^ 500) < x ∧ x < 10 ^ 500) : smallAll (l.map cI) = true := by
  induction l with
  | nil => rfl
  | cons x l ih =>
    show (decide (x.natAbs < 2 ^ 1900) && smallAll (l.map cI)) = true
    rw [ih fun y hy => h y (List.mem_cons_of_mem _ hy), Bool.and_true, decide_eq_true_eq]
    have := h x List.mem_cons_self
    have h1 : x.natAbs < 10 ^ 500 := by omega
    exact Nat.lt_trans h1 (by decide)
theorem same_ints {n : Nat} {x y : List Int} {Q : Bool → Prop} (h : x = y) (hl : y.length ≤ 1000000) (hs : ∀ z ∈ y, -(10 ^ 500) < z ∧ z < 10 ^ 500) (q : Q true) (hn : 1 ≤ n := by decide) : (W.same (cL cI) (cL cI) n x y).run Q := by
  subst h
  refine ⟨⟨rfl, Nat.le_trans ((plL plI).dep x) hn, ?_⟩, q⟩
  show (decide ((x.map cI).length ≤ 1000000) && smallAll (x.map cI)) = true
  rw [small_ints hs, List.length_map, Bool.and_true, decide_eq_true_eq]
  exact hl
theorem same_tints {n : Nat} {x y : List Int} {Q : Bool → Prop} (h : x = y) (hl : y.length ≤ 1000000) (hs : ∀ z ∈ y, -(10 ^ 500) < z ∧ z < 10 ^ 500) (q : Q true) (hn : 1 ≤ n := by decide) : (W.same (cT cI) (cT cI) n x y).run Q := by
  subst h
  refine ⟨⟨rfl, Nat.le_trans ((plT plI).dep x) hn, ?_⟩, q⟩
  show (decide ((x.map cI).length ≤ 1000000) && smallAll (x.map cI)) = true
  rw [small_ints hs, List.length_map, Bool.and_true, decide_eq_true_eq]
  exact hl
end Z
namespace Law
open PySem PySem.Spec PyProof.Rows L2 Z
def topS (i : Nat) : Stmt := PySem.Challenge.pw_stagelands_k67_whole_speakers_that_wait.main.body.getD i (.Pass ⟨0, 0, 0, 0⟩)

theorem sc_draw : FnScope ["box", "many"] ["box", "many"] (defScope (topS 13)) := ⟨rfl, rfl, rfl, by decide +kernel, rfl, by decide +kernel, by decide +kernel⟩
theorem ok_draw {P : Program} {w : World} {K : PySem.W.Frag} {mg : Str → Option Value} {base : Heap} (h : HasFn K mg "_law_draw" (topS 13) ["box", "many"]) (m_len : mg "len" = none) (m_int : mg "int" = none) : Cal P w K mg base 1 "_law_draw" (spF K relDraw (vS cI)) :=
  have sc := sc_draw
  cal_of h sc (spF_len (fun ρ w h => by obtain ⟨m, rfl, rfl⟩ := h; rfl)) fun f cdv A outer s H vs Q E hr h => ⟨_,
    (pss_cons (ps_asg (pe_op op_add (pe_ix ix_list (pv 0) pe_int (pix rfl)) pe_int) (pg_sub (pv 0) pe_int set_list))
      (pss_cons (ps_if (pt_cmpR op_gt (pe_ix ix_list (pv 0) pe_int (pix rfl)) (pe_callB call_lenS (by rfl) m_len PySem.boot_len (pa_cons (pe_ix ix_list (pv 0) pe_int (pix rfl)) pa_nil)) (nomark _))
        (pss_cons (ps_ret (pe_op op_mod (pe_callTy call_in1 (by rfl) m_int (show bootBuiltins "int" = some (Value.type "int") by decide +kernel) (pa_cons (pe_op op_add (pe_op op_mul (pe_ix ix_list (pv 0) pe_int (pix rfl)) pe_int) pe_int) pa_nil)) (pv 1))) pss_nil) pss_nil)
      (pss_cons (ps_ret (pe_op op_mod (pe_callTy call_in1 (by rfl) m_int (show bootBuiltins "int" = some (Value.type "int") by decide +kernel) (pa_cons (pe_ix ix_list (pe_ix ix_list (pv 0) pe_int (pix rfl)) (pe_op op_sub (pe_ix ix_list (pv 0) pe_int (pix rfl)) pe_int) (pix rfl)) pa_nil)) (pv 1))) pss_nil))), by
    obtain ⟨b, G, ρ, w', g, a, ⟨m, rfl, rfl⟩, q⟩ := h
    match vs, a with
    | [v1, v2], ⟨⟨p, e1, e2⟩, a2, _⟩ =>
      have e3 : v2 = .int m := vI a2
      subst e1 e3
      obtain ⟨ad, ns, k, h1, h2, h3, h4⟩ := g.bx p e2
      obtain ⟨hm, q⟩ := q
      have hs : SqL K H p [V.ref ad, V.int k] := .inl (.inl h1)
      refine ⟨.ref p, rfl, p, _, 1, .int k, rfl, rfl, hs, rfl, k, 1, rfl, rfl, .ref p, rfl, p, _, 1, 1, rfl, rfl, h1, rfl, ?_⟩
      let H' := upd H p (.lst [V.ref ad, V.int (k + 1)])
      have hs' : SqL K H' p [V.ref ad, V.int (k + 1)] := .inl (.inl upd_same)
      have hsub : Same (hb b H) (hb b H') := fun x o e => by
        obtain ⟨z1, z2⟩ := hb_some.mp e
        have : x ≠ p := fun z => by subst z; exact z1 e2.symm
        exact hb_some.mpr ⟨z1, by show upd H p _ x = _; rw [upd_ne this]; exact z2⟩
      have ex : Ext K b G H G H' := ⟨Same.refl G, hsub, g.gh.trans hsub, fun _ _ => rfl, fun y hy => by
        have : y = p := Option.some.inj (hy.symm.trans e2)
        subst this
        exact ⟨ad, ns, k + 1, upd_same, h2, h3, by omega⟩⟩
      have hA : SqL K H' ad (ns.map V.int) := hb_sub.sqL (ex.gh.sqL h2)
      have fin : ∀ r : Int, 0 ≤ r → r < m → Q (.int r) H' := fun r r1 r2 => q r ⟨r1, r2⟩ _ G H' ex (Dp.int r)
      refine ⟨.ref p, rfl, p, _, 1, _, rfl, rfl, hs', rfl, .ref p, rfl, p, _, 0, _, rfl, rfl, hs', rfl, ad, _, rfl, .inl hA, k + 1, _, rfl, rfl, _, rfl, ?_⟩
      by_cases hgt : k + 1 > ((ns.map V.int).length : Int)
      · rw [decide_eq_true hgt]
        refine ⟨.ref p, rfl, p, _, 1, _, rfl, rfl, hs', rfl, k + 1, 7, rfl, rfl, .inr (by decide), _, 3, rfl, rfl, .inl ⟨_, rfl, .int m, rfl, _, m, rfl, rfl, hm, ?_⟩⟩
        exact fin _ (Int.emod_nonneg _ (by omega)) (Int.emod_lt_of_pos _ hm)
      · rw [decide_eq_false hgt]
        rw [List.length_map] at hgt
        have hi : k.toNat < ns.length := by omega
        have hx : atI (ns.map V.int) (k + 1 - 1) = some (.int ns[k.toNat]) := by
          have : (k + 1 - 1 : Int) = (k.toNat : Int) := by omega
          rw [this]
          exact atI_nat (by rw [List.getElem?_map, List.getElem?_eq_getElem hi]; rfl)
        refine ⟨.ref p, rfl, p, _, 0, _, rfl, rfl, hs', rfl, .ref p, rfl, p, _, 1, _, rfl, rfl, hs', rfl, k + 1, 1, rfl, rfl, ad, _, _, _, rfl, rfl, hA, hx, .inl ⟨_, rfl, .int m, rfl, _, m, rfl, rfl, hm, ?_⟩⟩
        exact fin _ (Int.emod_nonneg _ (by omega)) (Int.emod_lt_of_pos _ hm)⟩
theorem sc_pick : FnScope ["box", "row"] ["box", "row"] (defScope (topS 14)) := ⟨rfl, rfl, rfl, by decide +kernel, rfl, by decide +kernel, by decide +kernel⟩
theorem ok_pick {P : Program} {w : World} {K : PySem.W.Frag} {mg : Str → Option Value} {base : Heap} (h : HasFn K mg "_law_pick" (topS 14) ["box", "row"]) (m_len : mg "len" = none) (m_int : mg "int" = none) (c__law_draw : Cal P w K mg base 1 "_law_draw" (spF K relDraw (vS cI))) : Cal P w K mg base 2 "_law_pick" (spF K relPick (fun d => .val d)) :=
  have sc := sc_pick
  cal_of h sc (spF_len (fun ρ w h => by obtain ⟨m, rfl, rfl⟩ := h; rfl)) fun f cdv A outer s H vs Q E hr h => ⟨_,
    (pss_cons (ps_ret (pe_ix ix_list (pv 1) (pe_op op_mod (pe_callTy call_in1 (by rfl) m_int (show bootBuiltins "int" = some (Value.type "int") by decide +kernel) (pa_cons (pe_c c__law_draw hr (by decide) (by rfl) (pa_cons (pv 0) (pa_cons pe_int pa_nil))) pa_nil)) (pe_callB call_lenS (by rfl) m_len PySem.boot_len (pa_cons (pv 1) pa_nil))) (pix rfl))) pss_nil), by
      obtain ⟨b, G, ρ, w', g, a, ⟨l, rfl, rfl⟩, q⟩ := h
      obtain ⟨v1, v2, rfl, ⟨p, rfl, e2⟩, r, ws, ds, h1, rfl, h3, h4⟩ := args2 a
      cases h1
      obtain ⟨⟨hne, hbig⟩, q⟩ := q
      refine ⟨.ref r, rfl, ?_⟩
      refine ⟨.ref p, rfl, ?_⟩
      refine ⟨b, G, [.box, vS cI 1000], W.draw 1000, g, ⟨⟨p, rfl, e2⟩, Dp.int 1000, trivial⟩, ⟨1000, rfl, rfl⟩, (by decide : (0 : Int) < 1000), fun k hk v G2 H2 ex av => ?_⟩
      have ev : v = .int k := vI av
      subst ev
      have hr2 : SqL K H2 r ws := hb_sub.sqL (ex.hh.sqL h3)
      have hlen : ws.length = l.length := h4.length
      have hpos : 0 < ws.length := by rw [hlen]; exact List.length_pos_iff.mpr hne
      refine .inl ⟨k, rfl, .ref r, rfl, r, ws, rfl, .inl hr2, k, _, rfl, rfl, by omega, ?_⟩
      have h5 : 0 ≤ k % (ws.length : Int) := Int.emod_nonneg _ (by omega)
      have h6 : k % (ws.length : Int) < ws.length := Int.emod_lt_of_pos _ (by omega)
      have hi : (k % (ws.length : Int)).toNat < l.length := by omega
      obtain ⟨z, z1, z2⟩ := h4.get (List.getElem?_eq_getElem hi)
      refine ⟨r, ws, _, z, rfl, rfl, hr2, by
        have : k % (ws.length : Int) = (((k % (ws.length : Int)).toNat : Nat) : Int) := by omega
        rw [this]; exact atI_nat z1, ?_⟩
      exact q _ (List.getElem_mem hi) z G2 H2 ex (Dp.mono ex.gg z2)⟩
theorem sc_same : FnScope ["told", "due", "k"] ["told", "due"] (defScope (topS 15)) := ⟨rfl, rfl, rfl, by decide +kernel, rfl, by decide +kernel, by decide +kernel⟩
theorem ifT {c : Bool} {A B : Prop} (h : c = true) (a : A) : if c = true then A else B := by rw [if_pos h]; exact a
theorem ifF {c : Bool} {A B : Prop} (h : c = false) (a : B) : if c = true then A else B := by rw [if_neg (by rw [h]; decide)]; exact a
/-- None, a truth value, a number, a text; else the rest of the def is gone through -/
theorem same_front {P : Program} {w : World} {K : PySem.W.Frag} {mg : Str → Option Value} {base : Heap} {f : Addr} {cdv : Value} {A : Around} {outer : List PySem.Env} {s : Shared} {H : Hp} {E : XK} {j : Nat} {us : TS} (m_isinstance : mg "isinstance" = none) (m_str : mg "str" = none) (m_int : mg "int" = none) (m_bool : mg "bool" = none) (m_repr : mg "repr" = none)
    (hr : Room j (A.deeper (envOfC "_law_same" (defScope (topS 15)) s.heap.objs.size f cdv)))
    (h : PSs (cxOf CX0 P w K mg base ["told", "due", "k"] "_law_same" (defScope (topS 15)) f cdv A outer s H E).nox ((defBody (topS 15)).drop 5) us) :
    ∃ t, PSs (cxOf CX0 P w K mg base ["told", "due", "k"] "_law_same" (defScope (topS 15)) f cdv A outer s H E).nox (defBody (topS 15)) t ∧ ∀ (D : Ends) (v1 v2 : V) (d : PyData), Dp K H v1 d → Dp K H v2 d → small d = true →
      (d.depth = 0 → D.rt (.bl true) H) → (∀ ds, d = .list ds ∨ d = .tuple ds → us D [some v1, some v2, none] H) → t D [some v1, some v2, none] H := by
  have sc := sc_same
  refine ⟨_, pss_cons (ps_if (pt_cmpR op_isN0 (pv 1) pe_non (nomark _)) (pss_cons (ps_ret (pe_cmpR op_isN0 (pv 0) pe_non (nomark _))) pss_nil) pss_nil)
    (pss_cons (ps_if (pt_cmpR op_isTF (pv 1) pe_bl (nomark _)) (pss_cons (ps_ret (pe_cmpR op_isTF (pv 0) pe_bl (nomark _))) pss_nil) pss_nil)
    (pss_cons (ps_if (pt_cmpR op_isTF (pv 1) pe_bl (nomark _)) (pss_cons (ps_ret (pe_cmpR op_isTF (pv 0) pe_bl (nomark _))) pss_nil) pss_nil)
    (pss_cons (ps_if (pt_val (pe_callB call_isiD (by rfl) m_isinstance (show bootBuiltins "isinstance" = some (Value.builtin "isinstance") by decide +kernel) (pa_cons (pv 1) (pa_cons (pe_bltn (v := V.ty "str") (by rfl) m_str (show bootBuiltins "str" = some (Value.type "str") by decide +kernel) rfl) pa_nil))))
      (pss_cons (ps_ret (pe_and (pe_callB call_isiD (by rfl) m_isinstance (show bootBuiltins "isinstance" = some (Value.builtin "isinstance") by decide +kernel) (pa_cons (pv 0) (pa_cons (pe_bltn (v := V.ty "str") (by rfl) m_str (show bootBuiltins "str" = some (Value.type "str") by decide +kernel) rfl) pa_nil)))
        (pe_one (pe_cmpR (op_eqP hr) (pe_callB call_reprX (by rfl) m_repr (show bootBuiltins "repr" = some (Value.builtin "repr") by decide +kernel) (pa_cons (pv 0) pa_nil)) (pe_callB call_reprX (by rfl) m_repr (show bootBuiltins "repr" = some (Value.builtin "repr") by decide +kernel) (pa_cons (pv 1) pa_nil)) (nomark _))))) pss_nil) pss_nil)
    (pss_cons (ps_if (pt_val (pe_callB call_isiD (by rfl) m_isinstance (show bootBuiltins "isinstance" = some (Value.builtin "isinstance") by decide +kernel) (pa_cons (pv 1) (pa_cons (pe_bltn (v := V.ty "int") (by rfl) m_int (show bootBuiltins "int" = some (Value.type "int") by decide +kernel) rfl) pa_nil))))
      (pss_cons (ps_ret (pe_and (pe_callB call_isiD (by rfl) m_isinstance (show bootBuiltins "isinstance" = some (Value.builtin "isinstance") by decide +kernel) (pa_cons (pv 0) (pa_cons (pe_bltn (v := V.ty "int") (by rfl) m_int (show bootBuiltins "int" = some (Value.type "int") by decide +kernel) rfl) pa_nil)))
        (pe_and (pe_not (pe_callB call_isiD (by rfl) m_isinstance (show bootBuiltins "isinstance" = some (Value.builtin "isinstance") by decide +kernel) (pa_cons (pv 0) (pa_cons (pe_bltn (v := V.ty "bool") (by rfl) m_bool (show bootBuiltins "bool" = some (Value.type "bool") by decide +kernel) rfl) pa_nil))))
        (pe_one (pe_cmpR (op_eqP hr) (pe_callB call_reprX (by rfl) m_repr (show bootBuiltins "repr" = some (Value.builtin "repr") by decide +kernel) (pa_cons (pv 0) pa_nil)) (pe_callB call_reprX (by rfl) m_repr (show bootBuiltins "repr" = some (Value.builtin "repr") by decide +kernel) (pa_cons (pv 1) pa_nil)) (nomark _)))))) pss_nil) pss_nil)
    h)))), fun D v1 v2 d d1 d2 hs h0 h1 => ?_⟩
  have noN : ∀ v, Dp K H v d → d ≠ .none → v ≠ .non := fun v h hd e => by subst e; cases h; exact hd rfl
  have noB : ∀ v c, Dp K H v d → (∀ b, d ≠ .bool b) → v ≠ .bl c := fun v c h hd e => by subst e; cases h; exact hd _ rfl
  have n1 : d ≠ .none → v2 ≠ .non := noN v2 d2
  cases d with
  | none =>
    cases d1; cases d2
    exact ⟨_, rfl, rfl, _, rfl, ifT (by decide) ⟨_, rfl, rfl, h0 rfl⟩⟩
  | bool c =>
    cases d1; cases d2
    cases c with
    | true => exact ⟨_, rfl, rfl, _, rfl, ifF (by decide) ⟨_, rfl, _, rfl, _, rfl, ifT (by decide) ⟨_, rfl, _, rfl, h0 rfl⟩⟩⟩
    | false => exact ⟨_, rfl, rfl, _, rfl, ifF (by decide) ⟨_, rfl, _, rfl, _, rfl, ifF (by decide) ⟨_, rfl, _, rfl, _, rfl, ifT (by decide) ⟨_, rfl, _, rfl, h0 rfl⟩⟩⟩⟩
  | int i =>
    have d1' := d1
    have d2' := d2
    cases d1; cases d2
    have hz : i.natAbs.log2 < 1920 := by
      have h2 : i.natAbs < 2 ^ 1900 := by exact of_decide_eq_true hs
      by_cases h3 : i.natAbs = 0
      · rw [h3]; decide
      · exact Nat.lt_of_lt_of_le ((Nat.log2_lt h3).mpr h2) (by decide)
    refine ⟨_, rfl, rfl, _, rfl, ifF (by simp) ⟨_, rfl, _, rfl, _, rfl, ifF (by simp) ⟨_, rfl, _, rfl, _, rfl, ifF (by simp) ⟨_, rfl, _, _, _, _, rfl, d2', kb_is, _, rfl, ifF rfl ⟨_, rfl, _, _, _, _, rfl, d2', kb_ii, _, rfl, ifT rfl ?_⟩⟩⟩⟩⟩
    refine ⟨_, rfl, _, _, _, _, rfl, d1', kb_ii, _, rfl, ifT rfl ⟨_, rfl, _, _, _, _, rfl, d1', kb_ib, _, rfl, _, rfl, ifT rfl ⟨_, rfl, .inl ⟨i, rfl, hz, _, rfl, .inl ⟨i, rfl, hz, .str _, .str _, .str _, .str _, rfl, rfl, Nat.zero_le _, ?_⟩⟩⟩⟩⟩
    have e : PyData.eqv (.str (toString i)) (.str (toString i)) = true := by
      show ((toString i : Str) == _) = true
      exact beq_self_eq_true _
    rw [e]
    exact h0 rfl
  | str x =>
    have d1' := d1
    have d2' := d2
    cases d1; cases d2
    have hz : (reprText x).length ≤ sizeLine := by
      have h2 : (decide (x.length ≤ 1000) && x.cps.toList.all fun c => decide (c < 16 ^ 8)) = true := hs
      rw [Bool.and_eq_true, decide_eq_true_eq, List.all_eq_true] at h2
      refine Nat.le_trans (StrLaws.reprText_len x fun c hc => of_decide_eq_true (h2.2 c hc)) ?_
      exact Nat.le_trans (show 10 * x.length + 2 ≤ 10002 by omega) (by decide)
    refine ⟨_, rfl, rfl, _, rfl, ifF (by simp) ⟨_, rfl, _, rfl, _, rfl, ifF (by simp) ⟨_, rfl, _, rfl, _, rfl, ifF (by simp) ⟨_, rfl, _, _, _, _, rfl, d2', kb_ss, _, rfl, ifT rfl ?_⟩⟩⟩⟩
    refine ⟨_, rfl, _, _, _, _, rfl, d1', kb_ss, _, rfl, ifT rfl ⟨_, rfl, .inr ⟨x, rfl, hz, _, rfl, .inr ⟨x, rfl, hz, .str _, .str _, .str _, .str _, rfl, rfl, Nat.zero_le _, ?_⟩⟩⟩⟩
    have e : PyData.eqv (.str (reprText x)) (.str (reprText x)) = true := by
      show ((reprText x : Str) == _) = true
      exact beq_self_eq_true _
    rw [e]
    exact h0 rfl
  | list ds =>
    have hn := noN v2 d2 (fun z => nomatch z)
    have hb := fun c => noB v2 c d2 (fun b z => nomatch z)
    exact ⟨_, rfl, rfl, _, rfl, ifF (decide_eq_false hn) ⟨_, rfl, _, rfl, _, rfl, ifF (decide_eq_false (hb _)) ⟨_, rfl, _, rfl, _, rfl, ifF (decide_eq_false (hb _)) ⟨_, rfl, _, _, _, _, rfl, d2, kb_ls, _, rfl, ifF rfl ⟨_, rfl, _, _, _, _, rfl, d2, kb_li, _, rfl, ifF rfl (h1 ds (.inl rfl))⟩⟩⟩⟩⟩
  | tuple ds =>
    have hn := noN v2 d2 (fun z => nomatch z)
    have hb := fun c => noB v2 c d2 (fun b z => nomatch z)
    exact ⟨_, rfl, rfl, _, rfl, ifF (decide_eq_false hn) ⟨_, rfl, _, rfl, _, rfl, ifF (decide_eq_false (hb _)) ⟨_, rfl, _, rfl, _, rfl, ifF (decide_eq_false (hb _)) ⟨_, rfl, _, _, _, _, rfl, d2, kb_ts, _, rfl, ifF rfl ⟨_, rfl, _, _, _, _, rfl, d2, kb_ti, _, rfl, ifF rfl (h1 ds (.inr rfl))⟩⟩⟩⟩⟩
  | dict es => cases hs

theorem ok_same {P : Program} {w : World} {K : PySem.W.Frag} {mg : Str → Option Value} {base : Heap} (h : HasFn K mg "_law_same" (topS 15) ["told", "due"]) (m_isinstance : mg "isinstance" = none) (m_str : mg "str" = none) (m_int : mg "int" = none) (m_bool : mg "bool" = none) (m_repr : mg "repr" = none) (m_tuple : mg "tuple" = none) (m_list : mg "list" = none) (m_len : mg "len" = none) (m_range : mg "range" = none) :
    ∀ n : Nat, Cal P w K mg base (n + 1) "_law_same" (spF K (relSame n) (vS cB)) := by
  have sc := sc_same
  intro n
  induction n with
  | zero =>
    refine cal_of h sc (spF_len (fun ρ w h => by obtain ⟨m, rfl, _⟩ := h; rfl)) fun f cdv A outer s H vs Q E hr h => ?_
    obtain ⟨t, ht, hq⟩ := same_front (P := P) (w := w) (K := K) (mg := mg) (base := base) (outer := outer) (H := H) (E := E) m_isinstance m_str m_int m_bool m_repr hr pss_dead
    refine ⟨t, ht, ?_⟩
    obtain ⟨b, G, ρ, w', g, a, ⟨d, rfl, hd, hs, rfl⟩, q⟩ := h
    obtain ⟨v1, v2, rfl, a1, a2⟩ := args2 a
    refine hq _ v1 v2 d (Dp.mono hb_sub a1) (Dp.mono hb_sub a2) hs (fun _ => q _ G H g.ext (Dp.bl true)) fun ds e => ?_
    rcases e with e | e
    · subst e
      have hd : PyData.depthAll ds + 1 ≤ 0 := hd
      omega
    · subst e
      have hd : PyData.depthAll ds + 1 ≤ 0 := hd
      omega
  | succ n ih =>
    refine cal_of h sc (spF_len (fun ρ w h => by obtain ⟨m, rfl, _⟩ := h; rfl)) fun f cdv A outer s H vs Q E hr h => ?_
    obtain ⟨t, ht, hq⟩ := same_front (P := P) (w := w) (K := K) (mg := mg) (base := base) (outer := outer) (H := H) (E := E) m_isinstance m_str m_int m_bool m_repr hr
      (pss_cons (ps_if (PW.pt (pw_or (PW.pt (pw_and (pt_val (pe_callB call_isiD (by rfl) m_isinstance (show bootBuiltins "isinstance" = some (Value.builtin "isinstance") by decide +kernel) (pa_cons (pv 1) (pa_cons (pe_bltn (v := V.ty "tuple") (by rfl) m_tuple (show bootBuiltins "tuple" = some (Value.type "tuple") by decide +kernel) rfl) pa_nil))))
          (pw_and1 (pt_not (pt_val (pe_callB call_isiD (by rfl) m_isinstance (show bootBuiltins "isinstance" = some (Value.builtin "isinstance") by decide +kernel) (pa_cons (pv 0) (pa_cons (pe_bltn (v := V.ty "tuple") (by rfl) m_tuple (show bootBuiltins "tuple" = some (Value.type "tuple") by decide +kernel) rfl) pa_nil))))))))
        (pw_or1 (PW.pt (pw_and (pt_val (pe_callB call_isiD (by rfl) m_isinstance (show bootBuiltins "isinstance" = some (Value.builtin "isinstance") by decide +kernel) (pa_cons (pv 1) (pa_cons (pe_bltn (v := V.ty "list") (by rfl) m_list (show bootBuiltins "list" = some (Value.type "list") by decide +kernel) rfl) pa_nil))))
          (pw_and1 (pt_not (pt_val (pe_callB call_isiD (by rfl) m_isinstance (show bootBuiltins "isinstance" = some (Value.builtin "isinstance") by decide +kernel) (pa_cons (pv 0) (pa_cons (pe_bltn (v := V.ty "list") (by rfl) m_list (show bootBuiltins "list" = some (Value.type "list") by decide +kernel) rfl) pa_nil)))))))))))
        (pss_cons (ps_ret pe_bl) pss_nil) pss_nil)
      (pss_cons (ps_if (pt_cmpR (op_neP hr) (pe_callB call_lenS (by rfl) m_len PySem.boot_len (pa_cons (pv 0) pa_nil)) (pe_callB call_lenS (by rfl) m_len PySem.boot_len (pa_cons (pv 1) pa_nil)) (nomark _)) (pss_cons (ps_ret pe_bl) pss_nil) pss_nil)
      (pss_cons (ps_for PassesOwn.never rfl (pi_range1 (by rfl) m_range (pa_cons (pe_callB call_lenS (by rfl) m_len PySem.boot_len (pa_cons (pv 1) pa_nil)) pa_nil)) (pg_name (i := 2) sc.nd rfl (Or.inl rfl))
        (pss_cons (ps_if (pt_not (pt_val (pe_c ih hr (Nat.le_refl _) (by rfl) (pa_cons (pe_ix ix_seq (pv 0) (pv 2) (pix rfl)) (pa_cons (pe_ix ix_seq (pv 1) (pv 2) (pix rfl)) pa_nil))))) (pss_cons (ps_ret pe_bl) pss_nil) pss_nil) pss_nil))
      (pss_cons (ps_ret pe_bl) pss_nil))))
    refine ⟨t, ht, ?_⟩
    obtain ⟨b, G, ρ, w', g, a, ⟨d, rfl, hd, hs, rfl⟩, q⟩ := h
    obtain ⟨v1, v2, rfl, a1, a2⟩ := args2 a
    refine hq _ v1 v2 d (Dp.mono hb_sub a1) (Dp.mono hb_sub a2) hs (fun _ => q _ G H g.ext (Dp.bl true)) fun ds e => ?_
    -- a list or a tuple: both alike
    have key : ∃ (isT : Bool) (p1 p2 : Addr) (vs1 vs2 : List V), v1 = .ref p1 ∧ v2 = .ref p2 ∧ kitB (tyD d) "tuple" = some isT ∧ kitB (tyD d) "list" = some (!isT) ∧ (∀ H', Same (hb b H) (hb b H') → SqK isT K H' p1 vs1 ∧ SqK isT K H' p2 vs2) ∧ DpAll K (hb b H) vs1 ds ∧ DpAll K (hb b H) vs2 ds ∧ ds.length ≤ 1000000 ∧ smallAll ds = true ∧ PyData.depthAll ds ≤ n := by
      rcases e with e | e
      · subst e
        have a1' : Dp K (hb b H) v1 (.list ds) := a1
        have a2' : Dp K (hb b H) v2 (.list ds) := a2
        have hs' : (decide (ds.length ≤ 1000000) && smallAll ds) = true := hs
        rw [Bool.and_eq_true, decide_eq_true_eq] at hs'
        have hd' : PyData.depthAll ds + 1 ≤ n + 1 := hd
        cases a1' with
        | @lst p1 vs1 _ h1 h2 =>
          cases a2' with
          | @lst p2 vs2 _ h3 h4 => exact ⟨false, p1, p2, vs1, vs2, rfl, rfl, kb_lt, kb_ll, fun H' s' => ⟨hb_sub.sqL (s'.sqL h1), hb_sub.sqL (s'.sqL h3)⟩, h2, h4, hs'.1, hs'.2, by omega⟩
      · subst e
        have a1' : Dp K (hb b H) v1 (.tuple ds) := a1
        have a2' : Dp K (hb b H) v2 (.tuple ds) := a2
        have hs' : (decide (ds.length ≤ 1000000) && smallAll ds) = true := hs
        rw [Bool.and_eq_true, decide_eq_true_eq] at hs'
        have hd' : PyData.depthAll ds + 1 ≤ n + 1 := hd
        cases a1' with
        | @tup p1 vs1 _ h1 h2 =>
          cases a2' with
          | @tup p2 vs2 _ h3 h4 => exact ⟨true, p1, p2, vs1, vs2, rfl, rfl, kb_tt, kb_tl, fun H' s' => ⟨hb_sub.sqT (s'.sqT h1), hb_sub.sqT (s'.sqT h3)⟩, h2, h4, hs'.1, hs'.2, by omega⟩
    obtain ⟨isT, p1, p2, vs1, vs2, rfl, rfl, kt, kl, sq, w1, w2, hlen, hsm, hdp⟩ := key
    have e1 : Dp K H (.ref p1) d := Dp.mono hb_sub a1
    have e2 : Dp K H (.ref p2) d := Dp.mono hb_sub a2
    have l1 : vs1.length = ds.length := w1.length
    have l2 : vs2.length = ds.length := w2.length
    have lenOf : ∀ p ws, SqK isT K H p ws → SqL K H p ws ∨ SqT K H p ws := fun p ws z => by cases isT <;> first | exact .inl z | exact .inr z
    have hl1 := lenOf _ _ (sq H (Same.refl _)).1
    have hl2 := lenOf _ _ (sq H (Same.refl _)).2
    -- the kinds agree
    have front : ∀ Q : Bool → Hp → Prop, Q false H → (tOr (tAnd (tB (tCB (rIsiD K) (tCons (tVar 1) (tCons (tC (.ty "tuple")) tNil)))) (tNot (tB (tCB (rIsiD K) (tCons (tVar 0) (tCons (tC (.ty "tuple")) tNil)))))) (tAnd (tB (tCB (rIsiD K) (tCons (tVar 1) (tCons (tC (.ty "list")) tNil)))) (tNot (tB (tCB (rIsiD K) (tCons (tVar 0) (tCons (tC (.ty "list")) tNil)))))) : TT) [some (.ref p1), some (.ref p2), none] H Q := fun Q t => by
      cases isT with
      | true => exact ⟨_, rfl, _, d, "tuple", _, rfl, e2, kt, _, rfl, ifT rfl ⟨_, rfl, _, d, "tuple", _, rfl, e1, kt, _, rfl, ifF rfl ⟨_, rfl, _, d, "list", _, rfl, e2, kl, _, rfl, ifF rfl t⟩⟩⟩
      | false => exact ⟨_, rfl, _, d, "tuple", _, rfl, e2, kt, _, rfl, ifF rfl (ifF rfl ⟨_, rfl, _, d, "list", _, rfl, e2, kl, _, rfl, ifT rfl ⟨_, rfl, _, d, "list", _, rfl, e1, kl, _, rfl, t⟩⟩)⟩
    have ixOf : ∀ (p : Addr) (ws : List V) (k : Nat) (z : V) (Q : VK) (H' : Hp), SqK isT K H' p ws → ws[k]? = some z → Q z H' → rIx K (.ref p) (.int (0 + (k : Int))) H' Q := fun p ws k z Q H' h1 h2 h3 => by
      have h4 : atI ws (0 + (k : Int)) = some z := by rw [Int.zero_add]; exact atI_nat h2
      cases isT with
      | true => exact .inr (.inl ⟨p, ws, _, z, rfl, rfl, h1, h4, h3⟩)
      | false => exact .inl ⟨p, ws, _, z, rfl, rfl, h1, h4, h3⟩
    refine front _ (ifF rfl ?_)
    refine ⟨.ref p1, rfl, p1, vs1, rfl, hl1, .ref p2, rfl, p2, vs2, rfl, hl2, .int _, .int _, Dp.int _, Dp.int _, rfl, rfl, Nat.zero_le _, _, rfl, ifF ?_ ?_⟩
    · rw [l1, l2]
      show (!((ds.length : Int) == (ds.length : Int))) = false
      simp
    refine ⟨.ref p2, rfl, p2, vs2, rfl, hl2, _, rfl, by omega, by omega, fun i m σ H' => m + i = ds.length + 1 ∧ i ≤ ds.length ∧ ∃ x G', σ = [some (.ref p1), some (.ref p2), x] ∧ Ext K b G H G' H', ⟨ds.length + 1, by omega, Nat.zero_le _, none, G, rfl, g.ext⟩, fun i m σ H' hW => ?_⟩
    obtain ⟨hm, hil, x, G', rfl, ex⟩ := hW
    by_cases hlt : i < ds.length
    · refine .inr ⟨by show i < _; omega, fun σ' H'' => ∃ x G'', σ' = [some (.ref p1), some (.ref p2), x] ∧ Ext K b G H G'' H'', fun σ' H'' ⟨x, G'', z1, z2⟩ => ⟨m - 1, by omega, by omega, by omega, x, G'', z1, z2⟩, fun v H2 hy => ?_⟩
      obtain ⟨rfl, rfl⟩ := hy
      obtain ⟨z1, g1, b1⟩ := w1.get (List.getElem?_eq_getElem hlt)
      obtain ⟨z2, g2, b2⟩ := w2.get (List.getElem?_eq_getElem hlt)
      obtain ⟨s1, s2⟩ := sq _ ex.hh
      refine ⟨.ref p1, rfl, .int (0 + (i : Int)), rfl, ixOf p1 vs1 i z1 _ _ s1 g1 ⟨.ref p2, rfl, .int (0 + (i : Int)), rfl, ixOf p2 vs2 i z2 _ _ s2 g2 ⟨b, G', [.rd ds[i], .rd ds[i]], W.p true, ex.good, ⟨Dp.mono ex.hh b1, Dp.mono ex.hh b2, trivial⟩, ⟨ds[i], rfl, Nat.le_trans (depth_at (List.getElem?_eq_getElem hlt)) hdp, small_at hsm (List.getElem?_eq_getElem hlt), rfl⟩, fun v' G2 H2 e2' a2' => ?_⟩⟩⟩
      have : v' = .bl true := vB a2'
      subst this
      exact ⟨true, rfl, ifF rfl ⟨_, G2, rfl, ex.trans e2'⟩⟩
    · exact .inl ⟨by show _ ≤ i; omega, q _ G' H' ex (Dp.bl true)⟩

@[irreducible] def law_cell (script : (List Int)) (k : Int) : W Int := W.fin (S := Unit) (
  W.b (W.p (decide (k < (script.length : Int)))) fun c => if c = true then
    W.b (W.ix script k) fun r => W.p (.ret r)
  else
  W.b (W.p (0 : Int)) fun r2 => W.p (.ret r2))
def rel_law_cell : List Slot → W Int → Prop := fun ρ w => ∃ script : (List Int), ∃ k : Int,  ρ = [lS cI script, vS cI k] ∧ w = law_cell script k
theorem sc__law_cell : FnScope ["script", "k"] ["script", "k"] (defScope (topS 11)) := ⟨rfl, rfl, rfl, by decide +kernel, rfl, by decide +kernel, by decide +kernel⟩
theorem ok_law_cell {P : Program} {w : World} {K : PySem.W.Frag} {mg : Str → Option Value} {base : Heap} (h : HasFn K mg "_law_cell" (topS 11) ["script", "k"]) (m_len : mg "len" = none) : Cal P w K mg base 1 "_law_cell" (spF K rel_law_cell (vS cI)) :=
  have sc := sc__law_cell
  cal_of h sc (spF_len (fun ρ w h => by obtain ⟨script, k, rfl, rfl⟩ := h; rfl)) fun f cdv A outer s H vs Q E hr h => ⟨_,
    (pss_cons (ps_if (pt_cmpR op_lt (pv 1) (pe_callB (call_lenSK (K := K)) (by rfl) m_len PySem.boot_len (pa_cons (pv 0) pa_nil)) (nomark _)) (pss_cons (ps_ret (pe_ix (ix_listK (K := K)) (pv 0) (pv 1) (pix rfl))) pss_nil) pss_nil) (pss_cons (ps_ret pe_int) pss_nil)),
    body_ok h (fun ρ w h => by obtain ⟨script, k, rfl, rfl⟩ := h; exact noOwns rfl) fun b ρ w h => by
      obtain ⟨script, k, rfl, rfl⟩ := h
      refine ⟨Unit, _, by unfold law_cell; rfl, ?_⟩
      exact (sw_ifr (EvT.is (et_test (ev_op (ev_v (c := cI) (x := k) rfl) (ev_c1 ((ev_l (c := cI) (x := script) rfl)).lR noR rc_lenR) noV noV rv_cmp)) rfl) (sw_ret (Ev.is (ev_op (ev_l (c := cI) (x := script) rfl) (ev_v (c := cI) (x := k) rfl) noL noV rv_ixL) rfl)) (sw_ret (Ev.is ev_int rfl)))⟩
@[irreducible] def law_digits (script : (List Int)) (first : Int) (last : Int) : W (List Int) := W.fin (S := Unit) (
  W.b (W.p ([] : List Int)) fun digits =>
  W.b (W.range first last) fun l3 =>
  W.andThen (W.for_ l3 (fun (k : Int) (s : (List Int)) =>
      W.b (law_cell script k) fun cell2 =>
      W.b (W.p (decide (cell2 < (0 : Int)))) fun c => W.andThen (if c = true then
        W.b (W.p ((1 : Int) - ((2 : Int) * cell2))) fun cell3 =>
        W.p (.nx cell3)
      else
        W.p (.nx cell2)) fun (s2 : Int) =>
      W.b (W.b (W.pow (10 : Int) (18 : Int)) fun pow => W.p (decide (s2 ≥ pow))) fun c2 => if c2 = true then
        W.b (W.range 0 (60 : Int)) fun l =>
        W.andThen (W.for_ l (fun (turn : Int) (s3 : (Int × (List Int))) =>
            W.b (W.p (decide (s3.1 > (0 : Int)))) fun c3 => if c3 = true then
              W.b (W.p (s3.1 % (1000 : Int))) fun x => W.req (Big s3.2.length) <|
              W.b (W.p (s3.1 / (1000 : Int))) fun cell4 =>
              W.p (.nx (cell4, (s3.2 ++ [x])))
            else
            W.p (.nx (s3.1, s3.2))) (s2, s)) fun (s4 : (Int × (List Int))) =>
        W.p (.nx s4.2)
      else
      W.b (W.p ((((s2 * (48271 : Int)) + (k * (69621 : Int))) + (11 : Int)) % (2147483647 : Int))) fun seed =>
      W.b (W.range 0 (12 : Int)) fun l2 =>
      W.andThen (W.for_ l2 (fun (turn2 : Int) (s5 : (Int × (List Int))) =>
          W.b (W.p ((((s5.1 * (16807 : Int)) + ((7 : Int) * turn2)) + (1 : Int)) % (2147483647 : Int))) fun seed2 =>
          W.b (W.p ((seed2 / (997 : Int)) % (1000 : Int))) fun x2 => W.req (Big s5.2.length) <|
          W.p (.nx (seed2, (s5.2 ++ [x2])))) (seed, s)) fun (s6 : (Int × (List Int))) =>
      W.p (.nx s6.2)) digits) fun (s7 : (List Int)) =>
  W.p (.ret s7))
def rel_law_digits : List Slot → W (List Int) → Prop := fun ρ w => ∃ script : (List Int), ∃ first : Int, ∃ last : Int,  ρ = [lS cI script, vS cI first, vS cI last] ∧ w = law_digits script first last
theorem sc__law_digits : FnScope ["script", "first", "last", "digits", "k", "cell", "turn", "seed"] ["script", "first", "last"] (defScope (topS 12)) := ⟨rfl, rfl, rfl, by decide +kernel, rfl, by decide +kernel, by decide +kernel⟩
theorem ok_law_digits {P : Program} {w : World} {K : PySem.W.Frag} {mg : Str → Option Value} {base : Heap} (h : HasFn K mg "_law_digits" (topS 12) ["script", "first", "last"]) (m_range : mg "range" = none) (m_int : mg "int" = none) (c__law_cell : Cal P w K mg base 1 "_law_cell" (spF K rel_law_cell (vS cI))) : Cal P w K mg base 2 "_law_digits" (spF K rel_law_digits (nS cI)) :=
  have sc := sc__law_digits
  cal_of h sc (spF_len (fun ρ w h => by obtain ⟨script, first, last, rfl, rfl⟩ := h; rfl)) fun f cdv A outer s H vs Q E hr h => ⟨_,
    (pss_cons (ps_set (i := 3) sc.nd rfl (Or.inl rfl) (pe_lst pa_nil)) (pss_cons (ps_for PassesOwn.never rfl (pi_range2 (by rfl) m_range (pa_cons (pv 1) (pa_cons (pv 2) pa_nil))) (pg_name (i := 4) sc.nd rfl (Or.inl rfl)) (pss_cons (ps_set (i := 5) sc.nd rfl (Or.inl rfl) (pe_c c__law_cell hr (by decide) (by rfl) (pa_cons (pv 0) (pa_cons (pv 4) pa_nil)))) (pss_cons (ps_if (pt_cmpR op_lt (pv 5) pe_int (nomark _)) (pss_cons (ps_set (i := 5) sc.nd rfl (Or.inl rfl) (pe_op op_sub pe_int (pe_op op_mul pe_int (pv 5)))) pss_nil) pss_nil) (pss_cons (ps_if (pt_cmpR op_ge (pv 5) (pe_op op_pow pe_int pe_int) (nomark _)) (pss_cons (ps_for PassesOwn.never rfl (pi_range1 (by rfl) m_range (pa_cons pe_int pa_nil)) (pg_name (i := 6) sc.nd rfl (Or.inl rfl)) (pss_cons (ps_if (pt_cmpR op_gt (pv 5) pe_int (nomark _)) (pss_cons (ps_expr (pe_bm PySem.F.plainAttrs_list PySem.F.slot_list_append PySem.F.type_list_append mt_append (pv 3) (pa_cons (pe_op op_mod (pe_callTy call_in1 (by rfl) m_int (show bootBuiltins "int" = some (Value.type "int") by decide +kernel) (pa_cons (pv 5) pa_nil)) pe_int) pa_nil))) (pss_cons (ps_set (i := 5) sc.nd rfl (Or.inl rfl) (pe_op op_fdiv (pv 5) pe_int)) pss_nil)) pss_nil) pss_nil)) pss_nil) (pss_cons (ps_set (i := 7) sc.nd rfl (Or.inl rfl) (pe_op op_mod (pe_callTy call_in1 (by rfl) m_int (show bootBuiltins "int" = some (Value.type "int") by decide +kernel) (pa_cons (pe_op op_add (pe_op op_add (pe_op op_mul (pv 5) pe_int) (pe_op op_mul (pv 4) pe_int)) pe_int) pa_nil)) pe_int)) (pss_cons (ps_for PassesOwn.never rfl (pi_range1 (by rfl) m_range (pa_cons pe_int pa_nil)) (pg_name (i := 6) sc.nd rfl (Or.inl rfl)) (pss_cons (ps_set (i := 7) sc.nd rfl (Or.inl rfl) (pe_op op_mod (pe_callTy call_in1 (by rfl) m_int (show bootBuiltins "int" = some (Value.type "int") by decide +kernel) (pa_cons (pe_op op_add (pe_op op_add (pe_op op_mul (pv 7) pe_int) (pe_op op_mul pe_int (pv 6))) pe_int) pa_nil)) pe_int)) (pss_cons (ps_expr (pe_bm PySem.F.plainAttrs_list PySem.F.slot_list_append PySem.F.type_list_append mt_append (pv 3) (pa_cons (pe_op op_mod (pe_callTy call_in1 (by rfl) m_int (show bootBuiltins "int" = some (Value.type "int") by decide +kernel) (pa_cons (pe_op op_fdiv (pv 7) pe_int) pa_nil)) pe_int) pa_nil))) pss_nil))) pss_nil))) pss_nil)))) (pss_cons (ps_ret (pv 3)) pss_nil))),
    body_ok h (fun ρ w h => by obtain ⟨script, first, last, rfl, rfl⟩ := h; exact noOwns rfl) fun b ρ w h => by
      obtain ⟨script, first, last, rfl, rfl⟩ := h
      refine ⟨Unit, _, by unfold law_digits; rfl, ?_⟩
      exact (sw_new (c := cI) (Ev.is (ev_lst (ea_nil (c := cI))) rfl) (fun digits => (sw_for (sh' := fun (s : (List Int)) => [lS cI script, .none, .none, oS none cI s, .none, .none, .none, .none]) (s0 := digits) (ItW.is (it_rg2 (ev_v (c := cI) (x := first) rfl) (ev_v (c := cI) (x := last) rfl)) rfl) (We.w (.k (.d (.d (.k (.k (.k (.k (.k .nil))))))))) gw_name (fun k s => (sw_set (c := cI) (Ev.is (ev_call2 (f := (fun z0 z1 => law_cell z0 z1)) noL noV (ev_l (c := cI) (x := script) rfl) (ev_v (c := cI) (x := k) rfl) (fun z0 z1 => ⟨z0, z1, rfl, rfl⟩)) rfl) (fun cell2 => (sw_if (sh' := fun (s2 : Int) => [lS cI script, .none, .none, oS none cI s, vS cI k, vS cI s2, .none, .none]) (EvT.is (et_test (ev_op (ev_v (c := cI) (x := cell2) rfl) ev_int noV noV rv_cmp)) rfl) (sw_set (c := cI) (Ev.is (ev_op ev_int (ev_kmul (ev_v (c := cI) (x := cell2) rfl)) noV noV rv_I0) rfl) (fun cell3 => (sw_nx (We.w (.k (.k (.k (.k (.k (.k (.k (.k .nil)))))))))))) (sw_nx (We.w (.k (.k (.k (.k (.k (.k (.k (.k .nil)))))))))) (fun s2 => (sw_ifl (EvT.is (et_test (ev_op (ev_v (c := cI) (x := s2) rfl) (ev_op ev_int ev_int noV noV rv_I) noV noV rv_cmp)) rfl) (sw_for (sh' := fun (s3 : (Int × (List Int))) => [lS cI script, .none, .none, oS none cI s3.2, .none, vS cI s3.1, .none, .none]) (s0 := (s2, s)) (ItW.is (it_rg1 ev_int) rfl) (We.w (.k (.k (.k (.k (.d (.k (.k (.k .nil))))))))) gw_name (fun turn s3 => (sw_ifl (EvT.is (et_test (ev_op (ev_v (c := cI) (x := s3.1) rfl) ev_int noV noV rv_cmp)) rfl) (sw_append (c := cI) (l := s3.2) rfl (Ev.is (ev_modK (ev_c1 (ev_v (c := cI) (x := s3.1) rfl) noV rc_int)) rfl) (fun x => (sw_set (c := cI) (Ev.is (ev_divK (ev_v (c := cI) (x := s3.1) rfl)) rfl) (fun cell4 => (sw_nx (We.w (.k (.k (.k (.k (.k (.k (.d (.k .nil)))))))))))))) (sw_nx (We.w (.k (.k (.k (.k (.k (.k (.d (.k .nil)))))))))))) (fun s4 => (sw_nx (We.w (.k (.k (.k (.k (.k (.d (.k (.k .nil)))))))))))) (sw_set (c := cI) (Ev.is (ev_modK (ev_c1 (ev_op (ev_op (ev_mulK (ev_v (c := cI) (x := s2) rfl)) (ev_mulK (ev_v (c := cI) (x := k) rfl)) noV noV rv_I0) ev_int noV noV rv_I0) noV rc_int)) rfl) (fun seed => (sw_for (sh' := fun (s5 : (Int × (List Int))) => [lS cI script, .none, .none, oS none cI s5.2, .none, .none, .none, vS cI s5.1]) (s0 := (seed, s)) (ItW.is (it_rg1 ev_int) rfl) (We.w (.k (.k (.k (.k (.d (.d (.k (.k .nil))))))))) gw_name (fun turn2 s5 => (sw_set (c := cI) (Ev.is (ev_modK (ev_c1 (ev_op (ev_op (ev_mulK (ev_v (c := cI) (x := s5.1) rfl)) (ev_kmul (ev_v (c := cI) (x := turn2) rfl)) noV noV rv_I0) ev_int noV noV rv_I0) noV rc_int)) rfl) (fun seed2 => (sw_append (c := cI) (l := s5.2) rfl (Ev.is (ev_modK (ev_c1 (ev_divK (ev_v (c := cI) (x := seed2) rfl)) noV rc_int)) rfl) (fun x2 => (sw_nx (We.w (.k (.k (.k (.k (.k (.k (.d (.k .nil))))))))))))))) (fun s6 => (sw_nx (We.w (.k (.k (.k (.k (.k (.k (.k (.d .nil)))))))))))))))))))) (fun s7 => (sw_retO (l := s7) rfl)))))⟩
@[irreducible] def root_of (number : Int) : W Int := W.fin (S := Unit) (
  W.b (W.p (0 : Int)) fun low =>
  W.b (W.p (number + (1 : Int))) fun high =>
  W.andThen (W.while_ (fun (s : (Int × Int)) => W.p (decide ((s.2 - s.1) > (1 : Int)))) (fun (s : (Int × Int)) =>
      W.b (W.p ((s.1 + s.2) / (2 : Int))) fun middle =>
      W.b (W.b (W.mul middle middle) fun prod2 => W.p (decide (prod2 ≤ number))) fun c => if c = true then
        W.b (W.p middle) fun low2 =>
        W.p (.nx (low2, s.2))
      else
      W.b (W.p middle) fun high2 =>
      W.p (.nx (s.1, high2))) (low, high)) fun (s2 : (Int × Int)) =>
  W.b (W.p s2.1) fun r => W.p (.ret r))
def rel_root_of : List Slot → W Int → Prop := fun ρ w => ∃ number : Int,  ρ = [vS cI number] ∧ w = root_of number
theorem sc_root_of : FnScope ["number", "low", "high", "middle"] ["number"] (defScope (topS 2)) := ⟨rfl, rfl, rfl, by decide +kernel, rfl, by decide +kernel, by decide +kernel⟩
theorem ok_root_of {P : Program} {w : World} {K : PySem.W.Frag} {mg : Str → Option Value} {base : Heap} (h : HasFn K mg "root_of" (topS 2) ["number"])  : Cal P w K mg base 1 "root_of" (spF K rel_root_of (vS cI)) :=
  have sc := sc_root_of
  cal_of h sc (spF_len (fun ρ w h => by obtain ⟨number, rfl, rfl⟩ := h; rfl)) fun f cdv A outer s H vs Q E hr h => ⟨_,
    (pss_cons (ps_set (i := 1) sc.nd rfl (Or.inl rfl) pe_int) (pss_cons (ps_set (i := 2) sc.nd rfl (Or.inl rfl) (pe_op op_add (pv 0) pe_int)) (pss_cons (ps_while PassesOwn.never (pt_cmpR op_gt (pe_op op_sub (pv 2) (pv 1)) pe_int (nomark _)) (pss_cons (ps_set (i := 3) sc.nd rfl (Or.inl rfl) (pe_op op_fdiv (pe_op op_add (pv 1) (pv 2)) pe_int)) (pss_cons (ps_if (pt_cmpR op_le (pe_op op_mul (pv 3) (pv 3)) (pv 0) (nomark _)) (pss_cons (ps_set (i := 1) sc.nd rfl (Or.inl rfl) (pv 3)) pss_nil) (pss_cons (ps_set (i := 2) sc.nd rfl (Or.inl rfl) (pv 3)) pss_nil)) pss_nil))) (pss_cons (ps_ret (pv 1)) pss_nil)))),
    body_ok h (fun ρ w h => by obtain ⟨number, rfl, rfl⟩ := h; exact noOwns rfl) fun b ρ w h => by
      obtain ⟨number, rfl, rfl⟩ := h
      refine ⟨Unit, _, by unfold root_of; rfl, ?_⟩
      exact (sw_set (c := cI) (Ev.is ev_int rfl) (fun low => (sw_set (c := cI) (Ev.is (ev_op (ev_v (c := cI) (x := number) rfl) ev_int noV noV rv_I0) rfl) (fun high => (sw_while (sh' := fun (s : (Int × Int)) => [vS cI number, vS cI s.1, vS cI s.2, .none]) (s0 := (low, high)) (We.w (.k (.k (.k (.k .nil))))) (fun s => EvT.is (et_test (ev_op (ev_op (ev_v (c := cI) (x := s.2) rfl) (ev_v (c := cI) (x := s.1) rfl) noV noV rv_I0) ev_int noV noV rv_cmp)) rfl) (fun s => (sw_set (c := cI) (Ev.is (ev_divK (ev_op (ev_v (c := cI) (x := s.1) rfl) (ev_v (c := cI) (x := s.2) rfl) noV noV rv_I0)) rfl) (fun middle => (sw_ifl (EvT.is (et_test (ev_op (ev_op (ev_v (c := cI) (x := middle) rfl) (ev_v (c := cI) (x := middle) rfl) noV noV rv_I) (ev_v (c := cI) (x := number) rfl) noV noV rv_cmp)) rfl) (sw_set (c := cI) (Ev.is (ev_v (c := cI) (x := middle) rfl) rfl) (fun low2 => (sw_nx (We.w (.k (.k (.k (.d .nil)))))))) (sw_set (c := cI) (Ev.is (ev_v (c := cI) (x := middle) rfl) rfl) (fun high2 => (sw_nx (We.w (.k (.k (.k (.d .nil)))))))))))) (fun s2 => (sw_ret (Ev.is (ev_v (c := cI) (x := s2.1) rfl) rfl))))))))⟩
@[irreducible] def law_root (number : Int) : W Int := W.fin (S := Unit) (
  W.b (W.p (0 : Int)) fun found =>
  W.b (W.pow (10 : Int) (10 : Int)) fun size =>
  W.b (W.range 0 (11 : Int)) fun l2 =>
  W.andThen (W.for_ l2 (fun (turn : Int) (s : (Int × Int)) =>
      W.b (W.range 0 (9 : Int)) fun l =>
      W.andThen (W.for_ l (fun (step : Int) (s2 : Int) =>
          W.b (W.b (W.mul (s2 + s.2) (s2 + s.2)) fun prod2 => W.p (decide (prod2 ≤ number))) fun c => if c = true then
            W.b (W.p (s2 + s.2)) fun found2 =>
            W.p (.nx found2)
          else
          W.p (.nx s2)) s.1) fun (s3 : Int) =>
      W.b (W.p (s.2 / (10 : Int))) fun size2 =>
      W.p (.nx (s3, size2))) (found, size)) fun (s4 : (Int × Int)) =>
  W.b (W.p s4.1) fun r => W.p (.ret r))
def rel_law_root : List Slot → W Int → Prop := fun ρ w => ∃ number : Int,  ρ = [vS cI number] ∧ w = law_root number
theorem sc__law_root : FnScope ["number", "found", "size", "turn", "step"] ["number"] (defScope (topS 16)) := ⟨rfl, rfl, rfl, by decide +kernel, rfl, by decide +kernel, by decide +kernel⟩
theorem ok_law_root {P : Program} {w : World} {K : PySem.W.Frag} {mg : Str → Option Value} {base : Heap} (h : HasFn K mg "_law_root" (topS 16) ["number"]) (m_range : mg "range" = none) : Cal P w K mg base 1 "_law_root" (spF K rel_law_root (vS cI)) :=
  have sc := sc__law_root
  cal_of h sc (spF_len (fun ρ w h => by obtain ⟨number, rfl, rfl⟩ := h; rfl)) fun f cdv A outer s H vs Q E hr h => ⟨_,
    (pss_cons (ps_set (i := 1) sc.nd rfl (Or.inl rfl) pe_int) (pss_cons (ps_set (i := 2) sc.nd rfl (Or.inl rfl) (pe_op op_pow pe_int pe_int)) (pss_cons (ps_for PassesOwn.never rfl (pi_range1 (by rfl) m_range (pa_cons pe_int pa_nil)) (pg_name (i := 3) sc.nd rfl (Or.inl rfl)) (pss_cons (ps_for PassesOwn.never rfl (pi_range1 (by rfl) m_range (pa_cons pe_int pa_nil)) (pg_name (i := 4) sc.nd rfl (Or.inl rfl)) (pss_cons (ps_if (pt_cmpR op_le (pe_op op_mul (pe_op op_add (pv 1) (pv 2)) (pe_op op_add (pv 1) (pv 2))) (pv 0) (nomark _)) (pss_cons (ps_set (i := 1) sc.nd rfl (Or.inl rfl) (pe_op op_add (pv 1) (pv 2))) pss_nil) pss_nil) pss_nil)) (pss_cons (ps_set (i := 2) sc.nd rfl (Or.inl rfl) (pe_op op_fdiv (pv 2) pe_int)) pss_nil))) (pss_cons (ps_ret (pv 1)) pss_nil)))),
    body_ok h (fun ρ w h => by obtain ⟨number, rfl, rfl⟩ := h; exact noOwns rfl) fun b ρ w h => by
      obtain ⟨number, rfl, rfl⟩ := h
      refine ⟨Unit, _, by unfold law_root; rfl, ?_⟩
      exact (sw_set (c := cI) (Ev.is ev_int rfl) (fun found => (sw_set (c := cI) (Ev.is (ev_op ev_int ev_int noV noV rv_I) rfl) (fun size => (sw_for (sh' := fun (s : (Int × Int)) => [vS cI number, vS cI s.1, vS cI s.2, .none, .none]) (s0 := (found, size)) (ItW.is (it_rg1 ev_int) rfl) (We.w (.k (.k (.k (.k (.k .nil)))))) gw_name (fun turn s => (sw_for (sh' := fun (s2 : Int) => [vS cI number, vS cI s2, vS cI s.2, .none, .none]) (s0 := s.1) (ItW.is (it_rg1 ev_int) rfl) (We.w (.k (.k (.k (.d (.k .nil)))))) gw_name (fun step s2 => (sw_ifl (EvT.is (et_test (ev_op (ev_op (ev_op (ev_v (c := cI) (x := s2) rfl) (ev_v (c := cI) (x := s.2) rfl) noV noV rv_I0) (ev_op (ev_v (c := cI) (x := s2) rfl) (ev_v (c := cI) (x := s.2) rfl) noV noV rv_I0) noV noV rv_I) (ev_v (c := cI) (x := number) rfl) noV noV rv_cmp)) rfl) (sw_set (c := cI) (Ev.is (ev_op (ev_v (c := cI) (x := s2) rfl) (ev_v (c := cI) (x := s.2) rfl) noV noV rv_I0) rfl) (fun found2 => (sw_nx (We.w (.k (.k (.k (.k (.d .nil))))))))) (sw_nx (We.w (.k (.k (.k (.k (.d .nil))))))))) (fun s3 => (sw_set (c := cI) (Ev.is (ev_divK (ev_v (c := cI) (x := s.2) rfl)) rfl) (fun size2 => (sw_nx (We.w (.k (.k (.k (.k (.k .nil)))))))))))) (fun s4 => (sw_ret (Ev.is (ev_v (c := cI) (x := s4.1) rfl) rfl))))))))⟩
@[irreducible] def law_spot (wide : Int) : W (Int × Int) := W.fin (S := Unit) (
  W.b (W.b (W.draw (((2 : Int) * wide) + (1 : Int))) fun drawn2 => W.b (W.draw (((2 : Int) * wide) + (1 : Int))) fun drawn4 => W.p ((drawn2 - wide), (drawn4 - wide))) fun r => W.p (.ret r))
def rel_law_spot : List Slot → W (Int × Int) → Prop := fun ρ w => ∃ wide : Int,  ρ = [Slot.box, vS cI wide] ∧ w = law_spot wide
theorem sc__law_spot : FnScope ["box", "wide"] ["box", "wide"] (defScope (topS 19)) := ⟨rfl, rfl, rfl, by decide +kernel, rfl, by decide +kernel, by decide +kernel⟩
theorem ok_law_spot {P : Program} {w : World} {K : PySem.W.Frag} {mg : Str → Option Value} {base : Heap} (h : HasFn K mg "_law_spot" (topS 19) ["box", "wide"]) (c__law_draw : Cal P w K mg base 1 "_law_draw" (spF K relDraw (vS cI))) : Cal P w K mg base 2 "_law_spot" (spF K rel_law_spot (vS (c2 cI cI))) :=
  have sc := sc__law_spot
  cal_of h sc (spF_len (fun ρ w h => by obtain ⟨wide, rfl, rfl⟩ := h; rfl)) fun f cdv A outer s H vs Q E hr h => ⟨_,
    (pss_cons (ps_ret (pe_tup (pa_cons (pe_op op_sub (pe_c c__law_draw hr (by decide) (by rfl) (pa_cons (pv 0) (pa_cons (pe_op op_add (pe_op op_mul pe_int (pv 1)) pe_int) pa_nil))) (pv 1)) (pa_cons (pe_op op_sub (pe_c c__law_draw hr (by decide) (by rfl) (pa_cons (pv 0) (pa_cons (pe_op op_add (pe_op op_mul pe_int (pv 1)) pe_int) pa_nil))) (pv 1)) pa_nil)))) pss_nil),
    body_ok h (fun ρ w h => by obtain ⟨wide, rfl, rfl⟩ := h; exact noOwns rfl) fun b ρ w h => by
      obtain ⟨wide, rfl, rfl⟩ := h
      refine ⟨Unit, _, by unfold law_spot; rfl, ?_⟩
      exact (sw_ret (Ev.is (ev_tup2 (ev_op (ev_draw (i := 0) rfl (ev_op (ev_kmul (ev_v (c := cI) (x := wide) rfl)) ev_int noV noV rv_I0)) (ev_v (c := cI) (x := wide) rfl) noV noV rv_I0) (ev_op (ev_draw (i := 0) rfl (ev_op (ev_kmul (ev_v (c := cI) (x := wide) rfl)) ev_int noV noV rv_I0)) (ev_v (c := cI) (x := wide) rfl) noV noV rv_I0)) rfl))⟩
@[irreducible] def distance (one : (Int × Int)) (other : (Int × Int)) : W Int := W.fin (S := Unit) (
  W.b (W.b (W.mul (one.1 - other.1) (one.1 - other.1)) fun prod2 => W.b (W.mul (one.2 - other.2) (one.2 - other.2)) fun prod3 => W.p (prod2 + prod3)) fun square =>
  W.b (root_of ((1000000 : Int) * square)) fun r => W.p (.ret r))
def rel_distance : List Slot → W Int → Prop := fun ρ w => ∃ one : (Int × Int), ∃ other : (Int × Int),  ρ = [vS (c2 cI cI) one, vS (c2 cI cI) other] ∧ w = distance one other
theorem sc_distance : FnScope ["one", "other", "square"] ["one", "other"] (defScope (topS 3)) := ⟨rfl, rfl, rfl, by decide +kernel, rfl, by decide +kernel, by decide +kernel⟩
theorem ok_distance {P : Program} {w : World} {K : PySem.W.Frag} {mg : Str → Option Value} {base : Heap} (h : HasFn K mg "distance" (topS 3) ["one", "other"]) (c_root_of : Cal P w K mg base 1 "root_of" (spF K rel_root_of (vS cI))) : Cal P w K mg base 2 "distance" (spF K rel_distance (vS cI)) :=
  have sc := sc_distance
  cal_of h sc (spF_len (fun ρ w h => by obtain ⟨one, other, rfl, rfl⟩ := h; rfl)) fun f cdv A outer s H vs Q E hr h => ⟨_,
    (pss_cons (ps_set (i := 2) sc.nd rfl (Or.inl rfl) (pe_op op_add (pe_op op_mul (pe_op op_sub (pe_ix (ix_tupK (K := K)) (pv 0) pe_int (pix rfl)) (pe_ix (ix_tupK (K := K)) (pv 1) pe_int (pix rfl))) (pe_op op_sub (pe_ix (ix_tupK (K := K)) (pv 0) pe_int (pix rfl)) (pe_ix (ix_tupK (K := K)) (pv 1) pe_int (pix rfl)))) (pe_op op_mul (pe_op op_sub (pe_ix (ix_tupK (K := K)) (pv 0) pe_int (pix rfl)) (pe_ix (ix_tupK (K := K)) (pv 1) pe_int (pix rfl))) (pe_op op_sub (pe_ix (ix_tupK (K := K)) (pv 0) pe_int (pix rfl)) (pe_ix (ix_tupK (K := K)) (pv 1) pe_int (pix rfl)))))) (pss_cons (ps_ret (pe_c c_root_of hr (by decide) (by rfl) (pa_cons (pe_op op_mul pe_int (pv 2)) pa_nil))) pss_nil)),
    body_ok h (fun ρ w h => by obtain ⟨one, other, rfl, rfl⟩ := h; exact noOwns rfl) fun b ρ w h => by
      obtain ⟨one, other, rfl, rfl⟩ := h
      refine ⟨Unit, _, by unfold distance; rfl, ?_⟩
      exact (sw_set (c := cI) (Ev.is (ev_op (ev_op (ev_op (ev_fix (k := 0) (ev_v (c := (c2 cI cI)) (x := one) rfl) f21) (ev_fix (k := 0) (ev_v (c := (c2 cI cI)) (x := other) rfl) f21) noV noV rv_I0) (ev_op (ev_fix (k := 0) (ev_v (c := (c2 cI cI)) (x := one) rfl) f21) (ev_fix (k := 0) (ev_v (c := (c2 cI cI)) (x := other) rfl) f21) noV noV rv_I0) noV noV rv_I) (ev_op (ev_op (ev_fix (k := 1) (ev_v (c := (c2 cI cI)) (x := one) rfl) f22) (ev_fix (k := 1) (ev_v (c := (c2 cI cI)) (x := other) rfl) f22) noV noV rv_I0) (ev_op (ev_fix (k := 1) (ev_v (c := (c2 cI cI)) (x := one) rfl) f22) (ev_fix (k := 1) (ev_v (c := (c2 cI cI)) (x := other) rfl) f22) noV noV rv_I0) noV noV rv_I) noV noV rv_I0) rfl) (fun square => (sw_ret (Ev.is (ev_call1 (f := (fun z0 => root_of z0)) noV (ev_kmul (ev_v (c := cI) (x := square) rfl)) (fun z0 => ⟨z0, rfl, rfl⟩)) rfl))))⟩
@[irreducible] def law_way (one : (Int × Int)) (other : (Int × Int)) : W Int := W.fin (S := Unit) (
  W.b (W.p (one.1 - other.1)) fun across =>
  W.b (W.p (one.2 - other.2)) fun along =>
  W.b (W.b (W.mul across across) fun prod2 => W.b (W.mul along along) fun prod3 => law_root ((1000000 : Int) * (prod2 + prod3))) fun r => W.p (.ret r))
def rel_law_way : List Slot → W Int → Prop := fun ρ w => ∃ one : (Int × Int), ∃ other : (Int × Int),  ρ = [vS (c2 cI cI) one, vS (c2 cI cI) other] ∧ w = law_way one other
theorem sc__law_way : FnScope ["one", "other", "across", "along"] ["one", "other"] (defScope (topS 17)) := ⟨rfl, rfl, rfl, by decide +kernel, rfl, by decide +kernel, by decide +kernel⟩
theorem ok_law_way {P : Program} {w : World} {K : PySem.W.Frag} {mg : Str → Option Value} {base : Heap} (h : HasFn K mg "_law_way" (topS 17) ["one", "other"]) (c__law_root : Cal P w K mg base 1 "_law_root" (spF K rel_law_root (vS cI))) : Cal P w K mg base 2 "_law_way" (spF K rel_law_way (vS cI)) :=
  have sc := sc__law_way
  cal_of h sc (spF_len (fun ρ w h => by obtain ⟨one, other, rfl, rfl⟩ := h; rfl)) fun f cdv A outer s H vs Q E hr h => ⟨_,
    (pss_cons (ps_set (i := 2) sc.nd rfl (Or.inl rfl) (pe_op op_sub (pe_ix (ix_tupK (K := K)) (pv 0) pe_int (pix rfl)) (pe_ix (ix_tupK (K := K)) (pv 1) pe_int (pix rfl)))) (pss_cons (ps_set (i := 3) sc.nd rfl (Or.inl rfl) (pe_op op_sub (pe_ix (ix_tupK (K := K)) (pv 0) pe_int (pix rfl)) (pe_ix (ix_tupK (K := K)) (pv 1) pe_int (pix rfl)))) (pss_cons (ps_ret (pe_c c__law_root hr (by decide) (by rfl) (pa_cons (pe_op op_mul pe_int (pe_op op_add (pe_op op_mul (pv 2) (pv 2)) (pe_op op_mul (pv 3) (pv 3)))) pa_nil))) pss_nil))),
    body_ok h (fun ρ w h => by obtain ⟨one, other, rfl, rfl⟩ := h; exact noOwns rfl) fun b ρ w h => by
      obtain ⟨one, other, rfl, rfl⟩ := h
      refine ⟨Unit, _, by unfold law_way; rfl, ?_⟩
      exact (sw_set (c := cI) (Ev.is (ev_op (ev_fix (k := 0) (ev_v (c := (c2 cI cI)) (x := one) rfl) f21) (ev_fix (k := 0) (ev_v (c := (c2 cI cI)) (x := other) rfl) f21) noV noV rv_I0) rfl) (fun across => (sw_set (c := cI) (Ev.is (ev_op (ev_fix (k := 1) (ev_v (c := (c2 cI cI)) (x := one) rfl) f22) (ev_fix (k := 1) (ev_v (c := (c2 cI cI)) (x := other) rfl) f22) noV noV rv_I0) rfl) (fun along => (sw_ret (Ev.is (ev_call1 (f := (fun z0 => law_root z0)) noV (ev_kmul (ev_op (ev_op (ev_v (c := cI) (x := across) rfl) (ev_v (c := cI) (x := across) rfl) noV noV rv_I) (ev_op (ev_v (c := cI) (x := along) rfl) (ev_v (c := cI) (x := along) rfl) noV noV rv_I) noV noV rv_I0)) (fun z0 => ⟨z0, rfl, rfl⟩)) rfl))))))⟩
@[irreducible] def travel (one : (Int × Int)) (other : (Int × Int)) : W Int := W.fin (S := Unit) (
  W.b (W.b (distance one other) fun distance4 => W.div (((2 : Int) * distance4) + (343 : Int)) ((2 : Int) * (343 : Int))) fun r => W.p (.ret r))
def rel_travel : List Slot → W Int → Prop := fun ρ w => ∃ one : (Int × Int), ∃ other : (Int × Int),  ρ = [vS (c2 cI cI) one, vS (c2 cI cI) other] ∧ w = travel one other
theorem sc_travel : FnScope ["one", "other"] ["one", "other"] (defScope (topS 4)) := ⟨rfl, rfl, rfl, by decide +kernel, rfl, by decide +kernel, by decide +kernel⟩
theorem ok_travel {P : Program} {w : World} {K : PySem.W.Frag} {mg : Str → Option Value} {base : Heap} (h : HasFn K mg "travel" (topS 4) ["one", "other"]) (c_SPEED : ∃ t, mg "SPEED" = some (Value.int 343 t)) (c_distance : Cal P w K mg base 2 "distance" (spF K rel_distance (vS cI))) : Cal P w K mg base 3 "travel" (spF K rel_travel (vS cI)) :=
  have sc := sc_travel
  cal_of h sc (spF_len (fun ρ w h => by obtain ⟨one, other, rfl, rfl⟩ := h; rfl)) fun f cdv A outer s H vs Q E hr h => ⟨_,
    (pss_cons (ps_ret (pe_op op_fdiv (pe_op op_add (pe_op op_mul pe_int (pe_c c_distance hr (by decide) (by rfl) (pa_cons (pv 0) (pa_cons (pv 1) pa_nil)))) (pe_glob (v := V.int 343) (by rfl) c_SPEED.choose_spec ⟨_, rfl⟩)) (pe_op op_mul pe_int (pe_glob (v := V.int 343) (by rfl) c_SPEED.choose_spec ⟨_, rfl⟩)))) pss_nil),
    body_ok h (fun ρ w h => by obtain ⟨one, other, rfl, rfl⟩ := h; exact noOwns rfl) fun b ρ w h => by
      obtain ⟨one, other, rfl, rfl⟩ := h
      refine ⟨Unit, _, by unfold travel; rfl, ?_⟩
      exact (sw_ret (Ev.is (ev_op (ev_op (ev_kmul (ev_call2 (f := (fun z0 z1 => distance z0 z1)) noV noV (ev_v (c := (c2 cI cI)) (x := one) rfl) (ev_v (c := (c2 cI cI)) (x := other) rfl) (fun z0 z1 => ⟨z0, z1, rfl, rfl⟩))) ev_int noV noV rv_I0) (ev_kmul ev_int) noV noV rv_I) rfl))⟩
@[irreducible] def law_time (one : (Int × Int)) (other : (Int × Int)) : W Int := W.fin (S := Unit) (
  W.b (law_way one other) fun far =>
  W.b (W.p (far / (343 : Int))) fun time =>
  W.b (W.p (decide (((2 : Int) * (far - ((343 : Int) * time))) ≥ (343 : Int)))) fun c => W.andThen (if c = true then
    W.b (W.p (time + (1 : Int))) fun time2 =>
    W.p (.nx time2)
  else
    W.p (.nx time)) fun (s : Int) =>
  W.b (W.p s) fun r => W.p (.ret r))
def rel_law_time : List Slot → W Int → Prop := fun ρ w => ∃ one : (Int × Int), ∃ other : (Int × Int),  ρ = [vS (c2 cI cI) one, vS (c2 cI cI) other] ∧ w = law_time one other
theorem sc__law_time : FnScope ["one", "other", "far", "time"] ["one", "other"] (defScope (topS 18)) := ⟨rfl, rfl, rfl, by decide +kernel, rfl, by decide +kernel, by decide +kernel⟩
theorem ok_law_time {P : Program} {w : World} {K : PySem.W.Frag} {mg : Str → Option Value} {base : Heap} (h : HasFn K mg "_law_time" (topS 18) ["one", "other"]) (c__law_way : Cal P w K mg base 2 "_law_way" (spF K rel_law_way (vS cI))) : Cal P w K mg base 3 "_law_time" (spF K rel_law_time (vS cI)) :=
  have sc := sc__law_time
  cal_of h sc (spF_len (fun ρ w h => by obtain ⟨one, other, rfl, rfl⟩ := h; rfl)) fun f cdv A outer s H vs Q E hr h => ⟨_,
    (pss_cons (ps_set (i := 2) sc.nd rfl (Or.inl rfl) (pe_c c__law_way hr (by decide) (by rfl) (pa_cons (pv 0) (pa_cons (pv 1) pa_nil)))) (pss_cons (ps_set (i := 3) sc.nd rfl (Or.inl rfl) (pe_op op_fdiv (pv 2) pe_int)) (pss_cons (ps_if (pt_cmpR op_ge (pe_op op_mul pe_int (pe_op op_sub (pv 2) (pe_op op_mul pe_int (pv 3)))) pe_int (nomark _)) (pss_cons (ps_set (i := 3) sc.nd rfl (Or.inl rfl) (pe_op op_add (pv 3) pe_int)) pss_nil) pss_nil) (pss_cons (ps_ret (pv 3)) pss_nil)))),
    body_ok h (fun ρ w h => by obtain ⟨one, other, rfl, rfl⟩ := h; exact noOwns rfl) fun b ρ w h => by
      obtain ⟨one, other, rfl, rfl⟩ := h
      refine ⟨Unit, _, by unfold law_time; rfl, ?_⟩
      exact (sw_set (c := cI) (Ev.is (ev_call2 (f := (fun z0 z1 => law_way z0 z1)) noV noV (ev_v (c := (c2 cI cI)) (x := one) rfl) (ev_v (c := (c2 cI cI)) (x := other) rfl) (fun z0 z1 => ⟨z0, z1, rfl, rfl⟩)) rfl) (fun far => (sw_set (c := cI) (Ev.is (ev_divK (ev_v (c := cI) (x := far) rfl)) rfl) (fun time => (sw_if (sh' := fun (s : Int) => [.none, .none, .none, vS cI s]) (EvT.is (et_test (ev_op (ev_kmul (ev_op (ev_v (c := cI) (x := far) rfl) (ev_kmul (ev_v (c := cI) (x := time) rfl)) noV noV rv_I0)) ev_int noV noV rv_cmp)) rfl) (sw_set (c := cI) (Ev.is (ev_op (ev_v (c := cI) (x := time) rfl) ev_int noV noV rv_I0) rfl) (fun time2 => (sw_nx (We.w (.d (.d (.d (.k .nil)))))))) (sw_nx (We.w (.d (.d (.d (.k .nil)))))) (fun s => (sw_ret (Ev.is (ev_v (c := cI) (x := s) rfl) rfl))))))))⟩
@[irreducible] def arrivals (waits : (List Int)) (speakers : (List (Int × Int))) (seat : (Int × Int)) : W (List Int) := W.fin (S := Unit) (
  W.b (W.cmp (List.zip waits speakers) (fun _ => W.p true) (fun x => W.b (travel x.2 seat) fun travel => W.p (x.1 + travel))) fun r => W.p (.ret r))
def rel_arrivals : List Slot → W (List Int) → Prop := fun ρ w => ∃ waits : (List Int), ∃ speakers : (List (Int × Int)), ∃ seat : (Int × Int),  ρ = [vS (cT cI) waits, lS (c2 cI cI) speakers, vS (c2 cI cI) seat] ∧ w = arrivals waits speakers seat
theorem sc_arrivals : FnScope ["waits", "speakers", "seat", "wait", "speaker"] ["waits", "speakers", "seat"] (defScope (topS 6)) := ⟨rfl, rfl, rfl, by decide +kernel, rfl, by decide +kernel, by decide +kernel⟩
theorem ok_arrivals {P : Program} {w : World} {K : PySem.W.Frag} {mg : Str → Option Value} {base : Heap} (h : HasFn K mg "arrivals" (topS 6) ["waits", "speakers", "seat"]) (m_zip : mg "zip" = none) (c_travel : Cal P w K mg base 3 "travel" (spF K rel_travel (vS cI))) : Cal P w K mg base 4 "arrivals" (spF K rel_arrivals (nS cI)) :=
  have sc := sc_arrivals
  cal_of h sc (spF_len (fun ρ w h => by obtain ⟨waits, speakers, seat, rfl, rfl⟩ := h; rfl)) fun f cdv A outer s H vs Q E hr h => ⟨_,
    (pss_cons (ps_ret (pe_lc (own := [("wait", 3), ("speaker", 4)]) (g := (gTup K 2 (gCons (gName 3) (gCons (gName 4) gNil)))) rfl sc.nd (pi_zipMK (K := K) (by rfl) m_zip (pa_cons (pv 0) (pa_cons (pv 1) pa_nil))) (blkOk_by (N := ["waits", "speakers", "seat", "wait", "speaker"]) (sc := defScope (topS 6)) (by decide +kernel)) (fun _ _ _ _ _ => pg_tup rfl (pgs_cons (pg_name (i := 3) sc.nd rfl (Or.inl rfl)) (pgs_cons (pg_name (i := 4) sc.nd rfl (Or.inl rfl)) pgs_nil))) (fun _ _ _ _ _ => pts_nil) (fun _ _ _ _ _ => (pe_op op_add (pv 3) (pe_c c_travel hr (by decide) (by rfl) (pa_cons (pv 4) (pa_cons (pv 2) pa_nil))))))) pss_nil),
    body_ok h (fun ρ w h => by obtain ⟨waits, speakers, seat, rfl, rfl⟩ := h; exact noOwns rfl) fun b ρ w h => by
      obtain ⟨waits, speakers, seat, rfl, rfl⟩ := h
      refine ⟨Unit, _, by unfold arrivals; rfl, ?_⟩
      exact (sw_ret (Ev.is (ev_lc (it_zipTL (eq_t (ev_v (c := (cT cI)) (x := waits) rfl)) (eq_l (c := (c2 cI cI)) (l := speakers) rfl)) (gw_tup2 gw_name gw_name) (fun x => et_yes) (fun x => (ev_op (ev_v (c := cI) (x := x.1) rfl) (ev_call2 (f := (fun z0 z1 => travel z0 z1)) noV noV (ev_v (c := (c2 cI cI)) (x := x.2) rfl) (ev_v (c := (c2 cI cI)) (x := seat) rfl) (fun z0 z1 => ⟨z0, z1, rfl, rfl⟩)) noV noV rv_I0))) rfl))⟩
@[irreducible] def spread (waits : (List Int)) (speakers : (List (Int × Int))) (seat : (Int × Int)) : W Int := W.fin (S := Unit) (
  W.b (arrivals waits speakers seat) fun times =>
  W.b (W.p (decide ((times.length : Int) = (0 : Int)))) fun c => if c = true then
    W.b (W.p (0 : Int)) fun r => W.p (.ret r)
  else
  W.b (W.b (W.maxL times) fun max2 => W.b (W.minL times) fun min => W.p (max2 - min)) fun r2 => W.p (.ret r2))
def rel_spread : List Slot → W Int → Prop := fun ρ w => ∃ waits : (List Int), ∃ speakers : (List (Int × Int)), ∃ seat : (Int × Int),  ρ = [vS (cT cI) waits, lS (c2 cI cI) speakers, vS (c2 cI cI) seat] ∧ w = spread waits speakers seat
theorem sc_spread : FnScope ["waits", "speakers", "seat", "times"] ["waits", "speakers", "seat"] (defScope (topS 7)) := ⟨rfl, rfl, rfl, by decide +kernel, rfl, by decide +kernel, by decide +kernel⟩
theorem ok_spread {P : Program} {w : World} {K : PySem.W.Frag} {mg : Str → Option Value} {base : Heap} (h : HasFn K mg "spread" (topS 7) ["waits", "speakers", "seat"]) (m_len : mg "len" = none) (m_max : mg "max" = none) (m_min : mg "min" = none) (c_arrivals : Cal P w K mg base 4 "arrivals" (spF K rel_arrivals (nS cI))) : Cal P w K mg base 5 "spread" (spF K rel_spread (vS cI)) :=
  have sc := sc_spread
  cal_of h sc (spF_len (fun ρ w h => by obtain ⟨waits, speakers, seat, rfl, rfl⟩ := h; rfl)) fun f cdv A outer s H vs Q E hr h => ⟨_,
    (pss_cons (ps_set (i := 3) sc.nd rfl (Or.inl rfl) (pe_c c_arrivals hr (by decide) (by rfl) (pa_cons (pv 0) (pa_cons (pv 1) (pa_cons (pv 2) pa_nil))))) (pss_cons (ps_if (pt_cmpR (op_eqPK (K := K) hr) (pe_callB (call_lenSK (K := K)) (by rfl) m_len PySem.boot_len (pa_cons (pv 3) pa_nil)) pe_int (nomark _)) (pss_cons (ps_ret pe_int) pss_nil) pss_nil) (pss_cons (ps_ret (pe_op op_sub (pe_callB (cr_maxK (K := K) rfl) (by rfl) m_max (show bootBuiltins "max" = some (Value.builtin "max") by decide +kernel) (pa_cons (pv 3) pa_nil)) (pe_callB (cr_minK (K := K) rfl) (by rfl) m_min (show bootBuiltins "min" = some (Value.builtin "min") by decide +kernel) (pa_cons (pv 3) pa_nil)))) pss_nil))),
    body_ok h (fun ρ w h => by obtain ⟨waits, speakers, seat, rfl, rfl⟩ := h; exact noOwns rfl) fun b ρ w h => by
      obtain ⟨waits, speakers, seat, rfl, rfl⟩ := h
      refine ⟨Unit, _, by unfold spread; rfl, ?_⟩
      exact (sw_set (c := (cL cI)) (Ev.is ((ev_call3 (f := (fun z0 z1 z2 => arrivals z0 z1 z2)) noV noL noV (ev_v (c := (cT cI)) (x := waits) rfl) (ev_l (c := (c2 cI cI)) (x := speakers) rfl) (ev_v (c := (c2 cI cI)) (x := seat) rfl) (fun z0 z1 z2 => ⟨z0, z1, z2, rfl, rfl⟩))).nV rfl) (fun times => (sw_ifr (EvT.is (et_test (ev_op ((ev_c1 ((ev_v (c := (cL cI)) (x := times) rfl)).vR noR rc_lenR)).vR (ev_int).vR noR noR (rv_eq plI plI eqI))) rfl) (sw_ret (Ev.is ev_int rfl)) (sw_ret (Ev.is (ev_op (ev_c1 ((ev_v (c := (cL cI)) (x := times) rfl)).vR noR rc_max) (ev_c1 ((ev_v (c := (cL cI)) (x := times) rfl)).vR noR rc_min) noV noV rv_I0) rfl)))))⟩
@[irreducible] def best_delays (speakers : (List (Int × Int))) (seats : (List (Int × Int))) (most : Int) : W (List Int) := W.fin (S := Unit) (
  W.b (W.p (none : (Option (Int × (List Int))))) fun best =>
  W.b (W.p [([] : List Int)]) fun rows =>
  W.b (W.p speakers) fun l2 =>
  W.andThen (W.for_ l2 (fun (speaker : (Int × Int)) (s : (List (List Int))) =>
      W.b (W.cmp2 s (fun row => W.p true) (fun row => W.range3 (0 : Int) (most + (1 : Int)) (10 : Int)) (fun row wait => W.p true) (fun row wait => W.cat row [wait])) fun rows2 =>
      W.p (.nx rows2)) rows) fun (s2 : (List (List Int))) =>
  W.b (W.p s2) fun l =>
  W.andThen (W.for_ l (fun (row2 : (List Int)) (s3 : (Option (Int × (List Int)))) =>
      W.b (W.b (W.cmp seats (fun _ => W.p true) (fun seat2 => spread row2 speakers seat2)) fun list3 => W.b (W.cat list3 [(0 : Int)]) fun cat2 => W.maxL cat2) fun worst =>
      W.b (W.or s3.isNone (W.b (W.opt s3) fun some' => W.p (decide (worst < some'.1)))) fun c => if c = true then
        W.b (W.p (some (worst, row2))) fun best2 =>
        W.p (.nx best2)
      else
      W.p (.nx s3)) best) fun (s4 : (Option (Int × (List Int)))) =>
  W.b (W.b (W.opt s4) fun some'2 => W.p some'2.2) fun r => W.p (.ret r))
def rel_best_delays : List Slot → W (List Int) → Prop := fun ρ w => ∃ speakers : (List (Int × Int)), ∃ seats : (List (Int × Int)), ∃ most : Int,  ρ = [lS (c2 cI cI) speakers, lS (c2 cI cI) seats, vS cI most] ∧ w = best_delays speakers seats most
theorem sc_best_delays : FnScope ["speakers", "seats", "most", "best", "rows", "speaker", "row", "worst", "wait", "seat"] ["speakers", "seats", "most"] (defScope (topS 8)) := ⟨rfl, rfl, rfl, by decide +kernel, rfl, by decide +kernel, by decide +kernel⟩
theorem ok_best_delays {P : Program} {w : World} {K : PySem.W.Frag} {mg : Str → Option Value} {base : Heap} (h : HasFn K mg "best_delays" (topS 8) ["speakers", "seats", "most"]) (m_range : mg "range" = none) (m_max : mg "max" = none) (c_spread : Cal P w K mg base 5 "spread" (spF K rel_spread (vS cI))) : Cal P w K mg base 6 "best_delays" (spF K rel_best_delays (vS (cT cI))) :=
  have sc := sc_best_delays
  cal_of h sc (spF_len (fun ρ w h => by obtain ⟨speakers, seats, most, rfl, rfl⟩ := h; rfl)) fun f cdv A outer s H vs Q E hr h => ⟨_,
    (pss_cons (ps_set (i := 3) sc.nd rfl (Or.inl rfl) pe_non) (pss_cons (ps_set (i := 4) sc.nd rfl (Or.inl rfl) (pe_lst (pa_cons (pe_tup pa_nil) pa_nil))) (pss_cons (ps_for PassesOwn.never rfl (pi_listK (K := K) (pv 0)) (pg_name (i := 5) sc.nd rfl (Or.inl rfl)) (pss_cons (ps_setLc2 (i := 4) (own := [("row", 6), ("wait", 8)]) (g := (gName 6)) (g1 := (gName 8)) (vs1 := [8]) rfl sc.nd rfl rfl (by rfl) (pi_listK (K := K) (pv 4)) (blkOk_by (N := ["speakers", "seats", "most", "best", "rows", "speaker", "row", "worst", "wait", "seat"]) (sc := defScope (topS 8)) (by decide +kernel)) (by decide) (fun _ _ _ _ _ => pg_name (i := 6) sc.nd rfl (Or.inl rfl)) (fun _ _ _ _ _ => pts_nil) (fun _ _ _ _ _ => (pi_range3 (by rfl) m_range (pa_cons pe_int (pa_cons (pe_op op_add (pv 2) pe_int) (pa_cons pe_int pa_nil))))) (fun _ _ _ _ _ => pg_name (i := 8) sc.nd rfl (Or.inl rfl)) (fun _ _ _ _ _ => pts_nil) (fun _ _ _ _ _ => (pe_op (op_catAK (K := K)) (pv 6) (pe_tup (pa_cons (pv 8) pa_nil))))) pss_nil)) (pss_cons (ps_for PassesOwn.never rfl (pi_listK (K := K) (pv 4)) (pg_name (i := 6) sc.nd rfl (Or.inr rfl)) (pss_cons (ps_set (i := 7) sc.nd rfl (Or.inl rfl) (pe_callB (cr_maxK (K := K) rfl) (by rfl) m_max (show bootBuiltins "max" = some (Value.builtin "max") by decide +kernel) (pa_cons (pe_op (op_catSK (K := K)) (pe_lc (own := [("seat", 9)]) (g := (gName 9)) rfl sc.nd (pi_listK (K := K) (pv 1)) (blkOk_by (N := ["speakers", "seats", "most", "best", "rows", "speaker", "row", "worst", "wait", "seat"]) (sc := defScope (topS 8)) (by decide +kernel)) (fun _ _ _ _ _ => pg_name (i := 9) sc.nd rfl (Or.inl rfl)) (fun _ _ _ _ _ => pts_nil) (fun _ _ _ _ _ => (pe_c c_spread hr (by decide) (by rfl) (pa_cons (pv 6) (pa_cons (pv 0) (pa_cons (pv 9) pa_nil)))))) (pe_lst (pa_cons pe_int pa_nil))) pa_nil))) (pss_cons (ps_if (PW.pt (pw_or (pt_cmpR op_isN0 (pv 3) pe_non (nomark _)) (pw_or1 (pt_cmpR op_lt (pv 7) (pe_ix (ix_tupK (K := K)) (pv 3) pe_int (pix rfl)) (nomark _))))) (pss_cons (ps_set (i := 3) sc.nd rfl (Or.inl rfl) (pe_tup (pa_cons (pv 7) (pa_cons (pv 6) pa_nil)))) pss_nil) pss_nil) pss_nil))) (pss_cons (ps_ret (pe_ix (ix_tupK (K := K)) (pv 3) pe_int (pix rfl))) pss_nil))))),
    body_ok h (fun ρ w h => by obtain ⟨speakers, seats, most, rfl, rfl⟩ := h; exact noOwns rfl) fun b ρ w h => by
      obtain ⟨speakers, seats, most, rfl, rfl⟩ := h
      refine ⟨Unit, _, by unfold best_delays; rfl, ?_⟩
      exact (sw_set (c := (cO (c2 cI (cT cI)))) (Ev.is (ev_non (c := (c2 cI (cT cI)))) rfl) (fun best => (sw_set (c := (cL (cT cI))) (Ev.is ((ev_lst (ea_cons (ev_tupT (ea_nil (c := cI))) ea_nil))).nV rfl) (fun rows => (sw_for (sh' := fun (s : (List (List Int))) => [lS (c2 cI cI) speakers, lS (c2 cI cI) seats, vS cI most, vS (cO (c2 cI (cT cI))) best, vS (cL (cT cI)) s, .none, .none, .none, .none, .none]) (s0 := rows) (ItW.is (it_rl (c := (c2 cI cI)) (l := speakers) rfl) rfl) (We.w (.k (.k (.k (.k (.k (.k (.k (.k (.k (.k .nil))))))))))) gw_name (fun speaker s => (sw_set (c := (cL (cT cI))) (Ev.is ((ev_lc2 (it_list (ev_v (c := (cL (cT cI))) (x := s) rfl)) gw_name (fun row => et_yes) (fun row => (it_rg3 ev_int (ev_op (ev_v (c := cI) (x := most) rfl) ev_int noV noV rv_I0) ev_int)) gw_name (fun row wait => et_yes) (fun row wait => (ev_op (ev_v (c := (cT cI)) (x := row) rfl) (ev_tupT (ea_cons (ev_v (c := cI) (x := wait) rfl) ea_nil)) noV noV rv_catT)))).nV rfl) (fun rows2 => (sw_nx (We.w (.k (.k (.k (.k (.k (.d (.k (.k (.k (.k .nil))))))))))))))) (fun s2 => (sw_for (sh' := fun (s3 : (Option (Int × (List Int)))) => [lS (c2 cI cI) speakers, lS (c2 cI cI) seats, .none, vS (cO (c2 cI (cT cI))) s3, .none, .none, .none, .none, .none, .none]) (s0 := best) (ItW.is (it_list (ev_v (c := (cL (cT cI))) (x := s2) rfl)) rfl) (We.w (.k (.k (.d (.k (.d (.k (.k (.k (.k (.k .nil))))))))))) gw_name (fun row2 s3 => (sw_set (c := cI) (Ev.is (ev_c1 ((ev_op ((ev_lc (it_rl (c := (c2 cI cI)) (l := seats) rfl) gw_name (fun seat2 => et_yes) (fun seat2 => (ev_call3 (f := (fun z0 z1 z2 => spread z0 z1 z2)) noV noL noV (ev_v (c := (cT cI)) (x := row2) rfl) (ev_l (c := (c2 cI cI)) (x := speakers) rfl) (ev_v (c := (c2 cI cI)) (x := seat2) rfl) (fun z0 z1 z2 => ⟨z0, z1, z2, rfl, rfl⟩))))).nL ((ev_lst (ea_cons ev_int ea_nil))).nL noL noL rv_catS)).nR noR rc_max) rfl) (fun worst => (sw_ifl (EvT.is (et_or (et_test (ev_op ((ev_v (c := (cO (c2 cI (cT cI)))) (x := s3) rfl)).vR ev_nonN noR noV (rv_isN (fun _ z => by cases z)))) (et_test (ev_op (ev_v (c := cI) (x := worst) rfl) (ev_fix (k := 0) (Ev.opt (ev_v (c := (cO (c2 cI (cT cI)))) (x := s3) rfl)) f21) noV noV rv_cmp))) rfl) (sw_set (c := (cO (c2 cI (cT cI)))) (Ev.is (Ev.some (ev_tup2 (ev_v (c := cI) (x := worst) rfl) (ev_v (c := (cT cI)) (x := row2) rfl))) rfl) (fun best2 => (sw_nx (We.w (.k (.k (.k (.k (.k (.k (.d (.d (.k (.k .nil)))))))))))))) (sw_nx (We.w (.k (.k (.k (.k (.k (.k (.d (.d (.k (.k .nil)))))))))))))))) (fun s4 => (sw_ret (Ev.is (ev_fix (k := 1) (Ev.opt (ev_v (c := (cO (c2 cI (cT cI)))) (x := s4) rfl)) f22) rfl))))))))))⟩
@[irreducible] def law_spread (waits : (List Int)) (ways : (List Int)) : W Int := W.fin (S := Unit) (
  W.b (W.b (W.range 0 (waits.length : Int)) fun range => W.cmp range (fun _ => W.p true) (fun k => W.b (W.ix waits k) fun item2 => W.b (W.ix ways k) fun item3 => W.p (item2 + item3))) fun heard =>
  W.b (W.ite (!(decide (heard = ([] : List Int)))) (W.b (W.maxL heard) fun max2 => W.b (W.minL heard) fun min => W.p (max2 - min)) (W.p (0 : Int))) fun r => W.p (.ret r))
def rel_law_spread : List Slot → W Int → Prop := fun ρ w => ∃ waits : (List Int), ∃ ways : (List Int),  ρ = [vS (cT cI) waits, lS cI ways] ∧ w = law_spread waits ways
theorem sc__law_spread : FnScope ["waits", "ways", "heard", "k"] ["waits", "ways"] (defScope (topS 20)) := ⟨rfl, rfl, rfl, by decide +kernel, rfl, by decide +kernel, by decide +kernel⟩
theorem ok_law_spread {P : Program} {w : World} {K : PySem.W.Frag} {mg : Str → Option Value} {base : Heap} (h : HasFn K mg "_law_spread" (topS 20) ["waits", "ways"]) (m_len : mg "len" = none) (m_range : mg "range" = none) (m_max : mg "max" = none) (m_min : mg "min" = none) : Cal P w K mg base 1 "_law_spread" (spF K rel_law_spread (vS cI)) :=
  have sc := sc__law_spread
  cal_of h sc (spF_len (fun ρ w h => by obtain ⟨waits, ways, rfl, rfl⟩ := h; rfl)) fun f cdv A outer s H vs Q E hr h => ⟨_,
    (pss_cons (ps_setLc (i := 2) (own := [("k", 3)]) (g := (gName 3)) rfl sc.nd rfl rfl (L2.sw_true rfl rfl rfl (by decide +kernel)) (pi_range1 (by rfl) m_range (pa_cons (pe_callB (call_lenSK (K := K)) (by rfl) m_len PySem.boot_len (pa_cons (pv 0) pa_nil)) pa_nil)) (blkOk_by (N := ["waits", "ways", "heard", "k"]) (sc := defScope (topS 20)) (by decide +kernel)) (fun _ _ _ _ _ => pg_name (i := 3) sc.nd rfl (Or.inl rfl)) (fun _ _ _ _ _ => pts_nil) (fun _ _ _ _ _ => (pe_op op_add (pe_ix (ix_tupK (K := K)) (pv 0) (pv 3) (pix rfl)) (pe_ix (ix_listK (K := K)) (pv 1) (pv 3) (pix rfl))))) (pss_cons (ps_ret (pe_ifExp (pt_cmpR (op_nePK (K := K) hr) (pv 2) (pe_lst pa_nil) (nomark _)) (pe_op op_sub (pe_callB (cr_maxK (K := K) rfl) (by rfl) m_max (show bootBuiltins "max" = some (Value.builtin "max") by decide +kernel) (pa_cons (pv 2) pa_nil)) (pe_callB (cr_minK (K := K) rfl) (by rfl) m_min (show bootBuiltins "min" = some (Value.builtin "min") by decide +kernel) (pa_cons (pv 2) pa_nil))) pe_int)) pss_nil)),
    body_ok h (fun ρ w h => by obtain ⟨waits, ways, rfl, rfl⟩ := h; exact noOwns rfl) fun b ρ w h => by
      obtain ⟨waits, ways, rfl, rfl⟩ := h
      refine ⟨Unit, _, by unfold law_spread; rfl, ?_⟩
      exact (sw_set (c := (cL cI)) (Ev.is ((ev_lc (it_rg1 (ev_c1 ((ev_v (c := (cT cI)) (x := waits) rfl)).vR noR rc_lenT)) gw_name (fun k => et_yes) (fun k => (ev_op (ev_op (ev_v (c := (cT cI)) (x := waits) rfl) (ev_v (c := cI) (x := k) rfl) noV noV rv_ixT) (ev_op (ev_l (c := cI) (x := ways) rfl) (ev_v (c := cI) (x := k) rfl) noL noV rv_ixL) noV noV rv_I0)))).nV rfl) (fun heard => (sw_ret (Ev.is (ev_if (et_test (ev_op ((ev_v (c := (cL cI)) (x := heard) rfl)).vR ((ev_lst (ea_nil (c := cI)))).nR noR noR (rv_ne (plL plI) (plL plI) (eqL eqI)))) (ev_op (ev_c1 ((ev_v (c := (cL cI)) (x := heard) rfl)).vR noR rc_max) (ev_c1 ((ev_v (c := (cL cI)) (x := heard) rfl)).vR noR rc_min) noV noV rv_I0) ev_int) rfl))))⟩
@[irreducible] def law_best (ways : (List (List Int))) (many : Int) (most : Int) : W (List Int) := W.fin (S := Unit) (
  W.b (W.p [([] : List Int)]) fun rows =>
  W.b (W.range 0 many) fun l3 =>
  W.andThen (W.for_ l3 (fun (k : Int) (s : (List (List Int))) =>
      W.b (W.p ([] : List (List Int))) fun longer =>
      W.b (W.p s) fun l =>
      W.andThen (W.for_ l (fun (row : (List Int)) (s2 : (List (List Int))) =>
          W.b (W.b (W.range 0 (most + (1 : Int))) fun range2 => W.b (W.cmp range2 (fun wait => W.p (decide ((wait % (10 : Int)) = (0 : Int)))) (fun wait => W.cat row [wait])) fun list => W.cat s2 list) fun longer2 =>
          W.p (.nx longer2)) longer) fun (s3 : (List (List Int))) =>
      W.b (W.p s3) fun rows2 =>
      W.p (.nx rows2)) rows) fun (s4 : (List (List Int))) =>
  W.b (W.p (none : (Option (Int × (List Int))))) fun best =>
  W.b (W.p s4) fun l2 =>
  W.andThen (W.for_ l2 (fun (row2 : (List Int)) (s5 : (Option (Int × (List Int)))) =>
      W.b (W.b (W.cmp ways (fun _ => W.p true) (fun far => law_spread row2 far)) fun list2 => W.maxL list2) fun worst =>
      W.b (W.or s5.isNone (W.b (W.opt s5) fun some' => W.p (decide (worst < some'.1)))) fun c => if c = true then
        W.b (W.p (some (worst, row2))) fun best2 =>
        W.p (.nx best2)
      else
      W.p (.nx s5)) best) fun (s6 : (Option (Int × (List Int)))) =>
  W.b (W.b (W.opt s6) fun some'2 => W.p some'2.2) fun r => W.p (.ret r))
def rel_law_best : List Slot → W (List Int) → Prop := fun ρ w => ∃ ways : (List (List Int)), ∃ many : Int, ∃ most : Int,  ρ = [lS (cL cI) ways, vS cI many, vS cI most] ∧ w = law_best ways many most
theorem sc__law_best : FnScope ["ways", "many", "most", "rows", "k", "longer", "row", "best", "worst", "far", "wait"] ["ways", "many", "most"] (defScope (topS 21)) := ⟨rfl, rfl, rfl, by decide +kernel, rfl, by decide +kernel, by decide +kernel⟩
theorem ok_law_best {P : Program} {w : World} {K : PySem.W.Frag} {mg : Str → Option Value} {base : Heap} (h : HasFn K mg "_law_best" (topS 21) ["ways", "many", "most"]) (m_range : mg "range" = none) (m_int : mg "int" = none) (m_max : mg "max" = none) (c__law_spread : Cal P w K mg base 1 "_law_spread" (spF K rel_law_spread (vS cI))) : Cal P w K mg base 2 "_law_best" (spF K rel_law_best (vS (cT cI))) :=
  have sc := sc__law_best
  cal_of h sc (spF_len (fun ρ w h => by obtain ⟨ways, many, most, rfl, rfl⟩ := h; rfl)) fun f cdv A outer s H vs Q E hr h => ⟨_,
    (pss_cons (ps_set (i := 3) sc.nd rfl (Or.inl rfl) (pe_lst (pa_cons (pe_tup pa_nil) pa_nil))) (pss_cons (ps_for PassesOwn.never rfl (pi_range1 (by rfl) m_range (pa_cons (pv 1) pa_nil)) (pg_name (i := 4) sc.nd rfl (Or.inl rfl)) (pss_cons (ps_set (i := 5) sc.nd rfl (Or.inl rfl) (pe_lst pa_nil)) (pss_cons (ps_for PassesOwn.never rfl (pi_listK (K := K) (pv 3)) (pg_name (i := 6) sc.nd rfl (Or.inr rfl)) (pss_cons (ps_set (i := 5) sc.nd rfl (Or.inl rfl) (pe_op (op_catSK (K := K)) (pv 5) (pe_lc (own := [("wait", 10)]) (g := (gName 10)) rfl sc.nd (pi_range1 (by rfl) m_range (pa_cons (pe_op op_add (pv 2) pe_int) pa_nil)) (blkOk_by (N := ["ways", "many", "most", "rows", "k", "longer", "row", "best", "worst", "far", "wait"]) (sc := defScope (topS 21)) (by decide +kernel)) (fun _ _ _ _ _ => pg_name (i := 10) sc.nd rfl (Or.inl rfl)) (fun _ _ _ _ _ => (pts_one (pt_cmpR (op_eqPK (K := K) hr) (pe_op op_mod (pe_callTy call_in1 (by rfl) m_int (show bootBuiltins "int" = some (Value.type "int") by decide +kernel) (pa_cons (pv 10) pa_nil)) pe_int) pe_int (nomark _)))) (fun _ _ _ _ _ => (pe_op (op_catAK (K := K)) (pv 6) (pe_tup (pa_cons (pv 10) pa_nil))))))) pss_nil)) (pss_cons (ps_set (i := 3) sc.nd rfl (Or.inl rfl) (pv 5)) pss_nil)))) (pss_cons (ps_set (i := 7) sc.nd rfl (Or.inl rfl) pe_non) (pss_cons (ps_for PassesOwn.never rfl (pi_listK (K := K) (pv 3)) (pg_name (i := 6) sc.nd rfl (Or.inr rfl)) (pss_cons (ps_set (i := 8) sc.nd rfl (Or.inl rfl) (pe_callB (cr_maxK (K := K) rfl) (by rfl) m_max (show bootBuiltins "max" = some (Value.builtin "max") by decide +kernel) (pa_cons (pe_lc (own := [("far", 9)]) (g := (gName 9)) rfl sc.nd (pi_listK (K := K) (pv 0)) (blkOk_by (N := ["ways", "many", "most", "rows", "k", "longer", "row", "best", "worst", "far", "wait"]) (sc := defScope (topS 21)) (by decide +kernel)) (fun _ _ _ _ _ => pg_name (i := 9) sc.nd rfl (Or.inl rfl)) (fun _ _ _ _ _ => pts_nil) (fun _ _ _ _ _ => (pe_c c__law_spread hr (by decide) (by rfl) (pa_cons (pv 6) (pa_cons (pv 9) pa_nil))))) pa_nil))) (pss_cons (ps_if (PW.pt (pw_or (pt_cmpR op_isN0 (pv 7) pe_non (nomark _)) (pw_or1 (pt_cmpR op_lt (pv 8) (pe_ix (ix_tupK (K := K)) (pv 7) pe_int (pix rfl)) (nomark _))))) (pss_cons (ps_set (i := 7) sc.nd rfl (Or.inl rfl) (pe_tup (pa_cons (pv 8) (pa_cons (pv 6) pa_nil)))) pss_nil) pss_nil) pss_nil))) (pss_cons (ps_ret (pe_ix (ix_tupK (K := K)) (pv 7) pe_int (pix rfl))) pss_nil))))),
    body_ok h (fun ρ w h => by obtain ⟨ways, many, most, rfl, rfl⟩ := h; exact noOwns rfl) fun b ρ w h => by
      obtain ⟨ways, many, most, rfl, rfl⟩ := h
      refine ⟨Unit, _, by unfold law_best; rfl, ?_⟩
      exact (sw_set (c := (cL (cT cI))) (Ev.is ((ev_lst (ea_cons (ev_tupT (ea_nil (c := cI))) ea_nil))).nV rfl) (fun rows => (sw_for (sh' := fun (s : (List (List Int))) => [lS (cL cI) ways, .none, vS cI most, vS (cL (cT cI)) s, .none, .none, .none, .none, .none, .none, .none]) (s0 := rows) (ItW.is (it_rg1 (ev_v (c := cI) (x := many) rfl)) rfl) (We.w (.k (.d (.k (.k (.k (.k (.k (.k (.k (.k (.k .nil)))))))))))) gw_name (fun k s => (sw_set (c := (cL (cT cI))) (Ev.is ((ev_lst (ea_nil (c := (cT cI))))).nV rfl) (fun longer => (sw_for (sh' := fun (s2 : (List (List Int))) => [lS (cL cI) ways, .none, vS cI most, .none, .none, vS (cL (cT cI)) s2, .none, .none, .none, .none, .none]) (s0 := longer) (ItW.is (it_list (ev_v (c := (cL (cT cI))) (x := s) rfl)) rfl) (We.w (.k (.k (.k (.d (.d (.k (.k (.k (.k (.k (.k .nil)))))))))))) gw_name (fun row s2 => (sw_set (c := (cL (cT cI))) (Ev.is ((ev_op ((ev_v (c := (cL (cT cI))) (x := s2) rfl)).vL ((ev_lc (it_rg1 (ev_op (ev_v (c := cI) (x := most) rfl) ev_int noV noV rv_I0)) gw_name (fun wait => (et_test (ev_op ((ev_modK (ev_c1 (ev_v (c := cI) (x := wait) rfl) noV rc_int))).vR (ev_int).vR noR noR (rv_eq plI plI eqI)))) (fun wait => (ev_op (ev_v (c := (cT cI)) (x := row) rfl) (ev_tupT (ea_cons (ev_v (c := cI) (x := wait) rfl) ea_nil)) noV noV rv_catT)))).nL noL noL rv_catS)).nV rfl) (fun longer2 => (sw_nx (We.w (.k (.k (.k (.k (.k (.k (.d (.k (.k (.k (.k .nil)))))))))))))))) (fun s3 => (sw_set (c := (cL (cT cI))) (Ev.is (ev_v (c := (cL (cT cI))) (x := s3) rfl) rfl) (fun rows2 => (sw_nx (We.w (.k (.k (.k (.k (.k (.d (.k (.k (.k (.k (.k .nil)))))))))))))))))))) (fun s4 => (sw_set (c := (cO (c2 cI (cT cI)))) (Ev.is (ev_non (c := (c2 cI (cT cI)))) rfl) (fun best => (sw_for (sh' := fun (s5 : (Option (Int × (List Int)))) => [lS (cL cI) ways, .none, .none, .none, .none, .none, .none, vS (cO (c2 cI (cT cI))) s5, .none, .none, .none]) (s0 := best) (ItW.is (it_list (ev_v (c := (cL (cT cI))) (x := s4) rfl)) rfl) (We.w (.k (.k (.d (.d (.k (.k (.k (.k (.k (.k (.k .nil)))))))))))) gw_name (fun row2 s5 => (sw_set (c := cI) (Ev.is (ev_c1 ((ev_lc (it_rl (c := (cL cI)) (l := ways) rfl) gw_name (fun far => et_yes) (fun far => (ev_call2 (f := (fun z0 z1 => law_spread z0 z1)) noV noL (ev_v (c := (cT cI)) (x := row2) rfl) ((ev_v (c := (cL cI)) (x := far) rfl)).vL (fun z0 z1 => ⟨z0, z1, rfl, rfl⟩))))).nR noR rc_max) rfl) (fun worst => (sw_ifl (EvT.is (et_or (et_test (ev_op ((ev_v (c := (cO (c2 cI (cT cI)))) (x := s5) rfl)).vR ev_nonN noR noV (rv_isN (fun _ z => by cases z)))) (et_test (ev_op (ev_v (c := cI) (x := worst) rfl) (ev_fix (k := 0) (Ev.opt (ev_v (c := (cO (c2 cI (cT cI)))) (x := s5) rfl)) f21) noV noV rv_cmp))) rfl) (sw_set (c := (cO (c2 cI (cT cI)))) (Ev.is (Ev.some (ev_tup2 (ev_v (c := cI) (x := worst) rfl) (ev_v (c := (cT cI)) (x := row2) rfl))) rfl) (fun best2 => (sw_nx (We.w (.k (.k (.k (.k (.k (.k (.d (.k (.d (.k (.k .nil))))))))))))))) (sw_nx (We.w (.k (.k (.k (.k (.k (.k (.d (.k (.d (.k (.k .nil))))))))))))))))) (fun s6 => (sw_ret (Ev.is (ev_fix (k := 1) (Ev.opt (ev_v (c := (cO (c2 cI (cT cI)))) (x := s6) rfl)) f22) rfl))))))))))⟩
@[irreducible] def delays (source : (Int × Int)) (speakers : (List (Int × Int))) (seat : (Int × Int)) : W (List Int) := W.fin (S := Unit) (
  W.b (W.cmp speakers (fun _ => W.p true) (fun speaker => travel speaker seat)) fun ways =>
  W.b (W.b (travel source seat) fun travel2 => W.b (W.cat ways [travel2]) fun cat => W.maxL cat) fun goal =>
  W.b (W.cmp ways (fun _ => W.p true) (fun way => W.p (goal - way))) fun r => W.p (.ret r))
def rel_delays : List Slot → W (List Int) → Prop := fun ρ w => ∃ source : (Int × Int), ∃ speakers : (List (Int × Int)), ∃ seat : (Int × Int),  ρ = [vS (c2 cI cI) source, lS (c2 cI cI) speakers, vS (c2 cI cI) seat] ∧ w = delays source speakers seat
theorem sc_delays : FnScope ["source", "speakers", "seat", "ways", "goal", "speaker", "way"] ["source", "speakers", "seat"] (defScope (topS 5)) := ⟨rfl, rfl, rfl, by decide +kernel, rfl, by decide +kernel, by decide +kernel⟩
theorem ok_delays {P : Program} {w : World} {K : PySem.W.Frag} {mg : Str → Option Value} {base : Heap} (h : HasFn K mg "delays" (topS 5) ["source", "speakers", "seat"]) (m_max : mg "max" = none) (c_travel : Cal P w K mg base 3 "travel" (spF K rel_travel (vS cI))) : Cal P w K mg base 4 "delays" (spF K rel_delays (nS cI)) :=
  have sc := sc_delays
  cal_of h sc (spF_len (fun ρ w h => by obtain ⟨source, speakers, seat, rfl, rfl⟩ := h; rfl)) fun f cdv A outer s H vs Q E hr h => ⟨_,
    (pss_cons (ps_setLc (i := 3) (own := [("speaker", 5)]) (g := (gName 5)) rfl sc.nd rfl rfl (L2.sw_true rfl rfl rfl (by decide +kernel)) (pi_listK (K := K) (pv 1)) (blkOk_by (N := ["source", "speakers", "seat", "ways", "goal", "speaker", "way"]) (sc := defScope (topS 5)) (by decide +kernel)) (fun _ _ _ _ _ => pg_name (i := 5) sc.nd rfl (Or.inl rfl)) (fun _ _ _ _ _ => pts_nil) (fun _ _ _ _ _ => (pe_c c_travel hr (by decide) (by rfl) (pa_cons (pv 5) (pa_cons (pv 2) pa_nil))))) (pss_cons (ps_set (i := 4) sc.nd rfl (Or.inr rfl) (pe_callB (cr_maxK (K := K) rfl) (by rfl) m_max (show bootBuiltins "max" = some (Value.builtin "max") by decide +kernel) (pa_cons (pe_op (op_catSK (K := K)) (pv 3) (pe_lst (pa_cons (pe_c c_travel hr (by decide) (by rfl) (pa_cons (pv 0) (pa_cons (pv 2) pa_nil))) pa_nil))) pa_nil))) (pss_cons (ps_ret (pe_lc (own := [("way", 6)]) (g := (gName 6)) rfl sc.nd (pi_listK (K := K) (pv 3)) (blkOk_by (N := ["source", "speakers", "seat", "ways", "goal", "speaker", "way"]) (sc := defScope (topS 5)) (by decide +kernel)) (fun _ _ _ _ _ => pg_name (i := 6) sc.nd rfl (Or.inl rfl)) (fun _ _ _ _ _ => pts_nil) (fun _ _ _ _ _ => (pe_op op_sub (pv 4) (pv 6))))) pss_nil))),
    body_ok h (fun ρ w h => by obtain ⟨source, speakers, seat, rfl, rfl⟩ := h; exact noOwns rfl) fun b ρ w h => by
      obtain ⟨source, speakers, seat, rfl, rfl⟩ := h
      refine ⟨Unit, _, by unfold delays; rfl, ?_⟩
      exact (sw_set (c := (cL cI)) (Ev.is ((ev_lc (it_rl (c := (c2 cI cI)) (l := speakers) rfl) gw_name (fun speaker => et_yes) (fun speaker => (ev_call2 (f := (fun z0 z1 => travel z0 z1)) noV noV (ev_v (c := (c2 cI cI)) (x := speaker) rfl) (ev_v (c := (c2 cI cI)) (x := seat) rfl) (fun z0 z1 => ⟨z0, z1, rfl, rfl⟩))))).nV rfl) (fun ways => (sw_set (c := cI) (Ev.is (ev_c1 ((ev_op ((ev_v (c := (cL cI)) (x := ways) rfl)).vL ((ev_lst (ea_cons (ev_call2 (f := (fun z0 z1 => travel z0 z1)) noV noV (ev_v (c := (c2 cI cI)) (x := source) rfl) (ev_v (c := (c2 cI cI)) (x := seat) rfl) (fun z0 z1 => ⟨z0, z1, rfl, rfl⟩)) ea_nil))).nL noL noL rv_catS)).nR noR rc_max) rfl) (fun goal => (sw_ret (Ev.is (ev_lc (it_list (ev_v (c := (cL cI)) (x := ways) rfl)) gw_name (fun way => et_yes) (fun way => (ev_op (ev_v (c := cI) (x := goal) rfl) (ev_v (c := cI) (x := way) rfl) noV noV rv_I0))) rfl))))))⟩
@[irreducible] def arrivals__2 (waits : (List Int)) (speakers : (List (Int × Int))) (seat : (Int × Int)) : W (List Int) := W.fin (S := Unit) (
  W.b (W.cmp (List.zip waits speakers) (fun _ => W.p true) (fun x => W.b (travel x.2 seat) fun travel => W.p (x.1 + travel))) fun r => W.p (.ret r))
def rel_arrivals__2 : List Slot → W (List Int) → Prop := fun ρ w => ∃ waits : (List Int), ∃ speakers : (List (Int × Int)), ∃ seat : (Int × Int),  ρ = [lS cI waits, lS (c2 cI cI) speakers, vS (c2 cI cI) seat] ∧ w = arrivals__2 waits speakers seat
theorem ok_arrivals__2 {P : Program} {w : World} {K : PySem.W.Frag} {mg : Str → Option Value} {base : Heap} (h : HasFn K mg "arrivals" (topS 6) ["waits", "speakers", "seat"]) (m_zip : mg "zip" = none) (c_travel : Cal P w K mg base 3 "travel" (spF K rel_travel (vS cI))) : Cal P w K mg base 4 "arrivals" (spF K rel_arrivals__2 (nS cI)) :=
  have sc := sc_arrivals
  cal_of h sc (spF_len (fun ρ w h => by obtain ⟨waits, speakers, seat, rfl, rfl⟩ := h; rfl)) fun f cdv A outer s H vs Q E hr h => ⟨_,
    (pss_cons (ps_ret (pe_lc (own := [("wait", 3), ("speaker", 4)]) (g := (gTup K 2 (gCons (gName 3) (gCons (gName 4) gNil)))) rfl sc.nd (pi_zipK (K := K) (by rfl) m_zip (pa_cons (pv 0) (pa_cons (pv 1) pa_nil))) (blkOk_by (N := ["waits", "speakers", "seat", "wait", "speaker"]) (sc := defScope (topS 6)) (by decide +kernel)) (fun _ _ _ _ _ => pg_tup rfl (pgs_cons (pg_name (i := 3) sc.nd rfl (Or.inl rfl)) (pgs_cons (pg_name (i := 4) sc.nd rfl (Or.inl rfl)) pgs_nil))) (fun _ _ _ _ _ => pts_nil) (fun _ _ _ _ _ => (pe_op op_add (pv 3) (pe_c c_travel hr (by decide) (by rfl) (pa_cons (pv 4) (pa_cons (pv 2) pa_nil))))))) pss_nil),
    body_ok h (fun ρ w h => by obtain ⟨waits, speakers, seat, rfl, rfl⟩ := h; exact noOwns rfl) fun b ρ w h => by
      obtain ⟨waits, speakers, seat, rfl, rfl⟩ := h
      refine ⟨Unit, _, by unfold arrivals__2; rfl, ?_⟩
      exact (sw_ret (Ev.is (ev_lc (it_zipLL (eq_l (c := cI) (l := waits) rfl) (eq_l (c := (c2 cI cI)) (l := speakers) rfl)) (gw_tup2 gw_name gw_name) (fun x => et_yes) (fun x => (ev_op (ev_v (c := cI) (x := x.1) rfl) (ev_call2 (f := (fun z0 z1 => travel z0 z1)) noV noV (ev_v (c := (c2 cI cI)) (x := x.2) rfl) (ev_v (c := (c2 cI cI)) (x := seat) rfl) (fun z0 z1 => ⟨z0, z1, rfl, rfl⟩)) noV noV rv_I0))) rfl))⟩
@[irreducible] def spread__2 (waits : (List Int)) (speakers : (List (Int × Int))) (seat : (Int × Int)) : W Int := W.fin (S := Unit) (
  W.b (arrivals__2 waits speakers seat) fun times =>
  W.b (W.p (decide ((times.length : Int) = (0 : Int)))) fun c => if c = true then
    W.b (W.p (0 : Int)) fun r => W.p (.ret r)
  else
  W.b (W.b (W.maxL times) fun max2 => W.b (W.minL times) fun min => W.p (max2 - min)) fun r2 => W.p (.ret r2))
def rel_spread__2 : List Slot → W Int → Prop := fun ρ w => ∃ waits : (List Int), ∃ speakers : (List (Int × Int)), ∃ seat : (Int × Int),  ρ = [lS cI waits, lS (c2 cI cI) speakers, vS (c2 cI cI) seat] ∧ w = spread__2 waits speakers seat
theorem ok_spread__2 {P : Program} {w : World} {K : PySem.W.Frag} {mg : Str → Option Value} {base : Heap} (h : HasFn K mg "spread" (topS 7) ["waits", "speakers", "seat"]) (m_len : mg "len" = none) (m_max : mg "max" = none) (m_min : mg "min" = none) (c_arrivals__2 : Cal P w K mg base 4 "arrivals" (spF K rel_arrivals__2 (nS cI))) : Cal P w K mg base 5 "spread" (spF K rel_spread__2 (vS cI)) :=
  have sc := sc_spread
  cal_of h sc (spF_len (fun ρ w h => by obtain ⟨waits, speakers, seat, rfl, rfl⟩ := h; rfl)) fun f cdv A outer s H vs Q E hr h => ⟨_,
    (pss_cons (ps_set (i := 3) sc.nd rfl (Or.inl rfl) (pe_c c_arrivals__2 hr (by decide) (by rfl) (pa_cons (pv 0) (pa_cons (pv 1) (pa_cons (pv 2) pa_nil))))) (pss_cons (ps_if (pt_cmpR (op_eqPK (K := K) hr) (pe_callB (call_lenSK (K := K)) (by rfl) m_len PySem.boot_len (pa_cons (pv 3) pa_nil)) pe_int (nomark _)) (pss_cons (ps_ret pe_int) pss_nil) pss_nil) (pss_cons (ps_ret (pe_op op_sub (pe_callB (cr_maxK (K := K) rfl) (by rfl) m_max (show bootBuiltins "max" = some (Value.builtin "max") by decide +kernel) (pa_cons (pv 3) pa_nil)) (pe_callB (cr_minK (K := K) rfl) (by rfl) m_min (show bootBuiltins "min" = some (Value.builtin "min") by decide +kernel) (pa_cons (pv 3) pa_nil)))) pss_nil))),
    body_ok h (fun ρ w h => by obtain ⟨waits, speakers, seat, rfl, rfl⟩ := h; exact noOwns rfl) fun b ρ w h => by
      obtain ⟨waits, speakers, seat, rfl, rfl⟩ := h
      refine ⟨Unit, _, by unfold spread__2; rfl, ?_⟩
      exact (sw_set (c := (cL cI)) (Ev.is ((ev_call3 (f := (fun z0 z1 z2 => arrivals__2 z0 z1 z2)) noL noL noV (ev_l (c := cI) (x := waits) rfl) (ev_l (c := (c2 cI cI)) (x := speakers) rfl) (ev_v (c := (c2 cI cI)) (x := seat) rfl) (fun z0 z1 z2 => ⟨z0, z1, z2, rfl, rfl⟩))).nV rfl) (fun times => (sw_ifr (EvT.is (et_test (ev_op ((ev_c1 ((ev_v (c := (cL cI)) (x := times) rfl)).vR noR rc_lenR)).vR (ev_int).vR noR noR (rv_eq plI plI eqI))) rfl) (sw_ret (Ev.is ev_int rfl)) (sw_ret (Ev.is (ev_op (ev_c1 ((ev_v (c := (cL cI)) (x := times) rfl)).vR noR rc_max) (ev_c1 ((ev_v (c := (cL cI)) (x := times) rfl)).vR noR rc_min) noV noV rv_I0) rfl)))))⟩
@[irreducible] def law_spread__2 (waits : (List Int)) (ways : (List Int)) : W Int := W.fin (S := Unit) (
  W.b (W.b (W.range 0 (waits.length : Int)) fun range => W.cmp range (fun _ => W.p true) (fun k => W.b (W.ix waits k) fun item2 => W.b (W.ix ways k) fun item3 => W.p (item2 + item3))) fun heard =>
  W.b (W.ite (!(decide (heard = ([] : List Int)))) (W.b (W.maxL heard) fun max2 => W.b (W.minL heard) fun min => W.p (max2 - min)) (W.p (0 : Int))) fun r => W.p (.ret r))
def rel_law_spread__2 : List Slot → W Int → Prop := fun ρ w => ∃ waits : (List Int), ∃ ways : (List Int),  ρ = [lS cI waits, lS cI ways] ∧ w = law_spread__2 waits ways
theorem ok_law_spread__2 {P : Program} {w : World} {K : PySem.W.Frag} {mg : Str → Option Value} {base : Heap} (h : HasFn K mg "_law_spread" (topS 20) ["waits", "ways"]) (m_len : mg "len" = none) (m_range : mg "range" = none) (m_max : mg "max" = none) (m_min : mg "min" = none) : Cal P w K mg base 1 "_law_spread" (spF K rel_law_spread__2 (vS cI)) :=
  have sc := sc__law_spread
  cal_of h sc (spF_len (fun ρ w h => by obtain ⟨waits, ways, rfl, rfl⟩ := h; rfl)) fun f cdv A outer s H vs Q E hr h => ⟨_,
    (pss_cons (ps_setLc (i := 2) (own := [("k", 3)]) (g := (gName 3)) rfl sc.nd rfl rfl (L2.sw_true rfl rfl rfl (by decide +kernel)) (pi_range1 (by rfl) m_range (pa_cons (pe_callB (call_lenSK (K := K)) (by rfl) m_len PySem.boot_len (pa_cons (pv 0) pa_nil)) pa_nil)) (blkOk_by (N := ["waits", "ways", "heard", "k"]) (sc := defScope (topS 20)) (by decide +kernel)) (fun _ _ _ _ _ => pg_name (i := 3) sc.nd rfl (Or.inl rfl)) (fun _ _ _ _ _ => pts_nil) (fun _ _ _ _ _ => (pe_op op_add (pe_ix (ix_listK (K := K)) (pv 0) (pv 3) (pix rfl)) (pe_ix (ix_listK (K := K)) (pv 1) (pv 3) (pix rfl))))) (pss_cons (ps_ret (pe_ifExp (pt_cmpR (op_nePK (K := K) hr) (pv 2) (pe_lst pa_nil) (nomark _)) (pe_op op_sub (pe_callB (cr_maxK (K := K) rfl) (by rfl) m_max (show bootBuiltins "max" = some (Value.builtin "max") by decide +kernel) (pa_cons (pv 2) pa_nil)) (pe_callB (cr_minK (K := K) rfl) (by rfl) m_min (show bootBuiltins "min" = some (Value.builtin "min") by decide +kernel) (pa_cons (pv 2) pa_nil))) pe_int)) pss_nil)),
    body_ok h (fun ρ w h => by obtain ⟨waits, ways, rfl, rfl⟩ := h; exact noOwns rfl) fun b ρ w h => by
      obtain ⟨waits, ways, rfl, rfl⟩ := h
      refine ⟨Unit, _, by unfold law_spread__2; rfl, ?_⟩
      exact (sw_set (c := (cL cI)) (Ev.is ((ev_lc (it_rg1 (ev_c1 ((ev_l (c := cI) (x := waits) rfl)).lR noR rc_lenR)) gw_name (fun k => et_yes) (fun k => (ev_op (ev_op (ev_l (c := cI) (x := waits) rfl) (ev_v (c := cI) (x := k) rfl) noL noV rv_ixL) (ev_op (ev_l (c := cI) (x := ways) rfl) (ev_v (c := cI) (x := k) rfl) noL noV rv_ixL) noV noV rv_I0)))).nV rfl) (fun heard => (sw_ret (Ev.is (ev_if (et_test (ev_op ((ev_v (c := (cL cI)) (x := heard) rfl)).vR ((ev_lst (ea_nil (c := cI)))).nR noR noR (rv_ne (plL plI) (plL plI) (eqL eqI)))) (ev_op (ev_c1 ((ev_v (c := (cL cI)) (x := heard) rfl)).vR noR rc_max) (ev_c1 ((ev_v (c := (cL cI)) (x := heard) rfl)).vR noR rc_min) noV noV rv_I0) ev_int) rfl))))⟩
@[irreducible] def echoes (times : (List Int)) (reach : Int) : W (List Int) := W.fin (S := Unit) (
  W.b (W.cmp (W.enum times) (fun x => W.b (W.minL times) fun min2 => W.p (decide ((x.2 - min2) > reach))) (fun x => W.p x.1)) fun r => W.p (.ret r))
def rel_echoes : List Slot → W (List Int) → Prop := fun ρ w => ∃ times : (List Int), ∃ reach : Int,  ρ = [lS cI times, vS cI reach] ∧ w = echoes times reach
theorem sc_echoes : FnScope ["times", "reach", "place", "time"] ["times", "reach"] (defScope (topS 9)) := ⟨rfl, rfl, rfl, by decide +kernel, rfl, by decide +kernel, by decide +kernel⟩
theorem ok_echoes {P : Program} {w : World} {K : PySem.W.Frag} {mg : Str → Option Value} {base : Heap} (h : HasFn K mg "echoes" (topS 9) ["times", "reach"]) (m_enumerate : mg "enumerate" = none) (m_min : mg "min" = none) : Cal P w K mg base 1 "echoes" (spF K rel_echoes (nS cI)) :=
  have sc := sc_echoes
  cal_of h sc (spF_len (fun ρ w h => by obtain ⟨times, reach, rfl, rfl⟩ := h; rfl)) fun f cdv A outer s H vs Q E hr h => ⟨_,
    (pss_cons (ps_ret (pe_lc (own := [("place", 2), ("time", 3)]) (g := (gTup K 2 (gCons (gName 2) (gCons (gName 3) gNil)))) rfl sc.nd (pi_enumK (K := K) (by rfl) m_enumerate (pa_cons (pv 0) pa_nil)) (blkOk_by (N := ["times", "reach", "place", "time"]) (sc := defScope (topS 9)) (by decide +kernel)) (fun _ _ _ _ _ => pg_tup rfl (pgs_cons (pg_name (i := 2) sc.nd rfl (Or.inl rfl)) (pgs_cons (pg_name (i := 3) sc.nd rfl (Or.inl rfl)) pgs_nil))) (fun _ _ _ _ _ => (pts_one (pt_cmpR op_gt (pe_op op_sub (pv 3) (pe_callB (cr_minK (K := K) rfl) (by rfl) m_min (show bootBuiltins "min" = some (Value.builtin "min") by decide +kernel) (pa_cons (pv 0) pa_nil))) (pv 1) (nomark _)))) (fun _ _ _ _ _ => (pv 2)))) pss_nil),
    body_ok h (fun ρ w h => by obtain ⟨times, reach, rfl, rfl⟩ := h; exact noOwns rfl) fun b ρ w h => by
      obtain ⟨times, reach, rfl, rfl⟩ := h
      refine ⟨Unit, _, by unfold echoes; rfl, ?_⟩
      exact (sw_ret (Ev.is (ev_lc (it_enum (eq_l (c := cI) (l := times) rfl)) (gw_tup2 gw_name gw_name) (fun x => (et_test (ev_op (ev_op (ev_v (c := cI) (x := x.2) rfl) (ev_c1 ((ev_l (c := cI) (x := times) rfl)).lR noR rc_min) noV noV rv_I0) (ev_v (c := cI) (x := reach) rfl) noV noV rv_cmp))) (fun x => (ev_v (c := cI) (x := x.1) rfl))) rfl))⟩
@[irreducible] def law_ : W (Fl Unit Empty Bool) :=
  W.b (W.range 0 (3 : Int)) fun l3 =>
  W.andThen (W.for_ l3 (fun (turn : Int) (s : Unit) =>
      W.b (W.b (W.draw (1000 : Int)) fun drawn10 => W.b (W.draw (1000 : Int)) fun drawn12 => W.b (W.draw (1000 : Int)) fun drawn13 => W.p (((drawn10 * (1000000 : Int)) + (drawn12 * (1000 : Int))) + drawn13)) fun number =>
      W.b (W.b (W.mul number number) fun prod => W.b (W.mul number number) fun prod3 => W.b (W.mul number number) fun prod5 => W.b (W.draw (20 : Int)) fun drawn14 => W.pick [number, prod, (prod3 - (1 : Int)), (prod5 + (1 : Int)), drawn14, (number % (5000 : Int))]) fun number2 =>
      W.b (W.p (max (0 : Int) number2)) fun number3 =>
      W.b (W.b (root_of number3) fun root_of => W.b (law_root number3) fun root => W.b (W.same cI cI 4 root_of root) fun same => W.p (!same)) fun c => if c = true then
        W.b (W.p false) fun r => W.p (.ret r)
      else
      W.b (law_spot (30 : Int)) fun one =>
      W.b (law_spot (30 : Int)) fun other =>
      W.b (W.b (distance one other) fun distance => W.b (law_way one other) fun way => W.b (W.same cI cI 4 distance way) fun same2 => W.or (!same2) (W.b (travel one other) fun travel => W.b (law_time one other) fun time => W.b (W.same cI cI 4 travel time) fun same3 => W.p (!same3))) fun c2 => if c2 = true then
        W.b (W.p false) fun r2 => W.p (.ret r2)
      else
      W.p (.nx ())) ()) fun (s2 : Unit) =>
  W.b (W.pick [((2 : Int), (30 : Int), (2 : Int)), ((3 : Int), (10 : Int), (2 : Int)), ((1 : Int), (50 : Int), (2 : Int)), ((3 : Int), (20 : Int), (1 : Int)), ((2 : Int), (50 : Int), (1 : Int)), ((3 : Int), (25 : Int), (1 : Int)), ((2 : Int), (15 : Int), (2 : Int)), ((2 : Int), (49 : Int), (1 : Int))]) fun t =>
  W.b (W.b (W.range 0 t.1) fun range2 => W.cmp range2 (fun _ => W.p true) (fun k => law_spot (12 : Int))) fun speakers =>
  W.b (W.b (W.range 0 t.2.2) fun range3 => W.cmp range3 (fun _ => W.p true) (fun k2 => law_spot (12 : Int))) fun chairs =>
  W.b (W.cmp chairs (fun _ => W.p true) (fun far => W.cmp speakers (fun _ => W.p true) (fun one2 => law_time one2 far))) fun ways =>
  W.b (W.p speakers) fun handed =>
  W.b (W.p chairs) fun given =>
  W.b (W.b (best_delays handed given t.2.1) fun best_delays => W.b (law_best ways t.1 t.2.1) fun best => W.b (W.same (cT cI) (cT cI) 4 best_delays best) fun same4 => W.or (!same4) (W.or (!(decide (handed = speakers))) (W.p (!(decide (given = chairs)))))) fun c3 => if c3 = true then
    W.b (W.p false) fun r3 => W.p (.ret r3)
  else
  W.b (law_spot (12 : Int)) fun source =>
  W.b (W.range 0 t.2.2) fun l2 =>
  W.andThen (W.for_ l2 (fun (k3 : Int) (s3 : Unit) =>
      W.b (W.b (W.ix ways k3) fun item2 => W.b (W.ix chairs k3) fun item3 => W.b (law_time source item3) fun time3 => W.b (W.cat item2 [time3]) fun cat => W.maxL cat) fun last =>
      W.b (W.b (W.ix ways k3) fun item4 => W.cmp item4 (fun _ => W.p true) (fun far2 => W.p (last - far2))) fun due =>
      W.b (W.b (W.ix chairs k3) fun item5 => delays source handed item5) fun told =>
      W.b (W.b (W.same (cL cI) (cL cI) 4 told due) fun same5 => W.or (!same5) (W.or (!(decide (handed = speakers))) (W.b (W.ix chairs k3) fun item6 => W.b (spread__2 told handed item6) fun spread__2 => W.b (W.same cI cI 4 spread__2 (0 : Int)) fun same6 => W.p (!same6)))) fun c4 => if c4 = true then
        W.b (W.p false) fun r4 => W.p (.ret r4)
      else
      W.b (W.cmp speakers (fun _ => W.p true) (fun far3 => W.draw (60 : Int))) fun waits =>
      W.b (W.p waits) fun row =>
      W.b (W.b (W.ix chairs k3) fun item7 => W.b (arrivals__2 row handed item7) fun arrivals__2 => W.b (W.range 0 t.1) fun range5 => W.b (W.cmp range5 (fun _ => W.p true) (fun far4 => W.b (W.ix waits far4) fun item9 => W.b (W.ix ways k3) fun item10 => W.b (W.ix item10 far4) fun item11 => W.p (item9 + item11))) fun list7 => W.b (W.same (cL cI) (cL cI) 4 arrivals__2 list7) fun same7 => W.or (!same7) (W.p (!(decide (row = waits))))) fun c5 => if c5 = true then
        W.b (W.p false) fun r5 => W.p (.ret r5)
      else
      W.b (W.b (W.ix chairs k3) fun item12 => W.b (spread__2 row handed item12) fun spread__22 => W.b (W.ix ways k3) fun item13 => W.b (law_spread__2 waits item13) fun spread__23 => W.b (W.same cI cI 4 spread__22 spread__23) fun same8 => W.or (!same8) (W.or (!(decide (row = waits))) (W.p (!(decide (handed = speakers)))))) fun c6 => if c6 = true then
        W.b (W.p false) fun r6 => W.p (.ret r6)
      else
      W.p (.nx ())) ()) fun (s4 : Unit) =>
  W.b (W.b (W.draw (7 : Int)) fun drawn16 => W.b (W.range 0 drawn16) fun range6 => W.cmp range6 (fun _ => W.p true) (fun k4 => W.draw (200 : Int))) fun times =>
  W.b (W.draw (80 : Int)) fun reach =>
  W.b (W.and (decide ((times.length : Int) > (1 : Int))) (W.b (W.draw (2 : Int)) fun drawn19 => W.p (decide (drawn19 = (0 : Int))))) fun c7 => W.andThen (if c7 = true then
    W.b (W.b (W.draw (times.length : Int)) fun drawn21 => W.b (W.ix times drawn21) fun item15 => W.b (W.minL times) fun min => W.p (item15 - min)) fun reach2 =>
    W.p (.nx reach2)
  else
    W.p (.nx reach)) fun (s5 : Int) =>
  W.b (W.p [s5, (s5 + (1 : Int)), (max (0 : Int) (s5 - (1 : Int)))]) fun l =>
  W.andThen (W.for_ l (fun (least : Int) (s6 : Unit) =>
      W.b (W.p times) fun row2 =>
      W.b (W.b (W.range 0 (times.length : Int)) fun range7 => W.cmp range7 (fun k5 => W.b (W.cmp times (fun far5 => W.b (W.ix times k5) fun item19 => W.p (decide ((item19 - far5) > least))) (fun far5 => W.p far5)) fun list9 => W.p (!(decide (list9 = ([] : List Int))))) (fun k5 => W.p k5)) fun due2 =>
      W.b (W.b (echoes row2 least) fun echoes => W.b (W.same (cL cI) (cL cI) 4 echoes due2) fun same9 => W.or (!same9) (W.p (!(decide (row2 = times))))) fun c8 => if c8 = true then
        W.b (W.p false) fun r7 => W.p (.ret r7)
      else
      W.p (.nx ())) ()) fun (s7 : Unit) =>
  W.b (W.b (spread__2 ([] : List Int) ([] : List (Int × Int)) ((0 : Int), (0 : Int))) fun spread__24 => W.b (W.same cI cI 4 spread__24 (0 : Int)) fun same10 => W.or (!same10) (W.b (travel ((0 : Int), (0 : Int)) ((0 : Int), (343 : Int))) fun travel2 => W.b (W.same cI cI 4 travel2 (1000 : Int)) fun same11 => W.or (!same11) (W.b (distance ((1 : Int), (1 : Int)) ((2 : Int), (2 : Int))) fun distance2 => W.b (W.same cI cI 4 distance2 (1414 : Int)) fun same12 => W.p (!same12)))) fun c9 => if c9 = true then
    W.b (W.p false) fun r8 => W.p (.ret r8)
  else
  W.b (W.b (best_delays [((0 : Int), (0 : Int)), ((0 : Int), (7 : Int))] [((0 : Int), (0 : Int))] (30 : Int)) fun best_delays2 => W.b (W.same (cT cI) (cT cI) 4 best_delays2 [(20 : Int), (0 : Int)]) fun same13 => W.and same13 (W.b (delays ((0 : Int), (0 : Int)) ([] : List (Int × Int)) ((3 : Int), (4 : Int))) fun delays2 => W.same (cL cI) (cL cI) 4 delays2 ([] : List Int))) fun r9 => W.p (.ret r9)
theorem sc_law : FnScope ["script", "box", "turn", "number", "one", "other", "many", "most", "seats", "speakers", "chairs", "ways", "handed", "given", "source", "k", "last", "due", "told", "waits", "row", "times", "reach", "least", "far"] ["script"] (defScope (topS 22)) := ⟨rfl, rfl, rfl, by decide +kernel, rfl, by decide +kernel, by decide +kernel⟩
theorem ok_law {P : Program} {w : World} {K : PySem.W.Frag} {mg : Str → Option Value} {base : Heap} {f : Addr} {fd : FuncData} (F : Fun K "law" "law" (topS 22) f fd) (hw : law_.fin.run fun r => r = true) (hg : ∀ ns : List Int, ns.length ≤ 63 → (law_digits ns 0 14).run fun ds => ds.length ≤ 100000)
    (m_range : mg "range" = none) (m_int : mg "int" = none) (m_max : mg "max" = none) (m_list : mg "list" = none) (m_len : mg "len" = none) (m_min : mg "min" = none) (c__law_digits : Cal P w K mg base 2 "_law_digits" (spF K rel_law_digits (nS cI))) (c__law_draw : Cal P w K mg base 1 "_law_draw" (spF K relDraw (vS cI))) (c__law_pick : Cal P w K mg base 2 "_law_pick" (spF K relPick (fun d => Slot.val d))) (c_root_of : Cal P w K mg base 1 "root_of" (spF K rel_root_of (vS cI))) (c__law_root : Cal P w K mg base 1 "_law_root" (spF K rel_law_root (vS cI))) (c__law_same : Cal P w K mg base 5 "_law_same" (spF K (relSame 4) (vS cB))) (c__law_spot : Cal P w K mg base 2 "_law_spot" (spF K rel_law_spot (vS (c2 cI cI)))) (c_distance : Cal P w K mg base 2 "distance" (spF K rel_distance (vS cI))) (c__law_way : Cal P w K mg base 2 "_law_way" (spF K rel_law_way (vS cI))) (c_travel : Cal P w K mg base 3 "travel" (spF K rel_travel (vS cI))) (c__law_time : Cal P w K mg base 3 "_law_time" (spF K rel_law_time (vS cI))) (c_best_delays : Cal P w K mg base 6 "best_delays" (spF K rel_best_delays (vS (cT cI)))) (c__law_best : Cal P w K mg base 2 "_law_best" (spF K rel_law_best (vS (cT cI)))) (c_delays : Cal P w K mg base 4 "delays" (spF K rel_delays (nS cI))) (c_spread__2 : Cal P w K mg base 5 "spread" (spF K rel_spread__2 (vS cI))) (c_arrivals__2 : Cal P w K mg base 4 "arrivals" (spF K rel_arrivals__2 (nS cI))) (c__law_spread__2 : Cal P w K mg base 1 "_law_spread" (spF K rel_law_spread__2 (vS cI))) (c_echoes : Cal P w K mg base 1 "echoes" (spF K rel_echoes (nS cI))) : FnOk P w K mg base CX0 7 f fd ["script"] (spLaw K) := by
  have sc := sc_law
  refine F.ok sc (fun vs H Q E h => by obtain ⟨a, ns, rfl, _⟩ := h; rfl) (fun cdv A outer s H vs Q E hr h => ⟨_,
    (pss_cons (ps_set (i := 1) sc.nd rfl (Or.inr rfl) (pe_lst (pa_cons (pe_c c__law_digits hr (by decide) (by rfl) (pa_cons (pv 0) (pa_cons pe_int (pa_cons pe_int pa_nil)))) (pa_cons pe_int pa_nil)))) (pss_cons (ps_for PassesOwn.never rfl (pi_range1 (by rfl) m_range (pa_cons pe_int pa_nil)) (pg_name (i := 2) sc.nd rfl (Or.inl rfl)) (pss_cons (ps_set (i := 3) sc.nd rfl (Or.inl rfl) (pe_op op_add (pe_op op_add (pe_op op_mul (pe_c c__law_draw hr (by decide) (by rfl) (pa_cons (pv 1) (pa_cons pe_int pa_nil))) pe_int) (pe_op op_mul (pe_c c__law_draw hr (by decide) (by rfl) (pa_cons (pv 1) (pa_cons pe_int pa_nil))) pe_int)) (pe_c c__law_draw hr (by decide) (by rfl) (pa_cons (pv 1) (pa_cons pe_int pa_nil))))) (pss_cons (ps_set (i := 3) sc.nd rfl (Or.inl rfl) (pe_c c__law_pick hr (by decide) (by rfl) (pa_cons (pv 1) (pa_cons (pe_lst (pa_cons (pv 3) (pa_cons (pe_op op_mul (pv 3) (pv 3)) (pa_cons (pe_op op_sub (pe_op op_mul (pv 3) (pv 3)) pe_int) (pa_cons (pe_op op_add (pe_op op_mul (pv 3) (pv 3)) pe_int) (pa_cons (pe_c c__law_draw hr (by decide) (by rfl) (pa_cons (pv 1) (pa_cons pe_int pa_nil))) (pa_cons (pe_op op_mod (pe_callTy call_in1 (by rfl) m_int (show bootBuiltins "int" = some (Value.type "int") by decide +kernel) (pa_cons (pv 3) pa_nil)) pe_int) pa_nil))))))) pa_nil)))) (pss_cons (ps_set (i := 3) sc.nd rfl (Or.inl rfl) (pe_callB (call_mx2 rfl) (by rfl) m_max (show bootBuiltins "max" = some (Value.builtin "max") by decide +kernel) (pa_cons pe_int (pa_cons (pv 3) pa_nil)))) (pss_cons (ps_if (pt_not (pt_val (pe_c c__law_same hr (by decide) (by rfl) (pa_cons (pe_c c_root_of hr (by decide) (by rfl) (pa_cons (pv 3) pa_nil)) (pa_cons (pe_c c__law_root hr (by decide) (by rfl) (pa_cons (pv 3) pa_nil)) pa_nil))))) (pss_cons (ps_ret pe_bl) pss_nil) pss_nil) (pss_cons (ps_set (i := 4) sc.nd rfl (Or.inl rfl) (pe_c c__law_spot hr (by decide) (by rfl) (pa_cons (pv 1) (pa_cons pe_int pa_nil)))) (pss_cons (ps_set (i := 5) sc.nd rfl (Or.inl rfl) (pe_c c__law_spot hr (by decide) (by rfl) (pa_cons (pv 1) (pa_cons pe_int pa_nil)))) (pss_cons (ps_if (PW.pt (pw_or (pt_not (pt_val (pe_c c__law_same hr (by decide) (by rfl) (pa_cons (pe_c c_distance hr (by decide) (by rfl) (pa_cons (pv 4) (pa_cons (pv 5) pa_nil))) (pa_cons (pe_c c__law_way hr (by decide) (by rfl) (pa_cons (pv 4) (pa_cons (pv 5) pa_nil))) pa_nil))))) (pw_or1 (pt_not (pt_val (pe_c c__law_same hr (by decide) (by rfl) (pa_cons (pe_c c_travel hr (by decide) (by rfl) (pa_cons (pv 4) (pa_cons (pv 5) pa_nil))) (pa_cons (pe_c c__law_time hr (by decide) (by rfl) (pa_cons (pv 4) (pa_cons (pv 5) pa_nil))) pa_nil)))))))) (pss_cons (ps_ret pe_bl) pss_nil) pss_nil) pss_nil)))))))) (pss_cons (ps_asg (pe_c c__law_pick hr (by decide) (by rfl) (pa_cons (pv 1) (pa_cons (pe_lst (pa_cons (pe_tup (pa_cons pe_int (pa_cons pe_int (pa_cons pe_int pa_nil)))) (pa_cons (pe_tup (pa_cons pe_int (pa_cons pe_int (pa_cons pe_int pa_nil)))) (pa_cons (pe_tup (pa_cons pe_int (pa_cons pe_int (pa_cons pe_int pa_nil)))) (pa_cons (pe_tup (pa_cons pe_int (pa_cons pe_int (pa_cons pe_int pa_nil)))) (pa_cons (pe_tup (pa_cons pe_int (pa_cons pe_int (pa_cons pe_int pa_nil)))) (pa_cons (pe_tup (pa_cons pe_int (pa_cons pe_int (pa_cons pe_int pa_nil)))) (pa_cons (pe_tup (pa_cons pe_int (pa_cons pe_int (pa_cons pe_int pa_nil)))) (pa_cons (pe_tup (pa_cons pe_int (pa_cons pe_int (pa_cons pe_int pa_nil)))) pa_nil))))))))) pa_nil))) (pg_tup rfl (pgs_cons (pg_name (i := 6) sc.nd rfl (Or.inl rfl)) (pgs_cons (pg_name (i := 7) sc.nd rfl (Or.inl rfl)) (pgs_cons (pg_name (i := 8) sc.nd rfl (Or.inl rfl)) pgs_nil))))) (pss_cons (ps_set (i := 9) sc.nd rfl (Or.inr rfl) (pe_lc (own := [("k", 15)]) (g := (gName 15)) rfl sc.nd (pi_range1 (by rfl) m_range (pa_cons (pv 6) pa_nil)) (blkOk_by (N := ["script", "box", "turn", "number", "one", "other", "many", "most", "seats", "speakers", "chairs", "ways", "handed", "given", "source", "k", "last", "due", "told", "waits", "row", "times", "reach", "least", "far"]) (sc := defScope (topS 22)) (by decide +kernel)) (fun _ _ _ _ _ => pg_name (i := 15) sc.nd rfl (Or.inl rfl)) (fun _ _ _ _ _ => pts_nil) (fun _ _ _ _ _ => (pe_c c__law_spot hr (by decide) (by rfl) (pa_cons (pv 1) (pa_cons pe_int pa_nil)))))) (pss_cons (ps_setLc (i := 10) (own := [("k", 15)]) (g := (gName 15)) rfl sc.nd rfl rfl (L2.sw_true rfl rfl rfl (by decide +kernel)) (pi_range1 (by rfl) m_range (pa_cons (pv 8) pa_nil)) (blkOk_by (N := ["script", "box", "turn", "number", "one", "other", "many", "most", "seats", "speakers", "chairs", "ways", "handed", "given", "source", "k", "last", "due", "told", "waits", "row", "times", "reach", "least", "far"]) (sc := defScope (topS 22)) (by decide +kernel)) (fun _ _ _ _ _ => pg_name (i := 15) sc.nd rfl (Or.inl rfl)) (fun _ _ _ _ _ => pts_nil) (fun _ _ _ _ _ => (pe_c c__law_spot hr (by decide) (by rfl) (pa_cons (pv 1) (pa_cons pe_int pa_nil))))) (pss_cons (ps_set (i := 11) sc.nd rfl (Or.inr rfl) (pe_lc (own := [("far", 24)]) (g := (gName 24)) rfl sc.nd (pi_listK (K := K) (pv 10)) (blkOk_by (N := ["script", "box", "turn", "number", "one", "other", "many", "most", "seats", "speakers", "chairs", "ways", "handed", "given", "source", "k", "last", "due", "told", "waits", "row", "times", "reach", "least", "far"]) (sc := defScope (topS 22)) (by decide +kernel)) (fun _ _ _ _ _ => pg_name (i := 24) sc.nd rfl (Or.inr rfl)) (fun _ _ _ _ _ => pts_nil) (fun _ _ _ _ _ => (pe_lc (own := [("one", 4)]) (g := (gName 4)) rfl sc.nd (pi_listK (K := K) (pv 9)) (blkOk_by (by kernel_rfl)) (fun _ _ _ _ _ => pg_name (i := 4) sc.nd rfl (Or.inl rfl)) (fun _ _ _ _ _ => pts_nil) (fun _ _ _ _ _ => (pe_c c__law_time hr (by decide) (by rfl) (pa_cons (pv 4) (pa_cons (pv 24) pa_nil)))))))) (pss_cons (ps_set (i := 12) sc.nd rfl (Or.inl rfl) (pe_callTy (call_lstOfK (K := K)) (by rfl) m_list (show bootBuiltins "list" = some (Value.type "list") by decide +kernel) (pa_cons (pv 9) pa_nil))) (pss_cons (ps_set (i := 13) sc.nd rfl (Or.inl rfl) (pe_callTy (call_lstOfK (K := K)) (by rfl) m_list (show bootBuiltins "list" = some (Value.type "list") by decide +kernel) (pa_cons (pv 10) pa_nil))) (pss_cons (ps_if (PW.pt (pw_or (pt_not (pt_val (pe_c c__law_same hr (by decide) (by rfl) (pa_cons (pe_c c_best_delays hr (by decide) (by rfl) (pa_cons (pv 12) (pa_cons (pv 13) (pa_cons (pv 7) pa_nil)))) (pa_cons (pe_c c__law_best hr (by decide) (by rfl) (pa_cons (pv 11) (pa_cons (pv 6) (pa_cons (pv 7) pa_nil)))) pa_nil))))) (pw_or (pt_cmpR (op_nePK (K := K) hr) (pv 12) (pv 9) (nomark _)) (pw_or1 (pt_cmpR (op_nePK (K := K) hr) (pv 13) (pv 10) (nomark _)))))) (pss_cons (ps_ret pe_bl) pss_nil) pss_nil) (pss_cons (ps_set (i := 14) sc.nd rfl (Or.inl rfl) (pe_c c__law_spot hr (by decide) (by rfl) (pa_cons (pv 1) (pa_cons pe_int pa_nil)))) (pss_cons (ps_for PassesOwn.never rfl (pi_range1 (by rfl) m_range (pa_cons (pv 8) pa_nil)) (pg_name (i := 15) sc.nd rfl (Or.inr rfl)) (pss_cons (ps_set (i := 16) sc.nd rfl (Or.inr rfl) (pe_callB (cr_maxK (K := K) rfl) (by rfl) m_max (show bootBuiltins "max" = some (Value.builtin "max") by decide +kernel) (pa_cons (pe_op (op_catSK (K := K)) (pe_ix (ix_listK (K := K)) (pv 11) (pv 15) (pix rfl)) (pe_lst (pa_cons (pe_c c__law_time hr (by decide) (by rfl) (pa_cons (pv 14) (pa_cons (pe_ix (ix_listK (K := K)) (pv 10) (pv 15) (pix rfl)) pa_nil))) pa_nil))) pa_nil))) (pss_cons (ps_setLc (i := 17) (own := [("far", 24)]) (g := (gName 24)) rfl sc.nd rfl rfl (L2.sw_true rfl rfl rfl (by decide +kernel)) (pi_listK (K := K) (pe_ix (ix_listK (K := K)) (pv 11) (pv 15) (pix rfl))) (blkOk_by (N := ["script", "box", "turn", "number", "one", "other", "many", "most", "seats", "speakers", "chairs", "ways", "handed", "given", "source", "k", "last", "due", "told", "waits", "row", "times", "reach", "least", "far"]) (sc := defScope (topS 22)) (by decide +kernel)) (fun _ _ _ _ _ => pg_name (i := 24) sc.nd rfl (Or.inl rfl)) (fun _ _ _ _ _ => pts_nil) (fun _ _ _ _ _ => (pe_op op_sub (pv 16) (pv 24)))) (pss_cons (ps_set (i := 18) sc.nd rfl (Or.inl rfl) (pe_c c_delays hr (by decide) (by rfl) (pa_cons (pv 14) (pa_cons (pv 12) (pa_cons (pe_ix (ix_listK (K := K)) (pv 10) (pv 15) (pix rfl)) pa_nil))))) (pss_cons (ps_if (PW.pt (pw_or (pt_not (pt_val (pe_c c__law_same hr (by decide) (by rfl) (pa_cons (pv 18) (pa_cons (pv 17) pa_nil))))) (pw_or (pt_cmpR (op_nePK (K := K) hr) (pv 12) (pv 9) (nomark _)) (pw_or1 (pt_not (pt_val (pe_c c__law_same hr (by decide) (by rfl) (pa_cons (pe_c c_spread__2 hr (by decide) (by rfl) (pa_cons (pv 18) (pa_cons (pv 12) (pa_cons (pe_ix (ix_listK (K := K)) (pv 10) (pv 15) (pix rfl)) pa_nil)))) (pa_cons pe_int pa_nil))))))))) (pss_cons (ps_ret pe_bl) pss_nil) pss_nil) (pss_cons (ps_set (i := 19) sc.nd rfl (Or.inr rfl) (pe_lc (own := [("far", 24)]) (g := (gName 24)) rfl sc.nd (pi_listK (K := K) (pv 9)) (blkOk_by (N := ["script", "box", "turn", "number", "one", "other", "many", "most", "seats", "speakers", "chairs", "ways", "handed", "given", "source", "k", "last", "due", "told", "waits", "row", "times", "reach", "least", "far"]) (sc := defScope (topS 22)) (by decide +kernel)) (fun _ _ _ _ _ => pg_name (i := 24) sc.nd rfl (Or.inl rfl)) (fun _ _ _ _ _ => pts_nil) (fun _ _ _ _ _ => (pe_c c__law_draw hr (by decide) (by rfl) (pa_cons (pv 1) (pa_cons pe_int pa_nil)))))) (pss_cons (ps_set (i := 20) sc.nd rfl (Or.inl rfl) (pe_callTy (call_lstOfK (K := K)) (by rfl) m_list (show bootBuiltins "list" = some (Value.type "list") by decide +kernel) (pa_cons (pv 19) pa_nil))) (pss_cons (ps_if (PW.pt (pw_or (pt_not (pt_val (pe_c c__law_same hr (by decide) (by rfl) (pa_cons (pe_c c_arrivals__2 hr (by decide) (by rfl) (pa_cons (pv 20) (pa_cons (pv 12) (pa_cons (pe_ix (ix_listK (K := K)) (pv 10) (pv 15) (pix rfl)) pa_nil)))) (pa_cons (pe_lc (own := [("far", 24)]) (g := (gName 24)) rfl sc.nd (pi_range1 (by rfl) m_range (pa_cons (pv 6) pa_nil)) (blkOk_by (N := ["script", "box", "turn", "number", "one", "other", "many", "most", "seats", "speakers", "chairs", "ways", "handed", "given", "source", "k", "last", "due", "told", "waits", "row", "times", "reach", "least", "far"]) (sc := defScope (topS 22)) (by decide +kernel)) (fun _ _ _ _ _ => pg_name (i := 24) sc.nd rfl (Or.inl rfl)) (fun _ _ _ _ _ => pts_nil) (fun _ _ _ _ _ => (pe_op op_add (pe_ix (ix_listK (K := K)) (pv 19) (pv 24) (pix rfl)) (pe_ix (ix_listK (K := K)) (pe_ix (ix_listK (K := K)) (pv 11) (pv 15) (pix rfl)) (pv 24) (pix rfl))))) pa_nil))))) (pw_or1 (pt_cmpR (op_nePK (K := K) hr) (pv 20) (pv 19) (nomark _))))) (pss_cons (ps_ret pe_bl) pss_nil) pss_nil) (pss_cons (ps_if (PW.pt (pw_or (pt_not (pt_val (pe_c c__law_same hr (by decide) (by rfl) (pa_cons (pe_c c_spread__2 hr (by decide) (by rfl) (pa_cons (pv 20) (pa_cons (pv 12) (pa_cons (pe_ix (ix_listK (K := K)) (pv 10) (pv 15) (pix rfl)) pa_nil)))) (pa_cons (pe_c c__law_spread__2 hr (by decide) (by rfl) (pa_cons (pv 19) (pa_cons (pe_ix (ix_listK (K := K)) (pv 11) (pv 15) (pix rfl)) pa_nil))) pa_nil))))) (pw_or (pt_cmpR (op_nePK (K := K) hr) (pv 20) (pv 19) (nomark _)) (pw_or1 (pt_cmpR (op_nePK (K := K) hr) (pv 12) (pv 9) (nomark _)))))) (pss_cons (ps_ret pe_bl) pss_nil) pss_nil) pss_nil))))))))) (pss_cons (ps_set (i := 21) sc.nd rfl (Or.inr rfl) (pe_lc (own := [("k", 15)]) (g := (gName 15)) rfl sc.nd (pi_range1 (by rfl) m_range (pa_cons (pe_c c__law_draw hr (by decide) (by rfl) (pa_cons (pv 1) (pa_cons pe_int pa_nil))) pa_nil)) (blkOk_by (N := ["script", "box", "turn", "number", "one", "other", "many", "most", "seats", "speakers", "chairs", "ways", "handed", "given", "source", "k", "last", "due", "told", "waits", "row", "times", "reach", "least", "far"]) (sc := defScope (topS 22)) (by decide +kernel)) (fun _ _ _ _ _ => pg_name (i := 15) sc.nd rfl (Or.inl rfl)) (fun _ _ _ _ _ => pts_nil) (fun _ _ _ _ _ => (pe_c c__law_draw hr (by decide) (by rfl) (pa_cons (pv 1) (pa_cons pe_int pa_nil)))))) (pss_cons (ps_set (i := 22) sc.nd rfl (Or.inl rfl) (pe_c c__law_draw hr (by decide) (by rfl) (pa_cons (pv 1) (pa_cons pe_int pa_nil)))) (pss_cons (ps_if (PW.pt (pw_and (pt_cmpR op_gt (pe_callB (call_lenSK (K := K)) (by rfl) m_len PySem.boot_len (pa_cons (pv 21) pa_nil)) pe_int (nomark _)) (pw_and1 (pt_cmpR (op_eqPK (K := K) hr) (pe_c c__law_draw hr (by decide) (by rfl) (pa_cons (pv 1) (pa_cons pe_int pa_nil))) pe_int (nomark _))))) (pss_cons (ps_set (i := 22) sc.nd rfl (Or.inl rfl) (pe_op op_sub (pe_ix (ix_listK (K := K)) (pv 21) (pe_c c__law_draw hr (by decide) (by rfl) (pa_cons (pv 1) (pa_cons (pe_callB (call_lenSK (K := K)) (by rfl) m_len PySem.boot_len (pa_cons (pv 21) pa_nil)) pa_nil))) (pix rfl)) (pe_callB (cr_minK (K := K) rfl) (by rfl) m_min (show bootBuiltins "min" = some (Value.builtin "min") by decide +kernel) (pa_cons (pv 21) pa_nil)))) pss_nil) pss_nil) (pss_cons (ps_for PassesOwn.never rfl (pi_tupK (K := K) (pe_tup (pa_cons (pv 22) (pa_cons (pe_op op_add (pv 22) pe_int) (pa_cons (pe_callB (call_mx2 rfl) (by rfl) m_max (show bootBuiltins "max" = some (Value.builtin "max") by decide +kernel) (pa_cons pe_int (pa_cons (pe_op op_sub (pv 22) pe_int) pa_nil))) pa_nil))))) (pg_name (i := 23) sc.nd rfl (Or.inr rfl)) (pss_cons (ps_set (i := 20) sc.nd rfl (Or.inl rfl) (pe_callTy (call_lstOfK (K := K)) (by rfl) m_list (show bootBuiltins "list" = some (Value.type "list") by decide +kernel) (pa_cons (pv 21) pa_nil))) (pss_cons (ps_setLc (i := 17) (own := [("k", 15)]) (g := (gName 15)) rfl sc.nd rfl rfl (L2.sw_true rfl rfl rfl (by decide +kernel)) (pi_range1 (by rfl) m_range (pa_cons (pe_callB (call_lenSK (K := K)) (by rfl) m_len PySem.boot_len (pa_cons (pv 21) pa_nil)) pa_nil)) (blkOk_by (N := ["script", "box", "turn", "number", "one", "other", "many", "most", "seats", "speakers", "chairs", "ways", "handed", "given", "source", "k", "last", "due", "told", "waits", "row", "times", "reach", "least", "far"]) (sc := defScope (topS 22)) (by decide +kernel)) (fun _ _ _ _ _ => pg_name (i := 15) sc.nd rfl (Or.inr rfl)) (fun _ _ _ _ _ => (pts_one (pt_cmpR (op_nePK (K := K) hr) (pe_lc (own := [("far", 24)]) (g := (gName 24)) rfl sc.nd (pi_listK (K := K) (pv 21)) (blkOk_by (by kernel_rfl)) (fun _ _ _ _ _ => pg_name (i := 24) sc.nd rfl (Or.inl rfl)) (fun _ _ _ _ _ => (pts_one (pt_cmpR op_gt (pe_op op_sub (pe_ix (ix_listK (K := K)) (pv 21) (pv 15) (pix rfl)) (pv 24)) (pv 23) (nomark _)))) (fun _ _ _ _ _ => (pv 24))) (pe_lst pa_nil) (nomark _)))) (fun _ _ _ _ _ => (pv 15))) (pss_cons (ps_if (PW.pt (pw_or (pt_not (pt_val (pe_c c__law_same hr (by decide) (by rfl) (pa_cons (pe_c c_echoes hr (by decide) (by rfl) (pa_cons (pv 20) (pa_cons (pv 23) pa_nil))) (pa_cons (pv 17) pa_nil))))) (pw_or1 (pt_cmpR (op_nePK (K := K) hr) (pv 20) (pv 21) (nomark _))))) (pss_cons (ps_ret pe_bl) pss_nil) pss_nil) pss_nil)))) (pss_cons (ps_if (PW.pt (pw_or (pt_not (pt_val (pe_c c__law_same hr (by decide) (by rfl) (pa_cons (pe_c c_spread__2 hr (by decide) (by rfl) (pa_cons (pe_lst pa_nil) (pa_cons (pe_lst pa_nil) (pa_cons (pe_tup (pa_cons pe_int (pa_cons pe_int pa_nil))) pa_nil)))) (pa_cons pe_int pa_nil))))) (pw_or (pt_not (pt_val (pe_c c__law_same hr (by decide) (by rfl) (pa_cons (pe_c c_travel hr (by decide) (by rfl) (pa_cons (pe_tup (pa_cons pe_int (pa_cons pe_int pa_nil))) (pa_cons (pe_tup (pa_cons pe_int (pa_cons pe_int pa_nil))) pa_nil))) (pa_cons pe_int pa_nil))))) (pw_or1 (pt_not (pt_val (pe_c c__law_same hr (by decide) (by rfl) (pa_cons (pe_c c_distance hr (by decide) (by rfl) (pa_cons (pe_tup (pa_cons pe_int (pa_cons pe_int pa_nil))) (pa_cons (pe_tup (pa_cons pe_int (pa_cons pe_int pa_nil))) pa_nil))) (pa_cons pe_int pa_nil))))))))) (pss_cons (ps_ret pe_bl) pss_nil) pss_nil) (pss_cons (ps_ret (pe_and (pe_c c__law_same hr (by decide) (by rfl) (pa_cons (pe_c c_best_delays hr (by decide) (by rfl) (pa_cons (pe_lst (pa_cons (pe_tup (pa_cons pe_int (pa_cons pe_int pa_nil))) (pa_cons (pe_tup (pa_cons pe_int (pa_cons pe_int pa_nil))) pa_nil))) (pa_cons (pe_lst (pa_cons (pe_tup (pa_cons pe_int (pa_cons pe_int pa_nil))) pa_nil)) (pa_cons pe_int pa_nil)))) (pa_cons (pe_tup (pa_cons pe_int (pa_cons pe_int pa_nil))) pa_nil))) (pe_one (pe_c c__law_same hr (by decide) (by rfl) (pa_cons (pe_c c_delays hr (by decide) (by rfl) (pa_cons (pe_tup (pa_cons pe_int (pa_cons pe_int pa_nil))) (pa_cons (pe_lst pa_nil) (pa_cons (pe_tup (pa_cons pe_int (pa_cons pe_int pa_nil))) pa_nil)))) (pa_cons (pe_lst pa_nil) pa_nil)))))) pss_nil))))))))))))))))),
    ?_⟩)
  exact law_box (N := ["script", "box", "turn", "number", "one", "other", "many", "most", "seats", "speakers", "chairs", "ways", "handed", "given", "source", "k", "last", "due", "told", "waits", "row", "times", "reach", "least", "far"]) (wd := fun ns => law_digits ns 0 14) (w := law_) h (fun ns => Ev.is (ev_call3 (f := fun z0 z1 z2 => law_digits z0 z1 z2) noL noV noV (ev_v (c := cL cI) (x := ns) rfl).vL ev_int ev_int (fun z0 z1 z2 => ⟨z0, z1, z2, rfl, rfl⟩)).nV rfl) hg (fun b => by
    unfold law_
    exact (sw_for (sh' := fun (s : Unit) => [.none, .box, .none, .none, .none, .none, .none, .none, .none, .none, .none, .none, .none, .none, .none, .none, .none, .none, .none, .none, .none, .none, .none, .none, .none]) (s0 := ()) (ItW.is (it_rg1 ev_int) rfl) (We.w (.k (.k (.k (.k (.k (.k (.k (.k (.k (.k (.k (.k (.k (.k (.k (.k (.k (.k (.k (.k (.k (.k (.k (.k (.k .nil)))))))))))))))))))))))))) gw_name (fun turn s => (sw_set (c := cI) (Ev.is (ev_op (ev_op (ev_mulK (ev_draw (i := 1) rfl ev_int)) (ev_mulK (ev_draw (i := 1) rfl ev_int)) noV noV rv_I0) (ev_draw (i := 1) rfl ev_int) noV noV rv_I0) rfl) (fun number => (sw_set (c := cI) (Ev.is (ev_pick (i := 1) rfl ((ev_lst (ea_cons (ev_v (c := cI) (x := number) rfl) (ea_cons (ev_op (ev_v (c := cI) (x := number) rfl) (ev_v (c := cI) (x := number) rfl) noV noV rv_I) (ea_cons (ev_op (ev_op (ev_v (c := cI) (x := number) rfl) (ev_v (c := cI) (x := number) rfl) noV noV rv_I) ev_int noV noV rv_I0) (ea_cons (ev_op (ev_op (ev_v (c := cI) (x := number) rfl) (ev_v (c := cI) (x := number) rfl) noV noV rv_I) ev_int noV noV rv_I0) (ea_cons (ev_draw (i := 1) rfl ev_int) (ea_cons (ev_modK (ev_c1 (ev_v (c := cI) (x := number) rfl) noV rc_int)) ea_nil)))))))).nL) rfl) (fun number2 => (sw_set (c := cI) (Ev.is (ev_c2 ev_int (ev_v (c := cI) (x := number2) rfl) noV noV rc_max2) rfl) (fun number3 => (sw_ifr (EvT.is (et_not (et_B (ev_same ((ev_call1 (f := (fun z0 => root_of z0)) noV (ev_v (c := cI) (x := number3) rfl) (fun z0 => ⟨z0, rfl, rfl⟩))).vR ((ev_call1 (f := (fun z0 => law_root z0)) noV (ev_v (c := cI) (x := number3) rfl) (fun z0 => ⟨z0, rfl, rfl⟩))).vR))) rfl) (sw_ret (Ev.is ev_bl rfl)) (sw_set (c := (c2 cI cI)) (Ev.is (ev_call2 (f := (fun _ z1 => law_spot z1)) noB noV (ev_b (i := 1) rfl) ev_int (fun _ z1 => ⟨z1, rfl, rfl⟩)) rfl) (fun one => (sw_set (c := (c2 cI cI)) (Ev.is (ev_call2 (f := (fun _ z1 => law_spot z1)) noB noV (ev_b (i := 1) rfl) ev_int (fun _ z1 => ⟨z1, rfl, rfl⟩)) rfl) (fun other => (sw_ifr (EvT.is (et_or (et_not (et_B (ev_same ((ev_call2 (f := (fun z0 z1 => distance z0 z1)) noV noV (ev_v (c := (c2 cI cI)) (x := one) rfl) (ev_v (c := (c2 cI cI)) (x := other) rfl) (fun z0 z1 => ⟨z0, z1, rfl, rfl⟩))).vR ((ev_call2 (f := (fun z0 z1 => law_way z0 z1)) noV noV (ev_v (c := (c2 cI cI)) (x := one) rfl) (ev_v (c := (c2 cI cI)) (x := other) rfl) (fun z0 z1 => ⟨z0, z1, rfl, rfl⟩))).vR))) (et_not (et_B (ev_same ((ev_call2 (f := (fun z0 z1 => travel z0 z1)) noV noV (ev_v (c := (c2 cI cI)) (x := one) rfl) (ev_v (c := (c2 cI cI)) (x := other) rfl) (fun z0 z1 => ⟨z0, z1, rfl, rfl⟩))).vR ((ev_call2 (f := (fun z0 z1 => law_time z0 z1)) noV noV (ev_v (c := (c2 cI cI)) (x := one) rfl) (ev_v (c := (c2 cI cI)) (x := other) rfl) (fun z0 z1 => ⟨z0, z1, rfl, rfl⟩))).vR)))) rfl) (sw_ret (Ev.is ev_bl rfl)) (sw_nx (We.w (.k (.k (.d (.d (.d (.d (.k (.k (.k (.k (.k (.k (.k (.k (.k (.k (.k (.k (.k (.k (.k (.k (.k (.k (.k .nil)))))))))))))))))))))))))))))))))))))))) (fun s2 => (sw_tup (c := (c3 cI cI cI)) (Ev.is (ev_pick (i := 1) rfl ((ev_lst (ea_cons (ev_tup3 ev_int ev_int ev_int) (ea_cons (ev_tup3 ev_int ev_int ev_int) (ea_cons (ev_tup3 ev_int ev_int ev_int) (ea_cons (ev_tup3 ev_int ev_int ev_int) (ea_cons (ev_tup3 ev_int ev_int ev_int) (ea_cons (ev_tup3 ev_int ev_int ev_int) (ea_cons (ev_tup3 ev_int ev_int ev_int) (ea_cons (ev_tup3 ev_int ev_int ev_int) ea_nil)))))))))).nL) rfl) (gw_tup3 gw_name gw_name gw_name) (fun t => (sw_set (c := (cL (c2 cI cI))) (Ev.is ((ev_lc (it_rg1 (ev_v (c := cI) (x := t.1) rfl)) gw_name (fun k => et_yes) (fun k => (ev_call2 (f := (fun _ z1 => law_spot z1)) noB noV (ev_b (i := 1) rfl) ev_int (fun _ z1 => ⟨z1, rfl, rfl⟩))))).nV rfl) (fun speakers => (sw_set (c := (cL (c2 cI cI))) (Ev.is ((ev_lc (it_rg1 (ev_v (c := cI) (x := t.2.2) rfl)) gw_name (fun k2 => et_yes) (fun k2 => (ev_call2 (f := (fun _ z1 => law_spot z1)) noB noV (ev_b (i := 1) rfl) ev_int (fun _ z1 => ⟨z1, rfl, rfl⟩))))).nV rfl) (fun chairs => (sw_set (c := (cL (cL cI))) (Ev.is ((ev_lc (it_list (ev_v (c := (cL (c2 cI cI))) (x := chairs) rfl)) gw_name (fun far => et_yes) (fun far => ((ev_lc (it_list (ev_v (c := (cL (c2 cI cI))) (x := speakers) rfl)) gw_name (fun one2 => et_yes) (fun one2 => (ev_call2 (f := (fun z0 z1 => law_time z0 z1)) noV noV (ev_v (c := (c2 cI cI)) (x := one2) rfl) (ev_v (c := (c2 cI cI)) (x := far) rfl) (fun z0 z1 => ⟨z0, z1, rfl, rfl⟩))))).nV))).nV rfl) (fun ways => (sw_set (c := (cL (c2 cI cI))) (Ev.is ((ev_c1 ((ev_v (c := (cL (c2 cI cI))) (x := speakers) rfl)).vL noL rc_list)).nV rfl) (fun handed => (sw_set (c := (cL (c2 cI cI))) (Ev.is ((ev_c1 ((ev_v (c := (cL (c2 cI cI))) (x := chairs) rfl)).vL noL rc_list)).nV rfl) (fun given => (sw_ifr (EvT.is (et_or (et_not (et_B (ev_same ((ev_call3 (f := (fun z0 z1 z2 => best_delays z0 z1 z2)) noL noL noV ((ev_v (c := (cL (c2 cI cI))) (x := handed) rfl)).vL ((ev_v (c := (cL (c2 cI cI))) (x := given) rfl)).vL (ev_v (c := cI) (x := t.2.1) rfl) (fun z0 z1 z2 => ⟨z0, z1, z2, rfl, rfl⟩))).vR ((ev_call3 (f := (fun z0 z1 z2 => law_best z0 z1 z2)) noL noV noV ((ev_v (c := (cL (cL cI))) (x := ways) rfl)).vL (ev_v (c := cI) (x := t.1) rfl) (ev_v (c := cI) (x := t.2.1) rfl) (fun z0 z1 z2 => ⟨z0, z1, z2, rfl, rfl⟩))).vR))) (et_or (et_test (ev_op ((ev_v (c := (cL (c2 cI cI))) (x := handed) rfl)).vR ((ev_v (c := (cL (c2 cI cI))) (x := speakers) rfl)).vR noR noR (rv_ne (plL (pl2 plI plI)) (plL (pl2 plI plI)) (eqL (eq2 eqI eqI))))) (et_test (ev_op ((ev_v (c := (cL (c2 cI cI))) (x := given) rfl)).vR ((ev_v (c := (cL (c2 cI cI))) (x := chairs) rfl)).vR noR noR (rv_ne (plL (pl2 plI plI)) (plL (pl2 plI plI)) (eqL (eq2 eqI eqI))))))) rfl) (sw_ret (Ev.is ev_bl rfl)) (sw_set (c := (c2 cI cI)) (Ev.is (ev_call2 (f := (fun _ z1 => law_spot z1)) noB noV (ev_b (i := 1) rfl) ev_int (fun _ z1 => ⟨z1, rfl, rfl⟩)) rfl) (fun source => (sw_for (sh' := fun (s3 : Unit) => [.none, .box, .none, .none, .none, .none, vS cI t.1, .none, .none, vS (cL (c2 cI cI)) speakers, vS (cL (c2 cI cI)) chairs, vS (cL (cL cI)) ways, vS (cL (c2 cI cI)) handed, .none, vS (c2 cI cI) source, .none, .none, .none, .none, .none, .none, .none, .none, .none, .none]) (s0 := ()) (ItW.is (it_rg1 (ev_v (c := cI) (x := t.2.2) rfl)) rfl) (We.w (.k (.k (.k (.k (.k (.k (.k (.d (.d (.k (.k (.k (.k (.d (.k (.k (.k (.k (.k (.k (.k (.k (.k (.k (.k .nil)))))))))))))))))))))))))) gw_name (fun k3 s3 => (sw_set (c := cI) (Ev.is (ev_c1 ((ev_op ((ev_op ((ev_v (c := (cL (cL cI))) (x := ways) rfl)).vL (ev_v (c := cI) (x := k3) rfl) noL noV rv_ixL)).vL ((ev_lst (ea_cons (ev_call2 (f := (fun z0 z1 => law_time z0 z1)) noV noV (ev_v (c := (c2 cI cI)) (x := source) rfl) (ev_op ((ev_v (c := (cL (c2 cI cI))) (x := chairs) rfl)).vL (ev_v (c := cI) (x := k3) rfl) noL noV rv_ixL) (fun z0 z1 => ⟨z0, z1, rfl, rfl⟩)) ea_nil))).nL noL noL rv_catS)).nR noR rc_max) rfl) (fun last => (sw_set (c := (cL cI)) (Ev.is ((ev_lc (it_list (ev_op ((ev_v (c := (cL (cL cI))) (x := ways) rfl)).vL (ev_v (c := cI) (x := k3) rfl) noL noV rv_ixL)) gw_name (fun far2 => et_yes) (fun far2 => (ev_op (ev_v (c := cI) (x := last) rfl) (ev_v (c := cI) (x := far2) rfl) noV noV rv_I0)))).nV rfl) (fun due => (sw_set (c := (cL cI)) (Ev.is ((ev_call3 (f := (fun z0 z1 z2 => delays z0 z1 z2)) noV noL noV (ev_v (c := (c2 cI cI)) (x := source) rfl) ((ev_v (c := (cL (c2 cI cI))) (x := handed) rfl)).vL (ev_op ((ev_v (c := (cL (c2 cI cI))) (x := chairs) rfl)).vL (ev_v (c := cI) (x := k3) rfl) noL noV rv_ixL) (fun z0 z1 z2 => ⟨z0, z1, z2, rfl, rfl⟩))).nV rfl) (fun told => (sw_ifr (EvT.is (et_or (et_not (et_B (ev_same ((ev_v (c := (cL cI)) (x := told) rfl)).vR ((ev_v (c := (cL cI)) (x := due) rfl)).vR))) (et_or (et_test (ev_op ((ev_v (c := (cL (c2 cI cI))) (x := handed) rfl)).vR ((ev_v (c := (cL (c2 cI cI))) (x := speakers) rfl)).vR noR noR (rv_ne (plL (pl2 plI plI)) (plL (pl2 plI plI)) (eqL (eq2 eqI eqI))))) (et_not (et_B (ev_same ((ev_call3 (f := (fun z0 z1 z2 => spread__2 z0 z1 z2)) noL noL noV ((ev_v (c := (cL cI)) (x := told) rfl)).vL ((ev_v (c := (cL (c2 cI cI))) (x := handed) rfl)).vL (ev_op ((ev_v (c := (cL (c2 cI cI))) (x := chairs) rfl)).vL (ev_v (c := cI) (x := k3) rfl) noL noV rv_ixL) (fun z0 z1 z2 => ⟨z0, z1, z2, rfl, rfl⟩))).vR (ev_int).vR))))) rfl) (sw_ret (Ev.is ev_bl rfl)) (sw_set (c := (cL cI)) (Ev.is ((ev_lc (it_list (ev_v (c := (cL (c2 cI cI))) (x := speakers) rfl)) gw_name (fun far3 => et_yes) (fun far3 => (ev_draw (i := 1) rfl ev_int)))).nV rfl) (fun waits => (sw_set (c := (cL cI)) (Ev.is ((ev_c1 ((ev_v (c := (cL cI)) (x := waits) rfl)).vL noL rc_list)).nV rfl) (fun row => (sw_ifr (EvT.is (et_or (et_not (et_B (ev_same ((ev_call3 (f := (fun z0 z1 z2 => arrivals__2 z0 z1 z2)) noL noL noV ((ev_v (c := (cL cI)) (x := row) rfl)).vL ((ev_v (c := (cL (c2 cI cI))) (x := handed) rfl)).vL (ev_op ((ev_v (c := (cL (c2 cI cI))) (x := chairs) rfl)).vL (ev_v (c := cI) (x := k3) rfl) noL noV rv_ixL) (fun z0 z1 z2 => ⟨z0, z1, z2, rfl, rfl⟩))).nR ((ev_lc (it_rg1 (ev_v (c := cI) (x := t.1) rfl)) gw_name (fun far4 => et_yes) (fun far4 => (ev_op (ev_op ((ev_v (c := (cL cI)) (x := waits) rfl)).vL (ev_v (c := cI) (x := far4) rfl) noL noV rv_ixL) (ev_op ((ev_op ((ev_v (c := (cL (cL cI))) (x := ways) rfl)).vL (ev_v (c := cI) (x := k3) rfl) noL noV rv_ixL)).vL (ev_v (c := cI) (x := far4) rfl) noL noV rv_ixL) noV noV rv_I0)))).nR))) (et_test (ev_op ((ev_v (c := (cL cI)) (x := row) rfl)).vR ((ev_v (c := (cL cI)) (x := waits) rfl)).vR noR noR (rv_ne (plL plI) (plL plI) (eqL eqI))))) rfl) (sw_ret (Ev.is ev_bl rfl)) (sw_ifr (EvT.is (et_or (et_not (et_B (ev_same ((ev_call3 (f := (fun z0 z1 z2 => spread__2 z0 z1 z2)) noL noL noV ((ev_v (c := (cL cI)) (x := row) rfl)).vL ((ev_v (c := (cL (c2 cI cI))) (x := handed) rfl)).vL (ev_op ((ev_v (c := (cL (c2 cI cI))) (x := chairs) rfl)).vL (ev_v (c := cI) (x := k3) rfl) noL noV rv_ixL) (fun z0 z1 z2 => ⟨z0, z1, z2, rfl, rfl⟩))).vR ((ev_call2 (f := (fun z0 z1 => law_spread__2 z0 z1)) noL noL ((ev_v (c := (cL cI)) (x := waits) rfl)).vL ((ev_op ((ev_v (c := (cL (cL cI))) (x := ways) rfl)).vL (ev_v (c := cI) (x := k3) rfl) noL noV rv_ixL)).vL (fun z0 z1 => ⟨z0, z1, rfl, rfl⟩))).vR))) (et_or (et_test (ev_op ((ev_v (c := (cL cI)) (x := row) rfl)).vR ((ev_v (c := (cL cI)) (x := waits) rfl)).vR noR noR (rv_ne (plL plI) (plL plI) (eqL eqI)))) (et_test (ev_op ((ev_v (c := (cL (c2 cI cI))) (x := handed) rfl)).vR ((ev_v (c := (cL (c2 cI cI))) (x := speakers) rfl)).vR noR noR (rv_ne (plL (pl2 plI plI)) (plL (pl2 plI plI)) (eqL (eq2 eqI eqI))))))) rfl) (sw_ret (Ev.is ev_bl rfl)) (sw_nx (We.w (.k (.k (.k (.k (.k (.k (.k (.k (.k (.k (.k (.k (.k (.k (.k (.d (.d (.d (.d (.d (.d (.k (.k (.k (.k .nil))))))))))))))))))))))))))))))))))))))))) (fun s4 => (sw_set (c := (cL cI)) (Ev.is ((ev_lc (it_rg1 (ev_draw (i := 1) rfl ev_int)) gw_name (fun k4 => et_yes) (fun k4 => (ev_draw (i := 1) rfl ev_int)))).nV rfl) (fun times => (sw_set (c := cI) (Ev.is (ev_draw (i := 1) rfl ev_int) rfl) (fun reach => (sw_if (sh' := fun (s5 : Int) => [.none, .box, .none, .none, .none, .none, .none, .none, .none, .none, .none, .none, .none, .none, .none, .none, .none, .none, .none, .none, .none, vS (cL cI) times, vS cI s5, .none, .none]) (EvT.is (et_and (et_test (ev_op (ev_c1 ((ev_v (c := (cL cI)) (x := times) rfl)).vR noR rc_lenR) ev_int noV noV rv_cmp)) (et_test (ev_op ((ev_draw (i := 1) rfl ev_int)).vR (ev_int).vR noR noR (rv_eq plI plI eqI)))) rfl) (sw_set (c := cI) (Ev.is (ev_op (ev_op ((ev_v (c := (cL cI)) (x := times) rfl)).vL (ev_draw (i := 1) rfl (ev_c1 ((ev_v (c := (cL cI)) (x := times) rfl)).vR noR rc_lenR)) noL noV rv_ixL) (ev_c1 ((ev_v (c := (cL cI)) (x := times) rfl)).vR noR rc_min) noV noV rv_I0) rfl) (fun reach2 => (sw_nx (We.w (.k (.k (.k (.k (.k (.k (.d (.k (.k (.d (.d (.d (.d (.k (.d (.k (.k (.k (.k (.k (.k (.k (.k (.k (.k .nil))))))))))))))))))))))))))))) (sw_nx (We.w (.k (.k (.k (.k (.k (.k (.d (.k (.k (.d (.d (.d (.d (.k (.d (.k (.k (.k (.k (.k (.k (.k (.k (.k (.k .nil))))))))))))))))))))))))))) (fun s5 => (sw_for (sh' := fun (s6 : Unit) => [.none, .box, .none, .none, .none, .none, .none, .none, .none, .none, .none, .none, .none, .none, .none, .none, .none, .none, .none, .none, .none, vS (cL cI) times, .none, .none, .none]) (s0 := ()) (ItW.is (it_tup (ev_tupT (ea_cons (ev_v (c := cI) (x := s5) rfl) (ea_cons (ev_op (ev_v (c := cI) (x := s5) rfl) ev_int noV noV rv_I0) (ea_cons (ev_c2 ev_int (ev_op (ev_v (c := cI) (x := s5) rfl) ev_int noV noV rv_I0) noV noV rc_max2) ea_nil))))) rfl) (We.w (.k (.k (.k (.k (.k (.k (.k (.k (.k (.k (.k (.k (.k (.k (.k (.k (.k (.k (.k (.k (.k (.k (.d (.k (.k .nil)))))))))))))))))))))))))) gw_name (fun least s6 => (sw_set (c := (cL cI)) (Ev.is ((ev_c1 ((ev_v (c := (cL cI)) (x := times) rfl)).vL noL rc_list)).nV rfl) (fun row2 => (sw_set (c := (cL cI)) (Ev.is ((ev_lc (it_rg1 (ev_c1 ((ev_v (c := (cL cI)) (x := times) rfl)).vR noR rc_lenR)) gw_name (fun k5 => (et_test (ev_op ((ev_lc (it_list (ev_v (c := (cL cI)) (x := times) rfl)) gw_name (fun far5 => (et_test (ev_op (ev_op (ev_op ((ev_v (c := (cL cI)) (x := times) rfl)).vL (ev_v (c := cI) (x := k5) rfl) noL noV rv_ixL) (ev_v (c := cI) (x := far5) rfl) noV noV rv_I0) (ev_v (c := cI) (x := least) rfl) noV noV rv_cmp))) (fun far5 => (ev_v (c := cI) (x := far5) rfl)))).nR ((ev_lst (ea_nil (c := cI)))).nR noR noR (rv_ne (plL plI) (plL plI) (eqL eqI))))) (fun k5 => (ev_v (c := cI) (x := k5) rfl)))).nV rfl) (fun due2 => (sw_ifr (EvT.is (et_or (et_not (et_B (ev_same ((ev_call2 (f := (fun z0 z1 => echoes z0 z1)) noL noV ((ev_v (c := (cL cI)) (x := row2) rfl)).vL (ev_v (c := cI) (x := least) rfl) (fun z0 z1 => ⟨z0, z1, rfl, rfl⟩))).nR ((ev_v (c := (cL cI)) (x := due2) rfl)).vR))) (et_test (ev_op ((ev_v (c := (cL cI)) (x := row2) rfl)).vR ((ev_v (c := (cL cI)) (x := times) rfl)).vR noR noR (rv_ne (plL plI) (plL plI) (eqL eqI))))) rfl) (sw_ret (Ev.is ev_bl rfl)) (sw_nx (We.w (.k (.k (.k (.k (.k (.k (.k (.k (.k (.k (.k (.k (.k (.k (.k (.k (.k (.d (.k (.k (.d (.k (.k (.d (.k .nil))))))))))))))))))))))))))))))))) (fun s7 => (sw_ifr (EvT.is (et_or (et_not (et_B (ev_same ((ev_call3 (f := (fun z0 z1 z2 => spread__2 z0 z1 z2)) noL noL noV ((ev_lst (ea_nil (c := cI)))).nL ((ev_lst (ea_nil (c := (c2 cI cI))))).nL (ev_tup2 ev_int ev_int) (fun z0 z1 z2 => ⟨z0, z1, z2, rfl, rfl⟩))).vR (ev_int).vR))) (et_or (et_not (et_B (ev_same ((ev_call2 (f := (fun z0 z1 => travel z0 z1)) noV noV (ev_tup2 ev_int ev_int) (ev_tup2 ev_int ev_int) (fun z0 z1 => ⟨z0, z1, rfl, rfl⟩))).vR (ev_int).vR))) (et_not (et_B (ev_same ((ev_call2 (f := (fun z0 z1 => distance z0 z1)) noV noV (ev_tup2 ev_int ev_int) (ev_tup2 ev_int ev_int) (fun z0 z1 => ⟨z0, z1, rfl, rfl⟩))).vR (ev_int).vR))))) rfl) (sw_ret (Ev.is ev_bl rfl)) (sw_ret (Ev.is (ev_and (ev_same ((ev_call3 (f := (fun z0 z1 z2 => best_delays z0 z1 z2)) noL noL noV ((ev_lst (ea_cons (ev_tup2 ev_int ev_int) (ea_cons (ev_tup2 ev_int ev_int) ea_nil)))).nL ((ev_lst (ea_cons (ev_tup2 ev_int ev_int) ea_nil))).nL ev_int (fun z0 z1 z2 => ⟨z0, z1, z2, rfl, rfl⟩))).vR ((ev_tupT (ea_cons ev_int (ea_cons ev_int ea_nil)))).vR) (ev_same ((ev_call3 (f := (fun z0 z1 z2 => delays z0 z1 z2)) noV noL noV (ev_tup2 ev_int ev_int) ((ev_lst (ea_nil (c := (c2 cI cI))))).nL (ev_tup2 ev_int ev_int) (fun z0 z1 z2 => ⟨z0, z1, z2, rfl, rfl⟩))).nR ((ev_lst (ea_nil (c := cI)))).nR)) rfl))))))))))))))))))))))))))))))) hw
end Law
namespace Law
open PySem PySem.Spec PyProof.Rows L2 Z
theorem cell_ok {s : List Int} {k : Int} (hk : 0 ≤ k) : (law_cell s k).run fun _ => True := by
  unfold law_cell
  rw [W.run_fin]
  refine W.bp ?_
  by_cases h : k < s.length
  · rw [decide_eq_true h, if_pos rfl]
    exact W.bind (W.ix_lt hk h) fun x hx => trivial
  · rw [decide_eq_false h]
    exact trivial
theorem digits_run {ns : List Int} {N : Int} (h0 : 0 ≤ N) (hN : N ≤ 100) : (law_digits ns 0 N).run fun ds => ds.length ≤ 100000 := by
  unfold law_digits
  rw [W.run_fin]
  refine W.bp (W.bis (v := W.rg 0 N) ⟨⟨by omega, by omega, by omega, by omega⟩, rfl⟩ ?_)
  refine W.for_then (fun i s => s.length ≤ 60 * i) (Nat.le_refl 0) (fun i k s hk hs => ?_) fun s hs => ?_
  · obtain ⟨e, hlt⟩ := rg_get hk
    refine W.bind (cell_ok (by omega)) fun c _ => ?_
    have hi : i ≤ 100 := by omega
    have go : ∀ c2 : Int, (W.b (W.b (W.pow (10 : Int) (18 : Int)) fun pow => W.p (decide (c2 ≥ pow))) fun c2' => if c2' = true then
        W.b (W.range 0 (60 : Int)) fun l =>
        W.andThen (W.for_ l (fun (turn : Int) (s3 : (Int × (List Int))) =>
            W.b (W.p (decide (s3.1 > (0 : Int)))) fun c3 => if c3 = true then
              W.b (W.p (s3.1 % (1000 : Int))) fun x => W.req (Big s3.2.length) <|
              W.b (W.p (s3.1 / (1000 : Int))) fun cell4 =>
              W.p (.nx (cell4, (s3.2 ++ [x])))
            else
            W.p (.nx (s3.1, s3.2))) (c2, s)) fun (s4 : (Int × (List Int))) =>
        W.p (.nx s4.2)
      else
      W.b (W.p ((((c2 * (48271 : Int)) + (k * (69621 : Int))) + (11 : Int)) % (2147483647 : Int))) fun seed =>
      W.b (W.range 0 (12 : Int)) fun l2 =>
      W.andThen (W.for_ l2 (fun (turn2 : Int) (s5 : (Int × (List Int))) =>
          W.b (W.p ((((s5.1 * (16807 : Int)) + ((7 : Int) * turn2)) + (1 : Int)) % (2147483647 : Int))) fun seed2 =>
          W.b (W.p ((seed2 / (997 : Int)) % (1000 : Int))) fun x2 => W.req (Big s5.2.length) <|
          W.p (.nx (seed2, (s5.2 ++ [x2])))) (seed, s)) fun (s6 : (Int × (List Int))) =>
      W.p (Fl.nx s6.2) : W (Fl (List Int) (List Int) (List Int))).run (W.turnQ (fun s : List Int => s.length ≤ 60 * (i + 1)) (fun s => (W.p (Fl.ret s : Fl Unit Empty (List Int))).run (W.finQ fun ds : List Int => ds.length ≤ 100000)) fun r => W.finQ (S := Unit) (fun ds : List Int => ds.length ≤ 100000) (Fl.ret r)) := fun c2 => by
      refine W.bind (P := fun _ => True) ⟨⟨by decide, by decide, by decide⟩, trivial⟩ fun b _ => ?_
      cases b with
      | true =>
        rw [if_pos rfl]
        refine W.bis (v := W.rg 0 60) ⟨⟨by decide, by decide, by decide, by decide⟩, rfl⟩ ?_
        refine W.for_then (fun j t => t.2.length ≤ 60 * i + j) hs (fun j x t hx ht => ?_) fun t ht => ?_
        · obtain ⟨_, hj⟩ := rg_get hx
          refine W.bp ?_
          by_cases hp : t.1 > 0
          · rw [decide_eq_true hp, if_pos rfl]
            exact ⟨by show _ ≤ 1000000; omega, by show (t.2 ++ [_]).length ≤ _; rw [List.length_append, List.length_singleton]; omega⟩
          · rw [decide_eq_false hp]
            show t.2.length ≤ _
            omega
        · show t.2.length ≤ _
          rw [rg_len] at ht
          omega
      | false =>
        rw [if_neg (by decide)]
        refine W.bp (W.bis (v := W.rg 0 12) ⟨⟨by decide, by decide, by decide, by decide⟩, rfl⟩ ?_)
        refine W.for_then (fun j t => t.2.length ≤ 60 * i + j) hs (fun j x t hx ht => ?_) fun t ht => ?_
        · obtain ⟨_, hj⟩ := rg_get hx
          exact ⟨by show _ ≤ 1000000; omega, by show (t.2 ++ [_]).length ≤ _; rw [List.length_append, List.length_singleton]; omega⟩
        · show t.2.length ≤ _
          rw [rg_len] at ht
          omega
    refine W.bp ?_
    rw [W.run_then]
    by_cases hc : c < 0
    · rw [decide_eq_true hc, if_pos rfl]
      exact go _
    · rw [decide_eq_false hc]
      exact go _
  · show s.length ≤ 100000
    rw [rg_len] at hs
    omega
/-! ## roots -/
theorem sq_lt {a b : Int} (ha : 0 ≤ a) (hab : a < b) : a * a < b * b := Int.lt_of_le_of_lt (Int.mul_le_mul_of_nonneg_left (Int.le_of_lt hab) ha) (Int.mul_lt_mul_of_pos_right hab (by omega))
theorem sq_le {a b : Int} (ha : 0 ≤ a) (hab : a ≤ b) : a * a ≤ b * b := Int.mul_le_mul hab hab ha (by omega)
theorem root_uniq {a b n : Int} (ha : 0 ≤ a) (hb : 0 ≤ b) (h1 : a * a ≤ n) (h2 : n < (a + 1) * (a + 1)) (h3 : b * b ≤ n) (h4 : n < (b + 1) * (b + 1)) : a = b := by
  by_cases h : a = b
  · exact h
  · by_cases hlt : a < b
    · have := sq_le (a := a + 1) (b := b) (by omega) (by omega); omega
    · have := sq_le (a := b + 1) (b := a) (by omega) (by omega); omega
def IsRoot (n r : Int) : Prop := 0 ≤ r ∧ r * r ≤ n ∧ n < (r + 1) * (r + 1)
theorem IsRoot.le {n r : Int} (h : IsRoot n r) : r ≤ n := by
  obtain ⟨h0, h1, h2⟩ := h
  by_cases hr : r ≤ 0
  · have : r = 0 := by omega
    subst this; omega
  · have : r * 1 ≤ r * r := Int.mul_le_mul_of_nonneg_left (by omega) h0
    omega
theorem root_of_ok {n : Int} (h0 : 0 ≤ n) (hn : n ≤ 10000000000000000000) : (root_of n).run (IsRoot n) := by
  unfold root_of
  rw [W.run_fin]
  refine W.bp (W.bp ?_)
  refine W.while_then (fun m s => 0 ≤ s.1 ∧ s.1 < s.2 ∧ s.2 ≤ n + 1 ∧ s.1 * s.1 ≤ n ∧ n < s.2 * s.2 ∧ m = (s.2 - s.1).toNat) ⟨_, by show (0 : Int) ≤ 0; omega, by show (0 : Int) < n + 1; omega, by show n + 1 ≤ n + 1; omega, by show (0 : Int) * 0 ≤ n; omega, ?_, rfl⟩ fun m s hs => ?_
  · show n < (n + 1) * (n + 1)
    have : (n + 1) * 1 ≤ (n + 1) * (n + 1) := Int.mul_le_mul_of_nonneg_left (by omega) (by omega)
    omega
  · obtain ⟨lo, hi⟩ := s
    obtain ⟨a1, a2, a3, a4, a5, rfl⟩ := hs
    simp only at a1 a2 a3 a4 a5
    show if decide (hi - lo > 1) = true then _ else _
    by_cases hc : hi - lo > 1
    · rw [decide_eq_true hc, if_pos rfl]
      refine W.bp ?_
      simp only
      have m1 : lo < (lo + hi) / 2 := by omega
      have m2 : (lo + hi) / 2 < hi := by omega
      generalize (lo + hi) / 2 = mid at m1 m2
      refine W.bis (v := decide (mid * mid ≤ n)) ⟨cmul_small (by omega) (by omega), rfl⟩ ?_
      by_cases hm : mid * mid ≤ n
      · rw [decide_eq_true hm, if_pos rfl]
        exact ⟨(hi - mid).toNat, by omega, by omega, m2, a3, hm, a5, rfl⟩
      · rw [decide_eq_false hm]
        exact ⟨(mid - lo).toNat, by omega, a1, m1, by show mid ≤ n + 1; omega, a4, by show n < mid * mid; omega, rfl⟩
    · rw [decide_eq_false hc]
      have e : hi = lo + 1 := by omega
      subst e
      exact ⟨a1, a4, a5⟩
theorem law_root_ok {n : Int} (h0 : 0 ≤ n) (hn : n < 10000000000000000000000) : (law_root n).run (IsRoot n) := by
  unfold law_root
  rw [W.run_fin]
  refine W.bp (W.bis (v := 10000000000) ⟨⟨by decide, by decide, by decide⟩, (show ((10 : Int) ^ (10 : Int).toNat) = 10000000000 by decide)⟩ (W.bis (v := W.rg 0 11) ⟨⟨by decide, by decide, by decide, by decide⟩, rfl⟩ ?_))
  refine W.for_then (fun i s => 0 ≤ s.1 ∧ s.1 * s.1 ≤ n ∧ s.1 ≤ 100000000000 ∧ (i ≤ 10 → s.2 = 10 ^ (10 - i) ∧ n < (s.1 + 10 * s.2) * (s.1 + 10 * s.2)) ∧ (i = 11 → n < (s.1 + 1) * (s.1 + 1))) ⟨by decide, h0, by decide, fun _ => ⟨rfl, ?_⟩, fun z => by cases z⟩ (fun i x s hx hs => ?_) fun s hs => ?_
  · show n < (0 + 10 * 10000000000) * (0 + 10 * 10000000000)
    omega
  · obtain ⟨_, hi⟩ := rg_get hx
    have hi : i ≤ 10 := by omega
    obtain ⟨f, z⟩ := s
    obtain ⟨b1, b2, b3, b4, _⟩ := hs
    obtain ⟨b4, b5⟩ := b4 hi
    simp only at b1 b2 b3 b4 b5
    have z1 : 1 ≤ z := by
      rw [b4]
      have : (0 : Int) < 10 ^ (10 - i) := Int.pow_pos (by decide)
      omega
    have z2 : z ≤ 10000000000 := by
      rw [b4]
      have : (10 : Int) ^ (10 - i) ≤ 10 ^ 10 := by exact_mod_cast Nat.pow_le_pow_right (n := 10) (by decide) (Nat.sub_le 10 i)
      omega
    refine W.bis (v := W.rg 0 9) ⟨⟨by decide, by decide, by decide, by decide⟩, rfl⟩ ?_
    have top : ∀ g : Int, 0 ≤ g → g * g ≤ n → g < 100000000000 := fun g g0 hg => by
      by_cases hlt : g < 100000000000
      · exact hlt
      · have : (100000000000 : Int) * 100000000000 ≤ g * g := Int.mul_le_mul (by omega) (by omega) (by decide) (by omega)
        omega
    refine W.for_then (fun j g => 0 ≤ g ∧ g * g ≤ n ∧ ((n < (g + z) * (g + z)) ∨ n < (g + (10 - j) * z) * (g + (10 - j) * z))) ⟨b1, b2, .inr ?_⟩ (fun j y g hy hg => ?_) fun g hg => ?_
    · show n < (f + (10 - ((0 : Nat) : Int)) * z) * (f + (10 - ((0 : Nat) : Int)) * z)
      have : (10 - ((0 : Nat) : Int)) * z = 10 * z := by simp
      rw [this]
      exact b5
    · obtain ⟨g1, g2, g3⟩ := hg
      have gt := top g g1 g2
      refine W.bis (v := decide ((g + z) * (g + z) ≤ n)) ⟨cmul_small (by omega) (by omega), rfl⟩ ?_
      by_cases hc : (g + z) * (g + z) ≤ n
      · rw [decide_eq_true hc, if_pos rfl]
        refine ⟨by omega, hc, ?_⟩
        rcases g3 with g3 | g3
        · omega
        · right
          have e : g + z + (10 - ((j + 1 : Nat) : Int)) * z = g + (10 - (j : Int)) * z := by push_cast; grind
          rw [e]
          exact g3
      · rw [decide_eq_false hc]
        exact ⟨g1, g2, .inl (by omega)⟩
    · obtain ⟨g1, g2, g3⟩ := hg
      have g4 : n < (g + z) * (g + z) := by
        rcases g3 with g3 | g3
        · exact g3
        · have e : g + (10 - ((W.rg 0 9).length : Int)) * z = g + z := by
            rw [rg_len]
            show g + (10 - (9 : Int)) * z = g + z
            omega
          rwa [e] at g3
      refine ⟨g1, g2, Int.le_of_lt (top g g1 g2), fun h10 => ?_, fun h11 => ?_⟩
      · have e : (10 : Int) ^ (10 - i) = 10 * 10 ^ (10 - (i + 1)) := by
          have : 10 - i = (10 - (i + 1)) + 1 := by omega
          rw [this, Int.pow_succ, Int.mul_comm]
        have e2 : z / 10 = 10 ^ (10 - (i + 1)) := by
          rw [b4, e, Int.mul_ediv_cancel_left _ (by decide)]
        refine ⟨e2, ?_⟩
        simp only
        have e3 : 10 * (z / 10) = z := by rw [e2, b4, e]
        rw [e3]
        exact g4
      · have : i = 10 := by omega
        subst this
        have e : z = 1 := b4
        subst e
        exact g4
  · rw [rg_len] at hs
    obtain ⟨c1, c2, _, _, c3⟩ := hs
    exact ⟨c1, c2, c3 rfl⟩
def rtN : Nat → Nat
  | 0 => 0
  | n + 1 => if (rtN n + 1) * (rtN n + 1) ≤ n + 1 then rtN n + 1 else rtN n
theorem rtN_ok : ∀ n, rtN n * rtN n ≤ n ∧ n < (rtN n + 1) * (rtN n + 1)
  | 0 => by decide
  | n + 1 => by
    obtain ⟨h1, h2⟩ := rtN_ok n
    show (if _ then _ else _) * (if _ then _ else _) ≤ _ ∧ _ < ((if _ then _ else _) + 1) * ((if _ then _ else _) + 1)
    by_cases h : (rtN n + 1) * (rtN n + 1) ≤ n + 1
    · rw [if_pos h]
      refine ⟨h, ?_⟩
      have : (rtN n + 1 + 1) * (rtN n + 1 + 1) = (rtN n + 1) * (rtN n + 1) + 2 * (rtN n + 1) + 1 := by grind
      omega
    · rw [if_neg h]
      exact ⟨by omega, by omega⟩
def rt (n : Int) : Int := (rtN n.toNat : Nat)
theorem rt_ok {n : Int} (h : 0 ≤ n) : IsRoot n (rt n) := by
  obtain ⟨h1, h2⟩ := rtN_ok n.toNat
  have e : ((n.toNat : Nat) : Int) = n := by omega
  refine ⟨by unfold rt; omega, ?_, ?_⟩
  · unfold rt; rw [← e]; exact_mod_cast h1
  · unfold rt; rw [← e]; exact_mod_cast h2
theorem IsRoot.eq {n r : Int} (h : IsRoot n r) (h0 : 0 ≤ n) : r = rt n := root_uniq h.1 (rt_ok h0).1 h.2.1 h.2.2 (rt_ok h0).2.1 (rt_ok h0).2.2
theorem root_of_is {n : Int} (h0 : 0 ≤ n) (hn : n ≤ 10000000000000000000) : (root_of n).run (· = rt n) := W.use (root_of_ok h0 hn) fun r h => h.eq h0
theorem law_root_is {n : Int} (h0 : 0 ≤ n) (hn : n < 10000000000000000000000) : (law_root n).run (· = rt n) := W.use (law_root_ok h0 hn) fun r h => h.eq h0
/-! ## ways, times -/
def sqd (a b : Int × Int) : Int := (a.1 - b.1) * (a.1 - b.1) + (a.2 - b.2) * (a.2 - b.2)
def dist (a b : Int × Int) : Int := rt (1000000 * sqd a b)
def trav (a b : Int × Int) : Int := (2 * dist a b + 343) / 686
def Near (p : Int × Int) : Prop := -400 ≤ p.1 ∧ p.1 ≤ 400 ∧ -400 ≤ p.2 ∧ p.2 ≤ 400
theorem sq_near {a b : Int} (h1 : -400 ≤ a) (h2 : a ≤ 400) (h3 : -400 ≤ b) (h4 : b ≤ 400) : 0 ≤ (a - b) * (a - b) ∧ (a - b) * (a - b) ≤ 640000 := by
  by_cases h : a ≤ b
  · have e : (a - b) * (a - b) = (b - a) * (b - a) := by grind
    rw [e]
    have h5 : (b - a) * (b - a) ≤ 800 * 800 := sq_le (by omega) (by omega)
    have h6 : 0 ≤ (b - a) * (b - a) := Int.mul_nonneg (by omega) (by omega)
    omega
  · have h5 : (a - b) * (a - b) ≤ 800 * 800 := sq_le (by omega) (by omega)
    have h6 : 0 ≤ (a - b) * (a - b) := Int.mul_nonneg (by omega) (by omega)
    omega
theorem sqd_near {a b : Int × Int} (ha : Near a) (hb : Near b) : 0 ≤ sqd a b ∧ sqd a b ≤ 1280000 := by
  obtain ⟨a1, a2, a3, a4⟩ := ha
  obtain ⟨b1, b2, b3, b4⟩ := hb
  have h1 := sq_near a1 a2 b1 b2
  have h2 := sq_near a3 a4 b3 b4
  unfold sqd
  omega
theorem dist_near {a b : Int × Int} (ha : Near a) (hb : Near b) : 0 ≤ dist a b ∧ dist a b ≤ 1280000000000 := by
  have h := sqd_near ha hb
  have r : IsRoot (1000000 * sqd a b) (dist a b) := rt_ok (by omega)
  have := r.le
  exact ⟨r.1, by omega⟩
theorem trav_near {a b : Int × Int} (ha : Near a) (hb : Near b) : 0 ≤ trav a b ∧ trav a b ≤ 1280000000000 := by
  have h := dist_near ha hb
  unfold trav
  omega
theorem distance_is {a b : Int × Int} (ha : Near a) (hb : Near b) : (distance a b).run (· = dist a b) := by
  unfold distance
  rw [W.run_fin]
  have h := sqd_near ha hb
  obtain ⟨a1, a2, a3, a4⟩ := ha
  obtain ⟨b1, b2, b3, b4⟩ := hb
  refine W.bis (v := sqd a b) ⟨cmul_small (by omega) (by omega), cmul_small (by omega) (by omega), rfl⟩ ?_
  exact W.bis (root_of_is (by omega) (by omega)) rfl
theorem law_way_is {a b : Int × Int} (ha : Near a) (hb : Near b) : (law_way a b).run (· = dist a b) := by
  unfold law_way
  rw [W.run_fin]
  have h := sqd_near ha hb
  obtain ⟨a1, a2, a3, a4⟩ := ha
  obtain ⟨b1, b2, b3, b4⟩ := hb
  refine W.bp (W.bp ?_)
  exact ⟨cmul_small (by omega) (by omega), cmul_small (by omega) (by omega), (show (law_root (1000000 * sqd a b)).run _ from W.is_use (law_root_is (n := 1000000 * sqd a b) (by omega) (by omega)) rfl)⟩
theorem travel_is {a b : Int × Int} (ha : Near a) (hb : Near b) : (travel a b).run (· = trav a b) := by
  unfold travel
  rw [W.run_fin]
  exact W.bis (W.bis (distance_is ha hb) ⟨⟨by decide, by decide⟩, rfl⟩) rfl
theorem law_time_is {a b : Int × Int} (ha : Near a) (hb : Near b) : (law_time a b).run (· = trav a b) := by
  unfold law_time
  rw [W.run_fin]
  have h := dist_near ha hb
  refine W.bis (law_way_is ha hb) (W.bp (W.bp ?_))
  rw [W.run_then]
  by_cases hc : 2 * (dist a b - 343 * (dist a b / 343)) ≥ 343
  · rw [decide_eq_true hc, if_pos rfl]
    show dist a b / 343 + 1 = trav a b
    unfold trav
    omega
  · rw [decide_eq_false hc]
    show dist a b / 343 = trav a b
    unfold trav
    omega
/-! ## what is heard -/
def arr (ws : List Int) (sp : List (Int × Int)) (seat : Int × Int) : List Int := (List.zip ws sp).map fun x => x.1 + trav x.2 seat
def spr (l : List Int) : Int := if l = [] then 0 else mxL l - mnL l
theorem spr_nonneg (l : List Int) : 0 ≤ spr l := by
  unfold spr
  by_cases h : l = []
  · rw [if_pos h]; decide
  · rw [if_neg h]
    have := mxL_le (mnL_mem h)
    omega
theorem zip_near {ws : List Int} {sp : List (Int × Int)} (hs : ∀ s ∈ sp, Near s) {x : Int × (Int × Int)} (hx : x ∈ List.zip ws sp) : Near x.2 := hs _ (List.of_mem_zip hx).2
theorem arrivals_is {ws : List Int} {sp : List (Int × Int)} {seat : Int × Int} (hl : ws.length ≤ 1000000) (hs : ∀ s ∈ sp, Near s) (ha : Near seat) : (arrivals ws sp seat).run (· = arr ws sp seat) := by
  unfold arrivals
  rw [W.run_fin]
  exact W.bis (W.cmp_map (fun x : Int × (Int × Int) => x.1 + trav x.2 seat) (by rw [List.length_zip]; omega) fun x hx => by refine W.bis (travel_is (zip_near hs hx) ha) ?_; rfl) rfl
theorem arrivals2_is {ws : List Int} {sp : List (Int × Int)} {seat : Int × Int} (hl : ws.length ≤ 1000000) (hs : ∀ s ∈ sp, Near s) (ha : Near seat) : (arrivals__2 ws sp seat).run (· = arr ws sp seat) := by
  unfold arrivals__2
  rw [W.run_fin]
  exact W.bis (W.cmp_map (fun x : Int × (Int × Int) => x.1 + trav x.2 seat) (by rw [List.length_zip]; omega) fun x hx => by refine W.bis (travel_is (zip_near hs hx) ha) ?_; rfl) rfl
theorem spr_go {l : List Int} {Q : Int → Prop} (q : Q (spr l)) : (W.b (W.p (decide ((l.length : Int) = (0 : Int)))) fun c => if c = true then
    W.b (W.p (0 : Int)) fun r => W.p (.ret r)
  else
  W.b (W.b (W.maxL l) fun max2 => W.b (W.minL l) fun min => W.p (max2 - min)) fun r2 => W.p (Fl.ret r2 : Fl Unit Empty Int)).run (W.finQ Q) := by
  refine W.bp ?_
  unfold spr at q
  by_cases h : l = []
  · subst h
    exact q
  · rw [if_neg h] at q
    have hz : ¬ ((l.length : Int) = 0) := fun z => h (List.eq_nil_of_length_eq_zero (by omega))
    rw [decide_eq_false hz]
    exact W.bis (W.bis (W.maxL_is h) (W.bis (W.minL_is h) rfl)) q
theorem spread_is {ws : List Int} {sp : List (Int × Int)} {seat : Int × Int} (hl : ws.length ≤ 1000000) (hs : ∀ s ∈ sp, Near s) (ha : Near seat) : (spread ws sp seat).run (· = spr (arr ws sp seat)) := by
  unfold spread
  rw [W.run_fin]
  exact W.bis (arrivals_is hl hs ha) (spr_go rfl)
theorem spread2_is {ws : List Int} {sp : List (Int × Int)} {seat : Int × Int} (hl : ws.length ≤ 1000000) (hs : ∀ s ∈ sp, Near s) (ha : Near seat) : (spread__2 ws sp seat).run (· = spr (arr ws sp seat)) := by
  unfold spread__2
  rw [W.run_fin]
  exact W.bis (arrivals2_is hl hs ha) (spr_go rfl)
def dly (source : Int × Int) (sp : List (Int × Int)) (seat : Int × Int) : List Int := (sp.map fun s => trav s seat).map fun w => mxL ((sp.map fun s => trav s seat) ++ [trav source seat]) - w
theorem delays_is {source seat : Int × Int} {sp : List (Int × Int)} (hl : sp.length ≤ 1000) (hs : ∀ s ∈ sp, Near s) (h0 : Near source) (ha : Near seat) : (delays source sp seat).run (· = dly source sp seat) := by
  unfold delays
  rw [W.run_fin]
  refine W.bis (W.cmp_map (fun s => trav s seat) (by omega) fun s h => travel_is (hs s h) ha) ?_
  refine W.bis (v := mxL ((sp.map fun s => trav s seat) ++ [trav source seat])) (W.bis (travel_is h0 ha) (W.bis (v := (sp.map fun s => trav s seat) ++ [trav source seat]) ⟨by show _ ≤ 1000000; rw [List.length_map]; show sp.length + 1 ≤ _; omega, rfl⟩ (W.maxL_is (by simp)))) ?_
  exact W.bis (W.cmp_map (fun w => mxL ((sp.map fun s => trav s seat) ++ [trav source seat]) - w) (by rw [List.length_map]; omega) fun w _ => rfl) rfl
/-- what the law's own comparison of waits and ways makes -/
def hrd (ws ys : List Int) : List Int := (List.zip ws ys).map fun x => x.1 + x.2
theorem hrd_of {ws ys zs : List Int} (hl : ws.length = ys.length) (hz : W.All2 (fun k z => ∃ x y, ws[k.toNat]? = some x ∧ ys[k.toNat]? = some y ∧ z = x + y) (W.rg 0 ws.length) zs) : zs = hrd ws ys := by
  refine List.ext_getElem? fun i => ?_
  have hlen := hz.length
  rw [rg_len] at hlen
  have hlen : zs.length = ws.length := by omega
  by_cases hi : i < ws.length
  · obtain ⟨k, hk, x, y, h1, h2, h3⟩ := hz.get (List.getElem?_eq_getElem (by omega : i < zs.length))
    obtain ⟨e, _⟩ := rg_get hk
    have e : k.toNat = i := by omega
    rw [e] at h1 h2
    rw [List.getElem?_eq_getElem (by omega : i < zs.length), h3]
    unfold hrd
    rw [List.getElem?_map, (show (List.zip ws ys)[i]? = some (x, y) from List.getElem?_zip_eq_some.mpr ⟨h1, h2⟩)]
    rfl
  · rw [List.getElem?_eq_none (by omega), List.getElem?_eq_none (by unfold hrd; rw [List.length_map, List.length_zip]; omega)]
theorem hrd_go {ws ys : List Int} (hl : ws.length = ys.length) (hb : ws.length ≤ 1000000) : (W.b (W.range 0 (ws.length : Int)) fun range => W.cmp range (fun _ => W.p true) (fun k => W.b (W.ix ws k) fun item2 => W.b (W.ix ys k) fun item3 => W.p (item2 + item3))).run (· = hrd ws ys) := by
  refine W.bis (v := W.rg 0 ws.length) ⟨rgOk_of (by decide) (by decide) (by omega) (by omega), rfl⟩ ?_
  refine W.use (W.cmp_all (P := fun k z => ∃ x y, ws[k.toNat]? = some x ∧ ys[k.toNat]? = some y ∧ z = x + y) (by rw [rg_len]; omega) fun k hk => ?_) fun zs hz => hrd_of hl hz
  obtain ⟨k0, k1⟩ := rg_mem.mp hk
  exact W.bis (W.ix_lt k0 k1) (W.bis (W.ix_lt k0 (by omega)) ⟨_, _, List.getElem?_eq_getElem _, List.getElem?_eq_getElem _, rfl⟩)
theorem lspr_go {l : List Int} {Q : Int → Prop} (q : Q (spr l)) : (W.b (W.ite (!(decide (l = ([] : List Int)))) (W.b (W.maxL l) fun max2 => W.b (W.minL l) fun min => W.p (max2 - min)) (W.p (0 : Int))) fun r => W.p (Fl.ret r : Fl Unit Empty Int)).run (W.finQ Q) := by
  unfold spr at q
  by_cases h : l = []
  · subst h
    exact q
  · rw [if_neg h] at q
    rw [decide_eq_false h]
    exact W.bis (W.bis (W.maxL_is h) (W.bis (W.minL_is h) rfl)) q
theorem law_spread_is {ws ys : List Int} (hl : ws.length = ys.length) (hb : ws.length ≤ 1000000) : (law_spread ws ys).run (· = spr (hrd ws ys)) := by
  unfold law_spread
  rw [W.run_fin]
  exact W.bis (hrd_go hl hb) (lspr_go rfl)
theorem law_spread2_is {ws ys : List Int} (hl : ws.length = ys.length) (hb : ws.length ≤ 1000000) : (law_spread__2 ws ys).run (· = spr (hrd ws ys)) := by
  unfold law_spread__2
  rw [W.run_fin]
  exact W.bis (hrd_go hl hb) (lspr_go rfl)
theorem hrd_arr {ws : List Int} {sp : List (Int × Int)} {seat : Int × Int} : hrd ws (sp.map fun s => trav s seat) = arr ws sp seat := by
  unfold hrd arr
  rw [List.zip_map_right, List.map_map]
  rfl
/-! ## echoes -/
def ech (times : List Int) (reach : Int) : List Int := ((W.enum times).filter fun x => decide (x.2 - mnL times > reach)).map fun x => x.1
theorem enum_mem {l : List Int} {x : Int × Int} (h : x ∈ W.enum l) : l ≠ [] := fun e => by subst e; cases h
theorem echoes_is {times : List Int} {reach : Int} (hl : times.length ≤ 1000000) : (echoes times reach).run (· = ech times reach) := by
  unfold echoes
  rw [W.run_fin]
  exact W.bis (W.cmp_is (fun x : Int × Int => decide (x.2 - mnL times > reach)) (fun x : Int × Int => x.1) (by unfold W.enum; rw [enum_len]; exact hl) (fun x hx => by refine W.bis (W.minL_is (enum_mem hx)) ?_; rfl) fun x _ _ => rfl) rfl
/-! ## the best waits -/
def grow (ws : List Int) : Nat → List (List Int)
  | 0 => [[]]
  | n + 1 => (grow ws n).flatMap fun r => ws.map fun w => r ++ [w]
theorem flatMap_len {α β : Type} (f : α → List β) (c : Nat) : ∀ l : List α, (∀ x ∈ l, (f x).length = c) → (l.flatMap f).length = l.length * c
  | [], _ => by simp
  | x :: l, h => by
    rw [List.flatMap_cons, List.length_append, h x List.mem_cons_self, flatMap_len f c l fun y hy => h y (List.mem_cons_of_mem _ hy), List.length_cons, Nat.add_mul, Nat.one_mul, Nat.add_comm]
theorem grow_len (ws : List Int) : ∀ n, (grow ws n).length = ws.length ^ n
  | 0 => rfl
  | n + 1 => by
    show ((grow ws n).flatMap _).length = _
    rw [flatMap_len _ ws.length _ fun x _ => by rw [List.length_map], grow_len ws n, Nat.pow_succ]
theorem grow_row {ws : List Int} : ∀ {n : Nat} {r : List Int}, r ∈ grow ws n → r.length = n ∧ ∀ w ∈ r, w ∈ ws
  | 0, r, h => by
    have : r = [] := List.mem_singleton.mp h
    subst this
    exact ⟨rfl, fun w hw => by cases hw⟩
  | n + 1, r, h => by
    obtain ⟨q, hq, h2⟩ := List.mem_flatMap.mp h
    obtain ⟨w, hw, rfl⟩ := List.mem_map.mp h2
    obtain ⟨g1, g2⟩ := grow_row hq
    refine ⟨by rw [List.length_append, g1]; rfl, fun z hz => ?_⟩
    rcases List.mem_append.mp hz with e | e
    · exact g2 z e
    · rw [List.mem_singleton.mp e]; exact hw
def bstep (worst : List Int → Int) (s : Option (Int × List Int)) (r : List Int) : Option (Int × List Int) := match s with
  | none => some (worst r, r)
  | some b => if worst r < b.1 then some (worst r, r) else some b
def bst (worst : List Int → Int) (rows : List (List Int)) : Option (Int × List Int) := rows.foldl (bstep worst) none
theorem take_fold {α β : Type} {f : β → α → β} {l : List α} {i : Nat} {x : α} {z : β} (h : l[i]? = some x) : (l.take (i + 1)).foldl f z = f ((l.take i).foldl f z) x := by
  rw [List.take_add_one, h]
  simp
theorem bstep_go {worst : List Int → Int} {s : Option (Int × List Int)} {r : List Int} {Q : Fl (Option (Int × List Int)) (Option (Int × List Int)) (List Int) → Prop} (q : Q (.nx (bstep worst s r))) :
    (W.b (W.or s.isNone (W.b (W.opt s) fun b => W.p (decide (worst r < b.1)))) fun c => if c = true then W.b (W.p (some (worst r, r))) fun best2 => W.p (.nx best2) else W.p (.nx s)).run Q := by
  cases s with
  | none => exact q
  | some b =>
    refine W.bis (v := decide (worst r < b.1)) ⟨b, rfl, rfl⟩ ?_
    have q : Q (.nx (if worst r < b.1 then some (worst r, r) else some b)) := q
    by_cases h : worst r < b.1
    · rw [if_pos h] at q
      rw [decide_eq_true h]
      exact q
    · rw [if_neg h] at q
      rw [decide_eq_false h]
      exact q
theorem bst_some {worst : List Int → Int} : ∀ (rows : List (List Int)), rows ≠ [] → ∃ b, bst worst rows = some b ∧ b.2 ∈ rows := by
  have go : ∀ (rows : List (List Int)) (b : Int × List Int), ∃ c, rows.foldl (bstep worst) (some b) = some c ∧ (c.2 = b.2 ∨ c.2 ∈ rows) := by
    intro rows
    induction rows with
    | nil => exact fun b => ⟨b, rfl, .inl rfl⟩
    | cons r rows ih =>
      intro b
      show ∃ c, rows.foldl (bstep worst) (if worst r < b.1 then some (worst r, r) else some b) = some c ∧ _
      by_cases h : worst r < b.1
      · rw [if_pos h]
        obtain ⟨c, h1, h2⟩ := ih (worst r, r)
        refine ⟨c, h1, .inr ?_⟩
        rcases h2 with e | e
        · rw [e]; exact List.mem_cons_self
        · exact List.mem_cons_of_mem _ e
      · rw [if_neg h]
        obtain ⟨c, h1, h2⟩ := ih b
        exact ⟨c, h1, h2.imp id (List.mem_cons_of_mem _)⟩
  intro rows h
  cases rows with
  | nil => exact absurd rfl h
  | cons r rows =>
    obtain ⟨c, h1, h2⟩ := go rows (worst r, r)
    refine ⟨c, h1, ?_⟩
    rcases h2 with e | e
    · rw [e]; exact List.mem_cons_self
    · exact List.mem_cons_of_mem _ e
def bestRow (worst : List Int → Int) (rows : List (List Int)) : List Int := match bst worst rows with
  | none => []
  | some b => b.2
theorem best_fold {worst : List Int → Int} {rows : List (List Int)} (h : rows ≠ []) {Q : List Int → Prop} (q : Q (bestRow worst rows)) : (W.b (W.b (W.opt (bst worst rows)) fun b => W.p b.2) fun r => W.p (Fl.ret r : Fl Unit Empty (List Int))).run (W.finQ Q) := by
  obtain ⟨b, hb, _⟩ := bst_some (worst := worst) rows h
  unfold bestRow at q
  rw [hb] at q ⊢
  exact ⟨b, rfl, q⟩
theorem bst_congr {w1 w2 : List Int → Int} {rows : List (List Int)} (h : ∀ r ∈ rows, w1 r = w2 r) : bst w1 rows = bst w2 rows := by
  have go : ∀ (rows : List (List Int)) (s : Option (Int × List Int)), (∀ r ∈ rows, w1 r = w2 r) → rows.foldl (bstep w1) s = rows.foldl (bstep w2) s := by
    intro rows
    induction rows with
    | nil => exact fun _ _ => rfl
    | cons r rows ih =>
      intro s h
      show rows.foldl (bstep w1) (bstep w1 s r) = rows.foldl (bstep w2) (bstep w2 s r)
      have e : bstep w1 s r = bstep w2 s r := by unfold bstep; rw [h r List.mem_cons_self]
      rw [e]
      exact ih _ fun y hy => h y (List.mem_cons_of_mem _ hy)
  exact go rows none h
def waits (most : Int) : List Int := W.rg3 0 (most + 1) 10
def worstOf (sp seats : List (Int × Int)) (r : List Int) : Int := mxL ((seats.map fun seat => spr (arr r sp seat)) ++ [0])
theorem pow_le6 {a n : Nat} (ha : a ≤ 6) (hn : n ≤ 4) : a ^ n ≤ 1296 := Nat.le_trans (Nat.pow_le_pow_left ha n) (Nat.le_trans (Nat.pow_le_pow_right (by decide) hn) (by decide))
theorem best_delays_is {sp seats : List (Int × Int)} {most : Int} (hs : ∀ s ∈ sp, Near s) (ha : ∀ s ∈ seats, Near s) (hn : sp.length ≤ 3) (hm : 0 ≤ most) (hm2 : most ≤ 50) (hseat : seats.length ≤ 1000) : (best_delays sp seats most).run (· = bestRow (worstOf sp seats) (grow (waits most) sp.length)) := by
  have hw : (waits most).length ≤ 6 := by unfold waits; rw [rg3_len]; omega
  have hw1 : 1 ≤ (waits most).length := by unfold waits; rw [rg3_len]; omega
  unfold best_delays
  rw [W.run_fin]
  refine W.bp (W.bp (W.bp ?_))
  refine W.for_then (fun i s => s = grow (waits most) i) rfl (fun i x s hx hs' => ?_) fun s hs' => ?_
  · subst hs'
    have hi : i < sp.length := (List.getElem?_eq_some_iff.mp hx).1
    have hg := grow_len (waits most) i
    refine W.bis (W.cmp2_is (fun _ => waits most) (fun row wait => row ++ [wait]) 6 ?_ (fun _ _ => ⟨⟨rgOk_of (by decide) (by decide) (by omega) (by omega), by decide, by decide⟩, rfl⟩) (fun _ _ => hw) fun row hr w _ => ⟨?_, rfl⟩) rfl
    · rw [hg]
      have := pow_le6 hw (show i ≤ 4 by omega)
      omega
    · show row.length + 1 ≤ 1000000
      rw [(grow_row hr).1]
      omega
  · subst hs'
    have hne : grow (waits most) sp.length ≠ [] := fun e => by
      have := grow_len (waits most) sp.length
      rw [e] at this
      have h2 : 0 < (waits most).length ^ sp.length := Nat.pow_pos (by omega)
      rw [← this] at h2
      exact absurd h2 (by decide)
    refine W.bp (W.for_then (fun i s => s = ((grow (waits most) sp.length).take i).foldl (bstep (worstOf sp seats)) none) rfl (fun i r s hr hs' => ?_) fun s hs' => ?_)
    · have hrl := grow_row (List.mem_of_getElem? hr)
      refine W.bis (v := worstOf sp seats r) (W.bis (W.cmp_map (fun seat => spr (arr r sp seat)) (by omega) fun seat hz => spread_is (by rw [hrl.1]; omega) hs (ha seat hz)) (W.bis (v := (seats.map fun seat => spr (arr r sp seat)) ++ [0]) ⟨by show _ ≤ 1000000; rw [List.length_map]; show seats.length + 1 ≤ _; omega, rfl⟩ (W.maxL_is (by simp)))) ?_
      refine bstep_go ?_
      show bstep _ s r = _
      rw [take_fold hr, hs']
    · rw [List.take_length] at hs'
      have e : s = bst (worstOf sp seats) (grow (waits most) sp.length) := hs'
      rw [e]
      exact best_fold hne rfl
def lworst (ways : List (List Int)) (r : List Int) : Int := mxL (ways.map fun far => spr (hrd r far))
theorem law_best_is {ways : List (List Int)} {many : Nat} {most : Int} (hn : many ≤ 3) (hw : ∀ y ∈ ways, y.length = many) (hne : ways ≠ []) (hwl : ways.length ≤ 1000) (hm : 0 ≤ most) (hm2 : most ≤ 50) (he : (W.rg 0 (most + 1)).filter (fun wait => decide (wait % 10 = 0)) = waits most) : (law_best ways many most).run (· = bestRow (lworst ways) (grow (waits most) many)) := by
  have hw6 : (waits most).length ≤ 6 := by unfold waits; rw [rg3_len]; omega
  have hw1 : 1 ≤ (waits most).length := by unfold waits; rw [rg3_len]; omega
  unfold law_best
  rw [W.run_fin]
  refine W.bp (W.bis (v := W.rg 0 many) ⟨rgOk_of (by decide) (by decide) (by omega) (by omega), rfl⟩ ?_)
  refine W.for_then (fun i s => s = grow (waits most) i) rfl (fun i x s hx hs' => ?_) fun s hs' => ?_
  · subst hs'
    obtain ⟨_, hi⟩ := rg_get hx
    have hg := grow_len (waits most) i
    have h6 := pow_le6 hw6 (show i ≤ 4 by omega)
    refine W.bp (W.bp (W.for_then (fun j s => s = ((grow (waits most) i).take j).flatMap fun r => (waits most).map fun w => r ++ [w]) rfl (fun j r s hr hs' => ?_) fun s hs' => ?_))
    · have hrow := grow_row (List.mem_of_getElem? hr)
      have hj : j < (grow (waits most) i).length := (List.getElem?_eq_some_iff.mp hr).1
      have hlen : s.length = j * (waits most).length := by
        rw [hs', flatMap_len _ (waits most).length _ fun x _ => by rw [List.length_map], List.length_take, Nat.min_eq_left (Nat.le_of_lt hj)]
      have hj2 : j * (waits most).length ≤ 1296 * 6 := Nat.mul_le_mul (by omega) hw6
      refine W.bis (v := s ++ (waits most).map fun w => r ++ [w]) ?_ ?_
      · refine W.bis (v := W.rg 0 (most + 1)) ⟨rgOk_of (by decide) (by decide) (by omega) (by omega), rfl⟩ ?_
        refine W.bis (v := (waits most).map fun w => r ++ [w]) ?_ ⟨?_, rfl⟩
        · rw [← he]
          exact W.cmp_is (fun wait => decide (wait % 10 = 0)) (fun w => r ++ [w]) (by rw [rg_len]; omega) (fun _ _ => rfl) fun w _ _ => ⟨by show r.length + 1 ≤ 1000000; rw [hrow.1]; omega, rfl⟩
        · show s.length + _ ≤ 1000000
          rw [List.length_map]
          omega
      · show _ = _
        rw [hs', List.take_add_one, hr]
        simp
    · rw [List.take_length] at hs'
      rw [hs']
      rfl
  · rw [rg_len] at hs'
    have hz : ((many : Int) - 0).toNat = many := by omega
    rw [hz] at hs'
    subst hs'
    have hgne : grow (waits most) many ≠ [] := fun e => by
      have := grow_len (waits most) many
      rw [e] at this
      have h2 : 0 < (waits most).length ^ many := Nat.pow_pos (by omega)
      rw [← this] at h2
      exact absurd h2 (by decide)
    refine W.bp (W.bp (W.for_then (fun i s => s = ((grow (waits most) many).take i).foldl (bstep (lworst ways)) none) rfl (fun i r s hr hs' => ?_) fun s hs' => ?_))
    · have hrl := grow_row (List.mem_of_getElem? hr)
      refine W.bis (v := lworst ways r) (W.bis (W.cmp_map (fun far => spr (hrd r far)) (by omega) fun far hz => law_spread_is (by rw [hrl.1, hw far hz]) (by rw [hrl.1]; omega)) (W.maxL_is fun e => hne (List.map_eq_nil_iff.mp e))) ?_
      refine bstep_go ?_
      show bstep _ s r = _
      rw [take_fold hr, hs']
    · rw [List.take_length] at hs'
      have e : s = bst (lworst ways) (grow (waits most) many) := hs'
      rw [e]
      exact best_fold hgne rfl
theorem mxL_append0 : ∀ {l : List Int}, l ≠ [] → (∀ x ∈ l, 0 ≤ x) → mxL (l ++ [0]) = mxL l := fun {l} h h0 => by
  refine (mxL_eq (List.mem_append_left _ (mxL_mem h)) fun y hy => ?_).symm
  rcases List.mem_append.mp hy with e | e
  · exact mxL_le e
  · rw [List.mem_singleton.mp e]
    exact h0 _ (mxL_mem h)
theorem worst_same {sp seats : List (Int × Int)} (hne : seats ≠ []) (r : List Int) : worstOf sp seats r = lworst (seats.map fun far => sp.map fun one => trav one far) r := by
  unfold worstOf lworst
  rw [mxL_append0 (by simpa using hne) fun x hx => by
    obtain ⟨s, _, rfl⟩ := List.mem_map.mp hx
    exact spr_nonneg _, List.map_map]
  congr 1
  refine List.map_congr_left fun far _ => ?_
  show spr (arr r sp far) = spr (hrd r (sp.map fun one => trav one far))
  rw [hrd_arr]
theorem best_row {worst : List Int → Int} {ws : List Int} {n : Nat} (h : grow ws n ≠ []) : (bestRow worst (grow ws n)).length = n ∧ ∀ w ∈ bestRow worst (grow ws n), w ∈ ws := by
  obtain ⟨b, h1, h2⟩ := bst_some (worst := worst) _ h
  unfold bestRow
  rw [h1]
  exact grow_row h2
/-! ## the law -/
theorem spot_ok {w : Int} (h : 0 ≤ w) : (law_spot w).run fun p => (-w ≤ p.1 ∧ p.1 ≤ w) ∧ -w ≤ p.2 ∧ p.2 ≤ w := by
  unfold law_spot
  rw [W.run_fin]
  exact ⟨by omega, fun r hr => ⟨by omega, fun q hq => ⟨⟨by show -w ≤ r - w; omega, by show r - w ≤ w; omega⟩, by show -w ≤ q - w; omega, by show q - w ≤ w; omega⟩⟩⟩
theorem spot_near {w : Int} (h : 0 ≤ w) (h2 : w ≤ 400) : (law_spot w).run Near := W.use (spot_ok h) fun p hp => ⟨by omega, by omega, by omega, by omega⟩
theorem big500 {x : Int} (h1 : -1000000000000000000000000 ≤ x) (h2 : x ≤ 1000000000000000000000000) : -(10 ^ 500) < x ∧ x < 10 ^ 500 := by
  have : (1000000000000000000000000 : Int) < 10 ^ 500 := by decide
  omega
theorem near_all {sp : List (Int × Int)} {l : List Int} (h : W.All2 (fun _ p => Near p) l sp) : ∀ s ∈ sp, Near s := fun s hs => by
  obtain ⟨_, _, h⟩ := h.mem hs
  exact h
theorem trav_b {a b : Int × Int} (ha : Near a) (hb : Near b) : -1000000000000000000000000 ≤ trav a b ∧ trav a b ≤ 1000000000000000000000000 := by
  have := trav_near ha hb
  omega
theorem arr_b {ws : List Int} {sp : List (Int × Int)} {seat : Int × Int} (hs : ∀ s ∈ sp, Near s) (ha : Near seat) {B : Int} (hw : ∀ w ∈ ws, -B ≤ w ∧ w ≤ B) : ∀ x ∈ arr ws sp seat, -B ≤ x ∧ x ≤ B + 1280000000000 := fun x hx => by
  unfold arr at hx
  obtain ⟨y, hy, rfl⟩ := List.mem_map.mp hx
  have h1 := hw _ (List.of_mem_zip hy).1
  have h2 := trav_near (hs _ (List.of_mem_zip hy).2) ha
  omega
theorem spr_b {l : List Int} {A B : Int} (hB : 0 ≤ B - A) (h : ∀ x ∈ l, A ≤ x ∧ x ≤ B) : 0 ≤ spr l ∧ spr l ≤ B - A := by
  refine ⟨spr_nonneg l, ?_⟩
  unfold spr
  by_cases e : l = []
  · rw [if_pos e]; exact hB
  · rw [if_neg e]
    have h1 := h _ (mxL_mem e)
    have h2 := h _ (mnL_mem e)
    omega
theorem rt_is {n r : Int} (h : IsRoot n r) (h0 : 0 ≤ n) : rt n = r := (h.eq h0).symm
theorem dly_spr {source c : Int × Int} {sp : List (Int × Int)} : spr (arr (dly source sp c) sp c) = 0 := by
  generalize hg : mxL ((sp.map fun s => trav s c) ++ [trav source c]) = g
  have h : ∀ x ∈ arr (dly source sp c) sp c, x = g := fun x hx => by
    unfold arr dly at hx
    rw [hg, List.map_map] at hx
    obtain ⟨y, hy, rfl⟩ := List.mem_map.mp hx
    rw [List.zip_map_left] at hy
    obtain ⟨z, hz, rfl⟩ := List.mem_map.mp hy
    have hzz : ∀ (l : List (Int × Int)) (z : (Int × Int) × (Int × Int)), z ∈ List.zip l l → z.1 = z.2 := by
      intro l
      induction l with
      | nil => intro z hz; cases hz
      | cons a l ih =>
        intro z hz
        rcases List.mem_cons.mp hz with e | e
        · rw [e]
        · exact ih z e
    have e := hzz sp z hz
    show (g - trav z.1 c) + trav z.2 c = g
    rw [e]
    omega
  unfold spr
  by_cases e : arr (dly source sp c) sp c = []
  · rw [if_pos e]
  · rw [if_neg e, h _ (mxL_mem e), h _ (mnL_mem e)]
    omega
theorem enum_rg (l : List Int) : W.enum l = (W.rg 0 l.length).map fun k => (k, l.getD k.toNat 0) := by
  refine List.ext_getElem? fun i => ?_
  unfold W.enum
  rw [enum_get, List.getElem?_map]
  by_cases hi : i < l.length
  · have h2 : i < (W.rg 0 l.length).length := by rw [rg_len]; omega
    obtain ⟨e, _⟩ := rg_get (List.getElem?_eq_getElem h2)
    rw [List.getElem?_eq_getElem h2, List.getElem?_eq_getElem hi, e]
    have : (0 + (i : Int)).toNat = i := by omega
    show some (((0 + i : Nat) : Int), l[i]) = some (0 + (i : Int), l.getD (0 + (i : Int)).toNat 0)
    rw [this, List.getD_eq_getElem?_getD, List.getElem?_eq_getElem hi]
    simp
  · rw [List.getElem?_eq_none (by omega), List.getElem?_eq_none (by rw [rg_len]; omega)]
    rfl
theorem ech_eq {l : List Int} {m : Int} : ech l m = (W.rg 0 l.length).filter fun k => !(decide ((l.filter fun far => decide (l.getD k.toNat 0 - far > m)) = [])) := by
  unfold ech
  rw [enum_rg, List.filter_map, List.map_map]
  have e : ((fun x : Int × Int => x.1) ∘ fun k => (k, l.getD k.toNat 0)) = id := rfl
  rw [e, List.map_id]
  refine List.filter_congr fun k hk => ?_
  obtain ⟨k0, k1⟩ := rg_mem.mp hk
  have hne : l ≠ [] := fun z => by subst z; simp at k1; omega
  show decide (l.getD k.toNat 0 - mnL l > m) = _
  by_cases h : l.getD k.toNat 0 - mnL l > m
  · rw [decide_eq_true h]
    have : (l.filter fun far => decide (l.getD k.toNat 0 - far > m)) ≠ [] := fun z => by
      have hm : mnL l ∈ l.filter fun far => decide (l.getD k.toNat 0 - far > m) := List.mem_filter.mpr ⟨mnL_mem hne, decide_eq_true h⟩
      rw [z] at hm
      cases hm
    rw [decide_eq_false this]
    rfl
  · rw [decide_eq_false h]
    have : (l.filter fun far => decide (l.getD k.toNat 0 - far > m)) = [] := List.filter_eq_nil_iff.mpr fun y hy => by
      have := mnL_le hy
      rw [decide_eq_true_eq]
      omega
    rw [decide_eq_true this]
    rfl
theorem digits_ok : ∀ ns : List Int, ns.length ≤ 63 → (law_digits ns 0 14).run fun ds => ds.length ≤ 100000 := fun ns _ => digits_run (by decide) (by decide)
theorem getD_lt {l : List Int} {k : Int} (k0 : 0 ≤ k) (k1 : k < l.length) : (W.ix l k).run (· = l.getD k.toNat 0) := by
  have h := W.ix_lt k0 k1
  have e : l.getD k.toNat 0 = l[k.toNat]'(by omega) := by
    rw [List.getD_eq_getElem?_getD, List.getElem?_eq_getElem (by omega)]
    rfl
  rw [e]
  exact h
theorem z0 : Near (0, 0) := by unfold Near; decide
theorem t1 : trav (0, 0) (0, 343) = 1000 := by
  have e : dist (0, 0) (0, 343) = 343000 := rt_is (by unfold IsRoot; decide) (by decide)
  unfold trav
  rw [e]
  decide
theorem t2 : dist (1, 1) (2, 2) = 1414 := rt_is (by unfold IsRoot; decide) (by decide)
theorem t3 : trav (0, 0) (0, 0) = 0 := by
  have e : dist (0, 0) (0, 0) = 0 := rt_is (by unfold IsRoot; decide) (by decide)
  unfold trav
  rw [e]
  decide
theorem t4 : trav (0, 7) (0, 0) = 20 := by
  have e : dist (0, 7) (0, 0) = 7000 := rt_is (by unfold IsRoot; decide) (by decide)
  unfold trav
  rw [e]
  decide
theorem ways20 : ([((0 : Int), (0 : Int))].map fun far => [((0 : Int), (0 : Int)), (0, 7)].map fun one => trav one far) = [[0, 20]] := by
  simp only [List.map_cons, List.map_nil, t3, t4]
theorem h1a (r : List Int) : worstOf [((0 : Int), (0 : Int)), (0, 7)] [((0 : Int), (0 : Int))] r = lworst ([((0 : Int), (0 : Int))].map fun far => [((0 : Int), (0 : Int)), (0, 7)].map fun one => trav one far) r := worst_same (List.cons_ne_nil _ _) r
theorem h1b (r : List Int) : lworst ([((0 : Int), (0 : Int))].map fun far => [((0 : Int), (0 : Int)), (0, 7)].map fun one => trav one far) r = lworst [[0, 20]] r := by rw [ways20]
theorem h2c : bst (worstOf [((0 : Int), (0 : Int)), (0, 7)] [((0 : Int), (0 : Int))]) (grow (waits 30) 2) = bst (lworst [[0, 20]]) (grow (waits 30) 2) := bst_congr fun r _ => (h1a r).trans (h1b r)
theorem x1c : grow (waits 30) 2 = [[0,0],[0,10],[0,20],[0,30],[10,0],[10,10],[10,20],[10,30],[20,0],[20,10],[20,20],[20,30],[30,0],[30,10],[30,20],[30,30]] := by decide +kernel
theorem bestRow_def (w : List Int → Int) (rows : List (List Int)) : bestRow w rows = match bst w rows with
  | none => []
  | some b => b.2 := rfl
theorem bconst : bestRow (worstOf [((0 : Int), (0 : Int)), (0, 7)] [((0 : Int), (0 : Int))]) (grow (waits 30) 2) = [20, 0] := by
  rw [bestRow_def, h2c, x1c]
  decide +kernel
theorem law_ok : law_.fin.run fun r => r = true := by
  unfold law_
  rw [W.run_fin]
  refine W.bis (v := W.rg 0 3) ⟨rgOk_of (by decide) (by decide) (by decide) (by decide), rfl⟩ (W.for_unit (fun x _ => ?_) ?_)
  · refine W.bind (P := fun n => 0 ≤ n ∧ n ≤ 1000000000) ⟨by decide, fun a ha => ⟨by decide, fun b hb => ⟨by decide, fun c hc => ⟨by show 0 ≤ a * 1000000 + b * 1000 + c; omega, by show a * 1000000 + b * 1000 + c ≤ 1000000000; omega⟩⟩⟩⟩ fun n hn => ?_
    have hq : 0 ≤ n * n ∧ n * n ≤ 1000000000000000000 := by
      have h1 : n * n ≤ 1000000000 * 1000000000 := sq_le hn.1 hn.2
      have h2 : 0 ≤ n * n := Int.mul_nonneg hn.1 hn.1
      omega
    have hcm : CMul n n := cmul_small (by omega) (by omega)
    refine W.bind (P := fun m => m ≤ 1000000000000000001) ⟨hcm, hcm, hcm, by decide, fun d hd => ⟨⟨by simp, by show (6 : Nat) ≤ 1000000; decide⟩, fun m hm => ?_⟩⟩ fun m hm => ?_
    · simp only [List.mem_cons, List.not_mem_nil, or_false] at hm
      rcases hm with rfl | rfl | rfl | rfl | rfl | rfl <;> omega
    refine W.bp ?_
    have h0 : 0 ≤ max 0 m := by omega
    have h1 : max 0 m ≤ 1000000000000000001 := by omega
    generalize max 0 m = k at h0 h1
    have hrt := rt_ok h0
    have hle := hrt.le
    refine W.bis (v := false) (W.bis (root_of_is h0 (by omega)) (W.bis (law_root_is h0 (by omega)) (same_int rfl (big500 (by have := hrt.1; omega) (by omega)) rfl))) ?_
    refine W.bind (spot_near (by decide) (by decide)) fun one h1 => W.bind (spot_near (by decide) (by decide)) fun other h2 => ?_
    have hd := dist_near h1 h2
    refine W.bis (v := false) (W.bis (distance_is h1 h2) (W.bis (law_way_is h1 h2) (same_int rfl (big500 (by omega) (by omega)) ?_))) trivial
    exact W.bis (travel_is h1 h2) (W.bis (law_time_is h1 h2) (same_int rfl (big500 (trav_b h1 h2).1 (trav_b h1 h2).2) rfl))
  refine W.bind (P := fun t => ∃ n : Nat, t.1 = (n : Int) ∧ 1 ≤ n ∧ n ≤ 3 ∧ 0 ≤ t.2.1 ∧ t.2.1 ≤ 50 ∧ 1 ≤ t.2.2 ∧ t.2.2 ≤ 2 ∧ (W.rg 0 (t.2.1 + 1)).filter (fun wait => decide (wait % 10 = 0)) = waits t.2.1) ⟨⟨by simp, by show (8 : Nat) ≤ 1000000; decide⟩, fun t ht => ?_⟩ fun t ht => ?_
  · simp only [List.mem_cons, List.not_mem_nil, or_false] at ht
    rcases ht with rfl | rfl | rfl | rfl | rfl | rfl | rfl | rfl
    · exact ⟨2, rfl, by decide, by decide, by decide, by decide, by decide, by decide, by decide +kernel⟩
    · exact ⟨3, rfl, by decide, by decide, by decide, by decide, by decide, by decide, by decide +kernel⟩
    · exact ⟨1, rfl, by decide, by decide, by decide, by decide, by decide, by decide, by decide +kernel⟩
    · exact ⟨3, rfl, by decide, by decide, by decide, by decide, by decide, by decide, by decide +kernel⟩
    · exact ⟨2, rfl, by decide, by decide, by decide, by decide, by decide, by decide, by decide +kernel⟩
    · exact ⟨3, rfl, by decide, by decide, by decide, by decide, by decide, by decide, by decide +kernel⟩
    · exact ⟨2, rfl, by decide, by decide, by decide, by decide, by decide, by decide, by decide +kernel⟩
    · exact ⟨2, rfl, by decide, by decide, by decide, by decide, by decide, by decide, by decide +kernel⟩
  obtain ⟨many, most, seats⟩ := t
  obtain ⟨n, e1, n1, n3, m0, m50, s1, s2, he⟩ := ht
  simp only at e1 m0 m50 s1 s2 he
  subst e1
  refine W.bind (P := W.All2 (fun _ p => Near p) (W.rg 0 n)) (W.bis (v := W.rg 0 n) ⟨rgOk_of (by decide) (by decide) (by omega) (by omega), rfl⟩ (W.cmp_all (by rw [rg_len]; omega) fun k _ => spot_near (by decide) (by decide))) fun sp hsp => ?_
  refine W.bind (P := W.All2 (fun _ p => Near p) (W.rg 0 seats)) (W.bis (v := W.rg 0 seats) ⟨rgOk_of (m := 0) (n := seats) (by decide) (by decide) (by omega) (by omega), rfl⟩ (W.cmp_all (by rw [rg_len]; omega) fun k _ => spot_near (by decide) (by decide))) fun ch hch => ?_
  have spl : sp.length = n := by rw [hsp.length, rg_len]; omega
  have chl : (ch.length : Int) = seats := by rw [hch.length, rg_len]; omega
  have hs := near_all hsp
  have hc := near_all hch
  have chne : ch ≠ [] := fun z => by subst z; simp at chl; omega
  refine W.bis (W.cmp_map (fun far => sp.map fun one => trav one far) (by omega) fun far hf => W.cmp_map (fun one => trav one far) (by omega) fun one ho => law_time_is (hs one ho) (hc far hf)) ?_
  refine W.bp (W.bp ?_)
  have gne : grow (waits most) n ≠ [] := fun e => by
    have := grow_len (waits most) n
    rw [e] at this
    have hw1 : 1 ≤ (waits most).length := by unfold waits; rw [rg3_len]; omega
    have h2 : 0 < (waits most).length ^ n := Nat.pow_pos (by omega)
    rw [← this] at h2
    exact absurd h2 (by decide)
  refine W.bis (v := false) (W.bis (best_delays_is hs hc (by omega) m0 m50 (by omega)) (W.bis (law_best_is n3 (fun y hy => ?_) (by simpa using chne) (by rw [List.length_map]; omega) m0 m50 he) (same_tints ?_ ?_ (fun z hz => ?_) ?_))) ?_
  · obtain ⟨far, _, rfl⟩ := List.mem_map.mp hy
    rw [List.length_map, spl]
  · unfold bestRow
    rw [spl, bst_congr fun r _ => worst_same chne r]
  · rw [(best_row gne).1]
    omega
  · have h1 := (best_row gne).2 z hz
    unfold waits W.rg3 at h1
    obtain ⟨i, hi, rfl⟩ := List.mem_map.mp h1
    have := List.mem_range.mp hi
    refine big500 (by omega) ?_
    have : (i : Int) ≤ 10 := by omega
    omega
  · rw [decide_eq_true (rfl : sp = sp), decide_eq_true (rfl : ch = ch)]
    rfl
  refine W.bind (spot_near (by decide) (by decide)) fun source h0 => ?_
  refine W.bis (v := W.rg 0 seats) ⟨rgOk_of (m := 0) (n := seats) (by decide) (by decide) (by omega) (by omega), rfl⟩ (W.for_unit (fun k hk => ?_) ?_)
  · obtain ⟨k0, k1⟩ := rg_mem.mp hk
    have kl : k.toNat < ch.length := by omega
    obtain ⟨c, hcg⟩ : ∃ c, ch[k.toNat]? = some c := ⟨_, List.getElem?_eq_getElem kl⟩
    have cn : Near c := hc c (List.mem_of_getElem? hcg)
    have ixc : (W.ix ch k).run (· = c) := W.ix_is (n := k.toNat) (by omega) hcg
    have ixw : (W.ix (ch.map fun far => sp.map fun one => trav one far) k).run (· = sp.map fun one => trav one c) := W.ix_is (n := k.toNat) (by omega) (by rw [List.getElem?_map, hcg]; rfl)
    refine W.bis (v := mxL ((sp.map fun s => trav s c) ++ [trav source c])) (W.bis ixw (W.bis ixc (W.bis (law_time_is h0 cn) (W.bis (v := (sp.map fun s => trav s c) ++ [trav source c]) ⟨by show _ ≤ 1000000; rw [List.length_map]; show sp.length + 1 ≤ _; omega, rfl⟩ (W.maxL_is (by simp)))))) ?_
    refine W.bis (v := dly source sp c) (W.bis ixw (W.cmp_map (fun w => mxL ((sp.map fun s => trav s c) ++ [trav source c]) - w) (by rw [List.length_map]; omega) fun w _ => rfl)) ?_
    refine W.bis (v := dly source sp c) (W.bis ixc (delays_is (by omega) hs h0 cn)) ?_
    have tb : ∀ z ∈ (sp.map fun s => trav s c) ++ [trav source c], 0 ≤ z ∧ z ≤ 1280000000000 := fun z hz => by
      rcases List.mem_append.mp hz with e | e
      · obtain ⟨s, h1, rfl⟩ := List.mem_map.mp e
        exact trav_near (hs s h1) cn
      · rw [List.mem_singleton.mp e]
        exact trav_near h0 cn
    have gb := tb _ (mxL_mem (l := (sp.map fun s => trav s c) ++ [trav source c]) (by simp))
    have dl : (dly source sp c).length = sp.length := by unfold dly; rw [List.length_map, List.length_map]
    have db : ∀ z ∈ dly source sp c, -1280000000000 ≤ z ∧ z ≤ 1280000000000 := fun z hz => by
      unfold dly at hz
      obtain ⟨w, hw, rfl⟩ := List.mem_map.mp hz
      have := tb w (List.mem_append_left _ hw)
      omega
    refine W.bis (v := false) (same_ints rfl (by omega) (fun z hz => ?_) ?_) ?_
    · have := db z hz
      exact big500 (by omega) (by omega)
    · rw [decide_eq_true (rfl : sp = sp)]
      exact W.bis ixc (W.bis (spread2_is (by omega) hs cn) (same_int dly_spr (big500 (by decide) (by decide)) rfl))
    refine W.bind (P := W.All2 (fun _ r => 0 ≤ r ∧ r < 60) sp) (W.cmp_all (by omega) fun _ _ => ⟨by decide, fun r hr => hr⟩) fun ws hws => W.bp ?_
    have wl : ws.length = sp.length := hws.length
    have wb : ∀ w ∈ ws, -60 ≤ w ∧ w ≤ 60 := fun w hw => by
      obtain ⟨_, _, h⟩ := hws.mem hw
      omega
    have ab := arr_b hs cn wb
    refine W.bis (v := false) (W.bis ixc (W.bis (arrivals2_is (by omega) hs cn) (W.bis (v := W.rg 0 n) ⟨rgOk_of (by decide) (by decide) (by omega) (by omega), rfl⟩ (W.bis (v := arr ws sp c) ?_ (same_ints rfl ?_ (fun z hz => ?_) ?_))))) ?_
    · rw [← hrd_arr]
      have en : (n : Int) = ws.length := by omega
      rw [en]
      refine W.use (W.cmp_all (P := fun k z => ∃ x y, ws[k.toNat]? = some x ∧ (sp.map fun s => trav s c)[k.toNat]? = some y ∧ z = x + y) (by rw [rg_len]; omega) fun j hj => ?_) fun zs hz => hrd_of (by rw [List.length_map, wl]) hz
      obtain ⟨j0, j1⟩ := rg_mem.mp hj
      exact W.bis (W.ix_lt j0 j1) (W.bis ixw (W.bis (W.ix_lt j0 (by rw [List.length_map]; omega)) ⟨_, _, List.getElem?_eq_getElem _, List.getElem?_eq_getElem _, rfl⟩))
    · unfold arr; rw [List.length_map, List.length_zip]; omega
    · have := ab z hz
      exact big500 (by omega) (by omega)
    · rw [decide_eq_true (rfl : ws = ws)]
      rfl
    refine W.bis (v := false) (W.bis ixc (W.bis (spread2_is (by omega) hs cn) (W.bis ixw (W.bis (law_spread2_is (by rw [List.length_map, wl]) (by omega)) (same_int (by rw [hrd_arr]) ?_ ?_))))) ?_
    · rw [hrd_arr]
      have := spr_b (by omega) ab
      exact big500 (by omega) (by omega)
    · rw [decide_eq_true (rfl : ws = ws), decide_eq_true (rfl : sp = sp)]
      rfl
    trivial
  refine W.bind (P := fun l : List Int => l.length ≤ 7) ⟨by decide, fun j hj => W.bis (v := W.rg 0 j) ⟨rgOk_of (by decide) (by decide) (by omega) (by omega), rfl⟩ (W.use (W.cmp_all (P := fun _ _ => True) (by rw [rg_len]; omega) fun _ _ => ⟨by decide, fun _ _ => trivial⟩) fun l hl => by rw [hl.length, rg_len]; omega)⟩ fun times ht => ?_
  refine W.bind (P := fun _ => True) ⟨by decide, fun _ _ => trivial⟩ fun reach _ => ?_
  refine W.bind (P := fun c => c = true → 1 < times.length) ?_ fun c hcc => ?_
  · by_cases h : (times.length : Int) > 1
    · rw [decide_eq_true h]
      exact ⟨by decide, fun r _ _ => by omega⟩
    · rw [decide_eq_false h]
      intro z
      cases z
  rw [W.run_then]
  have rest : ∀ s5 : Int, (W.b (W.p [s5, (s5 + (1 : Int)), (max (0 : Int) (s5 - (1 : Int)))]) fun l =>
    W.andThen (W.for_ l (fun (least : Int) (s6 : Unit) =>
      W.b (W.p times) fun row2 =>
      W.b (W.b (W.range 0 (times.length : Int)) fun range7 => W.cmp range7 (fun k5 => W.b (W.cmp times (fun far5 => W.b (W.ix times k5) fun item19 => W.p (decide ((item19 - far5) > least))) (fun far5 => W.p far5)) fun list9 => W.p (!(decide (list9 = ([] : List Int))))) (fun k5 => W.p k5)) fun due2 =>
      W.b (W.b (echoes row2 least) fun echoes => W.b (W.same (cL cI) (cL cI) 4 echoes due2) fun same9 => W.or (!same9) (W.p (!(decide (row2 = times))))) fun c8 => if c8 = true then
        W.b (W.p false) fun r7 => W.p (.ret r7)
      else
      W.p (.nx ())) ()) fun (s7 : Unit) =>
    W.b (W.b (spread__2 ([] : List Int) ([] : List (Int × Int)) ((0 : Int), (0 : Int))) fun spread__24 => W.b (W.same cI cI 4 spread__24 (0 : Int)) fun same10 => W.or (!same10) (W.b (travel ((0 : Int), (0 : Int)) ((0 : Int), (343 : Int))) fun travel2 => W.b (W.same cI cI 4 travel2 (1000 : Int)) fun same11 => W.or (!same11) (W.b (distance ((1 : Int), (1 : Int)) ((2 : Int), (2 : Int))) fun distance2 => W.b (W.same cI cI 4 distance2 (1414 : Int)) fun same12 => W.p (!same12)))) fun c9 => if c9 = true then
      W.b (W.p false) fun r8 => W.p (.ret r8)
    else
    W.b (W.b (best_delays [((0 : Int), (0 : Int)), ((0 : Int), (7 : Int))] [((0 : Int), (0 : Int))] (30 : Int)) fun best_delays2 => W.b (W.same (cT cI) (cT cI) 4 best_delays2 [(20 : Int), (0 : Int)]) fun same13 => W.and same13 (W.b (delays ((0 : Int), (0 : Int)) ([] : List (Int × Int)) ((3 : Int), (4 : Int))) fun delays2 => W.same (cL cI) (cL cI) 4 delays2 ([] : List Int))) fun r9 => W.p (Fl.ret r9 : Fl Unit Empty Bool)).run (W.finQ fun r => r = true) := fun s5 => by
    refine W.bp (W.for_unit (fun least _ => W.bp ?_) ?_)
    · refine W.bis (v := ech times least) (W.bis (v := W.rg 0 times.length) ⟨rgOk_of (by decide) (by decide) (by omega) (by omega), rfl⟩ ?_) ?_
      · rw [ech_eq]
        refine W.cmp_filter _ (by rw [rg_len]; omega) fun k hk => ?_
        obtain ⟨k0, k1⟩ := rg_mem.mp hk
        exact W.bis (W.cmp_filter (fun far => decide (times.getD k.toNat 0 - far > least)) (by omega) fun far _ => W.bis (getD_lt k0 k1) rfl) rfl
      refine W.bis (v := false) (W.bis (echoes_is (by omega)) (same_ints rfl ?_ (fun z hz => ?_) ?_)) trivial
      · rw [ech_eq]
        refine Nat.le_trans (List.length_filter_le _ _) ?_
        rw [rg_len]
        omega
      · rw [ech_eq] at hz
        have := rg_mem.mp (List.mem_filter.mp hz).1
        exact big500 (by omega) (by omega)
      · rw [decide_eq_true (rfl : times = times)]
        rfl
    have b1 : ∀ s ∈ [((0 : Int), (0 : Int)), (0, 7)], Near s := by unfold Near; decide
    have b2 : ∀ s ∈ [((0 : Int), (0 : Int))], Near s := by unfold Near; decide
    refine W.bis (v := false) (W.bis (spread2_is (by decide) (fun _ h => by cases h) z0) (same_int rfl (big500 (by decide) (by decide)) ?_)) ?_
    · exact W.bis (travel_is z0 (by unfold Near; decide)) (same_int t1 (big500 (by decide) (by decide)) (W.bis (distance_is (by unfold Near; decide) (by unfold Near; decide)) (same_int t2 (big500 (by decide) (by decide)) rfl)))
    refine W.bis (v := true) (W.bis (best_delays_is b1 b2 (by decide) (by decide) (by decide) (by decide)) (same_tints ?_ (by decide) ?_ ?_)) rfl
    · exact bconst
    · intro z hz
      simp only [List.mem_cons, List.not_mem_nil, or_false] at hz
      rcases hz with rfl | rfl <;> exact big500 (by decide) (by decide)
    · exact W.bis (delays_is (by decide) (fun _ h => by cases h) z0 (by unfold Near; decide)) (same_ints rfl (by decide) (fun _ h => by cases h) rfl)
  cases c with
  | true =>
    have hl := hcc rfl
    rw [if_pos rfl]
    refine W.bind (P := fun _ => True) ⟨by omega, fun r hr => W.bind (W.ix_lt hr.1 hr.2) fun x _ => W.bis (W.minL_is fun z => by rw [z] at hl; simp at hl) trivial⟩ fun x _ => rest x
  | false =>
    rw [if_neg (by decide)]
    exact rest reach
end Law
namespace Law
open PySem PySem.Spec PyProof.Rows L2 Z
theorem all_mk {l : PySem.W.OpenLaw} {w : World} {K : PySem.W.Frag} {h : Heap} {mg : Str → Option Value} {fa : Addr} (X : K.In h) (G : h.Ns mainGlobals mg) (hfa : mg "law" = some (.ref fa))
    (hw : law_.fin.run fun r => r = true) (hg : ∀ ns : List Int, ns.length ≤ 63 → (law_digits ns 0 14).run fun ds => ds.length ≤ 100000)
    {f0 : Addr} {od0 an0 : Option Addr} {sl0 : Array (Option Value)} {oc0 kV0 dc0 pm0 cd0 ct0 : Value}
    {f1 : Addr} {od1 an1 : Option Addr} {sl1 : Array (Option Value)} {oc1 kV1 dc1 pm1 cd1 ct1 : Value}
    {f2 : Addr} {od2 an2 : Option Addr} {sl2 : Array (Option Value)} {oc2 kV2 dc2 pm2 cd2 ct2 : Value}
    {f3 : Addr} {od3 an3 : Option Addr} {sl3 : Array (Option Value)} {oc3 kV3 dc3 pm3 cd3 ct3 : Value}
    {f4 : Addr} {od4 an4 : Option Addr} {sl4 : Array (Option Value)} {oc4 kV4 dc4 pm4 cd4 ct4 : Value}
    {f5 : Addr} {od5 an5 : Option Addr} {sl5 : Array (Option Value)} {oc5 kV5 dc5 pm5 cd5 ct5 : Value}
    {f6 : Addr} {od6 an6 : Option Addr} {sl6 : Array (Option Value)} {oc6 kV6 dc6 pm6 cd6 ct6 : Value}
    {f7 : Addr} {od7 an7 : Option Addr} {sl7 : Array (Option Value)} {oc7 kV7 dc7 pm7 cd7 ct7 : Value}
    {f8 : Addr} {od8 an8 : Option Addr} {sl8 : Array (Option Value)} {oc8 kV8 dc8 pm8 cd8 ct8 : Value}
    {f9 : Addr} {od9 an9 : Option Addr} {sl9 : Array (Option Value)} {oc9 kV9 dc9 pm9 cd9 ct9 : Value}
    {f10 : Addr} {od10 an10 : Option Addr} {sl10 : Array (Option Value)} {oc10 kV10 dc10 pm10 cd10 ct10 : Value}
    {f11 : Addr} {od11 an11 : Option Addr} {sl11 : Array (Option Value)} {oc11 kV11 dc11 pm11 cd11 ct11 : Value}
    {f12 : Addr} {od12 an12 : Option Addr} {sl12 : Array (Option Value)} {oc12 kV12 dc12 pm12 cd12 ct12 : Value}
    {f13 : Addr} {od13 an13 : Option Addr} {sl13 : Array (Option Value)} {oc13 kV13 dc13 pm13 cd13 ct13 : Value}
    {f14 : Addr} {od14 an14 : Option Addr} {sl14 : Array (Option Value)} {oc14 kV14 dc14 pm14 cd14 ct14 : Value}
    {f15 : Addr} {od15 an15 : Option Addr} {sl15 : Array (Option Value)} {oc15 kV15 dc15 pm15 cd15 ct15 : Value}
    {f16 : Addr} {od16 an16 : Option Addr} {sl16 : Array (Option Value)} {oc16 kV16 dc16 pm16 cd16 ct16 : Value}
    {f17 : Addr} {od17 an17 : Option Addr} {sl17 : Array (Option Value)} {oc17 kV17 dc17 pm17 cd17 ct17 : Value}
    {f18 : Addr} {od18 an18 : Option Addr} {sl18 : Array (Option Value)} {oc18 kV18 dc18 pm18 cd18 ct18 : Value}
    {f19 : Addr} {od19 an19 : Option Addr} {sl19 : Array (Option Value)} {oc19 kV19 dc19 pm19 cd19 ct19 : Value}
    {tk0 : Tok}
    (ja0 : PySem.W.nsIn K mainGlobals "root_of" = some (some (.ref f0))) (jl0 : K.lookup f0 = some ⟨oc0, od0, .func (PySem.W.fnOf "root_of" "root_of" (defArgs (topS 2)) (defBody (topS 2)) (defScope (topS 2)) .none kV0 dc0 pm0 an0 cd0 ct0), sl0⟩) (jc0 : PySem.W.codeIn K cd0 "root_of" = true) (jk0 : PySem.W.keepIn K (.ref f0) = true)
    (ja1 : PySem.W.nsIn K mainGlobals "distance" = some (some (.ref f1))) (jl1 : K.lookup f1 = some ⟨oc1, od1, .func (PySem.W.fnOf "distance" "distance" (defArgs (topS 3)) (defBody (topS 3)) (defScope (topS 3)) .none kV1 dc1 pm1 an1 cd1 ct1), sl1⟩) (jc1 : PySem.W.codeIn K cd1 "distance" = true) (jk1 : PySem.W.keepIn K (.ref f1) = true)
    (ja2 : PySem.W.nsIn K mainGlobals "travel" = some (some (.ref f2))) (jl2 : K.lookup f2 = some ⟨oc2, od2, .func (PySem.W.fnOf "travel" "travel" (defArgs (topS 4)) (defBody (topS 4)) (defScope (topS 4)) .none kV2 dc2 pm2 an2 cd2 ct2), sl2⟩) (jc2 : PySem.W.codeIn K cd2 "travel" = true) (jk2 : PySem.W.keepIn K (.ref f2) = true)
    (ja3 : PySem.W.nsIn K mainGlobals "delays" = some (some (.ref f3))) (jl3 : K.lookup f3 = some ⟨oc3, od3, .func (PySem.W.fnOf "delays" "delays" (defArgs (topS 5)) (defBody (topS 5)) (defScope (topS 5)) .none kV3 dc3 pm3 an3 cd3 ct3), sl3⟩) (jc3 : PySem.W.codeIn K cd3 "delays" = true) (jk3 : PySem.W.keepIn K (.ref f3) = true)
    (ja4 : PySem.W.nsIn K mainGlobals "arrivals" = some (some (.ref f4))) (jl4 : K.lookup f4 = some ⟨oc4, od4, .func (PySem.W.fnOf "arrivals" "arrivals" (defArgs (topS 6)) (defBody (topS 6)) (defScope (topS 6)) .none kV4 dc4 pm4 an4 cd4 ct4), sl4⟩) (jc4 : PySem.W.codeIn K cd4 "arrivals" = true) (jk4 : PySem.W.keepIn K (.ref f4) = true)
    (ja5 : PySem.W.nsIn K mainGlobals "spread" = some (some (.ref f5))) (jl5 : K.lookup f5 = some ⟨oc5, od5, .func (PySem.W.fnOf "spread" "spread" (defArgs (topS 7)) (defBody (topS 7)) (defScope (topS 7)) .none kV5 dc5 pm5 an5 cd5 ct5), sl5⟩) (jc5 : PySem.W.codeIn K cd5 "spread" = true) (jk5 : PySem.W.keepIn K (.ref f5) = true)
    (ja6 : PySem.W.nsIn K mainGlobals "best_delays" = some (some (.ref f6))) (jl6 : K.lookup f6 = some ⟨oc6, od6, .func (PySem.W.fnOf "best_delays" "best_delays" (defArgs (topS 8)) (defBody (topS 8)) (defScope (topS 8)) .none kV6 dc6 pm6 an6 cd6 ct6), sl6⟩) (jc6 : PySem.W.codeIn K cd6 "best_delays" = true) (jk6 : PySem.W.keepIn K (.ref f6) = true)
    (ja7 : PySem.W.nsIn K mainGlobals "echoes" = some (some (.ref f7))) (jl7 : K.lookup f7 = some ⟨oc7, od7, .func (PySem.W.fnOf "echoes" "echoes" (defArgs (topS 9)) (defBody (topS 9)) (defScope (topS 9)) .none kV7 dc7 pm7 an7 cd7 ct7), sl7⟩) (jc7 : PySem.W.codeIn K cd7 "echoes" = true) (jk7 : PySem.W.keepIn K (.ref f7) = true)
    (ja8 : PySem.W.nsIn K mainGlobals "_law_cell" = some (some (.ref f8))) (jl8 : K.lookup f8 = some ⟨oc8, od8, .func (PySem.W.fnOf "_law_cell" "_law_cell" (defArgs (topS 11)) (defBody (topS 11)) (defScope (topS 11)) .none kV8 dc8 pm8 an8 cd8 ct8), sl8⟩) (jc8 : PySem.W.codeIn K cd8 "_law_cell" = true) (jk8 : PySem.W.keepIn K (.ref f8) = true)
    (ja9 : PySem.W.nsIn K mainGlobals "_law_digits" = some (some (.ref f9))) (jl9 : K.lookup f9 = some ⟨oc9, od9, .func (PySem.W.fnOf "_law_digits" "_law_digits" (defArgs (topS 12)) (defBody (topS 12)) (defScope (topS 12)) .none kV9 dc9 pm9 an9 cd9 ct9), sl9⟩) (jc9 : PySem.W.codeIn K cd9 "_law_digits" = true) (jk9 : PySem.W.keepIn K (.ref f9) = true)
    (ja10 : PySem.W.nsIn K mainGlobals "_law_draw" = some (some (.ref f10))) (jl10 : K.lookup f10 = some ⟨oc10, od10, .func (PySem.W.fnOf "_law_draw" "_law_draw" (defArgs (topS 13)) (defBody (topS 13)) (defScope (topS 13)) .none kV10 dc10 pm10 an10 cd10 ct10), sl10⟩) (jc10 : PySem.W.codeIn K cd10 "_law_draw" = true) (jk10 : PySem.W.keepIn K (.ref f10) = true)
    (ja11 : PySem.W.nsIn K mainGlobals "_law_pick" = some (some (.ref f11))) (jl11 : K.lookup f11 = some ⟨oc11, od11, .func (PySem.W.fnOf "_law_pick" "_law_pick" (defArgs (topS 14)) (defBody (topS 14)) (defScope (topS 14)) .none kV11 dc11 pm11 an11 cd11 ct11), sl11⟩) (jc11 : PySem.W.codeIn K cd11 "_law_pick" = true) (jk11 : PySem.W.keepIn K (.ref f11) = true)
    (ja12 : PySem.W.nsIn K mainGlobals "_law_same" = some (some (.ref f12))) (jl12 : K.lookup f12 = some ⟨oc12, od12, .func (PySem.W.fnOf "_law_same" "_law_same" (defArgs (topS 15)) (defBody (topS 15)) (defScope (topS 15)) .none kV12 dc12 pm12 an12 cd12 ct12), sl12⟩) (jc12 : PySem.W.codeIn K cd12 "_law_same" = true) (jk12 : PySem.W.keepIn K (.ref f12) = true)
    (ja13 : PySem.W.nsIn K mainGlobals "_law_root" = some (some (.ref f13))) (jl13 : K.lookup f13 = some ⟨oc13, od13, .func (PySem.W.fnOf "_law_root" "_law_root" (defArgs (topS 16)) (defBody (topS 16)) (defScope (topS 16)) .none kV13 dc13 pm13 an13 cd13 ct13), sl13⟩) (jc13 : PySem.W.codeIn K cd13 "_law_root" = true) (jk13 : PySem.W.keepIn K (.ref f13) = true)
    (ja14 : PySem.W.nsIn K mainGlobals "_law_way" = some (some (.ref f14))) (jl14 : K.lookup f14 = some ⟨oc14, od14, .func (PySem.W.fnOf "_law_way" "_law_way" (defArgs (topS 17)) (defBody (topS 17)) (defScope (topS 17)) .none kV14 dc14 pm14 an14 cd14 ct14), sl14⟩) (jc14 : PySem.W.codeIn K cd14 "_law_way" = true) (jk14 : PySem.W.keepIn K (.ref f14) = true)
    (ja15 : PySem.W.nsIn K mainGlobals "_law_time" = some (some (.ref f15))) (jl15 : K.lookup f15 = some ⟨oc15, od15, .func (PySem.W.fnOf "_law_time" "_law_time" (defArgs (topS 18)) (defBody (topS 18)) (defScope (topS 18)) .none kV15 dc15 pm15 an15 cd15 ct15), sl15⟩) (jc15 : PySem.W.codeIn K cd15 "_law_time" = true) (jk15 : PySem.W.keepIn K (.ref f15) = true)
    (ja16 : PySem.W.nsIn K mainGlobals "_law_spot" = some (some (.ref f16))) (jl16 : K.lookup f16 = some ⟨oc16, od16, .func (PySem.W.fnOf "_law_spot" "_law_spot" (defArgs (topS 19)) (defBody (topS 19)) (defScope (topS 19)) .none kV16 dc16 pm16 an16 cd16 ct16), sl16⟩) (jc16 : PySem.W.codeIn K cd16 "_law_spot" = true) (jk16 : PySem.W.keepIn K (.ref f16) = true)
    (ja17 : PySem.W.nsIn K mainGlobals "_law_spread" = some (some (.ref f17))) (jl17 : K.lookup f17 = some ⟨oc17, od17, .func (PySem.W.fnOf "_law_spread" "_law_spread" (defArgs (topS 20)) (defBody (topS 20)) (defScope (topS 20)) .none kV17 dc17 pm17 an17 cd17 ct17), sl17⟩) (jc17 : PySem.W.codeIn K cd17 "_law_spread" = true) (jk17 : PySem.W.keepIn K (.ref f17) = true)
    (ja18 : PySem.W.nsIn K mainGlobals "_law_best" = some (some (.ref f18))) (jl18 : K.lookup f18 = some ⟨oc18, od18, .func (PySem.W.fnOf "_law_best" "_law_best" (defArgs (topS 21)) (defBody (topS 21)) (defScope (topS 21)) .none kV18 dc18 pm18 an18 cd18 ct18), sl18⟩) (jc18 : PySem.W.codeIn K cd18 "_law_best" = true) (jk18 : PySem.W.keepIn K (.ref f18) = true)
    (ja19 : PySem.W.nsIn K mainGlobals "law" = some (some (.ref f19))) (jl19 : K.lookup f19 = some ⟨oc19, od19, .func (PySem.W.fnOf "law" "law" (defArgs (topS 22)) (defBody (topS 22)) (defScope (topS 22)) .none kV19 dc19 pm19 an19 cd19 ct19), sl19⟩) (jc19 : PySem.W.codeIn K cd19 "law" = true) (jk19 : PySem.W.keepIn K (.ref f19) = true)
    (jz0 : PySem.W.nsIn K mainGlobals "isinstance" = some none)
    (jz1 : PySem.W.nsIn K mainGlobals "str" = some none)
    (jz2 : PySem.W.nsIn K mainGlobals "int" = some none)
    (jz3 : PySem.W.nsIn K mainGlobals "bool" = some none)
    (jz4 : PySem.W.nsIn K mainGlobals "repr" = some none)
    (jz5 : PySem.W.nsIn K mainGlobals "tuple" = some none)
    (jz6 : PySem.W.nsIn K mainGlobals "list" = some none)
    (jz7 : PySem.W.nsIn K mainGlobals "len" = some none)
    (jz8 : PySem.W.nsIn K mainGlobals "range" = some none)
    (jz9 : PySem.W.nsIn K mainGlobals "zip" = some none)
    (jz10 : PySem.W.nsIn K mainGlobals "max" = some none)
    (jz11 : PySem.W.nsIn K mainGlobals "min" = some none)
    (jz12 : PySem.W.nsIn K mainGlobals "enumerate" = some none)
    (jy0 : PySem.W.nsIn K mainGlobals "SPEED" = some (some (Value.int 343 tk0))) :
    ∃ fd : FuncData, (∀ (s : Shared) (v : Value), BindsTo s fd ⟨[v], []⟩ [("script", v)]) ∧ ∀ base : Heap, K.In base → base.Ns mainGlobals mg → FnOk l.prog w K mg base CX0 7 fa fd ["script"] (spLaw K) := by
  have e := hfa.symm.trans (PySem.W.mg_of X G ja19)
  cases e
  have H0 : HasFn K mg "root_of" (topS 2) ["number"] := have F := fun_mk (st := topS 2) jl0 jc0 jk0; ⟨f0, _, F, PySem.W.mg_of X G ja0, F.binds (ps := ["number"]) fun _ _ _ _ _ _ us hl => match us, hl with | [_], _ => rfl⟩
  have H1 : HasFn K mg "distance" (topS 3) ["one", "other"] := have F := fun_mk (st := topS 3) jl1 jc1 jk1; ⟨f1, _, F, PySem.W.mg_of X G ja1, F.binds (ps := ["one", "other"]) fun _ _ _ _ _ _ us hl => match us, hl with | [_, _], _ => rfl⟩
  have H2 : HasFn K mg "travel" (topS 4) ["one", "other"] := have F := fun_mk (st := topS 4) jl2 jc2 jk2; ⟨f2, _, F, PySem.W.mg_of X G ja2, F.binds (ps := ["one", "other"]) fun _ _ _ _ _ _ us hl => match us, hl with | [_, _], _ => rfl⟩
  have H3 : HasFn K mg "delays" (topS 5) ["source", "speakers", "seat"] := have F := fun_mk (st := topS 5) jl3 jc3 jk3; ⟨f3, _, F, PySem.W.mg_of X G ja3, F.binds (ps := ["source", "speakers", "seat"]) fun _ _ _ _ _ _ us hl => match us, hl with | [_, _, _], _ => rfl⟩
  have H4 : HasFn K mg "arrivals" (topS 6) ["waits", "speakers", "seat"] := have F := fun_mk (st := topS 6) jl4 jc4 jk4; ⟨f4, _, F, PySem.W.mg_of X G ja4, F.binds (ps := ["waits", "speakers", "seat"]) fun _ _ _ _ _ _ us hl => match us, hl with | [_, _, _], _ => rfl⟩
  have H5 : HasFn K mg "spread" (topS 7) ["waits", "speakers", "seat"] := have F := fun_mk (st := topS 7) jl5 jc5 jk5; ⟨f5, _, F, PySem.W.mg_of X G ja5, F.binds (ps := ["waits", "speakers", "seat"]) fun _ _ _ _ _ _ us hl => match us, hl with | [_, _, _], _ => rfl⟩
  have H6 : HasFn K mg "best_delays" (topS 8) ["speakers", "seats", "most"] := have F := fun_mk (st := topS 8) jl6 jc6 jk6; ⟨f6, _, F, PySem.W.mg_of X G ja6, F.binds (ps := ["speakers", "seats", "most"]) fun _ _ _ _ _ _ us hl => match us, hl with | [_, _, _], _ => rfl⟩
  have H7 : HasFn K mg "echoes" (topS 9) ["times", "reach"] := have F := fun_mk (st := topS 9) jl7 jc7 jk7; ⟨f7, _, F, PySem.W.mg_of X G ja7, F.binds (ps := ["times", "reach"]) fun _ _ _ _ _ _ us hl => match us, hl with | [_, _], _ => rfl⟩
  have H8 : HasFn K mg "_law_cell" (topS 11) ["script", "k"] := have F := fun_mk (st := topS 11) jl8 jc8 jk8; ⟨f8, _, F, PySem.W.mg_of X G ja8, F.binds (ps := ["script", "k"]) fun _ _ _ _ _ _ us hl => match us, hl with | [_, _], _ => rfl⟩
  have H9 : HasFn K mg "_law_digits" (topS 12) ["script", "first", "last"] := have F := fun_mk (st := topS 12) jl9 jc9 jk9; ⟨f9, _, F, PySem.W.mg_of X G ja9, F.binds (ps := ["script", "first", "last"]) fun _ _ _ _ _ _ us hl => match us, hl with | [_, _, _], _ => rfl⟩
  have H10 : HasFn K mg "_law_draw" (topS 13) ["box", "many"] := have F := fun_mk (st := topS 13) jl10 jc10 jk10; ⟨f10, _, F, PySem.W.mg_of X G ja10, F.binds (ps := ["box", "many"]) fun _ _ _ _ _ _ us hl => match us, hl with | [_, _], _ => rfl⟩
  have H11 : HasFn K mg "_law_pick" (topS 14) ["box", "row"] := have F := fun_mk (st := topS 14) jl11 jc11 jk11; ⟨f11, _, F, PySem.W.mg_of X G ja11, F.binds (ps := ["box", "row"]) fun _ _ _ _ _ _ us hl => match us, hl with | [_, _], _ => rfl⟩
  have H12 : HasFn K mg "_law_same" (topS 15) ["told", "due"] := have F := fun_mk (st := topS 15) jl12 jc12 jk12; ⟨f12, _, F, PySem.W.mg_of X G ja12, F.binds (ps := ["told", "due"]) fun _ _ _ _ _ _ us hl => match us, hl with | [_, _], _ => rfl⟩
  have H13 : HasFn K mg "_law_root" (topS 16) ["number"] := have F := fun_mk (st := topS 16) jl13 jc13 jk13; ⟨f13, _, F, PySem.W.mg_of X G ja13, F.binds (ps := ["number"]) fun _ _ _ _ _ _ us hl => match us, hl with | [_], _ => rfl⟩
  have H14 : HasFn K mg "_law_way" (topS 17) ["one", "other"] := have F := fun_mk (st := topS 17) jl14 jc14 jk14; ⟨f14, _, F, PySem.W.mg_of X G ja14, F.binds (ps := ["one", "other"]) fun _ _ _ _ _ _ us hl => match us, hl with | [_, _], _ => rfl⟩
  have H15 : HasFn K mg "_law_time" (topS 18) ["one", "other"] := have F := fun_mk (st := topS 18) jl15 jc15 jk15; ⟨f15, _, F, PySem.W.mg_of X G ja15, F.binds (ps := ["one", "other"]) fun _ _ _ _ _ _ us hl => match us, hl with | [_, _], _ => rfl⟩
  have H16 : HasFn K mg "_law_spot" (topS 19) ["box", "wide"] := have F := fun_mk (st := topS 19) jl16 jc16 jk16; ⟨f16, _, F, PySem.W.mg_of X G ja16, F.binds (ps := ["box", "wide"]) fun _ _ _ _ _ _ us hl => match us, hl with | [_, _], _ => rfl⟩
  have H17 : HasFn K mg "_law_spread" (topS 20) ["waits", "ways"] := have F := fun_mk (st := topS 20) jl17 jc17 jk17; ⟨f17, _, F, PySem.W.mg_of X G ja17, F.binds (ps := ["waits", "ways"]) fun _ _ _ _ _ _ us hl => match us, hl with | [_, _], _ => rfl⟩
  have H18 : HasFn K mg "_law_best" (topS 21) ["ways", "many", "most"] := have F := fun_mk (st := topS 21) jl18 jc18 jk18; ⟨f18, _, F, PySem.W.mg_of X G ja18, F.binds (ps := ["ways", "many", "most"]) fun _ _ _ _ _ _ us hl => match us, hl with | [_, _, _], _ => rfl⟩
  have F := fun_mk (st := topS 22) jl19 jc19 jk19
  have m_isinstance := PySem.W.mg_none_of X G jz0
  have m_str := PySem.W.mg_none_of X G jz1
  have m_int := PySem.W.mg_none_of X G jz2
  have m_bool := PySem.W.mg_none_of X G jz3
  have m_repr := PySem.W.mg_none_of X G jz4
  have m_tuple := PySem.W.mg_none_of X G jz5
  have m_list := PySem.W.mg_none_of X G jz6
  have m_len := PySem.W.mg_none_of X G jz7
  have m_range := PySem.W.mg_none_of X G jz8
  have m_zip := PySem.W.mg_none_of X G jz9
  have m_max := PySem.W.mg_none_of X G jz10
  have m_min := PySem.W.mg_none_of X G jz11
  have m_enumerate := PySem.W.mg_none_of X G jz12
  have c_SPEED : ∃ t, mg "SPEED" = some (Value.int 343 t) := ⟨_, PySem.W.mg_of X G jy0⟩
  refine ⟨PySem.W.fnOf "law" "law" (defArgs (topS 22)) (defBody (topS 22)) (defScope (topS 22)) .none kV19 dc19 pm19 an19 cd19 ct19, fun s v => .of_eq rfl, fun base _ _ => ?_⟩
  have c__law_draw : Cal l.prog w K mg base 1 "_law_draw" (spF K relDraw (vS cI)) := ok_draw H10 m_len m_int
  have c__law_pick : Cal l.prog w K mg base 2 "_law_pick" (spF K relPick (fun d => Slot.val d)) := ok_pick H11 m_len m_int c__law_draw
  have c__law_same : Cal l.prog w K mg base 5 "_law_same" (spF K (relSame 4) (vS cB)) := ok_same H12 m_isinstance m_str m_int m_bool m_repr m_tuple m_list m_len m_range 4
  have c__law_cell : Cal l.prog w K mg base 1 "_law_cell" (spF K rel_law_cell (vS cI)) := ok_law_cell H8 m_len
  have c__law_digits : Cal l.prog w K mg base 2 "_law_digits" (spF K rel_law_digits (nS cI)) := ok_law_digits H9 m_range m_int c__law_cell
  have c_root_of : Cal l.prog w K mg base 1 "root_of" (spF K rel_root_of (vS cI)) := ok_root_of H0 
  have c__law_root : Cal l.prog w K mg base 1 "_law_root" (spF K rel_law_root (vS cI)) := ok_law_root H13 m_range
  have c__law_spot : Cal l.prog w K mg base 2 "_law_spot" (spF K rel_law_spot (vS (c2 cI cI))) := ok_law_spot H16 c__law_draw
  have c_distance : Cal l.prog w K mg base 2 "distance" (spF K rel_distance (vS cI)) := ok_distance H1 c_root_of
  have c__law_way : Cal l.prog w K mg base 2 "_law_way" (spF K rel_law_way (vS cI)) := ok_law_way H14 c__law_root
  have c_travel : Cal l.prog w K mg base 3 "travel" (spF K rel_travel (vS cI)) := ok_travel H2 c_SPEED c_distance
  have c__law_time : Cal l.prog w K mg base 3 "_law_time" (spF K rel_law_time (vS cI)) := ok_law_time H15 c__law_way
  have c_arrivals : Cal l.prog w K mg base 4 "arrivals" (spF K rel_arrivals (nS cI)) := ok_arrivals H4 m_zip c_travel
  have c_spread : Cal l.prog w K mg base 5 "spread" (spF K rel_spread (vS cI)) := ok_spread H5 m_len m_max m_min c_arrivals
  have c_best_delays : Cal l.prog w K mg base 6 "best_delays" (spF K rel_best_delays (vS (cT cI))) := ok_best_delays H6 m_range m_max c_spread
  have c__law_spread : Cal l.prog w K mg base 1 "_law_spread" (spF K rel_law_spread (vS cI)) := ok_law_spread H17 m_len m_range m_max m_min
  have c__law_best : Cal l.prog w K mg base 2 "_law_best" (spF K rel_law_best (vS (cT cI))) := ok_law_best H18 m_range m_int m_max c__law_spread
  have c_delays : Cal l.prog w K mg base 4 "delays" (spF K rel_delays (nS cI)) := ok_delays H3 m_max c_travel
  have c_arrivals__2 : Cal l.prog w K mg base 4 "arrivals" (spF K rel_arrivals__2 (nS cI)) := ok_arrivals__2 H4 m_zip c_travel
  have c_spread__2 : Cal l.prog w K mg base 5 "spread" (spF K rel_spread__2 (vS cI)) := ok_spread__2 H5 m_len m_max m_min c_arrivals__2
  have c__law_spread__2 : Cal l.prog w K mg base 1 "_law_spread" (spF K rel_law_spread__2 (vS cI)) := ok_law_spread__2 H17 m_len m_range m_max m_min
  have c_echoes : Cal l.prog w K mg base 1 "echoes" (spF K rel_echoes (nS cI)) := ok_echoes H7 m_enumerate m_min
  exact ok_law F hw hg m_range m_int m_max m_list m_len m_min c__law_digits c__law_draw c__law_pick c_root_of c__law_root c__law_same c__law_spot c_distance c__law_way c_travel c__law_time c_best_delays c__law_best c_delays c_spread__2 c_arrivals__2 c__law_spread__2 c_echoes
end Law
open PySem PySem.W PyProof.Rows
set_option maxHeartbeats 0 in
theorem PySem.Challenge.cw_stagelands_k67_whole_speakers_that_wait_holds : PySem.Challenge.rw_stagelands_k67_whole_speakers_that_wait.Holds := by
  w_on; o_law; k_head; (case hw => w_witness2)
  k_fill
  refine L2.walk_of (l := PySem.Challenge.rw_stagelands_k67_whole_speakers_that_wait) (n := 63) (k := 7) (x := "script") (CX := fun _ => L2.CX0) (sp := fun w => Z.spLaw _) rfl (by decide) rfl ⟨rfl, by decide, by decide⟩ (fun w h Y => PySem.W.kIn_of Y) ?F (fun _ _ a ns hl _ hS => ⟨a, ns, rfl, hS, hl, fun _ => rfl⟩) (fun _ _ _ _ _ h => h)
  case F =>
    intro w mg fa h KX G hmg
    refine' Law.all_mk KX G hmg Law.law_ok Law.digits_ok ?ja0 ?jl0 ?jc0 ?jk0 ?ja1 ?jl1 ?jc1 ?jk1 ?ja2 ?jl2 ?jc2 ?jk2 ?ja3 ?jl3 ?jc3 ?jk3 ?ja4 ?jl4 ?jc4 ?jk4 ?ja5 ?jl5 ?jc5 ?jk5 ?ja6 ?jl6 ?jc6 ?jk6 ?ja7 ?jl7 ?jc7 ?jk7 ?ja8 ?jl8 ?jc8 ?jk8 ?ja9 ?jl9 ?jc9 ?jk9 ?ja10 ?jl10 ?jc10 ?jk10 ?ja11 ?jl11 ?jc11 ?jk11 ?ja12 ?jl12 ?jc12 ?jk12 ?ja13 ?jl13 ?jc13 ?jk13 ?ja14 ?jl14 ?jc14 ?jk14 ?ja15 ?jl15 ?jc15 ?jk15 ?ja16 ?jl16 ?jc16 ?jk16 ?ja17 ?jl17 ?jc17 ?jk17 ?ja18 ?jl18 ?jc18 ?jk18 ?ja19 ?jl19 ?jc19 ?jk19 ?jz0 ?jz1 ?jz2 ?jz3 ?jz4 ?jz5 ?jz6 ?jz7 ?jz8 ?jz9 ?jz10 ?jz11 ?jz12 ?jy0
    (case ja0 => k_is); (case jl0 => k_is); (case jc0 => k_is); (case jk0 => k_is); (case ja1 => k_is); (case jl1 => k_is); (case jc1 => k_is); (case jk1 => k_is); (case ja2 => k_is); (case jl2 => k_is); (case jc2 => k_is); (case jk2 => k_is); (case ja3 => k_is); (case jl3 => k_is); (case jc3 => k_is); (case jk3 => k_is); (case ja4 => k_is); (case jl4 => k_is); (case jc4 => k_is); (case jk4 => k_is); (case ja5 => k_is); (case jl5 => k_is); (case jc5 => k_is); (case jk5 => k_is); (case ja6 => k_is); (case jl6 => k_is); (case jc6 => k_is); (case jk6 => k_is); (case ja7 => k_is); (case jl7 => k_is); (case jc7 => k_is); (case jk7 => k_is); (case ja8 => k_is); (case jl8 => k_is); (case jc8 => k_is); (case jk8 => k_is); (case ja9 => k_is); (case jl9 => k_is); (case jc9 => k_is); (case jk9 => k_is); (case ja10 => k_is); (case jl10 => k_is); (case jc10 => k_is); (case jk10 => k_is); (case ja11 => k_is); (case jl11 => k_is); (case jc11 => k_is); (case jk11 => k_is); (case ja12 => k_is); (case jl12 => k_is); (case jc12 => k_is); (case jk12 => k_is); (case ja13 => k_is); (case jl13 => k_is); (case jc13 => k_is); (case jk13 => k_is); (case ja14 => k_is); (case jl14 => k_is); (case jc14 => k_is); (case jk14 => k_is); (case ja15 => k_is); (case jl15 => k_is); (case jc15 => k_is); (case jk15 => k_is); (case ja16 => k_is); (case jl16 => k_is); (case jc16 => k_is); (case jk16 => k_is); (case ja17 => k_is); (case jl17 => k_is); (case jc17 => k_is); (case jk17 => k_is); (case ja18 => k_is); (case jl18 => k_is); (case jc18 => k_is); (case jk18 => k_is); (case ja19 => k_is); (case jl19 => k_is); (case jc19 => k_is); (case jk19 => k_is); (case jz0 => k_is); (case jz1 => k_is); (case jz2 => k_is); (case jz3 => k_is); (case jz4 => k_is); (case jz5 => k_is); (case jz6 => k_is); (case jz7 => k_is); (case jz8 => k_is); (case jz9 => k_is); (case jz10 => k_is); (case jz11 => k_is); (case jz12 => k_is); (case jy0 => k_is)

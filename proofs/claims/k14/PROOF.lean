import PyProof.Rows.All
import Wide.All
import OpenK.AllK
import Wide.FinOn
import PySem.Challenge.RW_forcedarrows_k14_least_parts_by_all_lots
import HandS.ForMost
import HandS.EndBits
import HandS.Wide
import HandS.Style
import HandS.Deep
import HandS.DictTup
import HandS.Flow
import HandS.Zip
import KE.SortData
import KE.DataMinMax
import KE.DataEq
import KE.KDictKeyed
import HandS.TupAny
import HandS.Codes
import PyProof.ReprLen
import PyProof.ListStr
import PyProof.ReprReads
import KE.KDictPairs
import HandS.Conv
import HandS.More
set_option Elab.async false
set_option linter.all false
set_option maxRecDepth 100000
set_option maxHeartbeats 4000000
namespace TL
open PySem PySem.Spec PyProof.Rows L2

abbrev D := PyData
abbrev Zn := Addr → Prop

def keyD : Key → D
  | .inl i => .int i
  | .inr x => .str x
def tkeyD (k : List Key) : D := .tuple (k.map keyD)
/-- a dict at a, its keys as data, its values; that with tuples as keys has None ahead of them -/
def DicAt (H : Hp) (a : Addr) (ks : List D) (vs : List V) : Prop :=
  (∃ kk : List Key, ks = kk.map keyD ∧ kk.length = vs.length ∧ H a = some (.dK (kk.zip vs))) ∨
  (∃ kk : List (List Key), ks = .none :: kk.map tkeyD ∧ kk.length + 1 = vs.length ∧ H a = some (.dT (kk.zip vs.tail)))

mutual
def Rep (H : Hp) (Z : Zn) : D → V → Prop
  | .none, v => v = .non
  | .bool b, v => v = .bl b
  | .int i, v => v = .int i
  | .str x, v => v = .str x
  | .tuple ds, v => ∃ a vs, v = .ref a ∧ H a = some (.tup vs) ∧ RepL H Z ds vs
  | .list ds, v => ∃ a vs, v = .ref a ∧ H a = some (.lst vs) ∧ ¬ Z a ∧ RepL H Z ds vs
  | .dict kvs, v => ∃ a vs, v = .ref a ∧ DicAt H a (kvs.map (·.1)) vs ∧ ¬ Z a ∧ RepV H Z kvs vs
def RepL (H : Hp) (Z : Zn) : List D → List V → Prop
  | [], vs => vs = []
  | d :: ds, vs => ∃ w ws, vs = w :: ws ∧ Rep H Z d w ∧ RepL H Z ds ws
def RepV (H : Hp) (Z : Zn) : List (D × D) → List V → Prop
  | [], vs => vs = []
  | (_, d) :: kvs, vs => ∃ w ws, vs = w :: ws ∧ Rep H Z d w ∧ RepV H Z kvs ws
end

/-- what stands outside Z stands; tuples and locked things stand everywhere -/
structure Kp (Z : Zn) (H H' : Hp) : Prop where
  ob : ∀ a o, H a = some o → ¬ Z a → H' a = some o
  tp : ∀ a xs, H a = some (.tup xs) → H' a = some (.tup xs)
  fz : ∀ a o u, H a = some (.frz o u) → H' a = some (.frz o u)
theorem Kp.refl {Z : Zn} {H : Hp} : Kp Z H H := ⟨fun _ _ e _ => e, fun _ _ e => e, fun _ _ _ e => e⟩
theorem Kp.trans {Z : Zn} {H H1 H2 : Hp} (a : Kp Z H H1) (b : Kp Z H1 H2) : Kp Z H H2 :=
  ⟨fun c o e n => b.ob c o (a.ob c o e n) n, fun c xs e => b.tp c xs (a.tp c xs e), fun c o u e => b.fz c o u (a.fz c o u e)⟩
theorem Kp.mono {Z Z' : Zn} {H H' : Hp} (k : Kp Z H H') (h : ∀ a, Z a → Z' a) : Kp Z' H H' :=
  ⟨fun c o e n => k.ob c o e fun z => n (h c z), k.tp, k.fz⟩
theorem Kp.upd {Z : Zn} {H : Hp} {p : Addr} {o : HO} (h : H p = none) : Kp Z H (upd H p o) :=
  ⟨fun c u e _ => by rw [upd_ne (ne_of_none e h)]; exact e, fun c u e => by rw [upd_ne (ne_of_none e h)]; exact e, fun c u w e => by rw [upd_ne (ne_of_none e h)]; exact e⟩
/-- a list or dict at p in Z is changed -/
theorem Kp.wr {Z : Zn} {H : Hp} {p : Addr} {o : HO} (hz : Z p) (h1 : ∀ xs, H p ≠ some (.tup xs)) (h2 : ∀ o u, H p ≠ some (.frz o u)) : Kp Z H (L2.upd H p o) :=
  ⟨fun c u e n => by rw [upd_ne (fun q : c = p => n (by rw [q]; exact hz))]; exact e, fun c u e => by rw [upd_ne (fun q : c = p => h1 u (by rw [← q]; exact e))]; exact e,
    fun c u w e => by rw [upd_ne (fun q : c = p => h2 u w (by rw [← q]; exact e))]; exact e⟩
abbrev Z0 : Zn := fun _ => False
theorem Kp.z0 {Z : Zn} {H H' : Hp} (k : Kp Z0 H H') : Kp Z H H' := k.mono fun _ z => z.elim

theorem DicAt.kp {Z : Zn} {H H' : Hp} {a : Addr} {ks : List D} {vs : List V} (k : Kp Z H H') (n : ¬ Z a) (h : DicAt H a ks vs) : DicAt H' a ks vs := by
  rcases h with ⟨kk, h1, h2, h3⟩ | ⟨kk, h1, h2, h3⟩
  · exact .inl ⟨kk, h1, h2, k.ob _ _ h3 n⟩
  · exact .inr ⟨kk, h1, h2, k.ob _ _ h3 n⟩

mutual
theorem Rep.kp {Z : Zn} {H H' : Hp} (k : Kp Z H H') : ∀ {d : D} {v : V}, Rep H Z d v → Rep H' Z d v
  | .none, _, h => by rw [Rep] at h ⊢; exact h
  | .bool _, _, h => by rw [Rep] at h ⊢; exact h
  | .int _, _, h => by rw [Rep] at h ⊢; exact h
  | .str _, _, h => by rw [Rep] at h ⊢; exact h
  | .tuple ds, _, h => by
    rw [Rep] at h ⊢
    obtain ⟨a, vs, e, h1, h2⟩ := h
    exact ⟨a, vs, e, k.tp _ _ h1, RepL.kp k h2⟩
  | .list ds, _, h => by
    rw [Rep] at h ⊢
    obtain ⟨a, vs, e, h1, n, h2⟩ := h
    exact ⟨a, vs, e, k.ob _ _ h1 n, n, RepL.kp k h2⟩
  | .dict kvs, _, h => by
    rw [Rep] at h ⊢
    obtain ⟨a, vs, e, h1, n, h2⟩ := h
    exact ⟨a, vs, e, h1.kp k n, n, RepV.kp k h2⟩
theorem RepL.kp {Z : Zn} {H H' : Hp} (k : Kp Z H H') : ∀ {ds : List D} {vs : List V}, RepL H Z ds vs → RepL H' Z ds vs
  | [], _, h => by rw [RepL] at h ⊢; exact h
  | d :: ds, _, h => by
    rw [RepL] at h ⊢
    obtain ⟨w, ws, e, h1, h2⟩ := h
    exact ⟨w, ws, e, Rep.kp k h1, RepL.kp k h2⟩
theorem RepV.kp {Z : Zn} {H H' : Hp} (k : Kp Z H H') : ∀ {ds : List (D × D)} {vs : List V}, RepV H Z ds vs → RepV H' Z ds vs
  | [], _, h => by rw [RepV] at h ⊢; exact h
  | (_, d) :: ds, _, h => by
    rw [RepV] at h ⊢
    obtain ⟨w, ws, e, h1, h2⟩ := h
    exact ⟨w, ws, e, Rep.kp k h1, RepV.kp k h2⟩
end
mutual
theorem Rep.less {Z Z' : Zn} {H : Hp} (k : ∀ a, Z' a → Z a) : ∀ {d : D} {v : V}, Rep H Z d v → Rep H Z' d v
  | .none, _, h => by rw [Rep] at h ⊢; exact h
  | .bool _, _, h => by rw [Rep] at h ⊢; exact h
  | .int _, _, h => by rw [Rep] at h ⊢; exact h
  | .str _, _, h => by rw [Rep] at h ⊢; exact h
  | .tuple ds, _, h => by
    rw [Rep] at h ⊢
    obtain ⟨a, vs, e, h1, h2⟩ := h
    exact ⟨a, vs, e, h1, RepL.less k h2⟩
  | .list ds, _, h => by
    rw [Rep] at h ⊢
    obtain ⟨a, vs, e, h1, n, h2⟩ := h
    exact ⟨a, vs, e, h1, fun z => n (k _ z), RepL.less k h2⟩
  | .dict kvs, _, h => by
    rw [Rep] at h ⊢
    obtain ⟨a, vs, e, h1, n, h2⟩ := h
    exact ⟨a, vs, e, h1, fun z => n (k _ z), RepV.less k h2⟩
theorem RepL.less {Z Z' : Zn} {H : Hp} (k : ∀ a, Z' a → Z a) : ∀ {ds : List D} {vs : List V}, RepL H Z ds vs → RepL H Z' ds vs
  | [], _, h => by rw [RepL] at h ⊢; exact h
  | d :: ds, _, h => by
    rw [RepL] at h ⊢
    obtain ⟨w, ws, e, h1, h2⟩ := h
    exact ⟨w, ws, e, Rep.less k h1, RepL.less k h2⟩
theorem RepV.less {Z Z' : Zn} {H : Hp} (k : ∀ a, Z' a → Z a) : ∀ {ds : List (D × D)} {vs : List V}, RepV H Z ds vs → RepV H Z' ds vs
  | [], _, h => by rw [RepV] at h ⊢; exact h
  | (_, d) :: ds, _, h => by
    rw [RepV] at h ⊢
    obtain ⟨w, ws, e, h1, h2⟩ := h
    exact ⟨w, ws, e, Rep.less k h1, RepV.less k h2⟩
end
mutual
theorem Rep.more {Z Z' : Zn} {H : Hp} (k : ∀ a, Z' a → Z a ∨ H a = none) : ∀ {d : D} {v : V}, Rep H Z d v → Rep H Z' d v
  | .none, _, h => by rw [Rep] at h ⊢; exact h
  | .bool _, _, h => by rw [Rep] at h ⊢; exact h
  | .int _, _, h => by rw [Rep] at h ⊢; exact h
  | .str _, _, h => by rw [Rep] at h ⊢; exact h
  | .tuple ds, _, h => by
    rw [Rep] at h ⊢
    obtain ⟨a, vs, e, h1, h2⟩ := h
    exact ⟨a, vs, e, h1, RepL.more k h2⟩
  | .list ds, _, h => by
    rw [Rep] at h ⊢
    obtain ⟨a, vs, e, h1, n, h2⟩ := h
    exact ⟨a, vs, e, h1, fun z => (k a z).elim n (fun q => by rw [h1] at q; cases q), RepL.more k h2⟩
  | .dict kvs, _, h => by
    rw [Rep] at h ⊢
    obtain ⟨a, vs, e, h1, n, h2⟩ := h
    refine ⟨a, vs, e, h1, fun z => (k a z).elim n fun q => ?_, RepV.more k h2⟩
    rcases h1 with ⟨kk, _, _, e⟩ | ⟨kk, _, _, e⟩ <;> (rw [q] at e; cases e)
theorem RepL.more {Z Z' : Zn} {H : Hp} (k : ∀ a, Z' a → Z a ∨ H a = none) : ∀ {ds : List D} {vs : List V}, RepL H Z ds vs → RepL H Z' ds vs
  | [], _, h => by rw [RepL] at h ⊢; exact h
  | d :: ds, _, h => by
    rw [RepL] at h ⊢
    obtain ⟨w, ws, e, h1, h2⟩ := h
    exact ⟨w, ws, e, Rep.more k h1, RepL.more k h2⟩
theorem RepV.more {Z Z' : Zn} {H : Hp} (k : ∀ a, Z' a → Z a ∨ H a = none) : ∀ {ds : List (D × D)} {vs : List V}, RepV H Z ds vs → RepV H Z' ds vs
  | [], _, h => by rw [RepV] at h ⊢; exact h
  | (_, d) :: ds, _, h => by
    rw [RepV] at h ⊢
    obtain ⟨w, ws, e, h1, h2⟩ := h
    exact ⟨w, ws, e, Rep.more k h1, RepV.more k h2⟩
end
theorem RepL.nil {H : Hp} {Z : Zn} : RepL H Z [] [] := by rw [RepL]
theorem RepL.cons {H : Hp} {Z : Zn} {d : D} {ds : List D} {v : V} {vs : List V} (h : Rep H Z d v) (t : RepL H Z ds vs) : RepL H Z (d :: ds) (v :: vs) := by
  rw [RepL]
  exact ⟨v, vs, rfl, h, t⟩
theorem RepL.len {H : Hp} {Z : Zn} : ∀ {ds : List D} {vs : List V}, RepL H Z ds vs → vs.length = ds.length
  | [], _, h => by
    rw [RepL] at h
    subst h
    rfl
  | d :: ds, _, h => by
    rw [RepL] at h
    obtain ⟨w, ws, rfl, _, h2⟩ := h
    rw [List.length_cons, List.length_cons, RepL.len h2]
theorem RepL.app {H : Hp} {Z : Zn} : ∀ {ds es : List D} {vs ws : List V}, RepL H Z ds vs → RepL H Z es ws → RepL H Z (ds ++ es) (vs ++ ws)
  | [], _, _, _, h, q => by
    rw [RepL] at h
    subst h
    exact q
  | d :: ds, _, _, _, h, q => by
    rw [RepL] at h
    obtain ⟨w, ws, rfl, h1, h2⟩ := h
    exact .cons h1 (RepL.app h2 q)
theorem RepL.get {H : Hp} {Z : Zn} : ∀ {ds : List D} {vs : List V} {i : Nat} {d : D}, RepL H Z ds vs → ds[i]? = some d → ∃ v, vs[i]? = some v ∧ Rep H Z d v
  | [], _, _, _, _, e => by simp at e
  | d :: ds, _, 0, _, h, e => by
    rw [RepL] at h
    obtain ⟨w, ws, rfl, h1, h2⟩ := h
    cases e
    exact ⟨w, rfl, h1⟩
  | d :: ds, _, i + 1, _, h, e => by
    rw [RepL] at h
    obtain ⟨w, ws, rfl, h1, h2⟩ := h
    obtain ⟨v, e1, r⟩ := RepL.get (i := i) h2 (by simpa using e)
    exact ⟨v, by simpa using e1, r⟩
theorem RepL.got {H : Hp} {Z : Zn} : ∀ {ds : List D} {vs : List V} {i : Nat} {v : V}, RepL H Z ds vs → vs[i]? = some v → ∃ d, ds[i]? = some d ∧ Rep H Z d v
  | [], _, _, _, h, e => by
    rw [RepL] at h
    subst h
    simp at e
  | d :: ds, _, 0, _, h, e => by
    rw [RepL] at h
    obtain ⟨w, ws, rfl, h1, h2⟩ := h
    cases e
    exact ⟨d, rfl, h1⟩
  | d :: ds, _, i + 1, _, h, e => by
    rw [RepL] at h
    obtain ⟨w, ws, rfl, h1, h2⟩ := h
    obtain ⟨v, e1, r⟩ := RepL.got (i := i) h2 (by simpa using e)
    exact ⟨v, by simpa using e1, r⟩
theorem RepL.take {H : Hp} {Z : Zn} : ∀ {ds : List D} {vs : List V} (n : Nat), RepL H Z ds vs → RepL H Z (ds.take n) (vs.take n)
  | _, _, 0, _ => .nil
  | [], _, _ + 1, h => by
    rw [RepL] at h
    subst h
    exact .nil
  | d :: ds, _, n + 1, h => by
    rw [RepL] at h
    obtain ⟨w, ws, rfl, h1, h2⟩ := h
    exact .cons h1 (RepL.take n h2)
theorem RepL.drop {H : Hp} {Z : Zn} : ∀ {ds : List D} {vs : List V} (n : Nat), RepL H Z ds vs → RepL H Z (ds.drop n) (vs.drop n)
  | _, _, 0, h => h
  | [], _, _ + 1, h => by
    rw [RepL] at h
    subst h
    exact .nil
  | d :: ds, _, n + 1, h => by
    rw [RepL] at h
    obtain ⟨w, ws, rfl, h1, h2⟩ := h
    exact RepL.drop n h2
theorem RepL.rev {H : Hp} {Z : Zn} : ∀ {ds : List D} {vs : List V}, RepL H Z ds vs → RepL H Z ds.reverse vs.reverse
  | [], _, h => by
    rw [RepL] at h
    subst h
    exact .nil
  | d :: ds, _, h => by
    rw [RepL] at h
    obtain ⟨w, ws, rfl, h1, h2⟩ := h
    rw [List.reverse_cons, List.reverse_cons]
    exact (RepL.rev h2).app (.cons h1 .nil)
theorem RepL.erase {H : Hp} {Z : Zn} : ∀ {ds : List D} {vs : List V} (n : Nat), RepL H Z ds vs → RepL H Z (ds.eraseIdx n) (vs.eraseIdx n)
  | [], _, _, h => by
    rw [RepL] at h
    subst h
    exact .nil
  | d :: ds, _, 0, h => by
    rw [RepL] at h
    obtain ⟨w, ws, rfl, h1, h2⟩ := h
    exact h2
  | d :: ds, _, n + 1, h => by
    rw [RepL] at h
    obtain ⟨w, ws, rfl, h1, h2⟩ := h
    exact .cons h1 (RepL.erase n h2)

/-! ### the library's reading of data -/
mutual
def flat : D → Bool
  | .none => true
  | .bool _ => true
  | .int _ => true
  | .str _ => true
  | .tuple ds => flatL ds
  | .list ds => flatL ds
  | .dict _ => false
def flatL : List D → Bool
  | [] => true
  | d :: ds => flat d && flatL ds
end
section
variable {X : Cx} {pins : List (Addr × Obj)} {σ : L2.St} {H : Hp} {s : Shared} {Z : Zn}
mutual
theorem Rep.dp {K : PySem.W.Frag} : ∀ (d : D) {v : V}, flat d = true → Rep H Z d v → Dp K H v d
  | .none, _, _, h => by
    rw [Rep] at h
    subst h
    exact .non
  | .bool _, _, _, h => by
    rw [Rep] at h
    subst h
    exact .bl _
  | .int _, _, _, h => by
    rw [Rep] at h
    subst h
    exact .int _
  | .str _, _, _, h => by
    rw [Rep] at h
    subst h
    exact .str _
  | .tuple ds, _, f, h => by
    rw [Rep] at h
    obtain ⟨a, vs, rfl, h1, h2⟩ := h
    rw [flat] at f
    exact .tup (.of h1) (RepL.dp ds f h2)
  | .list ds, _, f, h => by
    rw [Rep] at h
    obtain ⟨a, vs, rfl, h1, _, h2⟩ := h
    rw [flat] at f
    exact .lst (.of h1) (RepL.dp ds f h2)
  | .dict _, _, f, _ => by
    rw [flat] at f
    cases f
theorem RepL.dp {K : PySem.W.Frag} : ∀ (ds : List D) {vs : List V}, flatL ds = true → RepL H Z ds vs → DpAll K H vs ds
  | [], _, _, h => by
    rw [RepL] at h
    subst h
    exact .nil
  | d :: ds, _, f, h => by
    rw [RepL] at h
    obtain ⟨w, ws, rfl, h1, h2⟩ := h
    rw [flatL, Bool.and_eq_true] at f
    exact .cons (Rep.dp d f.1 h1) (RepL.dp ds f.2 h2)
end
end
end TL

set_option Elab.async false
set_option linter.all false
set_option maxRecDepth 100000
set_option maxHeartbeats 4000000
namespace TL
open PySem PySem.Spec PyProof.Rows L2

/-! ### the drawing object -/
structure Src0 where
  cells : List Int
  left : Int
  mixed : Int
  turn : Int
def lim : Nat := 2 ^ 1048577
def Src0.Ok (S : Src0) : Prop :=
  (∀ c ∈ S.cells, 0 ≤ c ∧ c.natAbs < lim) ∧ S.cells.length ≤ 63 ∧ 0 ≤ S.left ∧ S.left.natAbs < lim ∧ 0 ≤ S.mixed ∧ S.mixed < 1099511627776
structure Src extends Src0 where
  ok : toSrc0.Ok
def SrcAt (H : Hp) (x c : Addr) (S : Src) : Prop :=
  x ≠ c ∧ H x = some (.dK [(.inr "cells", .ref c), (.inr "left", .int S.left), (.inr "mixed", .int S.mixed), (.inr "turn", .int S.turn)]) ∧ H c = some (.lst (S.cells.map V.int)) ∧ S.toSrc0.Ok

/-- what is fixed while a def runs -/
structure Cf where
  Z : Zn
  H0 : Hp
  src : Option (Addr × Addr)
  /-- its slot -/
  sx : Nat
def Cf.foot (C : Cf) : Zn := fun a => match C.src with
  | none => False
  | some p => a = p.1 ∨ a = p.2
def SrcOk (C : Cf) (S : Src) (H : Hp) : Prop := match C.src with
  | none => True
  | some p => SrcAt H p.1 p.2 S
theorem SrcOk.foot {C : Cf} {S : Src} {H : Hp} (h : SrcOk C S H) {a : Addr} (f : C.foot a) : Mut (H a) := by
  unfold SrcOk at h
  unfold Cf.foot at f
  cases e : C.src with
  | none => rw [e] at f; exact f.elim
  | some p =>
    rw [e] at h f
    obtain ⟨_, h1, h2, _⟩ := h
    rcases f with rfl | rfl
    · rw [h1]; trivial
    · rw [h2]; trivial

abbrev Rho := List (Option D)
/-- a def's own lists and dicts, by slot; lists in the making -/
structure Ow where
  sl : Nat → Option Addr
  ex : List Addr
def Own (ow : Ow) : Zn := fun a => (∃ i, ow.sl i = some a) ∨ a ∈ ow.ex
def ZO (C : Cf) (ow : Ow) : Zn := fun a => C.Z a ∨ Own ow a
/-- what a statement may change -/
def chg (C : Cf) (ow : Ow) : Zn := fun a => C.foot a ∨ ∃ i, ow.sl i = some a
/-- a list or a dict at a, whatever a is -/
def Sh (C : Cf) (ow : Ow) (H : Hp) : D → Addr → Prop
  | .list ds, a => ∃ vs, H a = some (.lst vs) ∧ RepL H (ZO C ow) ds vs
  | .dict kvs, a => ∃ vs, DicAt H a (kvs.map (·.1)) vs ∧ RepV H (ZO C ow) kvs vs
  | _, _ => False
def RepS (C : Cf) (ow : Ow) (H : Hp) (d : D) (v : V) : Prop := Rep H (ZO C ow) d v ∨ ∃ a, v = .ref a ∧ ¬ C.Z a ∧ Sh C ow H d a
def RepSL (C : Cf) (ow : Ow) (H : Hp) : List D → List V → Prop
  | [], vs => vs = []
  | d :: ds, vs => ∃ w ws, vs = w :: ws ∧ RepS C ow H d w ∧ RepSL C ow H ds ws

structure Rel (C : Cf) (kd : Nat → Bool) (ow : Ow) (σ : L2.St) (ρ : Rho) (S : Src) (H : Hp) : Prop where
  dom : ∀ a, C.Z a → C.H0 a ≠ none
  ft : ∀ a, C.foot a → C.Z a
  base : Kp C.foot C.H0 H
  src : SrcOk C S H
  len : ρ.length = σ.length
  sr : ∀ p, C.src = some p → σ[C.sx]? = some (some (.ref p.1)) ∧ ρ[C.sx]? = some none
  cl : ∀ i d, kd i = false → ρ[i]? = some (some d) → ∃ v, σ[i]? = some (some v) ∧ Rep H (ZO C ow) d v
  own : ∀ i d, kd i = true → ρ[i]? = some (some d) → ∃ a, ow.sl i = some a ∧ σ[i]? = some (some (.ref a)) ∧ Sh C ow H d a
  inj : ∀ i j a, ow.sl i = some a → ow.sl j = some a → i = j
  dj : ∀ i a, ow.sl i = some a → a ∉ ow.ex
  new : ∀ a, Own ow a → C.H0 a = none ∧ Mut (H a)

section
variable {C : Cf} {kd : Nat → Bool} {ow ow' : Ow} {σ : L2.St} {ρ : Rho} {S S' : Src} {H H' H2 : Hp} {d : D} {v : V} {a p : Addr}
theorem Rel.fz (R : Rel C kd ow σ ρ S H) : ∀ a, C.foot a → ZO C ow a := fun a f => .inl (R.ft a f)
theorem Rel.nf (R : Rel C kd ow σ ρ S H) (e : Own ow a) : ¬ C.foot a := fun f => R.dom a (R.ft a f) (R.new a e).1
theorem Rel.nz (R : Rel C kd ow σ ρ S H) (e : Own ow a) : ¬ C.Z a := fun f => R.dom a f (R.new a e).1
theorem Rel.cz (R : Rel C kd ow σ ρ S H) : ∀ a, chg C ow a → ZO C ow a := fun a h => h.elim (R.fz a) fun z => .inr (.inl z)
/-- what is outside is there -/
theorem Rel.there (R : Rel C kd ow σ ρ S H) (h : ZO C ow p) : H p ≠ none := by
  rcases h with h | h
  · by_cases f : C.foot p
    · have m := R.src.foot f
      intro e
      rw [e] at m
      exact m
    · cases q : C.H0 p with
      | none => exact absurd q (R.dom p h)
      | some o =>
        rw [R.base.ob p o q f]
        exact fun z => nomatch z
  · have m := (R.new p h).2
    intro e
    rw [e] at m
    exact m
theorem Rel.fresh (R : Rel C kd ow σ ρ S H) (h : H p = none) : ¬ ZO C ow p := fun z => R.there z h
theorem Sh.kp {Z : Zn} (k : Kp Z H H') (hz : ∀ b, Z b → ZO C ow b) (e : ∀ o, H a = some o → H' a = some o) : Sh C ow H d a → Sh C ow H' d a := by
  intro h
  cases d <;> first
    | exact h.elim
    | (obtain ⟨vs, h1, h2⟩ := h
       exact ⟨vs, e _ h1, RepL.kp (k.mono hz) h2⟩)
    | (obtain ⟨vs, h1, h2⟩ := h
       refine ⟨vs, ?_, RepV.kp (k.mono hz) h2⟩
       rcases h1 with ⟨kk, q1, q2, q3⟩ | ⟨kk, q1, q2, q3⟩
       · exact .inl ⟨kk, q1, q2, e _ q3⟩
       · exact .inr ⟨kk, q1, q2, e _ q3⟩)
/-- all stands but the drawing object -/
theorem Rel.step (R : Rel C kd ow σ ρ S H) (k : Kp C.foot H H') (s : SrcOk C S' H') : Rel C kd ow σ ρ S' H' := by
  have stay : ∀ a, Own ow a → ∀ o, H a = some o → H' a = some o := fun a e o q => k.ob a o q (R.nf e)
  refine ⟨R.dom, R.ft, R.base.trans k, s, R.len, R.sr, fun i d h1 h2 => ?_, fun i d h1 h2 => ?_, R.inj, R.dj, fun a e => ⟨(R.new a e).1, ?_⟩⟩
  · obtain ⟨v, e, r⟩ := R.cl i d h1 h2
    exact ⟨v, e, r.kp (k.mono R.fz)⟩
  · obtain ⟨a, e, q, r⟩ := R.own i d h1 h2
    exact ⟨a, e, q, r.kp k R.fz (stay a (.inl ⟨i, e⟩))⟩
  · have m := (R.new a e).2
    cases q : H a with
    | none => rw [q] at m; exact m.elim
    | some o => rw [stay a e o q, ← q]; exact m
theorem RepS.kp (R : Rel C kd ow σ ρ S H) (k : Kp C.foot H H') (h : RepS C ow H d v) : RepS C ow H' d v := by
  rcases h with h | ⟨a, e, n, h⟩
  · exact .inl (h.kp (k.mono R.fz))
  · exact .inr ⟨a, e, n, h.kp k R.fz fun o q => k.ob a o q fun f => n (R.ft a f)⟩
theorem RepSL.kp (R : Rel C kd ow σ ρ S H) (k : Kp C.foot H H') : ∀ {ds : List D} {vs : List V}, RepSL C ow H ds vs → RepSL C ow H' ds vs
  | [], _, h => h
  | _ :: _, _, ⟨w, ws, e, h1, h2⟩ => ⟨w, ws, e, h1.kp R k, RepSL.kp R k h2⟩
theorem RepSL.len : ∀ {ds : List D} {vs : List V}, RepSL C ow H ds vs → vs.length = ds.length
  | [], _, h => by
    have h' : _ = [] := h
    subst h'
    rfl
  | _ :: _, _, ⟨w, ws, e, h1, h2⟩ => by
    subst e
    rw [List.length_cons, List.length_cons, RepSL.len h2]
theorem RepSL.one (h : RepSL C ow H [d] vs) : ∃ w, vs = [w] ∧ RepS C ow H d w := by
  obtain ⟨w, ws, e, h1, h2⟩ := h
  have h2 : ws = [] := h2
  subst h2
  exact ⟨w, e, h1⟩
theorem RepSL.two {d e : D} (h : RepSL C ow H [d, e] vs) : ∃ w x, vs = [w, x] ∧ RepS C ow H d w ∧ RepS C ow H e x := by
  obtain ⟨w, ws, rfl, h1, h2⟩ := h
  obtain ⟨x, rfl, h3⟩ := RepSL.one h2
  exact ⟨w, x, rfl, h1, h3⟩
/-! what a value is, by its datum -/
theorem RepS.int {i : Int} (h : RepS C ow H (.int i) v) : v = .int i := by
  rcases h with h | ⟨a, e, n, h⟩
  · rw [Rep] at h; exact h
  · exact h.elim
theorem RepS.str {x : Str} (h : RepS C ow H (.str x) v) : v = .str x := by
  rcases h with h | ⟨a, e, n, h⟩
  · rw [Rep] at h; exact h
  · exact h.elim
theorem RepS.bl {x : Bool} (h : RepS C ow H (.bool x) v) : v = .bl x := by
  rcases h with h | ⟨a, e, n, h⟩
  · rw [Rep] at h; exact h
  · exact h.elim
theorem RepS.non (h : RepS C ow H .none v) : v = .non := by
  rcases h with h | ⟨a, e, n, h⟩
  · rw [Rep] at h; exact h
  · exact h.elim
theorem RepS.tup {ds : List D} (h : RepS C ow H (.tuple ds) v) : ∃ a vs, v = .ref a ∧ H a = some (.tup vs) ∧ RepL H (ZO C ow) ds vs := by
  rcases h with h | ⟨a, e, n, h⟩
  · rw [Rep] at h; exact h
  · exact h.elim
theorem RepS.lst {ds : List D} (h : RepS C ow H (.list ds) v) : ∃ a vs, v = .ref a ∧ H a = some (.lst vs) ∧ ¬ C.Z a ∧ RepL H (ZO C ow) ds vs := by
  rcases h with h | ⟨a, e, n, vs, h1, h2⟩
  · rw [Rep] at h
    obtain ⟨a, vs, e, h1, n, h2⟩ := h
    exact ⟨a, vs, e, h1, fun z => n (.inl z), h2⟩
  · exact ⟨a, vs, e, h1, n, h2⟩
theorem RepS.dic {kvs : List (D × D)} (h : RepS C ow H (.dict kvs) v) : ∃ a vs, v = .ref a ∧ DicAt H a (kvs.map (·.1)) vs ∧ ¬ C.Z a ∧ RepV H (ZO C ow) kvs vs := by
  rcases h with h | ⟨a, e, n, vs, h1, h2⟩
  · rw [Rep] at h
    obtain ⟨a, vs, e, h1, n, h2⟩ := h
    exact ⟨a, vs, e, h1, fun z => n (.inl z), h2⟩
  · exact ⟨a, vs, e, h1, n, h2⟩
/-- a value that may be handed out -/
theorem RepS.out (h : RepS C ow H d v) : Rep H C.Z d v := by
  rcases h with h | ⟨a, e, n, h⟩
  · exact h.less fun a z => .inl z
  · cases d <;> first
      | exact h.elim
      | (obtain ⟨vs, h1, h2⟩ := h
         rw [Rep]
         exact ⟨a, vs, e, h1, n, RepL.less (fun a z => .inl z) h2⟩)
      | (obtain ⟨vs, h1, h2⟩ := h
         rw [Rep]
         exact ⟨a, vs, e, h1, n, RepV.less (fun a z => .inl z) h2⟩)
end

/-! ### judgements -/
abbrev FE := Rho → Src → Option (D × Src)
abbrev FA := Rho → Src → Option (List D × Src)
def isMut : D → Bool
  | .list _ => true
  | .dict _ => true
  | _ => false
/-- what may be changed is new, and in none of its own parts -/
def New (Z : Zn) (H H' : Hp) (d : D) (v : V) : Prop := isMut d = true → ∃ a, v = .ref a ∧ H a = none ∧ (match d with
  | .list ds => ∃ vs, H' a = some (.lst vs) ∧ RepL H' (fun b => Z b ∨ b = a) ds vs
  | .dict kvs => ∃ vs, DicAt H' a (kvs.map (·.1)) vs ∧ RepV H' (fun b => Z b ∨ b = a) kvs vs
  | _ => False)
/-- clean values; values whose own list may be a def's own; clean new ones -/
def tX (C : Cf) (kd : Nat → Bool) (f : FE) : TE := fun σ H Q => ∃ ow ρ S d S', Rel C kd ow σ ρ S H ∧ f ρ S = some (d, S') ∧
  ∀ v H', Kp C.foot H H' → SrcOk C S' H' → Rep H' (ZO C ow) d v → Q v H'
def tS (C : Cf) (kd : Nat → Bool) (f : FE) : TE := fun σ H Q => ∃ ow ρ S d S', Rel C kd ow σ ρ S H ∧ f ρ S = some (d, S') ∧
  ∀ v H', Kp C.foot H H' → SrcOk C S' H' → RepS C ow H' d v → Q v H'
def tF (C : Cf) (kd : Nat → Bool) (f : FE) : TE := fun σ H Q => ∃ ow ρ S d S', Rel C kd ow σ ρ S H ∧ f ρ S = some (d, S') ∧
  ∀ v H', Kp C.foot H H' → SrcOk C S' H' → Rep H' (ZO C ow) d v → New (ZO C ow) H H' d v → Q v H'
def tA (C : Cf) (kd : Nat → Bool) (n : Nat) (f : FA) : TA := fun σ H Q => ∃ ow ρ S ds S', Rel C kd ow σ ρ S H ∧ f ρ S = some (ds, S') ∧
  ∀ vs H', Kp C.foot H H' → SrcOk C S' H' → RepSL C ow H' ds vs → ds.length = n → Q vs H'
def tAX (C : Cf) (kd : Nat → Bool) (n : Nat) (f : FA) : TA := fun σ H Q => ∃ ow ρ S ds S', Rel C kd ow σ ρ S H ∧ f ρ S = some (ds, S') ∧
  ∀ vs H', Kp C.foot H H' → SrcOk C S' H' → RepL H' (ZO C ow) ds vs → ds.length = n → Q vs H'
section
variable {X : Cx} {C : Cf} {kd : Nat → Bool}
theorem PE_imp {e : Expr} {t t' : TE} (h : PE X e t) (i : ∀ σ H Q, t' σ H Q → t σ H Q) : PE X e t' := ⟨fun pins s σ H Q I q => h.run pins s σ H Q I (i σ H Q q)⟩
theorem PT_imp {e : Expr} {t t' : TT} (h : PT X e t) (i : ∀ σ H Q, t' σ H Q → t σ H Q) : PT X e t' := ⟨fun pins s σ H Q I q => h.run pins s σ H Q I (i σ H Q q)⟩
theorem PA_imp {e : List Expr} {t t' : TA} (h : PA X e t) (i : ∀ σ H Q, t' σ H Q → t σ H Q) : PA X e t' := ⟨fun pos pins s σ H Q I q => h.run pos pins s σ H Q I (i σ H Q q)⟩
theorem PS_imp {e : Stmt} {t t' : TS} (h : PS X e t) (i : ∀ D σ H, t' D σ H → t D σ H) : PS X e t' := ⟨fun pins s σ H D I q => h.run pins s σ H D I (i D σ H q)⟩
theorem PSs_imp {e : List Stmt} {t t' : TS} (h : PSs X e t) (i : ∀ D σ H, t' D σ H → t D σ H) : PSs X e t' := ⟨fun pins s σ H D I q => h.run pins s σ H D I (i D σ H q)⟩
theorem f2x {e : Expr} {f : FE} (h : PE X e (tF C kd f)) : PE X e (tX C kd f) := PE_imp h fun σ H Q ⟨ow, ρ, S, d, S', R, e, k⟩ => ⟨ow, ρ, S, d, S', R, e, fun v H' k1 k2 k3 _ => k v H' k1 k2 k3⟩
theorem x2s {e : Expr} {f : FE} (h : PE X e (tX C kd f)) : PE X e (tS C kd f) := PE_imp h fun σ H Q ⟨ow, ρ, S, d, S', R, e, k⟩ => ⟨ow, ρ, S, d, S', R, e, fun v H' k1 k2 k3 => k v H' k1 k2 (.inl k3)⟩
theorem f2s {e : Expr} {f : FE} (h : PE X e (tF C kd f)) : PE X e (tS C kd f) := x2s (f2x h)

/-! ### names, constants -/
def rd (i : Nat) : FE := fun ρ S => match ρ[i]? with
  | some (some d) => some (d, S)
  | _ => none
theorem rd_of {i : Nat} {ρ : Rho} {S S' : Src} {d : D} (h : rd i ρ S = some (d, S')) : ρ[i]? = some (some d) ∧ S' = S := by
  unfold rd at h
  split at h
  · rename_i d' e
    cases h
    exact ⟨e, rfl⟩
  · cases h
theorem xv (i : Nat) {x : Str} {pos : Pos} (h : PE X (.Name x pos) (tVar i)) (hk : kd i = false := by rfl) : PE X (.Name x pos) (tX C kd (rd i)) :=
  PE_imp h fun σ H Q ⟨ow, ρ, S, d, S', R, e, k⟩ => by
    obtain ⟨e1, rfl⟩ := rd_of e
    obtain ⟨v, q, r⟩ := R.cl i d hk e1
    exact ⟨v, q, k v H .refl R.src r⟩
theorem xo (i : Nat) {x : Str} {pos : Pos} (h : PE X (.Name x pos) (tVar i)) (hk : kd i = true := by rfl) : PE X (.Name x pos) (tS C kd (rd i)) :=
  PE_imp h fun σ H Q ⟨ow, ρ, S, d, S', R, e, k⟩ => by
    obtain ⟨e1, rfl⟩ := rd_of e
    obtain ⟨a, e2, q, r⟩ := R.own i d hk e1
    exact ⟨.ref a, q, k _ H .refl R.src (.inr ⟨a, rfl, R.nz (.inl ⟨i, e2⟩), r⟩)⟩
def cst (d : D) : FE := fun _ S => some (d, S)
theorem xc {e : Expr} {d : D} {v : V} (h : PE X e (tC v)) (hr : ∀ H Z, Rep H Z d v) (hm : isMut d = false := by rfl) : PE X e (tF C kd (cst d)) :=
  PE_imp h fun σ H Q ⟨ow, ρ, S, d', S', R, e, k⟩ => by
    cases e
    exact k v H .refl R.src (hr _ _) fun q => by rw [hm] at q; cases q
theorem x_int {i j pos} : PE X (.Constant (.int i) j pos) (tF C kd (cst (.int i))) := xc pe_int fun _ _ => by rw [Rep]
theorem x_str {x j pos} : PE X (.Constant (.str x) j pos) (tF C kd (cst (.str x))) := xc pe_str fun _ _ => by rw [Rep]
theorem x_bl {b j pos} : PE X (.Constant (.bool b) j pos) (tF C kd (cst (.bool b))) := xc pe_bl fun _ _ => by rw [Rep]
theorem x_non {j pos} : PE X (.Constant .none j pos) (tF C kd (cst .none)) := xc pe_non fun _ _ => by rw [Rep]

/-! ### argument lists -/
def aN : FA := fun _ S => some ([], S)
def aC (f : FE) (g : FA) : FA := fun ρ S => match f ρ S with
  | some (d, S1) => (match g ρ S1 with
    | some (ds, S2) => some (d :: ds, S2)
    | none => none)
  | none => none
theorem aC_of {f : FE} {g : FA} {ρ : Rho} {S S' : Src} {ds : List D} (h : aC f g ρ S = some (ds, S')) : ∃ d S1 es, f ρ S = some (d, S1) ∧ g ρ S1 = some (es, S') ∧ ds = d :: es := by
  unfold aC at h
  split at h
  · rename_i d S1 e1
    split at h
    · rename_i es S2 e2
      cases h
      exact ⟨d, S1, es, e1, e2, rfl⟩
    · cases h
  · cases h
theorem a_nil : PA X [] (tA C kd 0 aN) := PA_imp pa_nil fun σ H Q ⟨ow, ρ, S, d, S', R, e, k⟩ => by
  cases e
  exact k [] H .refl R.src rfl rfl
theorem ax_nil : PA X [] (tAX C kd 0 aN) := PA_imp pa_nil fun σ H Q ⟨ow, ρ, S, d, S', R, e, k⟩ => by
  cases e
  exact k [] H .refl R.src .nil rfl
theorem a_cons {e : Expr} {es : List Expr} {f : FE} {g : FA} {n : Nat} (ha : PE X e (tS C kd f)) (hr : PA X es (tA C kd n g)) (hs : starEach (e :: es) X.env = (false, eval e X.env) :: starEach es X.env := by rfl) :
    PA X (e :: es) (tA C kd (n + 1) (aC f g)) := PA_imp (pa_cons ha hr hs) fun σ H Q ⟨ow, ρ, S, ds, S', R, e, k⟩ => by
  obtain ⟨d, S1, es', e1, e2, rfl⟩ := aC_of e
  refine ⟨ow, ρ, S, d, S1, R, e1, fun v H1 k1 s1 r1 => ⟨ow, ρ, S1, es', S', R.step k1 s1, e2, fun vs H2 k2 s2 r2 hn => ?_⟩⟩
  exact k _ H2 (k1.trans k2) s2 ⟨v, vs, rfl, r1.kp (R.step k1 s1) k2, r2⟩ (by rw [List.length_cons, hn])
theorem ax_cons {e : Expr} {es : List Expr} {f : FE} {g : FA} {n : Nat} (ha : PE X e (tX C kd f)) (hr : PA X es (tAX C kd n g)) (hs : starEach (e :: es) X.env = (false, eval e X.env) :: starEach es X.env := by rfl) :
    PA X (e :: es) (tAX C kd (n + 1) (aC f g)) := PA_imp (pa_cons ha hr hs) fun σ H Q ⟨ow, ρ, S, ds, S', R, e, k⟩ => by
  obtain ⟨d, S1, es', e1, e2, rfl⟩ := aC_of e
  refine ⟨ow, ρ, S, d, S1, R, e1, fun v H1 k1 s1 r1 => ⟨ow, ρ, S1, es', S', R.step k1 s1, e2, fun vs H2 k2 s2 r2 hn => ?_⟩⟩
  exact k _ H2 (k1.trans k2) s2 (.cons (r1.kp (k2.mono R.fz)) r2) (by rw [List.length_cons, hn])

/-! ### displays -/
def mkT (g : FA) : FE := fun ρ S => match g ρ S with
  | some (ds, S1) => some (.tuple ds, S1)
  | none => none
def mkL (g : FA) : FE := fun ρ S => match g ρ S with
  | some (ds, S1) => some (.list ds, S1)
  | none => none
theorem small_sz {n : Nat} (h : n ≤ 1000) : n ≤ sizeLine := Nat.le_of_lt (small1000 h)
theorem x_tup {es : List Expr} {k0 : Nat} {pos : Pos} {g : FA} {n : Nat} (h : PA X es (tAX C kd n g)) (hn : n ≤ 1000 := by decide) : PE X (.Tuple es k0 pos) (tF C kd (mkT g)) :=
  PE_imp (pe_tup h) fun σ H Q ⟨ow, ρ, S, d, S', R, e, k⟩ => by
    unfold mkT at e
    split at e
    · rename_i ds S1 e1
      cases e
      refine ⟨ow, ρ, S, ds, S', R, e1, fun vs H1 k1 s1 r1 hl => ⟨by rw [RepL.len r1, hl]; exact small_sz hn, fun p hp => ?_⟩⟩
      have R1 := R.step k1 s1
      have ku : Kp C.foot H1 (upd H1 p (.tup vs)) := Kp.upd hp
      refine k _ _ (k1.trans ku) ?_ ?_ fun q => by cases q
      · unfold SrcOk at s1 ⊢
        cases q : C.src with
        | none => trivial
        | some p' =>
          rw [q] at s1
          obtain ⟨n0, h1, h2, h3⟩ := s1
          exact ⟨n0, by rw [upd_ne (ne_of_none h1 hp)]; exact h1, by rw [upd_ne (ne_of_none h2 hp)]; exact h2, h3⟩
      · rw [Rep]
        exact ⟨p, vs, rfl, upd_same, r1.kp (ku.mono R.fz)⟩
    · cases e
theorem SrcOk.upd {S : Src} {H : Hp} {p : Addr} {o : HO} (s : SrcOk C S H) (hp : H p = none) : SrcOk C S (L2.upd H p o) := by
  unfold SrcOk at s ⊢
  cases q : C.src with
  | none => trivial
  | some p' =>
    rw [q] at s
    obtain ⟨n0, h1, h2, h3⟩ := s
    exact ⟨n0, by rw [upd_ne (ne_of_none h1 hp)]; exact h1, by rw [upd_ne (ne_of_none h2 hp)]; exact h2, h3⟩
theorem SrcOk.kp {S : Src} {H H' : Hp} (s : SrcOk C S H) (k : Kp Z0 H H') : SrcOk C S H' := by
  unfold SrcOk at s ⊢
  cases q : C.src with
  | none => trivial
  | some p' =>
    rw [q] at s
    obtain ⟨n0, h1, h2, h3⟩ := s
    exact ⟨n0, k.ob _ _ h1 fun z => z, k.ob _ _ h2 fun z => z, h3⟩
theorem x_lst {es : List Expr} {pos : Pos} {g : FA} {n : Nat} (h : PA X es (tAX C kd n g)) (hn : n ≤ 1000 := by decide) : PE X (.List es pos) (tF C kd (mkL g)) :=
  PE_imp (pe_lst h) fun σ H Q ⟨ow, ρ, S, d, S', R, e, k⟩ => by
    unfold mkL at e
    split at e
    · rename_i ds S1 e1
      cases e
      refine ⟨ow, ρ, S, ds, S', R, e1, fun vs H1 k1 s1 r1 hl => ⟨by rw [RepL.len r1, hl]; exact small_sz hn, fun p hp => ?_⟩⟩
      have R1 := R.step k1 s1
      have ku : Kp C.foot H1 (upd H1 p (.lst vs)) := Kp.upd hp
      refine k _ _ (k1.trans ku) (s1.upd hp) ?_ fun _ => ⟨p, rfl, ?_, vs, upd_same, (r1.more (Z' := fun b => ZO C ow b ∨ b = p) fun b z => z.elim .inl fun z => .inr (by rw [z]; exact hp)).kp (.upd hp)⟩
      · rw [Rep]
        exact ⟨p, vs, rfl, upd_same, R1.fresh hp, r1.kp (ku.mono R.fz)⟩
      · cases q : H p with
        | none => rfl
        | some o =>
          by_cases f : C.foot p
          · exact absurd hp (R1.there (R.fz p f))
          · rw [k1.ob p o q f] at hp
            cases hp
    · cases e
end
end TL

set_option Elab.async false
set_option linter.all false
set_option maxRecDepth 100000
set_option maxHeartbeats 4000000
namespace TL
open PySem PySem.Spec PyProof.Rows L2

/-! ### operations on values, by data -/
/-- the end of an operation: a clean value; fr: a new one if it may be changed -/
def Fin2 (C : Cf) (ow : Ow) (H : Hp) (fr : Bool) (d : D) (Q : VK) : Prop :=
  ∀ z H', Kp Z0 H H' → Rep H' (ZO C ow) d z → (fr = true → New (ZO C ow) H H' d z) → Q z H'
def rT (fr : Bool) (f : D → D → Option D) : R2 := fun x y H Q => ∃ (C : Cf) (ow : Ow) (a b d : D), (∀ p, H p = none → ¬ ZO C ow p) ∧ RepS C ow H a x ∧ RepS C ow H b y ∧ f a b = some d ∧ Fin2 C ow H fr d Q
def rU1 (fr : Bool) (f : D → Option D) : V → Hp → VK → Prop := fun x H Q => ∃ (C : Cf) (ow : Ow) (a d : D), (∀ p, H p = none → ¬ ZO C ow p) ∧ RepS C ow H a x ∧ f a = some d ∧ Fin2 C ow H fr d Q
def rCl (fr : Bool) (f : List D → Option D) : List V → Hp → VK → Prop := fun xs H Q => ∃ (C : Cf) (ow : Ow) (ds : List D) (d : D), (∀ p, H p = none → ¬ ZO C ow p) ∧ RepSL C ow H ds xs ∧ f ds = some d ∧ Fin2 C ow H fr d Q
def rSc (fr : Bool) (f : D → Option Int → Option Int → Option D) : V → Option Int → Option Int → Hp → VK → Prop := fun x lo hi H Q => ∃ (C : Cf) (ow : Ow) (a d : D), (∀ p, H p = none → ¬ ZO C ow p) ∧ RepS C ow H a x ∧ f a lo hi = some d ∧ Fin2 C ow H fr d Q

section
variable {C : Cf} {kd : Nat → Bool} {ow : Ow} {σ : L2.St} {ρ : Rho} {S S' : Src} {H H' H2 : Hp} {d : D} {fr : Bool} {Q : VK}
theorem Fin2.same {v : V} (q : Fin2 C ow H fr d Q) (r : Rep H (ZO C ow) d v) (n : isMut d = false) : Q v H := q v H .refl r fun _ e => by rw [n] at e; cases e
theorem Fin2.atom {v : V} (q : Fin2 C ow H fr d Q) (r : Rep H (ZO C ow) d v) (n : isMut d = false := by rfl) : Q v H := q.same r n
theorem Fin2.tup {ds : List D} {vs : List V} (q : Fin2 C ow H fr (.tuple ds) Q) (r : RepL H (ZO C ow) ds vs) : ∀ p, H p = none → Q (.ref p) (upd H p (.tup vs)) := fun p hp => by
  refine q _ _ (.upd hp) ?_ fun _ e => by cases e
  rw [Rep]
  exact ⟨p, vs, rfl, upd_same, r.kp (.upd hp)⟩
theorem Fin2.lst {ds : List D} {vs : List V} (q : Fin2 C ow H fr (.list ds) Q) (fz : ∀ p, H p = none → ¬ ZO C ow p) (r : RepL H (ZO C ow) ds vs) : ∀ p, H p = none → Q (.ref p) (upd H p (.lst vs)) := fun p hp => by
  refine q _ _ (.upd hp) ?_ fun _ _ => ⟨p, rfl, hp, vs, upd_same, (r.more (Z' := fun b => ZO C ow b ∨ b = p) fun b z => z.elim .inl fun z => .inr (by rw [z]; exact hp)).kp (.upd hp)⟩
  rw [Rep]
  exact ⟨p, vs, rfl, upd_same, fz p hp, r.kp (.upd hp)⟩
theorem Rel.back (R : Rel C kd ow σ ρ S H) (k : Kp C.foot H H2) (s : SrcOk C S' H2) {p : Addr} (hp : H2 p = none) : H p = none := by
  cases q : H p with
  | none => rfl
  | some o =>
    by_cases f : C.foot p
    · exact absurd hp ((R.step k s).there (R.fz p f))
    · rw [k.ob p o q f] at hp
      cases hp
/-- from the operation's end to an expression's -/
theorem Rel.fin {t : Bool} (R : Rel C kd ow σ ρ S H) (k : Kp C.foot H H2) (s : SrcOk C S' H2)
    (q : ∀ v H', Kp C.foot H H' → SrcOk C S' H' → Rep H' (ZO C ow) d v → (t = true → New (ZO C ow) H H' d v) → Q v H') : Fin2 C ow H2 t d Q := fun z H' k' r fr => by
  refine q z H' (k.trans k'.z0) (s.kp k') r fun e m => ?_
  obtain ⟨p, e1, e2, e3⟩ := fr e m
  exact ⟨p, e1, R.back k s e2, e3⟩
end

/-! ### what they compute -/
def dAdd : D → D → Option D
  | .int i, .int j => some (.int (i + j))
  | .str x, .str y => if x.length + y.length ≤ sizeLine then some (.str (x ++ y)) else none
  | .list xs, .list ys => if xs.length + ys.length ≤ sizeLine then some (.list (xs ++ ys)) else none
  | .tuple xs, .tuple ys => if xs.length + ys.length ≤ sizeLine then some (.tuple (xs ++ ys)) else none
  | _, _ => none
def dSub : D → D → Option D
  | .int i, .int j => some (.int (i - j))
  | _, _ => none
def dMul : D → D → Option D
  | .int i, .int j => if (-(2 ^ 64) < i ∧ i < 2 ^ 64) ∨ (-(2 ^ 64) < j ∧ j < 2 ^ 64) then some (.int (i * j)) else none
  | _, _ => none
def dMod : D → D → Option D
  | .int i, .int j => if 0 < j then some (.int (i % j)) else none
  | _, _ => none
def dFdiv : D → D → Option D
  | .int i, .int j => if 0 < j ∧ j < 2 ^ 30 then some (.int (i / j)) else none
  | _, _ => none
def dLt : D → D → Option D
  | .int i, .int j => some (.bool (decide (i < j)))
  | _, _ => none
def dLe : D → D → Option D
  | .int i, .int j => some (.bool (decide (i ≤ j)))
  | _, _ => none
def dGt : D → D → Option D
  | .int i, .int j => some (.bool (decide (j < i)))
  | _, _ => none
def dGe : D → D → Option D
  | .int i, .int j => some (.bool (decide (j ≤ i)))
  | _, _ => none
def dEq (a b : D) : Option D := if a.plain = true ∧ b.plain = true ∧ min a.depth b.depth ≤ 60 then some (.bool (PyData.eqv a b)) else none
def dNe (a b : D) : Option D := if a.plain = true ∧ b.plain = true ∧ min a.depth b.depth ≤ 60 then some (.bool (!PyData.eqv a b)) else none
def dIn (a b : D) : Option D := match b with
  | .list xs => if a.plain = true ∧ PyData.plainAll xs = true ∧ min (PyData.depthAll xs) a.depth ≤ 60 then some (.bool (xs.any fun y => PyData.eqv y a)) else none
  | .tuple xs => if a.plain = true ∧ PyData.plainAll xs = true ∧ min (PyData.depthAll xs) a.depth ≤ 60 then some (.bool (xs.any fun y => PyData.eqv y a)) else none
  | _ => none
def dNotIn (a b : D) : Option D := match b with
  | .list xs => if a.plain = true ∧ PyData.plainAll xs = true ∧ min (PyData.depthAll xs) a.depth ≤ 60 then some (.bool (!xs.any fun y => PyData.eqv y a)) else none
  | .tuple xs => if a.plain = true ∧ PyData.plainAll xs = true ∧ min (PyData.depthAll xs) a.depth ≤ 60 then some (.bool (!xs.any fun y => PyData.eqv y a)) else none
  | _ => none
def dIx (a b : D) : Option D := match a, b with
  | .list xs, .int i => atI xs i
  | .tuple xs, .int i => atI xs i
  | .str z, .int i => if z.length ≤ sizeLine then (atI z.cps.toList i).map (fun c => .str ⟨#[c]⟩) else none
  | _, _ => none
def cutD {α : Type} (xs : List α) (lo hi : Option Int) : List α := (xs.drop (HT.sIx xs.length 0 lo)).take (HT.sIx xs.length xs.length hi - HT.sIx xs.length 0 lo)
def dSl (a : D) (lo hi : Option Int) : Option D := match a with
  | .list xs => some (.list (cutD xs lo hi))
  | .tuple xs => some (.tuple (cutD xs lo hi))
  | .str z => if z.length ≤ sizeLine then some (.str (Txt.slice z lo hi)) else none
  | _ => none
def dNeg : D → Option D
  | .int i => some (.int (-i))
  | _ => none
def dLen : List D → Option D
  | [.list xs] => some (.int xs.length)
  | [.tuple xs] => some (.int xs.length)
  | [.str x] => if x.length ≤ sizeLine then some (.int x.length) else none
  | _ => none
def dTuple : List D → Option D
  | [.list xs] => some (.tuple xs)
  | [.tuple xs] => some (.tuple xs)
  | _ => none
def dList : List D → Option D
  | [.list xs] => some (.list xs)
  | [.tuple xs] => some (.list xs)
  | _ => none
def bits : List D → Option (List Bool)
  | [] => some []
  | .bool b :: r => (bits r).map (b :: ·)
  | _ => none
def dAny : List D → Option D
  | [.list xs] => (bits xs).map fun bs => .bool (bs.any id)
  | _ => none
def dAll : List D → Option D
  | [.list xs] => (bits xs).map fun bs => .bool (bs.all id)
  | _ => none
def dAbs : List D → Option D
  | [.int i] => some (.int (if i < 0 then -i else i))
  | _ => none
def dInt : List D → Option D
  | [.int i] => some (.int i)
  | [.bool k] => some (.int (if k then 1 else 0))
  | _ => none
def dMax : List D → Option D
  | [.int i, .int j] => some (.int (if j > i then j else i))
  | _ => none
def dMin : List D → Option D
  | [.int i, .int j] => some (.int (if j < i then j else i))
  | _ => none
mutual
/-- at least the length of the text of a datum -/
def wt : D → Nat
  | .none => 4
  | .bool _ => 5
  | .int i => i.natAbs.log2 + 2
  | .str x => (reprText x).length
  | .tuple ds => wtL ds + 3
  | .list ds => wtL ds + 3
  | .dict _ => 0
def wtL : List D → Nat
  | [] => 0
  | d :: ds => wt d + 2 + wtL ds
end
def dRepr : List D → Option D
  | [d] => if d.showable = true ∧ d.plain = true ∧ wt d ≤ sizeLine ∧ d.depth ≤ 60 then some (.str d.shown) else none
  | _ => none
def tup1 : D → Bool
  | .tuple (_ :: _) => true
  | _ => false
def notTup : D → Bool
  | .tuple _ => false
  | .none => false
  | _ => true
def sortD (ds : List D) : List D := ds.mergeSort (W.dataLe false id)
def dSorted : List D → Option D
  | [.list xs] => if (∀ d ∈ xs, ∀ e ∈ xs, W.alike d e = true) ∧ ((∀ d ∈ xs, tup1 d = true) ∨ (∀ d ∈ xs, notTup d = true)) ∧ (∀ d ∈ xs, d.depth ≤ 60) then some (.list (sortD xs)) else none
  | _ => none
def dListS : List D → Option D
  | [.str x] => if x.cps.size ≤ sizeLine then some (.list (x.cps.toList.map fun c => .str ⟨#[c]⟩)) else none
  | _ => none

mutual
theorem shown_wt : ∀ d : D, d.plain = true → d.shown.length ≤ wt d
  | .none, _ => by decide +kernel
  | .bool true, _ => by decide +kernel
  | .bool false, _ => by decide +kernel
  | .int i, _ => by
    rw [PyData.shown, wt]
    have h := int_text_length_le (a := i) (Nat.succ_pos i.natAbs.log2) (Nat.lt_succ_self _)
    have e : ((toString i : String) : Str).length = (toString i).length := PySem.ofString_length _
    rw [e]
    omega
  | .str x, _ => by rw [PyData.shown, wt]; exact Nat.le_refl _
  | .tuple ds, h => by
    rw [PyData.plain] at h
    rw [PyData.shown, wt]
    have h1 := tupleText_len_le (PyData.shownAll ds)
    have h2 := shownL_wt ds h
    omega
  | .list ds, h => by
    rw [PyData.plain] at h
    rw [PyData.shown, wt]
    have h1 := listText_len_le (PyData.shownAll ds)
    have h2 := shownL_wt ds h
    omega
  | .dict _, h => by rw [PyData.plain] at h; cases h
theorem shownL_wt : ∀ ds : List D, PyData.plainAll ds = true → ((PyData.shownAll ds).map (·.length)).sum + 2 * (PyData.shownAll ds).length ≤ wtL ds
  | [], _ => by rw [PyData.shownAll, wtL]; exact Nat.le_refl _
  | d :: ds, h => by
    rw [PyData.plainAll, Bool.and_eq_true] at h
    rw [PyData.shownAll, wtL, List.map_cons, List.sum_cons, List.length_cons]
    have h1 := shown_wt d h.1
    have h2 := shownL_wt ds h.2
    omega
end
mutual
theorem noDict : ∀ d : D, d.plain = true → d.hasDict = false
  | .none, _ => rfl
  | .bool _, _ => rfl
  | .int _, _ => rfl
  | .str _, _ => rfl
  | .tuple ds, h => by
    rw [PyData.plain] at h
    rw [PyData.hasDict]
    exact noDictL ds h
  | .list ds, h => by
    rw [PyData.plain] at h
    rw [PyData.hasDict]
    exact noDictL ds h
  | .dict _, h => by rw [PyData.plain] at h; cases h
theorem noDictL : ∀ ds : List D, PyData.plainAll ds = true → PyData.hasDictAll ds = false
  | [], _ => rfl
  | d :: ds, h => by
    rw [PyData.plainAll, Bool.and_eq_true] at h
    rw [PyData.hasDictAll, noDict d h.1, noDictL ds h.2]
    rfl
end
mutual
theorem flat_plain : ∀ d : D, d.plain = true → flat d = true
  | .none, _ => rfl
  | .bool _, _ => rfl
  | .int _, _ => rfl
  | .str _, _ => rfl
  | .tuple ds, h => by
    rw [PyData.plain] at h
    rw [flat]
    exact flatL_plain ds h
  | .list ds, h => by
    rw [PyData.plain] at h
    rw [flat]
    exact flatL_plain ds h
  | .dict _, h => by rw [PyData.plain] at h; cases h
theorem flatL_plain : ∀ ds : List D, PyData.plainAll ds = true → flatL ds = true
  | [], _ => rfl
  | d :: ds, h => by
    rw [PyData.plainAll, Bool.and_eq_true] at h
    rw [flatL, flat_plain d h.1, flatL_plain ds h.2]
    rfl
end

section
variable {X : Cx} {pins : List (Addr × Obj)} {σ : L2.St} {H : Hp} {s : Shared} {C : Cf} {ow : Ow}
theorem RepS.dp {K : PySem.W.Frag} {d : D} {v : V} (h : RepS C ow H d v) (p : d.plain = true) : Dp K H v d := by
  rcases h with h | ⟨a, rfl, n, h⟩
  · exact h.dp d (flat_plain d p)
  · cases d <;> first
      | exact h.elim
      | (obtain ⟨vs, h1, h2⟩ := h
         rw [PyData.plain] at p
         exact .lst (.of h1) (RepL.dp _ (flatL_plain _ p) h2))
      | (rw [PyData.plain] at p
         cases p)
theorem RepS.reads {d : D} {v : V} {u : Value} (h : RepS C ow H d v) (p : d.plain = true) (I : Inv X pins σ H s) (r : RelV v u) : ∃ as, Reads s.heap u d as := Dp.reads I d v u (h.dp p) r

theorem o_add : OpR X (binaryOp .Add) (rT true dAdd) := by
  intro pins s σ H x y v u Q I rx ry ⟨C, ow, a, b, d, fz, ha, hb, e, q⟩
  unfold dAdd at e
  split at e
  · cases e
    obtain rfl := ha.int
    obtain rfl := hb.int
    exact op_add pins s σ H _ _ v u Q I rx ry ⟨_, _, rfl, rfl, q.atom (by rw [Rep])⟩
  · split at e
    · rename_i hz
      cases e
      obtain rfl := ha.str
      obtain rfl := hb.str
      exact op_add_str pins s σ H _ _ v u Q I rx ry ⟨_, _, rfl, rfl, hz, q.atom (by rw [Rep])⟩
    · cases e
  · split at e
    · rename_i hz
      cases e
      obtain ⟨p, xs, rfl, h1, _, r1⟩ := ha.lst
      obtain ⟨p2, ys, rfl, h2, _, r2⟩ := hb.lst
      exact op_cat pins s σ H _ _ v u Q I rx ry ⟨_, _, _, _, rfl, rfl, h1, h2, by rw [RepL.len r1, RepL.len r2]; exact hz, q.lst fz (r1.app r2)⟩
    · cases e
  · split at e
    · rename_i hz
      cases e
      obtain ⟨p, xs, rfl, h1, r1⟩ := ha.tup
      obtain ⟨p2, ys, rfl, h2, r2⟩ := hb.tup
      refine op_catA pins s σ H _ _ v u Q I rx ry ⟨_, _, _, _, rfl, rfl, .of h1, .of h2, by rw [RepL.len r1, RepL.len r2]; exact hz, fun e0 => ?_, fun _ e0 => ?_, fun _ _ => q.tup (r1.app r2)⟩
      · subst e0
        refine q.same ?_ rfl
        have e1 := RepL.len r1
        rw [List.length_nil] at e1
        rw [List.eq_nil_of_length_eq_zero e1.symm, List.nil_append, Rep]
        exact ⟨_, _, rfl, h2, r2⟩
      · subst e0
        refine q.same ?_ rfl
        have e1 := RepL.len r2
        rw [List.length_nil] at e1
        rw [List.eq_nil_of_length_eq_zero e1.symm, List.append_nil, Rep]
        exact ⟨_, _, rfl, h1, r1⟩
    · cases e
  · cases e
theorem o_sub : OpR X (binaryOp .Sub) (rT true dSub) := by
  intro pins s σ H x y v u Q I rx ry ⟨C, ow, a, b, d, fz, ha, hb, e, q⟩
  unfold dSub at e
  split at e
  · cases e
    obtain rfl := ha.int
    obtain rfl := hb.int
    exact op_sub pins s σ H _ _ v u Q I rx ry ⟨_, _, rfl, rfl, q.atom (by rw [Rep])⟩
  · cases e
theorem o_mul : OpR X (binaryOp .Mult) (rT true dMul) := by
  intro pins s σ H x y v u Q I rx ry ⟨C, ow, a, b, d, fz, ha, hb, e, q⟩
  unfold dMul at e
  split at e
  · split at e
    · rename_i hz
      cases e
      obtain rfl := ha.int
      obtain rfl := hb.int
      exact op_mul pins s σ H _ _ v u Q I rx ry ⟨_, _, rfl, rfl, hz, q.atom (by rw [Rep])⟩
    · cases e
  · cases e
theorem o_mod : OpR X (binaryOp .Mod) (rT true dMod) := by
  intro pins s σ H x y v u Q I rx ry ⟨C, ow, a, b, d, fz, ha, hb, e, q⟩
  unfold dMod at e
  split at e
  · split at e
    · rename_i hz
      cases e
      obtain rfl := ha.int
      obtain rfl := hb.int
      exact op_mod pins s σ H _ _ v u Q I rx ry ⟨_, _, rfl, rfl, hz, q.atom (by rw [Rep])⟩
    · cases e
  · cases e
theorem o_fdiv : OpR X (binaryOp .FloorDiv) (rT true dFdiv) := by
  intro pins s σ H x y v u Q I rx ry ⟨C, ow, a, b, d, fz, ha, hb, e, q⟩
  unfold dFdiv at e
  split at e
  · split at e
    · rename_i hz
      cases e
      obtain rfl := ha.int
      obtain rfl := hb.int
      exact op_fdiv pins s σ H _ _ v u Q I rx ry ⟨_, _, rfl, rfl, hz, q.atom (by rw [Rep])⟩
    · cases e
  · cases e
theorem o_lt : OpR X (compareOp .Lt) (rT true dLt) := by
  intro pins s σ H x y v u Q I rx ry ⟨C, ow, a, b, d, fz, ha, hb, e, q⟩
  unfold dLt at e
  split at e
  · cases e
    obtain rfl := ha.int
    obtain rfl := hb.int
    exact op_lt pins s σ H _ _ v u Q I rx ry ⟨_, _, rfl, rfl, q.atom (by rw [Rep])⟩
  · cases e
theorem o_le : OpR X (compareOp .LtE) (rT true dLe) := by
  intro pins s σ H x y v u Q I rx ry ⟨C, ow, a, b, d, fz, ha, hb, e, q⟩
  unfold dLe at e
  split at e
  · cases e
    obtain rfl := ha.int
    obtain rfl := hb.int
    exact op_le pins s σ H _ _ v u Q I rx ry ⟨_, _, rfl, rfl, q.atom (by rw [Rep])⟩
  · cases e
theorem o_gt : OpR X (compareOp .Gt) (rT true dGt) := by
  intro pins s σ H x y v u Q I rx ry ⟨C, ow, a, b, d, fz, ha, hb, e, q⟩
  unfold dGt at e
  split at e
  · cases e
    obtain rfl := ha.int
    obtain rfl := hb.int
    exact op_gt pins s σ H _ _ v u Q I rx ry ⟨_, _, rfl, rfl, q.atom (by rw [Rep])⟩
  · cases e
theorem o_ge : OpR X (compareOp .GtE) (rT true dGe) := by
  intro pins s σ H x y v u Q I rx ry ⟨C, ow, a, b, d, fz, ha, hb, e, q⟩
  unfold dGe at e
  split at e
  · cases e
    obtain rfl := ha.int
    obtain rfl := hb.int
    exact op_ge pins s σ H _ _ v u Q I rx ry ⟨_, _, rfl, rfl, q.atom (by rw [Rep])⟩
  · cases e
theorem o_eq (hu : X.A.units + 64 < cLine) : OpR X (compareOp .Eq) (rT true dEq) := by
  intro pins s σ H x y v u Q I rx ry ⟨C, ow, a, b, d, fz, ha, hb, e, q⟩
  unfold dEq at e
  split at e
  · rename_i hz
    cases e
    obtain ⟨as, r1⟩ := ha.reads hz.1 I rx
    obtain ⟨bs, r2⟩ := hb.reads hz.2.1 I ry
    exact SeqAt.eq_plain r1 r2 hz.1 hz.2.1 (by omega) ⟨.bl _, H, I, rfl, q.atom (by rw [Rep])⟩
  · cases e
theorem o_ne (hu : X.A.units + 64 < cLine) : OpR X (compareOp .NotEq) (rT true dNe) := by
  intro pins s σ H x y v u Q I rx ry ⟨C, ow, a, b, d, fz, ha, hb, e, q⟩
  unfold dNe at e
  split at e
  · rename_i hz
    cases e
    obtain ⟨as, r1⟩ := ha.reads hz.1 I rx
    obtain ⟨bs, r2⟩ := hb.reads hz.2.1 I ry
    exact SeqAt.ne_plain r1 r2 hz.1 hz.2.1 (by omega) ⟨.bl _, H, I, rfl, q.atom (by rw [Rep])⟩
  · cases e
theorem o_in (hu : X.A.units + 64 < cLine) : OpR X (compareOp .In) (rT true dIn) := by
  intro pins s σ H x y v u Q I rx ry ⟨C, ow, a, b, d, fz, ha, hb, e, q⟩
  unfold dIn at e
  split at e
  · split at e
    · rename_i hz
      cases e
      obtain ⟨as, r1⟩ := ha.reads hz.1 I rx
      obtain ⟨bs, r2⟩ := hb.reads (by rw [PyData.plain]; exact hz.2.1) I ry
      exact SeqAt.in_list_data r2 r1 hz.2.1 hz.1 (by omega) ⟨.bl _, H, I, rfl, q.atom (by rw [Rep])⟩
    · cases e
  · split at e
    · rename_i hz
      cases e
      obtain ⟨as, r1⟩ := ha.reads hz.1 I rx
      obtain ⟨bs, r2⟩ := hb.reads (by rw [PyData.plain]; exact hz.2.1) I ry
      exact SeqAt.in_tuple_data r2 r1 hz.2.1 hz.1 (by omega) ⟨.bl _, H, I, rfl, q.atom (by rw [Rep])⟩
    · cases e
  · cases e
theorem o_notin (hu : X.A.units + 64 < cLine) : OpR X (compareOp .NotIn) (rT true dNotIn) := by
  intro pins s σ H x y v u Q I rx ry ⟨C, ow, a, b, d, fz, ha, hb, e, q⟩
  unfold dNotIn at e
  split at e
  · split at e
    · rename_i hz
      cases e
      obtain ⟨as, r1⟩ := ha.reads hz.1 I rx
      obtain ⟨bs, r2⟩ := hb.reads (by rw [PyData.plain]; exact hz.2.1) I ry
      exact SeqAt.notIn_list_data r2 r1 hz.2.1 hz.1 (by omega) ⟨.bl _, H, I, rfl, q.atom (by rw [Rep])⟩
    · cases e
  · split at e
    · rename_i hz
      cases e
      obtain ⟨as, r1⟩ := ha.reads hz.1 I rx
      obtain ⟨bs, r2⟩ := hb.reads (by rw [PyData.plain]; exact hz.2.1) I ry
      exact SeqAt.notIn_tuple_data r2 r1 hz.2.1 hz.1 (by omega) ⟨.bl _, H, I, rfl, q.atom (by rw [Rep])⟩
    · cases e
  · cases e
theorem RepL.atI {Z : Zn} {ds : List D} {vs : List V} {i : Int} {d : D} (r : RepL H Z ds vs) (e : L2.atI ds i = some d) : ∃ v, L2.atI vs i = some v ∧ Rep H Z d v := by
  unfold L2.atI at e ⊢
  rw [RepL.len r]
  cases q : ixN ds.length i with
  | none => rw [q] at e; cases e
  | some j =>
    rw [q] at e
    exact r.get (i := j) e
theorem o_ix : IxR X (rT false dIx) := by
  intro value slice pins s σ H x y v u Q I rx ry ⟨C, ow, a, b, d, fz, ha, hb, e, q⟩ hs
  unfold dIx at e
  split at e
  · obtain ⟨p, xs, rfl, h1, _, r1⟩ := ha.lst
    obtain rfl := hb.int
    obtain ⟨w, e1, r⟩ := r1.atI e
    exact ix_list value slice pins s σ H _ _ v u Q I rx ry ⟨_, _, _, _, rfl, rfl, .of h1, e1, q w H .refl r fun z => by cases z⟩ hs
  · obtain ⟨p, xs, rfl, h1, r1⟩ := ha.tup
    obtain rfl := hb.int
    obtain ⟨w, e1, r⟩ := r1.atI e
    exact ix_tup value slice pins s σ H _ _ v u Q I rx ry ⟨_, _, _, _, rfl, rfl, .of h1, e1, q w H .refl r fun z => by cases z⟩ hs
  · split at e
    · rename_i hz
      obtain rfl := ha.str
      obtain rfl := hb.int
      obtain ⟨c, e1, rfl⟩ := Option.map_eq_some_iff.mp e
      exact ix_str value slice pins s σ H _ _ v u Q I rx ry ⟨_, _, _, rfl, rfl, hz, e1, q.atom (by rw [Rep])⟩ hs
    · cases e
  · cases e
theorem RepL.cut {Z : Zn} {ds : List D} {vs : List V} (r : RepL H Z ds vs) (lo hi : Option Int) : RepL H Z (cutD ds lo hi) (cutV vs lo hi) := by
  unfold cutD cutV
  rw [RepL.len r]
  exact (r.drop _).take _
theorem o_sl : SlR X (rSc true dSl) := by
  intro pins s σ H x v vl vu lo hi sl Q I rx hs pl pu ⟨C, ow, a, d, fz, ha, e, q⟩
  unfold dSl at e
  split at e
  · cases e
    obtain ⟨p, xs, rfl, h1, _, r1⟩ := ha.lst
    exact sl_list pins s σ H _ v vl vu lo hi sl Q I rx hs pl pu ⟨_, _, rfl, .of h1, q.lst fz (r1.cut lo hi)⟩
  · cases e
    obtain ⟨p, xs, rfl, h1, r1⟩ := ha.tup
    refine sl_tupA pins s σ H _ v vl vu lo hi sl Q I rx hs pl pu ⟨_, _, rfl, .of h1, fun hw => ?_, fun _ => q.tup (r1.cut lo hi)⟩
    refine q.same ?_ rfl
    rw [RepL.len r1] at hw
    unfold cutD
    rw [hw.1, hw.2, List.drop_zero, Nat.sub_zero, List.take_length, Rep]
    exact ⟨_, _, rfl, h1, r1⟩
  · split at e
    · rename_i hz
      cases e
      obtain rfl := ha.str
      exact C8.sl_txt pins s σ H _ v vl vu lo hi sl Q I rx hs pl pu ⟨_, rfl, hz, q.atom (by rw [Rep])⟩
    · cases e
  · cases e
theorem o_neg : UnR X (unaryOp .USub) (rU1 true dNeg) := by
  intro pins s σ H x v Q I rx ⟨C, ow, a, d, fz, ha, e, q⟩
  unfold dNeg at e
  split at e
  · cases e
    obtain rfl := ha.int
    exact un_neg pins s σ H _ v Q I rx ⟨_, rfl, q.atom (by rw [Rep])⟩
  · cases e
end
end TL

set_option Elab.async false
set_option linter.all false
set_option maxRecDepth 100000
set_option maxHeartbeats 4000000
namespace TL
open PySem PySem.Spec PyProof.Rows L2

section
variable {X : Cx}
theorem c_len : CallR X (.builtin "len") (rCl true dLen) := by
  intro pins s σ H xs us Q I r ⟨C, ow, ds, d, fz, h, e, q⟩
  unfold dLen at e
  split at e
  · cases e
    obtain ⟨w, rfl, hw⟩ := h.one
    obtain ⟨p, vs, rfl, h1, _, r1⟩ := hw.lst
    exact call_len_seq pins s σ H _ us Q I r ⟨_, _, rfl, .inl (.of h1), by rw [RepL.len r1]; exact q.atom (by rw [Rep])⟩
  · cases e
    obtain ⟨w, rfl, hw⟩ := h.one
    obtain ⟨p, vs, rfl, h1, r1⟩ := hw.tup
    exact call_len_seq pins s σ H _ us Q I r ⟨_, _, rfl, .inr (.of h1), by rw [RepL.len r1]; exact q.atom (by rw [Rep])⟩
  · split at e
    · rename_i hz
      cases e
      obtain ⟨w, rfl, hw⟩ := h.one
      obtain rfl := hw.str
      exact call_len_str pins s σ H _ us Q I r ⟨_, rfl, hz, q.atom (by rw [Rep])⟩
    · cases e
  · cases e
theorem c_tuple : CallR X (.type "tuple") (rCl true dTuple) := by
  intro pins s σ H xs us Q I r ⟨C, ow, ds, d, fz, h, e, q⟩
  unfold dTuple at e
  split at e
  · cases e
    obtain ⟨w, rfl, hw⟩ := h.one
    obtain ⟨p, vs, rfl, h1, _, r1⟩ := hw.lst
    exact call_tuple_of pins s σ H _ us Q I r ⟨_, _, rfl, .inl ⟨.of h1, q.tup r1⟩⟩
  · cases e
    obtain ⟨w, rfl, hw⟩ := h.one
    obtain ⟨p, vs, rfl, h1, r1⟩ := hw.tup
    exact call_tuple_of pins s σ H _ us Q I r ⟨_, _, rfl, .inr ⟨.of h1, q.same (by rw [Rep]; exact ⟨_, _, rfl, h1, r1⟩) rfl⟩⟩
  · cases e
theorem c_list : CallR X (.type "list") (rCl true dList) := by
  intro pins s σ H xs us Q I r ⟨C, ow, ds, d, fz, h, e, q⟩
  unfold dList at e
  split at e
  · cases e
    obtain ⟨w, rfl, hw⟩ := h.one
    obtain ⟨p, vs, rfl, h1, _, r1⟩ := hw.lst
    exact call_list_of pins s σ H _ us Q I r ⟨_, _, rfl, .inl (.of h1), q.lst fz r1⟩
  · cases e
    obtain ⟨w, rfl, hw⟩ := h.one
    obtain ⟨p, vs, rfl, h1, r1⟩ := hw.tup
    exact call_list_of pins s σ H _ us Q I r ⟨_, _, rfl, .inr (.of h1), q.lst fz r1⟩
  · cases e
theorem bits_vs {H : Hp} {Z : Zn} : ∀ {ds : List D} {bs : List Bool} {vs : List V}, bits ds = some bs → RepL H Z ds vs → vs = bs.map V.bl
  | [], bs, vs, e, r => by
    cases e
    rw [RepL] at r
    exact r
  | .bool b :: ds, bs, vs, e, r => by
    rw [bits] at e
    obtain ⟨bs', e', rfl⟩ := Option.map_eq_some_iff.mp e
    rw [RepL] at r
    obtain ⟨w, ws, rfl, h1, h2⟩ := r
    rw [Rep] at h1
    subst h1
    rw [bits_vs e' h2]
    rfl
  | .none :: _, _, _, e, _ => by cases e
  | .int _ :: _, _, _, e, _ => by cases e
  | .str _ :: _, _, _, e, _ => by cases e
  | .tuple _ :: _, _, _, e, _ => by cases e
  | .list _ :: _, _, _, e, _ => by cases e
  | .dict _ :: _, _, _, e, _ => by cases e
theorem c_any (hc : X.calm = true) : CallR X (.builtin "any") (rCl true dAny) := by
  intro pins s σ H xs us Q I r ⟨C, ow, ds, d, fz, h, e, q⟩
  unfold dAny at e
  split at e
  · obtain ⟨bs, e', rfl⟩ := Option.map_eq_some_iff.mp e
    obtain ⟨w, rfl, hw⟩ := h.one
    obtain ⟨p, vs, rfl, h1, _, r1⟩ := hw.lst
    obtain rfl := bits_vs e' r1
    exact cr_any hc pins s σ H _ us Q I r ⟨_, bs, rfl, .of h1, q.atom (by rw [Rep])⟩
  · cases e
theorem c_all (hc : X.calm = true) : CallR X (.builtin "all") (rCl true dAll) := by
  intro pins s σ H xs us Q I r ⟨C, ow, ds, d, fz, h, e, q⟩
  unfold dAll at e
  split at e
  · obtain ⟨bs, e', rfl⟩ := Option.map_eq_some_iff.mp e
    obtain ⟨w, rfl, hw⟩ := h.one
    obtain ⟨p, vs, rfl, h1, _, r1⟩ := hw.lst
    obtain rfl := bits_vs e' r1
    exact cr_all hc pins s σ H _ us Q I r ⟨_, bs, rfl, .of h1, q.atom (by rw [Rep])⟩
  · cases e
theorem c_abs : CallR X (.builtin "abs") (rCl true dAbs) := by
  intro pins s σ H xs us Q I r ⟨C, ow, ds, d, fz, h, e, q⟩
  unfold dAbs at e
  split at e
  · cases e
    obtain ⟨w, rfl, hw⟩ := h.one
    obtain rfl := hw.int
    exact call_abs pins s σ H _ us Q I r ⟨_, rfl, q.atom (by rw [Rep])⟩
  · cases e
theorem c_int : CallR X (.type "int") (rCl true dInt) := by
  intro pins s σ H xs us Q I r ⟨C, ow, ds, d, fz, h, e, q⟩
  unfold dInt at e
  split at e
  · cases e
    obtain ⟨w, rfl, hw⟩ := h.one
    obtain rfl := hw.int
    exact call_int1 pins s σ H _ us Q I r (.inl ⟨_, rfl, q.atom (by rw [Rep])⟩)
  · cases e
    obtain ⟨w, rfl, hw⟩ := h.one
    obtain rfl := hw.bl
    exact call_int1 pins s σ H _ us Q I r (.inr ⟨_, rfl, q.atom (by rw [Rep])⟩)
  · cases e
theorem c_max (hc : X.calm = true) : CallR X (.builtin "max") (rCl true dMax) := by
  intro pins s σ H xs us Q I r ⟨C, ow, ds, d, fz, h, e, q⟩
  unfold dMax at e
  split at e
  · cases e
    obtain ⟨w, x, rfl, hw, hx⟩ := h.two
    obtain rfl := hw.int
    obtain rfl := hx.int
    exact call_max2 hc pins s σ H _ us Q I r ⟨_, _, rfl, q.atom (by rw [Rep])⟩
  · cases e
theorem c_min (hc : X.calm = true) : CallR X (.builtin "min") (rCl true dMin) := by
  intro pins s σ H xs us Q I r ⟨C, ow, ds, d, fz, h, e, q⟩
  unfold dMin at e
  split at e
  · cases e
    obtain ⟨w, x, rfl, hw, hx⟩ := h.two
    obtain rfl := hw.int
    obtain rfl := hx.int
    exact call_min2 hc pins s σ H _ us Q I r ⟨_, _, rfl, q.atom (by rw [Rep])⟩
  · cases e
theorem c_repr (hg : X.A.guards = some []) (hu : X.A.units + 64 < cLine) : CallR X (.builtin "repr") (rCl true dRepr) := by
  intro pins s σ H xs us Q I r ⟨C, ow, ds, d, fz, h, e, q⟩
  unfold dRepr at e
  split at e
  · split at e
    · rename_i d0 hz
      cases e
      obtain ⟨w, rfl, hw⟩ := h.one
      obtain ⟨u, rfl, ru⟩ := vals1 r
      have hl := Nat.le_trans (shown_wt d0 hz.2.1) hz.2.2.1
      have fin : ∀ (h' : Heap) (tk : Nat) (t : Tok), (∀ b o, s.heap.get? b = some o → h'.get? b = some o) → EP X pins σ Q (.str d0.shown t) { s with heap := h', toks := tk } :=
        fun h' tk t k => ⟨.str d0.shown, H, I.kept k, ⟨t, rfl⟩, q.atom (by rw [Rep])⟩
      cases d0 with
      | none =>
        obtain rfl := hw.non
        cases ru
        exact P.repr_of_none (fin _ _ _ fun _ _ e => e)
      | bool b =>
        obtain rfl := hw.bl
        cases ru
        exact P.repr_of_bool (by cases b <;> exact fin _ _ _ fun _ _ e => e)
      | int i =>
        obtain rfl := hw.int
        obtain ⟨t, rfl⟩ := ru
        have hz1 := hz.1
        rw [PyData.showable] at hz1
        exact P.repr_of_int (of_decide_eq_true hz1) (fin _ _ _ fun _ _ e => e)
      | str x =>
        obtain rfl := hw.str
        obtain ⟨t, rfl⟩ := ru
        exact P.repr_of_str (fin _ _ _ fun _ _ e => e) hl
      | tuple ds =>
        obtain ⟨as, rr⟩ := hw.reads hz.2.1 I ru
        obtain ⟨p, vs, rfl, _, _⟩ := hw.tup
        cases ru
        exact repr_of_reads' rr hz.1 (PyData.noDict_hsm (noDict _ hz.2.1)) hg (by omega) (fun _ _ e => e) (fun h' u tk k => fin h' tk u k) hl
      | list ds =>
        obtain ⟨as, rr⟩ := hw.reads hz.2.1 I ru
        obtain ⟨p, vs, rfl, _, _⟩ := hw.lst
        cases ru
        exact repr_of_reads' rr hz.1 (PyData.noDict_hsm (noDict _ hz.2.1)) hg (by omega) (fun _ _ e => e) (fun h' u tk k => fin h' tk u k) hl
      | dict kvs =>
        have hp := hz.2.1
        rw [PyData.plain] at hp
        cases hp
    · cases e
  · cases e
theorem each_of {H : Hp} {Z : Zn} : ∀ {ds : List D} {vs : List V} {us : List Value}, RepL H Z ds vs → Vals vs us → W.EachIs (fun u d => ∃ v, RelV v u ∧ Rep H Z d v) us ds
  | [], vs, us, r, q => by
    rw [RepL] at r
    subst r
    cases q
    exact .nil
  | d :: ds, vs, us, r, q => by
    rw [RepL] at r
    obtain ⟨w, ws, rfl, h1, h2⟩ := r
    cases q with
    | cons q1 q2 => exact .cons ⟨w, q1, h1⟩ (each_of h2 q2)
theorem of_each {H : Hp} {Z : Zn} : ∀ {ds : List D} {us : List Value}, W.EachIs (fun u d => ∃ v, RelV v u ∧ Rep H Z d v) us ds → ∃ vs, RepL H Z ds vs ∧ Vals vs us
  | _, _, .nil => ⟨[], .nil, .nil⟩
  | _, _, .cons ⟨v, h1, h2⟩ t => by
    obtain ⟨vs, q1, q2⟩ := of_each t
    exact ⟨v :: vs, .cons h2 q1, .cons h1 q2⟩
theorem each_reads {X : Cx} {pins : List (Addr × Obj)} {σ : L2.St} {H : Hp} {s : Shared} {Z : Zn} (I : Inv X pins σ H s) : ∀ {ds : List D} {us : List Value}, (∀ d ∈ ds, d.plain = true) →
    W.EachIs (fun u d => ∃ v, RelV v u ∧ Rep H Z d v) us ds → W.EachIs (fun u d => ∃ as, Reads s.heap u d as) us ds
  | _, _, _, .nil => .nil
  | d :: _, _, p, .cons ⟨v, h1, h2⟩ t => .cons (Dp.reads I d v _ (h2.dp d (flat_plain d (p d (List.mem_cons_self ..)))) h1) (each_reads I (fun x hx => p x (List.mem_cons_of_mem _ hx)) t)
mutual
theorem alike_plain : ∀ d : D, W.alike d d = true → d.plain = true
  | .none, _ => rfl
  | .bool _, _ => rfl
  | .int _, _ => rfl
  | .str _, _ => rfl
  | .tuple ds, h => by
    rw [PyData.plain]
    rw [W.alike] at h
    exact alike_plainL ds h
  | .list ds, h => by
    rw [PyData.plain]
    rw [W.alike] at h
    exact alike_plainL ds h
  | .dict _, h => by rw [W.alike] at h <;> first | cases h | (intros; simp_all)
theorem alike_plainL : ∀ ds : List D, W.alikeAll ds ds = true → PyData.plainAll ds = true
  | [], _ => rfl
  | d :: ds, h => by
    rw [W.alikeAll, Bool.and_eq_true] at h
    rw [PyData.plainAll, alike_plain d h.1, alike_plainL ds h.2]
    rfl
end
theorem c_sorted (hu : X.A.units + 64 < cLine) : CallR X (.builtin "sorted") (rCl true dSorted) := by
  intro pins s σ H xs us Q I r ⟨C, ow, ds, d, fz, h, e, q⟩
  unfold dSorted at e
  split at e
  · rename_i ds
    split at e
    · rename_i hz
      obtain ⟨h1, h2, h3⟩ := hz
      cases e
      obtain ⟨w, rfl, hw⟩ := h.one
      obtain ⟨u, rfl, ru⟩ := vals1 r
      obtain ⟨p, vs, rfl, hp, _, r1⟩ := hw.lst
      cases ru
      obtain ⟨its, rv, pl, hzl⟩ := I.list (.of hp)
      have ea := each_of r1 rv
      have er := each_reads I (fun d hd => alike_plain d (h1 d hd d hd)) ea
      refine W.sorted_data (enc := id) pl.isList ea er (by rw [List.map_id]; exact h1) ?_ ?_ (fun b hb => ?_) fun out hl eo => ?_
      · rw [List.map_id]
        rcases h2 with h2 | h2
        · refine .inl fun d hd => ?_
          have := h2 d hd
          unfold tup1 at this
          split at this
          · exact ⟨_, _, rfl⟩
          · cases this
        · refine .inr fun d hd => ?_
          have := h2 d hd
          refine ⟨fun z => ?_, fun xs z => ?_⟩ <;> (subst z; cases this)
      · rw [RepL.len r1] at hzl
        exact hzl
      · have := h3 b hb
        show X.A.units + 2 + b.depth < cLine
        omega
      · obtain ⟨vo, ro, rvo⟩ := of_each eo
        obtain ⟨n, hn⟩ := sortedAll_at s.heap its out.toArray
        have hlen : vo.length ≤ sizeLine := by
          rw [RepL.len ro, List.length_mergeSort, ← RepL.len r1]
          exact hzl
        have hf : H (s.heap.objs.size + 1) = none := I.hok.fresh (Nat.le_succ _)
        refine ⟨.ref (s.heap.objs.size + 1), upd H (s.heap.objs.size + 1) (.lst vo), I.laid (t' := s.toks) (fun b o z => sortedAll_old z) (Nat.le_succ _) ⟨hlen, out, n, rvo, hn⟩, rfl, ?_⟩
        exact q.lst fz ro _ hf
    · cases e
  · cases e
theorem signs_at {z : Str} {acc : Array Value} (h : ItemsOf (SignAt z) acc z.cps.size) : Vals (z.cps.toList.map fun c => V.str ⟨#[c]⟩) acc.toList := by
  have all : ∀ (cs : List Nat) (us : List Value), us.length = cs.length → (∀ (j : Nat) (c : Nat) (u : Value), cs[j]? = some c → us[j]? = some u → ∃ t, u = .str ⟨#[c]⟩ t) → Vals (cs.map fun c => V.str ⟨#[c]⟩) us := by
    intro cs
    induction cs with
    | nil =>
      intro us hl _
      rw [List.eq_nil_of_length_eq_zero hl]
      exact .nil
    | cons c cs ih =>
      intro us hl hj
      cases us with
      | nil => simp at hl
      | cons u us =>
        obtain ⟨t, e⟩ := hj 0 c u rfl rfl
        exact .cons ⟨t, e⟩ (ih us (by simpa using hl) fun j c' u' h1 h2 => hj (j + 1) c' u' (by simpa using h1) (by simpa using h2))
  refine all _ _ (by rw [Array.length_toList, Array.length_toList, h.1]) fun j c u h1 h2 => ?_
  obtain ⟨c', t, e1, e2⟩ := h.2 j u (by rw [← Array.getElem?_toList]; exact h2)
  rw [← Array.getElem?_toList, h1] at e1
  cases e1
  exact ⟨t, e2⟩
theorem signsL {H : Hp} {Z : Zn} : ∀ cs : List Nat, RepL H Z (cs.map fun c => .str ⟨#[c]⟩) (cs.map fun c => V.str ⟨#[c]⟩)
  | [] => .nil
  | _ :: cs => .cons (by rw [Rep]) (signsL cs)
theorem c_listS (hc : X.calm = true) : CallR X (.type "list") (rCl true dListS) := by
  intro pins s σ H xs us Q I r ⟨C, ow, ds, d, fz, h, e, q⟩
  unfold dListS at e
  split at e
  · split at e
    · rename_i z hz
      cases e
      obtain ⟨w, rfl, hw⟩ := h.one
      obtain rfl := hw.str
      obtain ⟨u, rfl, t, rfl⟩ := vals1 r
      refine call_list_str (I.ok.hd hc) z t (fun h' tk acc c' k hn hi => ?_) hz
      have hf : H s.heap.objs.size = none := I.fresh
      refine ⟨.ref s.heap.objs.size, upd H s.heap.objs.size (.lst (z.cps.toList.map fun c => V.str ⟨#[c]⟩)), I.laid (t' := tk) k (Nat.le_refl _) ⟨by simpa using hz, acc.toList, c', signs_at hi, by simpa using hn⟩, rfl, ?_⟩
      exact q.lst fz (signsL _) _ hf
    · cases e
  · cases e
end

/-! ### lifts to expressions -/
def b2 (f : D → D → Option D) (fa fb : FE) : FE := fun ρ S => match fa ρ S with
  | some (a, S1) => (match fb ρ S1 with
    | some (b, S2) => (match f a b with
      | some d => some (d, S2)
      | none => none)
    | none => none)
  | none => none
theorem b2_of {f : D → D → Option D} {fa fb : FE} {ρ : Rho} {S S' : Src} {d : D} (h : b2 f fa fb ρ S = some (d, S')) : ∃ a S1 b, fa ρ S = some (a, S1) ∧ fb ρ S1 = some (b, S') ∧ f a b = some d := by
  unfold b2 at h
  split at h
  · rename_i a S1 e1
    split at h
    · rename_i b S2 e2
      split at h
      · rename_i d' e3
        cases h
        exact ⟨a, S1, b, e1, e2, e3⟩
      · cases h
    · cases h
  · cases h
def u1 (f : D → Option D) (fa : FE) : FE := fun ρ S => match fa ρ S with
  | some (a, S1) => (match f a with
    | some d => some (d, S1)
    | none => none)
  | none => none
theorem u1_of {f : D → Option D} {fa : FE} {ρ : Rho} {S S' : Src} {d : D} (h : u1 f fa ρ S = some (d, S')) : ∃ a, fa ρ S = some (a, S') ∧ f a = some d := by
  unfold u1 at h
  split at h
  · rename_i a S1 e1
    split at h
    · rename_i d' e3
      cases h
      exact ⟨a, e1, e3⟩
    · cases h
  · cases h
def cN (f : List D → Option D) (g : FA) : FE := fun ρ S => match g ρ S with
  | some (ds, S1) => (match f ds with
    | some d => some (d, S1)
    | none => none)
  | none => none
theorem cN_of {f : List D → Option D} {g : FA} {ρ : Rho} {S S' : Src} {d : D} (h : cN f g ρ S = some (d, S')) : ∃ ds, g ρ S = some (ds, S') ∧ f ds = some d := by
  unfold cN at h
  split at h
  · rename_i a S1 e1
    split at h
    · rename_i d' e3
      cases h
      exact ⟨a, e1, e3⟩
    · cases h
  · cases h
abbrev FB := Rho → Src → Option (Bool × Src)
def tst (f : FE) : FB := fun ρ S => match f ρ S with
  | some (.bool b, S1) => some (b, S1)
  | _ => none
theorem tst_of {f : FE} {ρ : Rho} {S S' : Src} {b : Bool} (h : tst f ρ S = some (b, S')) : f ρ S = some (.bool b, S') := by
  unfold tst at h
  split at h
  · rename_i e
    cases h
    exact e
  · cases h
def tB (C : Cf) (kd : Nat → Bool) (f : FB) : TT := fun σ H Q => ∃ ow ρ S b S', Rel C kd ow σ ρ S H ∧ f ρ S = some (b, S') ∧ ∀ H', Kp C.foot H H' → SrcOk C S' H' → Q b H'
section
variable {X : Cx} {C : Cf} {kd : Nat → Bool} {a b : Expr} {fa fb : FE} {pos : Pos}
/-- two operands and an operation -/
theorem op2 {fr : Bool} {f : D → D → Option D} {σ : L2.St} {H : Hp} {Q : VK} {ow : Ow} {ρ : Rho} {S S' : Src} {d : D} (R : Rel C kd ow σ ρ S H) (e : b2 f fa fb ρ S = some (d, S'))
    (k : ∀ v H', Kp C.foot H H' → SrcOk C S' H' → Rep H' (ZO C ow) d v → (fr = true → New (ZO C ow) H H' d v) → Q v H') : tOp (rT fr f) (tS C kd fa) (tS C kd fb) σ H Q := by
  obtain ⟨x, S1, y, e1, e2, e3⟩ := b2_of e
  refine ⟨ow, ρ, S, x, S1, R, e1, fun vx H1 k1 s1 r1 => ⟨ow, ρ, S1, y, S', R.step k1 s1, e2, fun vy H2 k2 s2 r2 => ?_⟩⟩
  have R2 := (R.step k1 s1).step k2 s2
  exact ⟨C, ow, x, y, d, fun p hp => R2.fresh hp, r1.kp (R.step k1 s1) k2, r2, e3, R.fin (t := fr) (k1.trans k2) s2 k⟩
theorem x_bin {op : Operator} {f : D → D → Option D} (ho : OpR X (binaryOp op) (rT true f)) (ha : PE X a (tS C kd fa)) (hb : PE X b (tS C kd fb)) : PE X (.BinOp a op b pos) (tF C kd (b2 f fa fb)) :=
  PE_imp (pe_op ho ha hb) fun σ H Q ⟨ow, ρ, S, d, S', R, e, k⟩ => op2 R e fun v H' k1 k2 k3 k4 => k v H' k1 k2 k3 (k4 rfl)
theorem x_cmp {op : CmpOp} {f : D → D → Option D} (ho : OpR X (compareOp op) (rT true f)) (ha : PE X a (tS C kd fa)) (hb : PE X b (tS C kd fb)) (hm : behindInMarks op b = false) : PE X (.Compare a [op] [b] pos) (tF C kd (b2 f fa fb)) :=
  PE_imp (pe_cmpR ho ha hb hm) fun σ H Q ⟨ow, ρ, S, d, S', R, e, k⟩ => op2 R e fun v H' k1 k2 k3 k4 => k v H' k1 k2 k3 (k4 rfl)
theorem t_cmp {op : CmpOp} {f : D → D → Option D} (ho : OpR X (compareOp op) (rT true f)) (ha : PE X a (tS C kd fa)) (hb : PE X b (tS C kd fb)) (hm : behindInMarks op b = false) : PT X (.Compare a [op] [b] pos) (tB C kd (tst (b2 f fa fb))) :=
  PT_imp (pt_cmpR ho ha hb hm) fun σ H Q ⟨ow, ρ, S, d, S', R, e, k⟩ => op2 (Q := fun x H' => ∃ k, x = .bl k ∧ Q k H') R (tst_of e) fun v H' k1 k2 k3 _ => by
    rw [Rep] at k3
    exact ⟨d, k3, k H' k1 k2⟩
/-- a op b op' c -/
def ch (f f' : D → D → Option D) (fa fb fc : FE) : FE := fun ρ S => match fa ρ S with
  | some (a, S1) => (match fb ρ S1 with
    | some (b, S2) => (match f a b with
      | some (.bool true) => (match fc ρ S2 with
        | some (c, S3) => (match f' b c with
          | some d => some (d, S3)
          | none => none)
        | none => none)
      | some (.bool false) => some (.bool false, S2)
      | _ => none)
    | none => none)
  | none => none
theorem ch_of {f f' : D → D → Option D} {fa fb fc : FE} {ρ : Rho} {S S' : Src} {d : D} (h : ch f f' fa fb fc ρ S = some (d, S')) : ∃ a S1 b S2 k, fa ρ S = some (a, S1) ∧ fb ρ S1 = some (b, S2) ∧ f a b = some (.bool k) ∧
    (if k = true then ∃ c, fc ρ S2 = some (c, S') ∧ f' b c = some d else d = .bool false ∧ S' = S2) := by
  unfold ch at h
  split at h
  · rename_i a S1 e1
    split at h
    · rename_i b S2 e2
      split at h
      · rename_i e3
        split at h
        · rename_i c S3 e4
          split at h
          · rename_i d' e5
            cases h
            exact ⟨a, S1, b, S2, true, e1, e2, e3, by rw [if_pos rfl]; exact ⟨c, e4, e5⟩⟩
          · cases h
        · cases h
      · rename_i e3
        cases h
        exact ⟨a, S1, b, _, false, e1, e2, e3, by rw [if_neg Bool.false_ne_true]; exact ⟨rfl, rfl⟩⟩
      · cases h
    · cases h
  · cases h
theorem op3 {f f' : D → D → Option D} {fc : FE} {σ : L2.St} {H : Hp} {Q : VK} {ow : Ow} {ρ : Rho} {S S' : Src} {d : D} (R : Rel C kd ow σ ρ S H) (e : ch f f' fa fb fc ρ S = some (d, S'))
    (k : ∀ v H', Kp C.foot H H' → SrcOk C S' H' → Rep H' (ZO C ow) d v → New (ZO C ow) H H' d v → Q v H') : tChain (rT true f) (rT true f') (tS C kd fa) (tS C kd fb) (tS C kd fc) σ H Q := by
  obtain ⟨x, S1, y, S2, kk, e1, e2, e3, e4⟩ := ch_of e
  refine ⟨ow, ρ, S, x, S1, R, e1, fun vx H1 k1 s1 r1 => ⟨ow, ρ, S1, y, S2, R.step k1 s1, e2, fun vy H2 k2 s2 r2 => ?_⟩⟩
  have R2 := (R.step k1 s1).step k2 s2
  refine ⟨C, ow, x, y, .bool kk, fun p hp => R2.fresh hp, r1.kp (R.step k1 s1) k2, r2, e3, fun z H3 k3 r3 _ => ⟨kk, by rw [Rep] at r3; exact r3, ?_⟩⟩
  cases kk with
  | true =>
    rw [if_pos rfl] at e4 ⊢
    obtain ⟨c, e5, e6⟩ := e4
    have s3 := s2.kp k3
    have R3 := R2.step k3.z0 s3
    refine ⟨ow, ρ, S2, c, S', R3, e5, fun vc H4 k4 s4 r4 => ?_⟩
    have R4 := R3.step k4 s4
    exact ⟨C, ow, y, c, d, fun p hp => R4.fresh hp, (r2.kp R2 k3.z0).kp R3 k4, r4, e6, R.fin (t := true) (((k1.trans k2).trans k3.z0).trans k4) s4 fun v H' q1 q2 q3 q4 => k v H' q1 q2 q3 (q4 rfl)⟩
  | false =>
    rw [if_neg Bool.false_ne_true] at e4 ⊢
    obtain ⟨rfl, rfl⟩ := e4
    exact k _ H3 ((k1.trans k2).trans k3.z0) (s2.kp k3) (by rw [Rep]) fun z => by cases z
theorem x_chain {op op' : CmpOp} {f f' : D → D → Option D} {c : Expr} {fc : FE} (ho : OpR X (compareOp op) (rT true f)) (ho' : OpR X (compareOp op') (rT true f')) (ha : PE X a (tS C kd fa)) (hb : PE X b (tS C kd fb)) (hc : PE X c (tS C kd fc))
    (hm : lastMarks [op, op'] [b, c] = false := by with_unfolding_all rfl) : PE X (.Compare a [op, op'] [b, c] pos) (tF C kd (ch f f' fa fb fc)) :=
  PE_imp (pe_chain ho ho' ha hb hc hm) fun σ H Q ⟨ow, ρ, S, d, S', R, e, k⟩ => op3 R e k
theorem t_chain {op op' : CmpOp} {f f' : D → D → Option D} {c : Expr} {fc : FE} (ho : OpR X (compareOp op) (rT true f)) (ho' : OpR X (compareOp op') (rT true f')) (ha : PE X a (tS C kd fa)) (hb : PE X b (tS C kd fb)) (hc : PE X c (tS C kd fc))
    (hm : lastMarks [op, op'] [b, c] = false := by with_unfolding_all rfl) : PT X (.Compare a [op, op'] [b, c] pos) (tB C kd (tst (ch f f' fa fb fc))) :=
  PT_imp (pt_chain ho ho' ha hb hc hm) fun σ H Q ⟨ow, ρ, S, d, S', R, e, k⟩ => op3 (Q := fun x H' => ∃ k, x = .bl k ∧ Q k H') R (tst_of e) fun v H' k1 k2 k3 _ => by
    rw [Rep] at k3
    exact ⟨d, k3, k H' k1 k2⟩
theorem x_ix (ha : PE X a (tS C kd fa)) (hb : PE X b (tS C kd fb)) (hs : PlainIx b) : PE X (.Subscript a b pos) (tX C kd (b2 dIx fa fb)) :=
  PE_imp (pe_ix o_ix ha hb hs) fun σ H Q ⟨ow, ρ, S, d, S', R, e, k⟩ => op2 (fr := false) R e fun v H' k1 k2 k3 _ => k v H' k1 k2 k3
theorem x_un {op : UnaryOp} {f : D → Option D} (ho : UnR X (unaryOp op) (rU1 true f)) (ha : PE X a (tS C kd fa)) : PE X (.UnaryOp op a pos) (tF C kd (u1 f fa)) :=
  PE_imp (pe_un ho ha) fun σ H Q ⟨ow, ρ, S, d, S', R, e, k⟩ => by
    obtain ⟨x, e1, e2⟩ := u1_of e
    refine ⟨ow, ρ, S, x, S', R, e1, fun vx H1 k1 s1 r1 => ?_⟩
    exact ⟨C, ow, x, d, fun p hp => (R.step k1 s1).fresh hp, r1, e2, R.fin (t := true) k1 s1 fun v H' q1 q2 q3 q4 => k v H' q1 q2 q3 (q4 rfl)⟩
/-- a[lo:hi]: the parts -/
abbrev FO := Rho → Src → Option (Option Int × Src)
def pN : FO := fun _ S => some (none, S)
def pS (f : FE) : FO := fun ρ S => match f ρ S with
  | some (.int i, S1) => some (some i, S1)
  | _ => none
def tO (C : Cf) (kd : Nat → Bool) (f : FO) : TO := fun σ H Q => ∃ ow ρ S o S', Rel C kd ow σ ρ S H ∧ f ρ S = some (o, S') ∧ ∀ H', Kp C.foot H H' → SrcOk C S' H' → Q o H'
theorem p_none : PO X none (tO C kd pN) := ⟨fun pins s σ H Q I ⟨ow, ρ, S, o, S', R, e, k⟩ => by
  cases e
  exact po_none.run pins s σ H Q I (k H .refl R.src)⟩
theorem p_some (h : PE X a (tS C kd fa)) : PO X (some a) (tO C kd (pS fa)) := ⟨fun pins s σ H Q I ⟨ow, ρ, S, o, S', R, e, k⟩ => by
  unfold pS at e
  split at e
  · rename_i i S1 e1
    cases e
    exact (po_some h).run pins s σ H Q I ⟨ow, ρ, S, .int i, _, R, e1, fun v H' k1 k2 k3 => ⟨i, k3.int, k H' k1 k2⟩⟩
  · cases e⟩
def sl3 (fa : FE) (fl fh : FO) : FE := fun ρ S => match fa ρ S with
  | some (a, S1) => (match fl ρ S1 with
    | some (l, S2) => (match fh ρ S2 with
      | some (h, S3) => (match dSl a l h with
        | some d => some (d, S3)
        | none => none)
      | none => none)
    | none => none)
  | none => none
theorem x_sl {lo hi : Option Expr} {fl fh : FO} {p2 : Pos} (ha : PE X a (tS C kd fa)) (hl : PO X lo (tO C kd fl)) (hh : PO X hi (tO C kd fh)) : PE X (.Subscript a (.Slice lo hi none p2) pos) (tF C kd (sl3 fa fl fh)) :=
  PE_imp (pe_slice o_sl ha hl hh) fun σ H Q ⟨ow, ρ, S, d, S', R, e, k⟩ => by
    unfold sl3 at e
    split at e
    · rename_i x S1 e1
      split at e
      · rename_i l S2 e2
        split at e
        · rename_i h S3 e3
          split at e
          · rename_i d' e4
            cases e
            refine ⟨ow, ρ, S, x, S1, R, e1, fun vx H1 k1 s1 r1 => ⟨ow, ρ, S1, l, S2, R.step k1 s1, e2, fun H2 k2 s2 => ⟨ow, ρ, S2, h, _, (R.step k1 s1).step k2 s2, e3, fun H3 k3 s3 => ?_⟩⟩⟩
            have R3 := ((R.step k1 s1).step k2 s2).step k3 s3
            exact ⟨C, ow, x, _, fun p hp => R3.fresh hp, (r1.kp (R.step k1 s1) k2).kp ((R.step k1 s1).step k2 s2) k3, e4, R.fin (t := true) ((k1.trans k2).trans k3) s3 fun v H' q1 q2 q3 q4 => k v H' q1 q2 q3 (q4 rfl)⟩
          · cases e
        · cases e
      · cases e
    · cases e
/-- calls of built-ins -/
theorem tcb {f : List D → Option D} {g : FA} {n : Nat} {σ : L2.St} {H : Hp} {Q : VK} (h : tF C kd (cN f g) σ H Q) : tCB (rCl true f) (tA C kd n g) σ H Q := by
  obtain ⟨ow, ρ, S, d, S', R, e, k⟩ := h
  obtain ⟨ds, e1, e2⟩ := cN_of e
  refine ⟨ow, ρ, S, ds, S', R, e1, fun vs H1 k1 s1 r1 _ => ?_⟩
  exact ⟨C, ow, ds, d, fun p hp => (R.step k1 s1).fresh hp, r1, e2, R.fin (t := true) k1 s1 fun v H' q1 q2 q3 q4 => k v H' q1 q2 q3 (q4 rfl)⟩
theorem x_fn {x : Str} {p : Pos} {e : Expr} {es : List Expr} {id : String} {f : List D → Option D} {g : FA} {n : Nat} (hc : CallR X (.builtin id) (rCl true f)) (hg : Gl X x) (hm : X.mg x = none) (hv : bootBuiltins x = some (.builtin id)) (ha : PA X (e :: es) (tA C kd n g))
    (hn : x ≠ "__name__" := by decide) (hdb : (x == ("__debug__" : Str)) = false := by decide)
    (he : starEach (e :: es) X.env = (false, eval e X.env) :: starEach es X.env := by rfl) (hpl : (backTo pos (starEach es X.env)).any (·.1) = false := by rfl) : PE X (.Call (.Name x p) (e :: es) [] pos) (tF C kd (cN f g)) :=
  PE_imp (pe_callB hc hg hm hv ha hn hdb he hpl) fun σ H Q h => tcb h
theorem x_ty {x : Str} {p : Pos} {e : Expr} {es : List Expr} {T : String} {f : List D → Option D} {g : FA} {n : Nat} (hc : CallR X (.type T) (rCl true f)) (hg : Gl X x) (hm : X.mg x = none) (hv : bootBuiltins x = some (.type T)) (ha : PA X (e :: es) (tA C kd n g))
    (hn : x ≠ "__name__" := by decide) (hdb : (x == ("__debug__" : Str)) = false := by decide)
    (he : starEach (e :: es) X.env = (false, eval e X.env) :: starEach es X.env := by rfl) (hpl : (backTo pos (starEach es X.env)).any (·.1) = false := by rfl) : PE X (.Call (.Name x p) (e :: es) [] pos) (tF C kd (cN f g)) :=
  PE_imp (pe_callTy hc hg hm hv ha hn hdb he hpl) fun σ H Q h => tcb h
end
end TL

set_option Elab.async false
set_option linter.all false
set_option maxRecDepth 100000
set_option maxHeartbeats 4000000
namespace TL
open PySem PySem.Spec PyProof.Rows L2

/-! ### and, or, not, if-else -/
def fAnd (f g : FB) : FB := fun ρ S => match f ρ S with
  | some (true, S1) => g ρ S1
  | some (false, S1) => some (false, S1)
  | none => none
def fOr (f g : FB) : FB := fun ρ S => match f ρ S with
  | some (false, S1) => g ρ S1
  | some (true, S1) => some (true, S1)
  | none => none
def fNot (f : FB) : FB := fun ρ S => match f ρ S with
  | some (b, S1) => some (!b, S1)
  | none => none
def bE (f : FB) : FE := fun ρ S => match f ρ S with
  | some (b, S1) => some (.bool b, S1)
  | none => none
def ifE (c : FB) (f g : FE) : FE := fun ρ S => match c ρ S with
  | some (true, S1) => f ρ S1
  | some (false, S1) => g ρ S1
  | none => none
/-- the test is a value's -/
def tW (C : Cf) (kd : Nat → Bool) (f : FB) : TE := tF C kd (bE f)
section
variable {X : Cx} {C : Cf} {kd : Nat → Bool} {a b : Expr} {rest : List Expr} {fa fb : FB} {pos : Pos}
theorem bE_of {f : FB} {ρ : Rho} {S S' : Src} {d : D} (h : bE f ρ S = some (d, S')) : ∃ b, f ρ S = some (b, S') ∧ d = .bool b := by
  unfold bE at h
  split at h
  · rename_i b S1 e
    cases h
    exact ⟨b, e, rfl⟩
  · cases h
theorem t_val {f : FE} (h : PE X a (tS C kd f)) (he : ∀ whole, isTrue a X.env whole = (do let v ← whole; standAt a.pos; holding [v] (truthy v)) := by intro _; rfl) : PT X a (tB C kd (tst f)) :=
  PT_imp (pt_val h he) fun σ H Q ⟨ow, ρ, S, d, S', R, e, k⟩ => ⟨ow, ρ, S, _, S', R, tst_of e, fun v H' k1 k2 k3 => ⟨d, k3.bl, k H' k1 k2⟩⟩
theorem t_not (h : PT X a (tB C kd fa)) : PT X (.UnaryOp .Not a pos) (tB C kd (fNot fa)) :=
  PT_imp (pt_not h) fun σ H Q ⟨ow, ρ, S, d, S', R, e, k⟩ => by
    unfold fNot at e
    split at e
    · rename_i b S1 e1
      cases e
      exact ⟨ow, ρ, S, b, _, R, e1, k⟩
    · cases e
theorem w_and1 (h : PT X a (tB C kd fa)) : PW X (.BoolOp .And [a] pos) (tB C kd fa) := pw_and1 h
theorem w_or1 (h : PT X a (tB C kd fa)) : PW X (.BoolOp .Or [a] pos) (tB C kd fa) := pw_or1 h
theorem PW_imp {e : Expr} {t t' : TT} (h : PW X e t) (i : ∀ σ H Q, t' σ H Q → t σ H Q) : PW X e t' := ⟨fun w pins s σ H Q I q => h.run w pins s σ H Q I (i σ H Q q)⟩
theorem w_and (h : PT X a (tB C kd fa)) (hb : PW X (.BoolOp .And (b :: rest) pos) (tB C kd fb)) : PW X (.BoolOp .And (a :: b :: rest) pos) (tB C kd (fAnd fa fb)) :=
  PW_imp (pw_and h hb) fun σ H Q ⟨ow, ρ, S, d, S', R, e, k⟩ => by
    unfold fAnd at e
    split at e
    · rename_i S1 e1
      refine ⟨ow, ρ, S, true, S1, R, e1, fun H1 k1 s1 => ?_⟩
      refine iteT ?_
      exact ⟨ow, ρ, S1, d, S', R.step k1 s1, e, fun H2 k2 s2 => k H2 (k1.trans k2) s2⟩
    · rename_i S1 e1
      cases e
      refine ⟨ow, ρ, S, false, _, R, e1, fun H1 k1 s1 => ?_⟩
      refine iteF ?_
      exact k H1 k1 s1
    · cases e
theorem w_or (h : PT X a (tB C kd fa)) (hb : PW X (.BoolOp .Or (b :: rest) pos) (tB C kd fb)) : PW X (.BoolOp .Or (a :: b :: rest) pos) (tB C kd (fOr fa fb)) :=
  PW_imp (pw_or h hb) fun σ H Q ⟨ow, ρ, S, d, S', R, e, k⟩ => by
    unfold fOr at e
    split at e
    · rename_i S1 e1
      refine ⟨ow, ρ, S, false, S1, R, e1, fun H1 k1 s1 => ?_⟩
      refine iteF ?_
      exact ⟨ow, ρ, S1, d, S', R.step k1 s1, e, fun H2 k2 s2 => k H2 (k1.trans k2) s2⟩
    · rename_i S1 e1
      cases e
      refine ⟨ow, ρ, S, true, _, R, e1, fun H1 k1 s1 => ?_⟩
      refine iteT ?_
      exact k H1 k1 s1
    · cases e
/-- bools by and, or, not as values -/
theorem v_of {f : FE} (h : PE X a (tF C kd f)) : PE X a (tW C kd (tst f)) :=
  PE_imp h fun σ H Q ⟨ow, ρ, S, d, S', R, e, k⟩ => by
    obtain ⟨b, e1, rfl⟩ := bE_of e
    exact ⟨ow, ρ, S, _, S', R, tst_of e1, k⟩
theorem v_ofS {f : FE} (h : PE X a (tS C kd f)) : PE X a (tW C kd (tst f)) :=
  PE_imp h fun σ H Q ⟨ow, ρ, S, d, S', R, e, k⟩ => by
    obtain ⟨b, e1, rfl⟩ := bE_of e
    refine ⟨ow, ρ, S, _, S', R, tst_of e1, fun v H' k1 k2 k3 => k v H' k1 k2 ?_ fun z => by cases z⟩
    rw [k3.bl, Rep]
theorem v_one {op} (h : PE X a (tW C kd fa)) : PE X (.BoolOp op [a] pos) (tW C kd fa) := pe_one h
theorem v_and (h : PE X a (tW C kd fa)) (hb : PE X (.BoolOp .And (b :: rest) pos) (tW C kd fb)) : PE X (.BoolOp .And (a :: b :: rest) pos) (tW C kd (fAnd fa fb)) :=
  PE_imp (pe_and h hb) fun σ H Q ⟨ow, ρ, S, d, S', R, e, k⟩ => by
    replace ⟨c, e, hd⟩ := bE_of e
    subst hd
    unfold fAnd at e
    split at e
    · rename_i S1 e1
      refine ⟨ow, ρ, S, .bool true, S1, R, by unfold bE; rw [e1], fun v H1 k1 s1 r1 _ => ⟨true, by rw [Rep] at r1; exact r1, ?_⟩⟩
      refine iteT ?_
      exact ⟨ow, ρ, S1, .bool c, S', R.step k1 s1, by unfold bE; rw [e], fun v2 H2 k2 s2 r2 _ => k v2 H2 (k1.trans k2) s2 r2 fun z => by cases z⟩
    · rename_i S1 e1
      cases e
      refine ⟨ow, ρ, S, .bool false, _, R, by unfold bE; rw [e1], fun v H1 k1 s1 r1 _ => ⟨false, by rw [Rep] at r1; exact r1, ?_⟩⟩
      refine iteF ?_
      exact k _ H1 k1 s1 (by rw [Rep]) fun z => by cases z
    · cases e
theorem v_or (h : PE X a (tW C kd fa)) (hb : PE X (.BoolOp .Or (b :: rest) pos) (tW C kd fb)) : PE X (.BoolOp .Or (a :: b :: rest) pos) (tW C kd (fOr fa fb)) :=
  PE_imp (pe_or h hb) fun σ H Q ⟨ow, ρ, S, d, S', R, e, k⟩ => by
    replace ⟨c, e, hd⟩ := bE_of e
    subst hd
    unfold fOr at e
    split at e
    · rename_i S1 e1
      refine ⟨ow, ρ, S, .bool false, S1, R, by unfold bE; rw [e1], fun v H1 k1 s1 r1 _ => ⟨false, by rw [Rep] at r1; exact r1, ?_⟩⟩
      refine iteF ?_
      exact ⟨ow, ρ, S1, .bool c, S', R.step k1 s1, by unfold bE; rw [e], fun v2 H2 k2 s2 r2 _ => k v2 H2 (k1.trans k2) s2 r2 fun z => by cases z⟩
    · rename_i S1 e1
      cases e
      refine ⟨ow, ρ, S, .bool true, _, R, by unfold bE; rw [e1], fun v H1 k1 s1 r1 _ => ⟨true, by rw [Rep] at r1; exact r1, ?_⟩⟩
      refine iteT ?_
      exact k _ H1 k1 s1 (by rw [Rep]) fun z => by cases z
    · cases e
theorem v_not (h : PE X a (tW C kd fa)) : PE X (.UnaryOp .Not a pos) (tW C kd (fNot fa)) :=
  PE_imp (pe_not h) fun σ H Q ⟨ow, ρ, S, d, S', R, e, k⟩ => by
    replace ⟨c, e, hd⟩ := bE_of e
    subst hd
    unfold fNot at e
    split at e
    · rename_i b S1 e1
      cases e
      exact ⟨ow, ρ, S, .bool b, _, R, by unfold bE; rw [e1], fun v H1 k1 s1 r1 _ => ⟨b, by rw [Rep] at r1; exact r1, k _ H1 k1 s1 (by rw [Rep]) fun z => by cases z⟩⟩
    · cases e
theorem x_if {c : Expr} {fc : FB} {f g : FE} (hc : PT X c (tB C kd fc)) (ha : PE X a (tX C kd f)) (hb : PE X b (tX C kd g)) : PE X (.IfExp c a b pos) (tX C kd (ifE fc f g)) :=
  PE_imp (pe_ifExp hc ha hb) fun σ H Q ⟨ow, ρ, S, d, S', R, e, k⟩ => by
    unfold ifE at e
    split at e
    · rename_i S1 e1
      refine ⟨ow, ρ, S, true, S1, R, e1, fun H1 k1 s1 => ?_⟩
      refine iteT ?_
      exact ⟨ow, ρ, S1, d, S', R.step k1 s1, e, fun v H2 k2 s2 r => k v H2 (k1.trans k2) s2 r⟩
    · rename_i S1 e1
      refine ⟨ow, ρ, S, false, S1, R, e1, fun H1 k1 s1 => ?_⟩
      refine iteF ?_
      exact ⟨ow, ρ, S1, d, S', R.step k1 s1, e, fun v H2 k2 s2 r => k v H2 (k1.trans k2) s2 r⟩
    · cases e
theorem x_ifS {c : Expr} {fc : FB} {f g : FE} (hc : PT X c (tB C kd fc)) (ha : PE X a (tS C kd f)) (hb : PE X b (tS C kd g)) : PE X (.IfExp c a b pos) (tS C kd (ifE fc f g)) :=
  PE_imp (pe_ifExp hc ha hb) fun σ H Q ⟨ow, ρ, S, d, S', R, e, k⟩ => by
    unfold ifE at e
    split at e
    · rename_i S1 e1
      refine ⟨ow, ρ, S, true, S1, R, e1, fun H1 k1 s1 => ?_⟩
      refine iteT ?_
      exact ⟨ow, ρ, S1, d, S', R.step k1 s1, e, fun v H2 k2 s2 r => k v H2 (k1.trans k2) s2 r⟩
    · rename_i S1 e1
      refine ⟨ow, ρ, S, false, S1, R, e1, fun H1 k1 s1 => ?_⟩
      refine iteF ?_
      exact ⟨ow, ρ, S1, d, S', R.step k1 s1, e, fun v H2 k2 s2 r => k v H2 (k1.trans k2) s2 r⟩
    · cases e
theorem x_ifF {c : Expr} {fc : FB} {f g : FE} (hc : PT X c (tB C kd fc)) (ha : PE X a (tF C kd f)) (hb : PE X b (tF C kd g)) : PE X (.IfExp c a b pos) (tF C kd (ifE fc f g)) :=
  PE_imp (pe_ifExp hc ha hb) fun σ H Q ⟨ow, ρ, S, d, S', R, e, k⟩ => by
    unfold ifE at e
    have back : ∀ {H1 : Hp} {S1 : Src}, Kp C.foot H H1 → SrcOk C S1 H1 → ∀ {v : V} {H2 : Hp}, New (ZO C ow) H1 H2 d v → New (ZO C ow) H H2 d v := by
      intro H1 S1 k1 s1 v H2 fr m
      obtain ⟨a, e1, e2, e3⟩ := fr m
      exact ⟨a, e1, R.back k1 s1 e2, e3⟩
    split at e
    · rename_i S1 e1
      refine ⟨ow, ρ, S, true, S1, R, e1, fun H1 k1 s1 => ?_⟩
      refine iteT ?_
      exact ⟨ow, ρ, S1, d, S', R.step k1 s1, e, fun v H2 k2 s2 r fr => k v H2 (k1.trans k2) s2 r (back k1 s1 fr)⟩
    · rename_i S1 e1
      refine ⟨ow, ρ, S, false, S1, R, e1, fun H1 k1 s1 => ?_⟩
      refine iteF ?_
      exact ⟨ow, ρ, S1, d, S', R.step k1 s1, e, fun v H2 k2 s2 r fr => k v H2 (k1.trans k2) s2 r (back k1 s1 fr)⟩
    · cases e
/-! ### is None -/
def isN : D → Bool
  | .none => true
  | _ => false
def dIsN (a b : D) : Option D := match b with
  | .none => some (.bool (isN a))
  | .bool c => (match a with | .bool d => some (.bool (decide (d = c))) | _ => none)
  | _ => none
def dNotN (a b : D) : Option D := match b with
  | .none => some (.bool (!isN a))
  | .bool c => (match a with | .bool d => some (.bool (!decide (d = c))) | _ => none)
  | _ => none
theorem RepS.non_iff {ow : Ow} {H : Hp} {d : D} {v : V} (h : RepS C ow H d v) : decide (v = .non) = isN d := by
  cases d with
  | none => rw [h.non]; rfl
  | bool b => rw [h.bl]; rfl
  | int i => rw [h.int]; rfl
  | str x => rw [h.str]; rfl
  | tuple ds => obtain ⟨a, vs, rfl, _⟩ := h.tup; rfl
  | list ds => obtain ⟨a, vs, rfl, _⟩ := h.lst; rfl
  | dict ds => obtain ⟨a, vs, rfl, _⟩ := h.dic; rfl
theorem o_is : OpR X (compareOp .Is) (rT true dIsN) := by
  intro pins s σ H x y v u Q I rx ry ⟨C, ow, a, b, d, fz, ha, hb, e, q⟩
  unfold dIsN at e
  split at e
  · cases e
    obtain rfl := hb.non
    refine op_isN pins s σ H _ _ v u Q I rx ry ⟨rfl, ?_⟩
    rw [ha.non_iff]
    exact q.atom (by rw [Rep])
  · split at e
    · cases e
      obtain rfl := ha.bl
      obtain rfl := hb.bl
      exact op_isBl pins s σ H _ _ v u Q I rx ry ⟨_, _, rfl, rfl, q.atom (by rw [Rep])⟩
    · cases e
  · cases e
theorem o_isnot : OpR X (compareOp .IsNot) (rT true dNotN) := by
  intro pins s σ H x y v u Q I rx ry ⟨C, ow, a, b, d, fz, ha, hb, e, q⟩
  unfold dNotN at e
  split at e
  · cases e
    obtain rfl := hb.non
    refine op_notN pins s σ H _ _ v u Q I rx ry ⟨rfl, ?_⟩
    rw [ha.non_iff]
    exact q.atom (by rw [Rep])
  · split at e
    · cases e
      obtain rfl := ha.bl
      obtain rfl := hb.bl
      exact op_notBl pins s σ H _ _ v u Q I rx ry ⟨_, _, rfl, rfl, q.atom (by rw [Rep])⟩
    · cases e
  · cases e
end

/-! ### defs -/
mutual
def imm : D → Bool
  | .tuple ds => immL ds
  | .list _ => false
  | .dict _ => false
  | .none => true
  | .bool _ => true
  | .int _ => true
  | .str _ => true
def immL : List D → Bool
  | [] => true
  | d :: ds => imm d && immL ds
end
mutual
theorem Rep.imm {H : Hp} {Z Z' : Zn} : ∀ {d : D} {v : V}, TL.imm d = true → Rep H Z d v → Rep H Z' d v
  | .none, _, _, h => by rw [Rep] at h ⊢; exact h
  | .bool _, _, _, h => by rw [Rep] at h ⊢; exact h
  | .int _, _, _, h => by rw [Rep] at h ⊢; exact h
  | .str _, _, _, h => by rw [Rep] at h ⊢; exact h
  | .tuple ds, _, m, h => by
    rw [TL.imm] at m
    rw [Rep] at h ⊢
    obtain ⟨a, vs, e, h1, h2⟩ := h
    exact ⟨a, vs, e, h1, RepL.imm m h2⟩
  | .list ds, _, m, _ => by rw [TL.imm] at m; cases m
  | .dict ds, _, m, _ => by rw [TL.imm] at m; cases m
theorem RepL.imm {H : Hp} {Z Z' : Zn} : ∀ {ds : List D} {vs : List V}, immL ds = true → RepL H Z ds vs → RepL H Z' ds vs
  | [], _, _, h => by rw [RepL] at h ⊢; exact h
  | d :: ds, _, m, h => by
    rw [immL, Bool.and_eq_true] at m
    rw [RepL] at h ⊢
    obtain ⟨w, ws, e, h1, h2⟩ := h
    exact ⟨w, ws, e, Rep.imm m.1 h1, RepL.imm m.2 h2⟩
end
theorem imm_mut {d : D} (h : imm d = true) : isMut d = false := by
  cases d <;> first | rfl | (rw [imm] at h; cases h)

structure FnG (P : Program) (w : World) (K : PySem.W.Frag) (mg : Str → Option Value) (base : Heap) (k : Nat) (f : Addr) (fd : FuncData) (ps : List Str) (sp : Sp) : Prop where
  len : ∀ vs H Q E, sp vs H Q E → vs.length = ps.length
  run : ∀ (A : Around) (outer : List Env) (s : Shared) (H : Hp) (args : Args) (us : List Value) (vs : List V) (Q : VK), A.guards = some [] → Room k A → Env0 P w K mg base A outer s H → BindsTo s fd args (ps.zip us) →
    Vals vs us → sp vs H Q E0 → codeAny (model P w) A (.call (.ref f) args) (CR CX0 outer P w H s Q E0) s
theorem FnG.mono {P : Program} {w : World} {K : PySem.W.Frag} {mg : Str → Option Value} {base : Heap} {j k : Nat} {f : Addr} {fd : FuncData} {ps : List Str} {sp : Sp} (F : FnG P w K mg base j f fd ps sp) (h : j ≤ k) : FnG P w K mg base k f fd ps sp :=
  ⟨F.len, fun A outer s H args us vs Q g r => F.run A outer s H args us vs Q g (r.mono h)⟩
/-- a def's promises: without and with the drawing object -/
def spP (n : Nat) (m : List D → Option D) : Sp := fun vs H Q _ => ∃ (Z : Zn) (ds : List D) (d : D), (∀ a, Z a → H a ≠ none) ∧ RepL H Z ds vs ∧ ds.length = n ∧ m ds = some d ∧ ∀ v H', Kp Z0 H H' → Rep H' Z d v → Q v H'
def spS (n : Nat) (m : List D → Src → Option (D × Src)) : Sp := fun vs H Q _ => ∃ (Z : Zn) (x c : Addr) (S : Src) (ds : List D) (ws : List V) (d : D) (S' : Src), vs = .ref x :: ws ∧ SrcAt H x c S ∧ Z x ∧ Z c ∧ (∀ a, Z a → H a ≠ none) ∧ RepL H Z ds ws ∧
  ds.length = n ∧ m ds S = some (d, S') ∧ ∀ v H', Kp (fun a => a = x ∨ a = c) H H' → SrcAt H' x c S' → Rep H' Z d v → Q v H'

section
variable {X : Cx} {C : Cf} {kd : Nat → Bool}
/-- f(..) of a def that is proved -/
theorem pe_callG {x : Str} {p pos : Pos} {e : Expr} {es : List Expr} {t : TA} {k : Nat} {f : Addr} {fd : FuncData} {ps : List Str} {sp : Sp} (F : FnG X.prog X.w X.K X.mg X.base k f fd ps sp) (gd : X.A.guards = some []) (hr : Room k X.A) (hg : Gl X x) (hm : X.mg x = some (.ref f))
    (hk : PySem.W.keepIn X.K (.ref f) = true) (hb : Binds X.K fd ps []) (ha : PA X (e :: es) t) (hdb : (x == ("__debug__" : Str)) = false := by decide)
    (he : starEach (e :: es) X.env = (false, eval e X.env) :: starEach es X.env := by rfl) (hpl : (backTo pos (starEach es X.env)).any (·.1) = false := by rfl) :
    PE X (.Call (.Name x p) (e :: es) [] pos) (fun σ H Q => t σ H fun vs H1 => sp vs H1 Q E0) := by
  constructor
  intro pins s σ H Q I h
  apply wpAny_Call_Name_kw
  apply ld_glob I hg hm _ hdb
  apply PySem.W.callWith_K (h₀ := X.base) I.ok.mod.kin hk _ he hpl
  apply thn (ha.run pos pins s σ H _ I h)
  rintro us s1 ⟨vs, H1, I1, r, q⟩
  refine ⟨I1.kIn, wpAny_call (codeAny_mono (F.run X.A X.stack s1 H1 ⟨us, []⟩ us vs Q gd hr I1.env0 ?_ r q) ?_)⟩
  · have b := hb s1 us I1.kIn (by rw [List.append_nil, ← r.length]; exact F.len _ _ _ _ q)
    rw [List.append_nil] at b
    exact b
  · intro res s' hq
    match res, hq with
    | .ok (.ret u), hq => exact I1.after hq
    | .ok .next, hq => exact hq.elim
    | .ok .brk, hq => exact hq.elim
    | .ok .cont, hq => exact hq.elim
    | .error _, hq => exact hq.elim
variable {x : Str} {p pos : Pos} {e : Expr} {es : List Expr} {k : Nat} {f : Addr} {fd : FuncData} {ps : List Str} {n : Nat} {g : FA}
theorem x_callP {m : List D → Option D} (F : FnG X.prog X.w X.K X.mg X.base k f fd ps (spP n m)) (gd : X.A.guards = some []) (hr : Room k X.A) (hg : Gl X x) (hm : X.mg x = some (.ref f))
    (hk : PySem.W.keepIn X.K (.ref f) = true) (hb : Binds X.K fd ps []) (ha : PA X (e :: es) (tAX C kd n g)) (hdb : (x == ("__debug__" : Str)) = false := by decide)
    (he : starEach (e :: es) X.env = (false, eval e X.env) :: starEach es X.env := by rfl) (hpl : (backTo pos (starEach es X.env)).any (·.1) = false := by rfl) :
    PE X (.Call (.Name x p) (e :: es) [] pos) (tX C kd (cN m g)) :=
  PE_imp (pe_callG F gd hr hg hm hk hb ha hdb he hpl) fun σ H Q ⟨ow, ρ, S, d, S', R, e, q⟩ => by
    obtain ⟨ds, e1, e2⟩ := cN_of e
    refine ⟨ow, ρ, S, ds, S', R, e1, fun vs H1 k1 s1 r1 hn => ?_⟩
    have R1 := R.step k1 s1
    exact ⟨ZO C ow, ds, d, fun a z => R1.there z, r1, hn, e2, fun v H' k2 r2 => q v H' (k1.trans k2.z0) (s1.kp k2) r2⟩
theorem RepSL.out {ow : Ow} {H : Hp} : ∀ {ds : List D} {vs : List V}, RepSL C ow H ds vs → RepL H C.Z ds vs
  | [], vs, h => by
    have h : vs = [] := h
    subst h
    exact .nil
  | _ :: _, _, ⟨w, ws, e, h1, h2⟩ => by
    subst e
    exact .cons h1.out (RepSL.out h2)
/-- with a def's own lists among the arguments: what comes back has none -/
def cI (m : List D → Option D) (g : FA) : FE := fun ρ S => match g ρ S with
  | some (ds, S1) => (match m ds with
    | some d => if imm d = true then some (d, S1) else none
    | none => none)
  | none => none
theorem x_callI {m : List D → Option D} (F : FnG X.prog X.w X.K X.mg X.base k f fd ps (spP n m)) (gd : X.A.guards = some []) (hr : Room k X.A) (hg : Gl X x) (hm : X.mg x = some (.ref f))
    (hk : PySem.W.keepIn X.K (.ref f) = true) (hb : Binds X.K fd ps []) (ha : PA X (e :: es) (tA C kd n g)) (hdb : (x == ("__debug__" : Str)) = false := by decide)
    (he : starEach (e :: es) X.env = (false, eval e X.env) :: starEach es X.env := by rfl) (hpl : (backTo pos (starEach es X.env)).any (·.1) = false := by rfl) :
    PE X (.Call (.Name x p) (e :: es) [] pos) (tF C kd (cI m g)) :=
  PE_imp (pe_callG F gd hr hg hm hk hb ha hdb he hpl) fun σ H Q ⟨ow, ρ, S, d, S', R, e, q⟩ => by
    unfold cI at e
    split at e
    · rename_i ds S1 e1
      split at e
      · rename_i d' e2
        split at e
        · rename_i hi
          cases e
          refine ⟨ow, ρ, S, ds, _, R, e1, fun vs H1 k1 s1 r1 hn => ?_⟩
          have R1 := R.step k1 s1
          exact ⟨C.Z, ds, d, fun a z => R1.there (.inl z), r1.out, hn, e2, fun v H' k2 r2 => q v H' (k1.trans k2.z0) (s1.kp k2) (r2.imm hi) fun z => by rw [imm_mut hi] at z; cases z⟩
        · cases e
      · cases e
    · cases e
/-- the drawing object as the first argument -/
def tAS (C : Cf) (kd : Nat → Bool) (n : Nat) (g : FA) : TA := fun σ H Q => ∃ ow ρ S ds S' p, C.src = some p ∧ Rel C kd ow σ ρ S H ∧ g ρ S = some (ds, S') ∧
  ∀ vs H', Kp C.foot H H' → SrcOk C S' H' → RepL H' (ZO C ow) ds vs → ds.length = n → Q (.ref p.1 :: vs) H'
theorem as_cons {e : Expr} {es : List Expr} {g : FA} {n : Nat} (hs : C.src ≠ none) (h0 : PE X e (tVar C.sx)) (hr : PA X es (tAX C kd n g)) (he : starEach (e :: es) X.env = (false, eval e X.env) :: starEach es X.env := by rfl) :
    PA X (e :: es) (tAS C kd n g) := PA_imp (pa_cons h0 hr he) fun σ H Q ⟨ow, ρ, S, ds, S', p, hp, R, e1, q⟩ => by
  exact ⟨_, (R.sr p hp).1, ow, ρ, S, ds, S', R, e1, fun vs H' k1 s1 r1 hn => q vs H' k1 s1 r1 hn⟩
def cS (m : List D → Src → Option (D × Src)) (g : FA) : FE := fun ρ S => match g ρ S with
  | some (ds, S1) => m ds S1
  | none => none
theorem x_callS {m : List D → Src → Option (D × Src)} (F : FnG X.prog X.w X.K X.mg X.base k f fd ps (spS n m)) (hs : ∃ p, C.src = some p) (gd : X.A.guards = some []) (hr : Room k X.A) (hg : Gl X x) (hm : X.mg x = some (.ref f))
    (hk : PySem.W.keepIn X.K (.ref f) = true) (hb : Binds X.K fd ps []) (ha : PA X (e :: es) (tAS C kd n g)) (hdb : (x == ("__debug__" : Str)) = false := by decide)
    (he : starEach (e :: es) X.env = (false, eval e X.env) :: starEach es X.env := by rfl) (hpl : (backTo pos (starEach es X.env)).any (·.1) = false := by rfl) :
    PE X (.Call (.Name x p) (e :: es) [] pos) (tX C kd (cS m g)) :=
  PE_imp (pe_callG F gd hr hg hm hk hb ha hdb he hpl) fun σ H Q ⟨ow, ρ, S, d, S', R, e, q⟩ => by
    obtain ⟨pp, hp⟩ := hs
    unfold cS at e
    split at e
    · rename_i ds S1 e1
      refine ⟨ow, ρ, S, ds, S1, pp, hp, R, e1, fun vs H1 k1 s1 r1 hn => ?_⟩
      have R1 := R.step k1 s1
      have ft : ∀ a, (a = pp.1 ∨ a = pp.2) → C.foot a := fun a h => by unfold Cf.foot; rw [hp]; exact h
      have sa : SrcAt H1 pp.1 pp.2 S1 := by unfold SrcOk at s1; rw [hp] at s1; exact s1
      exact ⟨ZO C ow, pp.1, pp.2, S1, ds, vs, d, S', rfl, sa, R1.fz _ (ft _ (.inl rfl)), R1.fz _ (ft _ (.inr rfl)), fun a z => R1.there z, r1, hn, e, fun v H' k2 s2 r2 =>
        q v H' (k1.trans (k2.mono ft)) (by unfold SrcOk; rw [hp]; exact s2) r2⟩
    · cases e
end
end TL

set_option Elab.async false
set_option linter.all false
set_option maxRecDepth 100000
set_option maxHeartbeats 4000000
namespace TL
open PySem PySem.Spec PyProof.Rows L2

/-! ### what is walked -/
/-- J walks ds, while what stands outside Zk stands -/
def Walk (C : Cf) (ow : Ow) (H1 : Hp) (Zk : Zn) (J : It) (ds : List D) : Prop := ∀ i H2, Kp Zk H1 H2 →
  (i < ds.length → J.go i H2 ∧ ∀ x H3, J.yld i H2 x H3 → Kp Z0 H2 H3 ∧ ∃ d, ds[i]? = some d ∧ ∀ Z' : Zn, (∀ a, Z' a → ZO C ow a ∨ H1 a = none) → (∀ a, Zk a → Z' a) → Rep H3 Z' d x) ∧
  (ds.length ≤ i → J.stop i H2)
/-- st: the loop may change what a statement may change -/
def tI (C : Cf) (kd : Nat → Bool) (st : Bool) (f : FA) : TI := fun σ H R => ∃ ow ρ S ds S', Rel C kd ow σ ρ S H ∧ f ρ S = some (ds, S') ∧
  ∀ J H1, Kp C.foot H H1 → SrcOk C S' H1 → Walk C ow H1 (if st = true then chg C ow else C.foot) J ds → R J H1
section
variable {X : Cx} {C : Cf} {kd : Nat → Bool} {tg e : Expr}
theorem PI_imp {t t' : TI} (h : PI X tg e t) (i : ∀ σ H R, t' σ H R → t σ H R) : PI X tg e t' := ⟨fun pins s σ H R I q => h.run pins s σ H R I (i σ H R q)⟩
/-- a list or a tuple -/
def iSeq (K : PySem.W.Frag) (tl : TE) : TI := fun σ H R => tl σ H fun x H1 => ∃ a, x = .ref a ∧ ((∃ xs, SqL K H1 a xs ∧ R (Itl K a) H1) ∨ ∃ xs, SqT K H1 a xs ∧ R (Itt K a) H1)
theorem pi_seq {tl : TE} (hl : PE X e tl) : PI X tg e (iSeq X.K tl) := by
  constructor
  intro pins s σ H R I h
  apply thn (hl.run pins s σ H _ I h)
  rintro v s1 ⟨x, H1, I1, r1, a, rfl, q1⟩
  cases r1
  have fp : ∀ b ∈ [s1.heap.objs.size], FpOk X pins H1 b := fun b hb => by
    rw [List.mem_singleton] at hb
    rw [hb]
    exact I1.fpOk (Nat.le_refl _) I1.fresh
  rcases q1 with ⟨xs, hq, q⟩ | ⟨xs, hq, q⟩
  · obtain ⟨its, rv, p, hz⟩ := I1.list hq
    exact wpAny_pyIter_list p.isList ⟨_, [s1.heap.objs.size], _, _, H1, rfl, I1.kept (t' := s1.toks) fun b o z => Heap.get?_push_of_some _ z, turn_list a _, ⟨_, Heap.get?_push_size _ rfl, rfl, rfl⟩, fp, q⟩
  · obtain ⟨its, rv, p, hz⟩ := I1.tuple hq
    exact wpAny_pyIter_tuple (show s1.heap.IsTuple a its.toArray from p) ⟨_, [s1.heap.objs.size], _, _, H1, rfl, I1.kept (t' := s1.toks) fun b o z => Heap.get?_push_of_some _ z, turn_tuple a _, ⟨_, Heap.get?_push_size _ rfl, rfl, rfl⟩, fp, q⟩
def items : D → Option (List D)
  | .list ds => some ds
  | .tuple ds => some ds
  | _ => none
def iE (f : FE) : FA := fun ρ S => match f ρ S with
  | some (d, S1) => (match items d with
    | some ds => some (ds, S1)
    | none => none)
  | none => none
theorem iE_of {f : FE} {ρ : Rho} {S S' : Src} {ds : List D} (h : iE f ρ S = some (ds, S')) : ∃ d, f ρ S = some (d, S') ∧ items d = some ds := by
  unfold iE at h
  split at h
  · rename_i d S1 e1
    split at h
    · rename_i ds' e2
      cases h
      exact ⟨d, e1, e2⟩
    · cases h
  · cases h
theorem SqL.eqv {K : PySem.W.Frag} {H : Hp} {a : Addr} {xs : List V} (h : H a = some (.lst xs)) : SqL K H a xs := .of h
theorem walk_lst {K : PySem.W.Frag} {ow : Ow} {H1 : Hp} {Zk : Zn} {a : Addr} {vs : List V} {ds : List D} (h : H1 a = some (.lst vs)) (n : ¬ Zk a) (r : RepL H1 (ZO C ow) ds vs) : Walk C ow H1 Zk (Itl K a) ds := fun i H2 k => by
  have h2 := k.ob _ _ h n
  have hl := RepL.len r
  refine ⟨fun hi => ⟨⟨vs, vs[i]'(by omega), .of h2, List.getElem?_eq_getElem _⟩, fun x H3 y => ?_⟩, fun hi => ⟨vs, .of h2, by omega⟩⟩
  obtain ⟨rfl, y⟩ := y
  obtain ⟨d, e, q⟩ := r.got (y vs (.of h2))
  exact ⟨.refl, d, e, fun Z' h1 h2 => (q.more h1).kp (k.mono h2)⟩
theorem walk_tup {K : PySem.W.Frag} {ow : Ow} {H1 : Hp} {Zk : Zn} {a : Addr} {vs : List V} {ds : List D} (h : H1 a = some (.tup vs)) (r : RepL H1 (ZO C ow) ds vs) : Walk C ow H1 Zk (Itt K a) ds := fun i H2 k => by
  have h2 := k.tp _ _ h
  have hl := RepL.len r
  refine ⟨fun hi => ⟨⟨vs, vs[i]'(by omega), .of h2, List.getElem?_eq_getElem _⟩, fun x H3 y => ?_⟩, fun hi => ⟨vs, .of h2, by omega⟩⟩
  obtain ⟨rfl, y⟩ := y
  obtain ⟨d, e, q⟩ := r.got (y vs (.of h2))
  exact ⟨.refl, d, e, fun Z' h1 h2 => (q.more h1).kp (k.mono h2)⟩
/-- for x in e: a clean value -/
theorem i_seq {f : FE} {st : Bool} (h : PE X e (tX C kd f)) : PI X tg e (tI C kd st (iE f)) :=
  PI_imp (pi_seq h) fun σ H R ⟨ow, ρ, S, ds, S', r, e, k⟩ => by
    obtain ⟨d, e1, e2⟩ := iE_of e
    refine ⟨ow, ρ, S, d, S', r, e1, fun v H1 k1 s1 r1 => ?_⟩
    have R1 := r.step k1 s1
    cases d <;> first
      | (cases e2; done)
      | (cases e2
         rw [Rep] at r1
         obtain ⟨a, vs, rfl, h1, n, r2⟩ := r1
         refine ⟨a, rfl, .inl ⟨vs, .of h1, k _ _ k1 s1 (walk_lst h1 (fun z => n ?_) r2)⟩⟩
         split at z
         · exact R1.cz _ z
         · exact R1.fz _ z)
      | (cases e2
         rw [Rep] at r1
         obtain ⟨a, vs, rfl, h1, r2⟩ := r1
         exact ⟨a, rfl, .inr ⟨vs, .of h1, k _ _ k1 s1 (walk_tup h1 r2)⟩⟩)
/-- .. a def's own list, in a comprehension -/
theorem i_seqS {f : FE} (h : PE X e (tS C kd f)) : PI X tg e (tI C kd false (iE f)) :=
  PI_imp (pi_seq h) fun σ H R ⟨ow, ρ, S, ds, S', r, e, k⟩ => by
    obtain ⟨d, e1, e2⟩ := iE_of e
    refine ⟨ow, ρ, S, d, S', r, e1, fun v H1 k1 s1 r1 => ?_⟩
    have R1 := r.step k1 s1
    cases d <;> first
      | (cases e2; done)
      | (cases e2
         obtain ⟨a, vs, rfl, h1, n, r2⟩ := r1.lst
         exact ⟨a, rfl, .inl ⟨vs, .of h1, k _ _ k1 s1 (walk_lst h1 (fun z => n (R1.ft _ z)) r2)⟩⟩)
      | (cases e2
         obtain ⟨a, vs, rfl, h1, r2⟩ := r1.tup
         exact ⟨a, rfl, .inr ⟨vs, .of h1, k _ _ k1 s1 (walk_tup h1 r2)⟩⟩)
def upto (lo : Int) (n : Nat) : List D := (List.range n).map fun i => .int (lo + (i : Nat))
def iR1 (g : FA) : FA := fun ρ S => match g ρ S with
  | some ([.int j], S1) => if -(2 ^ 62) ≤ j ∧ j < 2 ^ 62 then some (upto 0 j.toNat, S1) else none
  | _ => none
def iR2 (g : FA) : FA := fun ρ S => match g ρ S with
  | some ([.int i, .int j], S1) => if -(2 ^ 62) ≤ i ∧ i < 2 ^ 62 ∧ -(2 ^ 62) ≤ j ∧ j < 2 ^ 62 then some (upto i (j - i).toNat, S1) else none
  | _ => none
theorem walk_rng {ow : Ow} {H1 : Hp} {Zk : Zn} {lo : Int} {n : Nat} : Walk C ow H1 Zk (Itr lo n) (upto lo n) := fun i H2 k => by
  have hl : (upto lo n).length = n := by unfold upto; rw [List.length_map, List.length_range]
  rw [hl]
  refine ⟨fun hi => ⟨hi, fun x H3 y => ?_⟩, fun hi => hi⟩
  obtain ⟨rfl, rfl⟩ := y
  refine ⟨.refl, .int (lo + (i : Nat)), ?_, fun Z' _ _ => by rw [Rep]⟩
  unfold upto
  rw [List.getElem?_map, List.getElem?_range hi]
  rfl
theorem i_rng1 {a : Expr} {g : FA} {p pos : Pos} {st : Bool} (hg : Gl X "range") (hm : X.mg "range" = none) (ha : PA X [a] (tA C kd 1 g)) (hs : starEach [a] X.env = [(false, eval a X.env)] := by rfl) : PI X tg (.Call (.Name "range" p) [a] [] pos) (tI C kd st (iR1 g)) :=
  PI_imp (pi_range1 hg hm ha hs) fun σ H R ⟨ow, ρ, S, ds, S', r, e, k⟩ => by
    unfold iR1 at e
    split at e
    · rename_i j S1 e1
      split at e
      · rename_i hj
        cases e
        refine ⟨ow, ρ, S, _, S', r, e1, fun vs H1 k1 s1 r1 _ => ?_⟩
        obtain ⟨w, rfl, hw⟩ := r1.one
        exact ⟨j, by rw [hw.int], hj.1, hj.2, k _ _ k1 s1 walk_rng⟩
      · cases e
    · cases e
theorem i_rng2 {a b : Expr} {g : FA} {p pos : Pos} {st : Bool} (hg : Gl X "range") (hm : X.mg "range" = none) (ha : PA X [a, b] (tA C kd 2 g)) (hs : starEach [a, b] X.env = [(false, eval a X.env), (false, eval b X.env)] := by rfl) (hs2 : starEach [b] X.env = [(false, eval b X.env)] := by rfl) :
    PI X tg (.Call (.Name "range" p) [a, b] [] pos) (tI C kd st (iR2 g)) :=
  PI_imp (pi_range2 hg hm ha hs hs2) fun σ H R ⟨ow, ρ, S, ds, S', r, e, k⟩ => by
    unfold iR2 at e
    split at e
    · rename_i i j S1 e1
      split at e
      · rename_i hj
        cases e
        refine ⟨ow, ρ, S, _, S', r, e1, fun vs H1 k1 s1 r1 _ => ?_⟩
        obtain ⟨w, x, rfl, hw, hx⟩ := r1.two
        exact ⟨i, j, by rw [hw.int, hx.int], hj, k _ _ k1 s1 walk_rng⟩
      · cases e
    · cases e
/-- enumerate of a clean list; zip of two -/
def enumD (n : Nat) : List D → List D
  | [] => []
  | d :: ds => .tuple [.int (n : Nat), d] :: enumD (n + 1) ds
theorem enumD_len : ∀ (ds : List D) (n : Nat), (enumD n ds).length = ds.length
  | [], _ => rfl
  | _ :: ds, n => by rw [enumD, List.length_cons, List.length_cons, enumD_len ds]
theorem enumD_get : ∀ (ds : List D) (n i : Nat) (d : D), ds[i]? = some d → (enumD n ds)[i]? = some (.tuple [.int ((n + i : Nat) : Int), d])
  | [], _, _, _, e => by simp at e
  | d :: ds, n, 0, _, e => by cases e; rfl
  | _ :: ds, n, i + 1, d, e => by
    rw [enumD]
    have := enumD_get ds (n + 1) i d (by simpa using e)
    rw [List.getElem?_cons_succ, this, Nat.add_right_comm, Nat.add_assoc]
def iEn (g : FA) : FA := fun ρ S => match g ρ S with
  | some ([.list ds], S1) => some (enumD 0 ds, S1)
  | _ => none
def iZp (g : FA) : FA := fun ρ S => match g ρ S with
  | some ([.list ds, .list es], S1) => some (List.zipWith (fun x y => .tuple [x, y]) ds es, S1)
  | _ => none
theorem walk_enum {K : PySem.W.Frag} {ow : Ow} {H1 : Hp} {Zk : Zn} {a : Addr} {vs : List V} {ds : List D} (h : H1 a = some (.lst vs)) (n : ¬ Zk a) (r : RepL H1 (ZO C ow) ds vs) : Walk C ow H1 Zk (Ite K a) (enumD 0 ds) := fun i H2 k => by
  have h2 := k.ob _ _ h n
  have hl := RepL.len r
  rw [enumD_len]
  refine ⟨fun hi => ⟨⟨vs, vs[i]'(by omega), .of h2, List.getElem?_eq_getElem _⟩, fun x H3 y => ?_⟩, fun hi => ⟨vs, .of h2, by omega⟩⟩
  obtain ⟨T, x', rfl, hT, rfl, y⟩ := y
  obtain ⟨d, e, q⟩ := r.got (y vs (.of h2))
  refine ⟨.upd hT, .tuple [.int ((0 + i : Nat) : Int), d], enumD_get ds 0 i d e, fun Z' h3 h4 => ?_⟩
  rw [Rep]
  refine ⟨T, _, rfl, upd_same, .cons ?_ (.cons (((q.more h3).kp (k.mono h4)).kp (.upd hT)) .nil)⟩
  rw [Rep, Nat.zero_add]
theorem walk_zip {K : PySem.W.Frag} {ow : Ow} {H1 : Hp} {Zk : Zn} {a b : Addr} {vs ws : List V} {ds es : List D} (h : H1 a = some (.lst vs)) (n : ¬ Zk a) (r : RepL H1 (ZO C ow) ds vs) (h' : H1 b = some (.lst ws)) (n' : ¬ Zk b) (r' : RepL H1 (ZO C ow) es ws) :
    Walk C ow H1 Zk (Itz K a b) (List.zipWith (fun x y => .tuple [x, y]) ds es) := fun i H2 k => by
  have h2 := k.ob _ _ h n
  have h2' := k.ob _ _ h' n'
  have hl := RepL.len r
  have hl' := RepL.len r'
  rw [List.length_zipWith]
  refine ⟨fun hi => ⟨⟨vs, ws, vs[i]'(by omega), ws[i]'(by omega), .of h2, .of h2', List.getElem?_eq_getElem _, List.getElem?_eq_getElem _⟩, fun x H3 y => ?_⟩, fun hi => ⟨vs, ws, .of h2, .of h2', by omega⟩⟩
  obtain ⟨T, x', y', rfl, hT, rfl, y1, y2⟩ := y
  obtain ⟨d, e, q⟩ := r.got (y1 vs (.of h2))
  obtain ⟨d', e', q'⟩ := r'.got (y2 ws (.of h2'))
  refine ⟨.upd hT, .tuple [d, d'], by rw [List.getElem?_zipWith, e, e'], fun Z' h3 h4 => ?_⟩
  rw [Rep]
  exact ⟨T, _, rfl, upd_same, .cons (((q.more h3).kp (k.mono h4)).kp (.upd hT)) (.cons (((q'.more h3).kp (k.mono h4)).kp (.upd hT)) .nil)⟩
theorem i_enum {a : Expr} {g : FA} {p pos tpos : Pos} {elts : List Expr} {kk : Nat} {st : Bool} (hg : Gl X "enumerate") (hm : X.mg "enumerate" = none) (ha : PA X [a] (tAX C kd 1 g)) (hs : starEach [a] X.env = [(false, eval a X.env)] := by rfl) :
    PI X (.Tuple elts kk tpos) (.Call (.Name "enumerate" p) [a] [] pos) (tI C kd st (iEn g)) :=
  PI_imp (pi_enum hg hm ha hs) fun σ H R ⟨ow, ρ, S, ds, S', r, e, k⟩ => by
    unfold iEn at e
    split at e
    · rename_i ds' S1 e1
      cases e
      refine ⟨ow, ρ, S, _, S', r, e1, fun vs H1 k1 s1 r1 _ => ?_⟩
      have R1 := r.step k1 s1
      rw [RepL] at r1
      obtain ⟨w, ws, rfl, h1, h2⟩ := r1
      rw [RepL] at h2
      subst h2
      rw [Rep] at h1
      obtain ⟨b, vs, rfl, h1, n, r2⟩ := h1
      refine ⟨b, vs, rfl, .of h1, k _ _ k1 s1 (walk_enum h1 (fun z => n ?_) r2)⟩
      split at z
      · exact R1.cz _ z
      · exact R1.fz _ z
    · cases e
theorem i_zip {a b : Expr} {g : FA} {p pos tpos : Pos} {elts : List Expr} {kk : Nat} {st : Bool} (hg : Gl X "zip") (hm : X.mg "zip" = none) (ha : PA X [a, b] (tAX C kd 2 g))
    (hs : starEach [a, b] X.env = (false, eval a X.env) :: starEach [b] X.env := by rfl) (hs2 : (backTo pos (starEach [b] X.env)).any (·.1) = false := by rfl) :
    PI X (.Tuple elts kk tpos) (.Call (.Name "zip" p) [a, b] [] pos) (tI C kd st (iZp g)) :=
  PI_imp (pi_zip hg hm ha hs hs2) fun σ H R ⟨ow, ρ, S, ds, S', r, e, k⟩ => by
    unfold iZp at e
    split at e
    · rename_i ds' es' S1 e1
      cases e
      refine ⟨ow, ρ, S, _, S', r, e1, fun vs H1 k1 s1 r1 _ => ?_⟩
      have R1 := r.step k1 s1
      rw [RepL] at r1
      obtain ⟨w, ws, rfl, h1, h2⟩ := r1
      rw [RepL] at h2
      obtain ⟨w2, ws2, rfl, h3, h4⟩ := h2
      rw [RepL] at h4
      subst h4
      rw [Rep] at h1 h3
      obtain ⟨b1, vs, rfl, h1, n, r2⟩ := h1
      obtain ⟨b2, us, rfl, h3, n', r3⟩ := h3
      have zz : ∀ {q : Addr}, ¬ ZO C ow q → ¬ (if st = true then chg C ow else C.foot) q := fun {q} nq z => nq (by
        split at z
        · exact R1.cz _ z
        · exact R1.fz _ z)
      exact ⟨b1, b2, vs, us, rfl, .of h1, .of h3, k _ _ k1 s1 (walk_zip h1 (zz n) r2 h3 (zz n') r3)⟩
    · cases e
end
end TL

set_option Elab.async false
set_option linter.all false
set_option maxRecDepth 100000
set_option maxHeartbeats 4000000
namespace TL
open PySem PySem.Spec PyProof.Rows L2

/-! ### targets -/
/-- σ' is σ but at some slots -/
def Out (is : List Nat) (σ σ' : L2.St) : Prop := σ'.length = σ.length ∧ ∀ j, j ∉ is → σ'[j]? = σ[j]?
abbrev FG := D → Rho → Option Rho
abbrev FGs := List D → Rho → Option Rho
def tG (C : Cf) (kd : Nat → Bool) (is : List Nat) (st : FG) : TG := fun v σ H Q => ∃ ow ρ S d ρ', Rel C kd ow σ ρ S H ∧ Rep H (ZO C ow) d v ∧ st d ρ = some ρ' ∧ ∀ σ', Rel C kd ow σ' ρ' S H → Out is σ σ' → Q σ' H
def tGs (C : Cf) (kd : Nat → Bool) (is : List Nat) (st : FGs) : TGs := fun vs σ H Q => ∃ ow ρ S ds ρ', Rel C kd ow σ ρ S H ∧ RepL H (ZO C ow) ds vs ∧ st ds ρ = some ρ' ∧ ∀ σ', Rel C kd ow σ' ρ' S H → Out is σ σ' → Q σ' H
def sN (i : Nat) : FG := fun d ρ => some (ρ.set i (some d))
def sT (g : FGs) : FG := fun d ρ => match d with
  | .tuple ds => g ds ρ
  | _ => none
def s0 : FGs := fun ds ρ => match ds with
  | [] => some ρ
  | _ => none
def sC (f : FG) (g : FGs) : FGs := fun ds ρ => match ds with
  | d :: ds => (match f d ρ with
    | some ρ' => g ds ρ'
    | none => none)
  | [] => none
theorem sC_len {f : FG} {g : FGs} {n : Nat} (hg : ∀ ds ρ ρ', g ds ρ = some ρ' → ds.length = n) : ∀ ds ρ ρ', sC f g ds ρ = some ρ' → ds.length = n + 1 := fun ds ρ ρ' e => by
  unfold sC at e
  split at e
  · split at e
    · rename_i q
      rw [List.length_cons, hg _ _ _ e]
    · cases e
  · cases e
theorem s0_len : ∀ ds ρ ρ', s0 ds ρ = some ρ' → ds.length = 0 := fun ds ρ ρ' e => by
  unfold s0 at e
  split at e
  · rfl
  · cases e
section
variable {X : Cx} {C : Cf} {kd : Nat → Bool} {ow : Ow} {σ : L2.St} {ρ : Rho} {S : Src} {H : Hp} {d : D} {v : V}
theorem Rel.set (R : Rel C kd ow σ ρ S H) {i : Nat} (hk : kd i = false) (h0 : i ≠ C.sx ∨ C.src = none) (r : Rep H (ZO C ow) d v) : Rel C kd ow (σ.set i (some v)) (ρ.set i (some d)) S H := by
  refine ⟨R.dom, R.ft, R.base, R.src, by rw [List.length_set, List.length_set, R.len], fun p hp => ?_, fun j e h1 h2 => ?_, fun j e h1 h2 => ?_, R.inj, R.dj, R.new⟩
  · rcases h0 with h0 | h0
    · obtain ⟨q1, q2⟩ := R.sr p hp
      exact ⟨by rw [List.getElem?_set_ne h0]; exact q1, by rw [List.getElem?_set_ne h0]; exact q2⟩
    · rw [h0] at hp; cases hp
  · by_cases hj : i = j
    · subst hj
      have hl : i < ρ.length := by
        rw [List.getElem?_set] at h2
        simp only [if_true] at h2
        split at h2
        · assumption
        · cases h2
      rw [List.getElem?_set_self hl] at h2
      cases h2
      exact ⟨v, by rw [List.getElem?_set_self (by rw [← R.len]; exact hl)], r⟩
    · rw [List.getElem?_set_ne hj] at h2 ⊢
      exact R.cl j e h1 h2
  · have hj : i ≠ j := fun z => by rw [z, h1] at hk; cases hk
    rw [List.getElem?_set_ne hj] at h2 ⊢
    exact R.own j e h1 h2
theorem Out.set {i : Nat} {x : Option V} : Out [i] σ (σ.set i x) := ⟨by rw [List.length_set], fun j hj => List.getElem?_set_ne fun z => hj (by rw [z]; exact List.mem_singleton.mpr rfl)⟩
theorem g_name {i : Nat} {e : Expr} (h : PG X e (gName i)) (hk : kd i = false := by rfl) (h0 : i ≠ C.sx ∨ C.src = none := by exact .inl (Nat.ne_of_beq_eq_false rfl)) : PG X e (tG C kd [i] (sN i)) :=
  ⟨fun pins s σ H v u Q I r ⟨ow, ρ, S, d, ρ', R, rp, e, k⟩ => by
    cases e
    exact h.run pins s σ H v u Q I r (k _ (R.set hk h0 rp) .set)⟩
theorem gs_nil : PGs X [] (tGs C kd [] s0) := ⟨fun pins s σ H vs us Q I r ⟨ow, ρ, S, ds, ρ', R, rp, e, k⟩ => by
  unfold s0 at e
  split at e
  · cases e
    rw [RepL] at rp
    exact pgs_nil.run pins s σ H vs us Q I r ⟨rp, k σ R ⟨rfl, fun _ _ => rfl⟩⟩
  · cases e⟩
theorem gs_cons {e : Expr} {es : List Expr} {f : FG} {g : FGs} {is js : List Nat} (h1 : PG X e (tG C kd is f)) (h2 : PGs X es (tGs C kd js g))
    (hs : (assignEach (e :: es) X.env).map (·.2) = assign e X.env :: (assignEach es X.env).map (·.2) := by rfl) : PGs X (e :: es) (tGs C kd (is ++ js) (sC f g)) :=
  ⟨fun pins s σ H vs us Q I r ⟨ow, ρ, S, ds, ρ', R, rp, e, k⟩ => by
    unfold sC at e
    split at e
    · rename_i d ds
      split at e
      · rename_i ρ1 e1
        rw [RepL] at rp
        obtain ⟨w, ws, rfl, r1, r2⟩ := rp
        refine (pgs_cons h1 h2 hs).run pins s σ H _ us Q I r ⟨w, ws, rfl, ow, ρ, S, d, ρ1, R, r1, e1, fun σ1 R1 o1 => ⟨ow, ρ1, S, ds, ρ', R1, r2, e, fun σ2 R2 o2 => k σ2 R2 ⟨o2.1.trans o1.1, fun j hj => ?_⟩⟩⟩
        rw [List.mem_append, not_or] at hj
        exact (o2.2 j hj.2).trans (o1.2 j hj.1)
      · cases e
    · cases e⟩
theorem g_tup {es : List Expr} {k0 : Nat} {pos : Pos} {g : FGs} {is : List Nat} {n : Nat} (hc : X.calm = true) (h : PGs X es (tGs C kd is g)) (hl : ∀ ds ρ ρ', g ds ρ = some ρ' → ds.length = n)
    (hn : (assignEach es X.env).length = n := by rfl) (hst : (assignEach es X.env).findIdx? (·.1) = none := by rfl) : PG X (.Tuple es k0 pos) (tG C kd is (sT g)) :=
  ⟨fun pins s σ H v u Q I r ⟨ow, ρ, S, d, ρ', R, rp, e, k⟩ => by
    unfold sT at e
    split at e
    · rename_i ds
      rw [Rep] at rp
      obtain ⟨a, vs, rfl, h1, r2⟩ := rp
      exact (pg_tup hc h hn hst).run pins s σ H _ u Q I r ⟨a, vs, rfl, .of h1, by rw [RepL.len r2]; exact hl _ _ _ e, ow, ρ, S, ds, ρ', R, r2, e, k⟩
    · cases e⟩
/-! ### wiped slots -/
def wipeR (ρ : Rho) : List Nat → Rho
  | [] => ρ
  | v :: vs => (wipeR ρ vs).set v none
theorem wipeR_len : ∀ vs : List Nat, (wipeR ρ vs).length = ρ.length
  | [] => rfl
  | v :: vs => by rw [wipeR, List.length_set, wipeR_len vs]
theorem wipeR_some {i : Nat} {x : D} : ∀ {vs : List Nat}, (wipeR ρ vs)[i]? = some (some x) → ρ[i]? = some (some x) ∧ i ∉ vs
  | [], h => ⟨h, by simp⟩
  | v :: vs, h => by
    rw [wipeR, List.getElem?_set] at h
    split at h
    · split at h <;> cases h
    · rename_i hn
      obtain ⟨h1, h2⟩ := wipeR_some h
      exact ⟨h1, by rw [List.mem_cons, not_or]; exact ⟨fun z => hn z.symm, h2⟩⟩
theorem wipeR_out {i : Nat} : ∀ {vs : List Nat}, i ∉ vs → (wipeR ρ vs)[i]? = ρ[i]?
  | [], _ => rfl
  | v :: vs, h => by
    rw [List.mem_cons, not_or] at h
    rw [wipeR, List.getElem?_set_ne (fun z => h.1 z.symm), wipeR_out h.2]
theorem Rel.wipe (R : Rel C kd ow σ ρ S H) {vs : List Nat} (h0 : C.sx ∉ vs ∨ C.src = none) : Rel C kd ow (wipe σ vs) (wipeR ρ vs) S H := by
  refine ⟨R.dom, R.ft, R.base, R.src, by rw [wipeR_len, wipe_length, R.len], fun p hp => ?_, fun j e h1 h2 => ?_, fun j e h1 h2 => ?_, R.inj, R.dj, R.new⟩
  · rcases h0 with h0 | h0
    · obtain ⟨q1, q2⟩ := R.sr p hp
      exact ⟨by rw [wipe_out h0]; exact q1, by rw [wipeR_out h0]; exact q2⟩
    · rw [h0] at hp; cases hp
  · obtain ⟨q, n⟩ := wipeR_some h2
    rw [wipe_out n]
    exact R.cl j e h1 q
  · obtain ⟨q, n⟩ := wipeR_some h2
    rw [wipe_out n]
    exact R.own j e h1 q
theorem wipe_set {i : Nat} : ∀ {vs : List Nat}, i ∈ vs → ∀ (σ : L2.St) (x : Option V), (wipe σ vs)[i]? = (if i < σ.length then some none else none)
  | [], h, _, _ => by simp at h
  | v :: vs, h, σ, x => by
    rw [L2.wipe, List.getElem?_set]
    by_cases hv : v = i
    · rw [if_pos hv, wipe_length, hv]
    · rw [if_neg hv]
      rcases List.mem_cons.mp h with z | z
      · exact absurd z.symm hv
      · exact wipe_set z σ x
theorem wipe_eq {vs : List Nat} {σ σ' : L2.St} (h : Out vs σ σ') : wipe σ' vs = wipe σ vs := by
  apply List.ext_getElem?
  intro i
  by_cases hi : i ∈ vs
  · rw [wipe_set hi σ none, wipe_set hi σ' none, h.1]
  · rw [wipe_out hi, wipe_out hi, h.2 i hi]
theorem wipe_wipe {vs : List Nat} {σ : L2.St} : wipe (wipe σ vs) vs = wipe σ vs := wipe_eq ⟨wipe_length σ vs, fun j hj => wipe_out hj⟩

/-! ### a list comprehension -/
def compL (st : FG) (t : FB) (e : FE) (ρ : Rho) : List D → Src → Option (List D × Src)
  | [], S => some ([], S)
  | d :: ds, S => match st d ρ with
    | some ρ1 => (match t ρ1 S with
      | some (true, S1) => (match e ρ1 S1 with
        | some (y, S2) => (match compL st t e ρ ds S2 with
          | some (ys, S3) => some (y :: ys, S3)
          | none => none)
        | none => none)
      | some (false, S1) => compL st t e ρ ds S1
      | none => none)
    | none => none
def lcE (vs : List Nat) (fI : FA) (st : FG) (t : FB) (e : FE) : FE := fun ρ S => match fI ρ S with
  | some (ds, S1) => if ds.length ≤ sizeLine then (match compL st t e (wipeR ρ vs) ds S1 with
    | some (ys, S2) => some (.list ys, S2)
    | none => none) else none
  | none => none
theorem lcE_of {vs : List Nat} {fI : FA} {st : FG} {t : FB} {e : FE} {ρ : Rho} {S S' : Src} {d : D} (h : lcE vs fI st t e ρ S = some (d, S')) :
    ∃ ds S1 ys, fI ρ S = some (ds, S1) ∧ ds.length ≤ sizeLine ∧ compL st t e (wipeR ρ vs) ds S1 = some (ys, S') ∧ d = .list ys := by
  unfold lcE at h
  split at h
  · rename_i ds S1 e1
    split at h
    · rename_i hl
      split at h
      · rename_i ys S2 e2
        cases h
        exact ⟨ds, S1, ys, e1, hl, e2, rfl⟩
      · cases h
    · cases h
  · cases h
theorem compL_of {st : FG} {t : FB} {e : FE} {ρ : Rho} {d : D} {ds ys : List D} {S S' : Src} (h : compL st t e ρ (d :: ds) S = some (ys, S')) : ∃ ρ1 b S1, st d ρ = some ρ1 ∧ t ρ1 S = some (b, S1) ∧
    (if b = true then ∃ y S2 ys', e ρ1 S1 = some (y, S2) ∧ compL st t e ρ ds S2 = some (ys', S') ∧ ys = y :: ys' else compL st t e ρ ds S1 = some (ys, S')) := by
  rw [compL] at h
  split at h
  · rename_i ρ1 e1
    split at h
    · rename_i S1 e2
      split at h
      · rename_i y S2 e3
        split at h
        · rename_i ys' S3 e4
          cases h
          exact ⟨ρ1, true, S1, e1, e2, iteT ⟨y, S2, ys', e3, e4, rfl⟩⟩
        · cases h
      · cases h
    · rename_i S1 e2
      exact ⟨ρ1, false, S1, e1, e2, iteF h⟩
    · cases h
  · cases h
def bT : FB := fun _ S => some (true, S)
theorem PTs_imp {ifs : List Expr} {t t' : TT} (h : PTs X ifs t) (i : ∀ σ H Q, t' σ H Q → t σ H Q) : PTs X ifs t' := ⟨fun pins s σ H Q I q => h.run pins s σ H Q I (i σ H Q q)⟩
theorem ts_nil : PTs X [] (tB C kd bT) := PTs_imp pts_nil fun σ H Q ⟨ow, ρ, S, b, S', R, e, k⟩ => by
  cases e
  exact k H .refl R.src
theorem ts_one {c : Expr} {f : FB} (h : PT X c (tB C kd f)) : PTs X [c] (tB C kd f) := pts_one h
/-- a list in the making -/
theorem Rel.make (R : Rel C kd ow σ ρ S H) {p : Addr} {o : HO} (hp : H p = none) (ho : Mut (some o)) : Rel C kd ⟨ow.sl, p :: ow.ex⟩ σ ρ S (upd H p o) := by
  have h1 : ∀ a, ZO C ⟨ow.sl, p :: ow.ex⟩ a → ZO C ow a ∨ H a = none := fun a z => by
    rcases z with z | z | z
    · exact .inl (.inl z)
    · exact .inl (.inr (.inl z))
    · rcases List.mem_cons.mp z with z | z
      · rw [z]; exact .inr hp
      · exact .inl (.inr (.inr z))
  have ku : Kp C.foot H (upd H p o) := .upd hp
  have ne : ∀ a, Own ow a → a ≠ p := fun a z q => by
    have m := (R.new a z).2
    rw [q, hp] at m
    exact m
  refine ⟨R.dom, R.ft, R.base.trans ku, R.src.upd hp, R.len, R.sr, fun i d k1 k2 => ?_, fun i d k1 k2 => ?_, R.inj, fun i a e z => ?_, fun a z => ?_⟩
  · obtain ⟨v, q, r⟩ := R.cl i d k1 k2
    exact ⟨v, q, (r.more h1).kp (.upd hp)⟩
  · obtain ⟨a, e1, q, r⟩ := R.own i d k1 k2
    refine ⟨a, e1, q, ?_⟩
    have na := ne a (.inl ⟨i, e1⟩)
    cases d <;> first
      | exact r.elim
      | (obtain ⟨vs, q1, q2⟩ := r
         exact ⟨vs, by rw [upd_ne na]; exact q1, (q2.more h1).kp (.upd hp)⟩)
      | (obtain ⟨vs, q1, q2⟩ := r
         refine ⟨vs, ?_, (RepV.more h1 q2).kp (.upd hp)⟩
         rcases q1 with ⟨kk, z1, z2, z3⟩ | ⟨kk, z1, z2, z3⟩
         · exact .inl ⟨kk, z1, z2, by rw [upd_ne na]; exact z3⟩
         · exact .inr ⟨kk, z1, z2, by rw [upd_ne na]; exact z3⟩)
  · rcases List.mem_cons.mp z with z | z
    · exact ne a (.inl ⟨i, e⟩) z
    · exact R.dj i a e z
  · have z' : a = p ∨ Own ow a := by
      rcases z with z | z
      · exact .inr (.inl z)
      · rcases List.mem_cons.mp z with z | z
        · exact .inl z
        · exact .inr (.inr z)
    rcases z' with z' | z'
    · subst z'
      refine ⟨?_, by rw [upd_same]; exact ho⟩
      cases q : C.H0 a with
      | none => rfl
      | some o' =>
        by_cases f : C.foot a
        · exact absurd hp (R.there (R.fz a f))
        · rw [R.base.ob a o' q f] at hp
          cases hp
    · exact ⟨(R.new a z').1, by rw [upd_ne (ne a z')]; exact (R.new a z').2⟩
/-- the list in the making grows -/
theorem Rel.grow (R : Rel C kd ow σ ρ S H) {p : Addr} {o : HO} (hp : p ∈ ow.ex) (ho : Mut (some o)) : Rel C kd ow σ ρ S (upd H p o) := by
  have m := (R.new p (.inr hp)).2
  have kz : Kp (ZO C ow) H (upd H p o) := Kp.wr (.inr (.inr hp)) (fun xs z => by rw [z] at m; exact m) fun o' u z => by rw [z] at m; exact m
  have nf : ¬ C.foot p := R.nf (.inr hp)
  have hb : ∀ a, C.H0 a ≠ none → a ≠ p := fun a z q => z (by rw [q]; exact (R.new p (.inr hp)).1)
  refine ⟨R.dom, R.ft, ⟨fun a o' e n => ?_, fun a xs e => ?_, fun a o' u e => ?_⟩, ?_, R.len, R.sr, fun i d k1 k2 => ?_, fun i d k1 k2 => ?_, R.inj, R.dj, fun a z => ⟨(R.new a z).1, ?_⟩⟩
  · rw [upd_ne (hb a (by rw [e]; exact fun z => nomatch z))]
    exact R.base.ob a o' e n
  · rw [upd_ne (hb a (by rw [e]; exact fun z => nomatch z))]
    exact R.base.tp a xs e
  · rw [upd_ne (hb a (by rw [e]; exact fun z => nomatch z))]
    exact R.base.fz a o' u e
  · have s := R.src
    unfold SrcOk at s ⊢
    unfold Cf.foot at nf
    cases q : C.src with
    | none => trivial
    | some p' =>
      rw [q] at s nf
      obtain ⟨n0, h1, h2, h3⟩ := s
      exact ⟨n0, by rw [upd_ne fun z => nf (.inl z.symm)]; exact h1, by rw [upd_ne fun z => nf (.inr z.symm)]; exact h2, h3⟩
  · obtain ⟨v, q, r⟩ := R.cl i d k1 k2
    exact ⟨v, q, r.kp kz⟩
  · obtain ⟨a, e1, q, r⟩ := R.own i d k1 k2
    have na : a ≠ p := fun z => R.dj i a e1 (by rw [z]; exact hp)
    exact ⟨a, e1, q, r.kp kz (fun _ z => z) fun o' z => by rw [upd_ne na]; exact z⟩
  · by_cases q : a = p
    · rw [q, upd_same]; exact ho
    · rw [upd_ne q]; exact (R.new a z).2
theorem lc_run {fI : FA} {st : FG} {ft : FB} {fe : FE} {is vs : List Nat} {Q : VK} (hz : C.sx ∉ vs ∨ C.src = none) (his : ∀ i ∈ is, i ∈ vs) (q : tF C kd (lcE vs fI st ft fe) σ H Q) : tLc (tI C kd false fI) (tG C kd is st) (tB C kd ft) (tX C kd fe) vs σ H Q := by
  obtain ⟨ow, ρ, S, d, S', R, e, k⟩ := q
  obtain ⟨ds, S1, ys, e1, hl, e2, rfl⟩ := lcE_of e
  refine ⟨ow, ρ, S, ds, S1, R, e1, fun J H1 k1 s1 W D hD => ?_⟩
  have R1 := R.step k1 s1
  have R2 := (R1.make (o := .lst []) hD trivial).wipe hz
  refine ⟨fun i m H2 => m = ds.length - i ∧ i ≤ ds.length ∧ ∃ S2 ys1 ys2 acc, ys = ys1 ++ ys2 ∧ compL st ft fe (wipeR ρ vs) (ds.drop i) S2 = some (ys2, S') ∧ Rel C kd ⟨ow.sl, D :: ow.ex⟩ (wipe σ vs) (wipeR ρ vs) S2 H2 ∧
    Kp C.foot H1 H2 ∧ H2 D = some (.lst acc) ∧ RepL H2 (ZO C ⟨ow.sl, D :: ow.ex⟩) ys1 acc ∧ acc.length ≤ i, ⟨ds.length, by simp, Nat.zero_le _, S1, [], ys, [], rfl, by rw [List.drop_zero]; exact e2, R2, .upd hD, upd_same, .nil, Nat.le_refl _⟩, ?_⟩
  rintro i m H2 ⟨rfl, hi, S2, ys1, ys2, acc, rfl, e3, R3, k2, hd, r3, ha⟩
  by_cases hlt : i < ds.length
  · obtain ⟨go, step⟩ := (W i H2 k2).1 hlt
    refine .inr ⟨go, fun H' => ∃ S2' ys1' ys2' acc', ys1 ++ ys2 = ys1' ++ ys2' ∧ compL st ft fe (wipeR ρ vs) (ds.drop (i + 1)) S2' = some (ys2', S') ∧ Rel C kd ⟨ow.sl, D :: ow.ex⟩ (wipe σ vs) (wipeR ρ vs) S2' H' ∧
      Kp C.foot H1 H' ∧ H' D = some (.lst acc') ∧ RepL H' (ZO C ⟨ow.sl, D :: ow.ex⟩) ys1' acc' ∧ acc'.length ≤ i + 1, fun H' hN => ⟨ds.length - (i + 1), by omega, rfl, hlt, hN⟩, fun x H3 y => ?_⟩
    obtain ⟨k3, d, ed, rd⟩ := step x H3 y
    have hdr : ds.drop i = d :: ds.drop (i + 1) := by
      obtain ⟨h, e'⟩ := List.getElem?_eq_some_iff.mp ed
      rw [← e', List.drop_eq_getElem_cons h]
    rw [hdr] at e3
    obtain ⟨ρ1, b, S3, e4, e5, e6⟩ := compL_of e3
    have R4 := R3.step k3.z0 (R3.src.kp k3)
    have rx : Rep H3 (ZO C ⟨ow.sl, D :: ow.ex⟩) d x := rd _ (fun a z => by
      rcases z with z | z | z
      · exact .inl (.inl z)
      · exact .inl (.inr (.inl z))
      · rcases List.mem_cons.mp z with z | z
        · rw [z]; exact .inr hD
        · exact .inl (.inr (.inr z))) fun a z => .inl (R.ft a z)
    refine ⟨⟨ow.sl, D :: ow.ex⟩, wipeR ρ vs, S2, d, ρ1, R4, rx, e4, fun σ2 R5 o2 => ⟨?_, ⟨ow.sl, D :: ow.ex⟩, ρ1, S2, b, S3, R5, e5, fun H4 k4 s4 => ?_⟩⟩
    · rw [wipe_eq (σ := wipe σ vs) ⟨o2.1, fun j hj => o2.2 j fun z => hj (his j z)⟩, wipe_wipe]
    have nD : ¬ C.foot D := fun f => R1.fresh hD (R1.fz D f)
    have R6 := R5.step k4 s4
    have k14 : Kp C.foot H1 H4 := (k2.trans k3.z0).trans k4
    have hd4 : H4 D = some (.lst acc) := k4.ob _ _ (k3.ob _ _ hd fun z => z) nD
    have r4 : RepL H4 (ZO C ⟨ow.sl, D :: ow.ex⟩) ys1 acc := (r3.kp k3.z0).kp (k4.mono R5.fz)
    cases b with
    | false =>
      refine iteF ?_
      have e6 : compL st ft fe (wipeR ρ vs) (ds.drop (i + 1)) S3 = some (ys2, S') := by simpa using e6
      exact ⟨S3, ys1, ys2, acc, rfl, e6, R4.step k4 s4, k14, hd4, r4, by omega⟩
    | true =>
      refine iteT ?_
      obtain ⟨y, S4, ys', e7, e8, rfl⟩ : ∃ y S2 ys', fe ρ1 S3 = some (y, S2) ∧ compL st ft fe (wipeR ρ vs) (ds.drop (i + 1)) S2 = some (ys', S') ∧ ys2 = y :: ys' := by simpa using e6
      refine ⟨⟨ow.sl, D :: ow.ex⟩, ρ1, S3, y, S4, R6, e7, fun w H5 k5 s5 r5 => ?_⟩
      have hd5 : H5 D = some (.lst acc) := k5.ob _ _ hd4 nD
      have R7 := (R4.step k4 s4).step k5 s5
      have kz : Kp (ZO C ⟨ow.sl, D :: ow.ex⟩) H5 (upd H5 D (.lst (acc ++ [w]))) := Kp.wr (.inr (.inr (List.mem_cons_self ..))) (fun xs z => by rw [hd5] at z; cases z) fun o u z => by rw [hd5] at z; cases z
      refine ⟨acc, hd5, Nat.lt_of_le_of_lt ha (Nat.lt_of_lt_of_le hlt hl), S4, ys1 ++ [y], ys', acc ++ [w], by rw [List.append_assoc]; rfl, e8, R7.grow (List.mem_cons_self ..) trivial, ?_, upd_same, ((r4.kp (k5.mono R6.fz)).app (.cons r5 .nil)).kp kz, by rw [List.length_append, List.length_singleton]; omega⟩
      have k15 := k14.trans k5
      exact ⟨fun a o z n => by rw [upd_ne (ne_of_none z hD)]; exact k15.ob a o z n, fun a xs z => by rw [upd_ne (ne_of_none z hD)]; exact k15.tp a xs z, fun a o u z => by rw [upd_ne (ne_of_none z hD)]; exact k15.fz a o u z⟩
  · have hie : i = ds.length := by omega
    subst hie
    rw [List.drop_length] at e3
    cases e3
    refine .inl ⟨(W _ H2 k2).2 (Nat.le_refl _), ?_⟩
    rw [List.append_nil] at k
    refine k _ H2 (k1.trans k2) R3.src ?_ fun _ => ⟨D, rfl, R.back k1 s1 hD, acc, hd, r3.less fun b z => ?_⟩
    rotate_left
    · rcases z with (z | z | z) | z
      · exact .inl z
      · exact .inr (.inl z)
      · exact .inr (.inr (List.mem_cons_of_mem _ z))
      · exact .inr (.inr (by rw [z]; exact List.mem_cons_self ..))
    rw [Rep]
    exact ⟨D, acc, rfl, hd, R1.fresh hD, r3.less fun a z => z.elim .inl fun z => z.elim (fun z => .inr (.inl z)) fun z => .inr (.inr (List.mem_cons_of_mem _ z))⟩
theorem x_lc {elt tg iter : Expr} {ifs : List Expr} {scope : Scope} {own : List (Str × Nat)} {pos : Pos} {fI : FA} {st : FG} {ft : FB} {fe : FE} {is : List Nat} (hc : X.calm = true) (hN : X.N.Nodup) (hi : PI X tg iter (tI C kd false fI)) (ok : BlkOk X.N X.env.scope scope own)
    (hz : C.sx ∉ own.map (·.2) ∨ C.src = none) (his : ∀ i ∈ is, i ∈ own.map (·.2))
    (hg : ∀ (s : Shared) (H : Hp) (A : Addr) (cl : List (Str × Addr)) (fp : List Addr), PG (X.blk s H scope (compEnvC scope cl A X.env) fp) tg (tG C kd is st)) (ht : ∀ (s : Shared) (H : Hp) (A : Addr) (cl : List (Str × Addr)) (fp : List Addr), PTs (X.blk s H scope (compEnvC scope cl A X.env) fp) ifs (tB C kd ft))
    (he : ∀ (s : Shared) (H : Hp) (A : Addr) (cl : List (Str × Addr)) (fp : List Addr), PE (X.blk s H scope (compEnvC scope cl A X.env) fp) elt (tX C kd fe)) (hs : ∀ x, foldedSetIterable iter X.env x = pure x := by intro _; rfl) :
    PE X (.ListComp elt [⟨tg, iter, ifs, 0⟩] scope pos) (tF C kd (lcE (own.map (·.2)) fI st ft fe)) :=
  PE_imp (pe_lc hc hN hi ok hg ht he hs) fun σ H Q q => lc_run hz his q
end
end TL

set_option Elab.async false
set_option linter.all false
set_option maxRecDepth 100000
set_option maxHeartbeats 4000000
namespace TL
open PySem PySem.Spec PyProof.Rows L2

inductive Res where
  | nx (ρ : Rho) (S : Src)
  | bk (ρ : Rho) (S : Src)
  | ct (ρ : Rho) (S : Src)
  | rt (d : D) (S : Src)
abbrev FS := Rho → Src → Option Res
/-- how things go on -/
structure Ev (C : Cf) (ow : Ow) (H : Hp) (ow' : Ow) (H' : Hp) : Prop where
  kp : Kp (chg C ow) H H'
  th : ∀ a, H a ≠ none → H' a ≠ none
  sl : ∀ i a, ow'.sl i = some a → H a ≠ none → ∃ j, ow.sl j = some a
  ex : ∀ b, b ∈ ow'.ex ↔ b ∈ ow.ex
section
variable {X : Cx} {C : Cf} {kb kd kd1 kd2 kd' : Nat → Bool} {ow ow1 ow2 ow' : Ow} {σ σ' : L2.St} {ρ : Rho} {S S' : Src} {H H1 H2 H' : Hp} {d : D} {v : V}
theorem Ev.refl : Ev C ow H ow H := ⟨.refl, fun _ h => h, fun i _ e _ => ⟨i, e⟩, fun _ => Iff.rfl⟩
theorem Ev.trans (a : Ev C ow H ow1 H1) (b : Ev C ow1 H1 ow2 H2) : Ev C ow H ow2 H2 := by
  refine ⟨⟨fun c o e n => b.kp.ob c o (a.kp.ob c o e n) fun z => ?_, fun c xs e => b.kp.tp c xs (a.kp.tp c xs e), fun c o u e => b.kp.fz c o u (a.kp.fz c o u e)⟩, fun c h => b.th c (a.th c h), fun i c z hc => ?_, fun c => (b.ex c).trans (a.ex c)⟩
  · rcases z with f | ⟨i, z⟩
    · exact n (.inl f)
    · exact n (.inr (a.sl i c z (by rw [e]; exact fun q => nomatch q)))
  · obtain ⟨j, e⟩ := b.sl i c z (a.th c hc)
    exact a.sl j c e hc
theorem Rel.ev (R : Rel C kd ow σ ρ S H) (k : Kp C.foot H H') (s : SrcOk C S' H') : Ev C ow H ow H' :=
  ⟨k.mono fun a f => .inl f, fun a h q => h (R.back k s q), fun i _ e _ => ⟨i, e⟩, fun _ => Iff.rfl⟩
/-- a clean value stays clean -/
theorem Ev.zo (e : Ev C ow H ow' H') : ∀ a, ZO C ow' a → ZO C ow a ∨ H a = none := fun a z => by
  by_cases h : H a = none
  · exact .inr h
  · rcases z with z | ⟨i, z⟩ | z
    · exact .inl (.inl z)
    · exact .inl (.inr (.inl (e.sl i a z h)))
    · exact .inl (.inr (.inr ((e.ex a).mp z)))
theorem Ev.rep (R : Rel C kd ow σ ρ S H) (e : Ev C ow H ow' H') (r : Rep H (ZO C ow) d v) : Rep H' (ZO C ow') d v :=
  ((r.more (Z' := fun a => ZO C ow a ∨ ZO C ow' a) fun a z => z.elim .inl (e.zo a)).kp (e.kp.mono fun a z => .inl (R.cz a z))).less fun a z => .inr z

def After (C : Cf) (kb kd' : Nat → Bool) (Dn : Ends) (ow : Ow) (H : Hp) : Res → Prop
  | .nx ρ' S' => ∀ σ' H' ow', Rel C kd' ow' σ' ρ' S' H' → Ev C ow H ow' H' → Dn.nx σ' H'
  | .bk ρ' S' => ∀ σ' H' ow', Rel C kb ow' σ' ρ' S' H' → Ev C ow H ow' H' → Dn.bk σ' H'
  | .ct ρ' S' => ∀ σ' H' ow', Rel C kb ow' σ' ρ' S' H' → Ev C ow H ow' H' → Dn.ct σ' H'
  | .rt d S' => ∀ v H', Kp C.foot C.H0 H' → SrcOk C S' H' → Rep H' C.Z d v → Dn.rt v H'
def tP (C : Cf) (kb kd kd' : Nat → Bool) (g : FS) : TS := fun Dn σ H => ∃ ow ρ S o, Rel C kd ow σ ρ S H ∧ g ρ S = some o ∧ After C kb kd' Dn ow H o
theorem After.ev {Dn : Ends} {o : Res} (e : Ev C ow H ow1 H1) (k : After C kb kd' Dn ow H o) : After C kb kd' Dn ow1 H1 o := by
  cases o with
  | nx ρ S => exact fun σ' H' ow' R q => k σ' H' ow' R (e.trans q)
  | bk ρ S => exact fun σ' H' ow' R q => k σ' H' ow' R (e.trans q)
  | ct ρ S => exact fun σ' H' ow' R q => k σ' H' ow' R (e.trans q)
  | rt d S => exact k
/-! ### blocks -/
def gN : FS := fun ρ S => some (.nx ρ S)
def gSeq (g h : FS) : FS := fun ρ S => match g ρ S with
  | some (.nx ρ1 S1) => h ρ1 S1
  | r => r
theorem p_nil : PSs X [] (tP C kb kd kd gN) := PSs_imp pss_nil fun Dn σ H ⟨ow, ρ, S, o, R, e, k⟩ => by
  cases e
  exact k σ H ow R .refl
theorem p_one {st : Stmt} {g : FS} (h : PS X st (tP C kb kd kd' g)) : PSs X [st] (tP C kb kd kd' g) := pss_one h
theorem p_cons {st : Stmt} {rest : List Stmt} {g h : FS} (h1 : PS X st (tP C kb kd kd1 g)) (h2 : PSs X rest (tP C kb kd1 kd2 h)) : PSs X (st :: rest) (tP C kb kd kd2 (gSeq g h)) :=
  PSs_imp (pss_cons h1 h2) fun Dn σ H ⟨ow, ρ, S, o, R, e, k⟩ => by
    unfold gSeq at e
    split at e
    · rename_i ρ1 S1 e1
      exact ⟨ow, ρ, S, _, R, e1, fun σ' H' ow' R' ev => ⟨ow', ρ1, S1, o, R', e, k.ev ev⟩⟩
    · rename_i r hr
      cases o with
      | nx ρ1 S1 => exact absurd e (hr ρ1 S1)
      | bk ρ1 S1 => exact ⟨ow, ρ, S, _, R, e, k⟩
      | ct ρ1 S1 => exact ⟨ow, ρ, S, _, R, e, k⟩
      | rt d S1 => exact ⟨ow, ρ, S, _, R, e, k⟩
def gBk : FS := fun ρ S => some (.bk ρ S)
def gCt : FS := fun ρ S => some (.ct ρ S)
theorem p_break {pos : Pos} : PS X (.Break pos) (tP C kd kd kd' gBk) := PS_imp ps_break fun Dn σ H ⟨ow, ρ, S, o, R, e, k⟩ => by
  cases e
  exact k σ H ow R .refl
theorem p_cont {pos : Pos} : PS X (.Continue pos) (tP C kd kd kd' gCt) := PS_imp ps_continue fun Dn σ H ⟨ow, ρ, S, o, R, e, k⟩ => by
  cases e
  exact k σ H ow R .refl
theorem p_pass {pos : Pos} : PS X (.Pass pos) (tP C kb kd kd gN) := PS_imp ps_pass fun Dn σ H ⟨ow, ρ, S, o, R, e, k⟩ => by
  cases e
  exact k σ H ow R .refl
/-- some slots are owned no longer -/
theorem Rel.freeze (R : Rel C kd ow σ ρ S H) (hk : ∀ i, kd2 i = true → kd i = true) : Rel C kd2 ⟨fun i => if kd2 i = true then ow.sl i else if kd i = true then none else ow.sl i, ow.ex⟩ σ ρ S H := by
  have hs : ∀ i a, (if kd2 i = true then ow.sl i else if kd i = true then none else ow.sl i) = some a → ow.sl i = some a := fun i a e => by
    split at e
    · exact e
    · split at e
      · cases e
      · exact e
  have less : ∀ a, ZO C ⟨fun i => if kd2 i = true then ow.sl i else if kd i = true then none else ow.sl i, ow.ex⟩ a → ZO C ow a := fun a z => by
    rcases z with z | ⟨i, z⟩ | z
    · exact .inl z
    · exact .inr (.inl ⟨i, hs i a z⟩)
    · exact .inr (.inr z)
  refine ⟨R.dom, R.ft, R.base, R.src, R.len, R.sr, fun i d h1 h2 => ?_, fun i d h1 h2 => ?_, fun i j a h1 h2 => R.inj i j a (hs i a h1) (hs j a h2), fun i a e => R.dj i a (hs i a e), fun a z => R.new a (z.elim (fun ⟨i, z⟩ => .inl ⟨i, hs i a z⟩) .inr)⟩
  · cases q : kd i with
    | false =>
      obtain ⟨v, e, r⟩ := R.cl i d q h2
      exact ⟨v, e, r.less less⟩
    | true =>
      obtain ⟨a, e1, e2, r⟩ := R.own i d q h2
      refine ⟨.ref a, e2, ?_⟩
      have na : ¬ ZO C ⟨fun i => if kd2 i = true then ow.sl i else if kd i = true then none else ow.sl i, ow.ex⟩ a := fun z => by
        rcases z with z | ⟨j, z⟩ | z
        · exact R.nz (.inl ⟨i, e1⟩) z
        · have hj := R.inj _ _ _ (hs j a z) e1
          subst hj
          simp only [h1, q] at z
          cases z
        · exact R.dj i a e1 z
      cases d <;> first
        | exact r.elim
        | (obtain ⟨vs, q1, q2⟩ := r
           rw [Rep]
           exact ⟨a, vs, rfl, q1, na, q2.less less⟩)
        | (obtain ⟨vs, q1, q2⟩ := r
           rw [Rep]
           exact ⟨a, vs, rfl, q1, na, RepV.less less q2⟩)
  · obtain ⟨a, e1, e2, r⟩ := R.own i d (hk i h1) h2
    refine ⟨a, by simp only [h1]; exact e1, e2, ?_⟩
    cases d <;> first
      | exact r.elim
      | (obtain ⟨vs, q1, q2⟩ := r
         exact ⟨vs, q1, q2.less less⟩)
      | (obtain ⟨vs, q1, q2⟩ := r
         exact ⟨vs, q1, RepV.less less q2⟩)
theorem p_freeze {sts : List Stmt} {g : FS} (hk : ∀ i, kd2 i = true → kd i = true) (h : PSs X sts (tP C kb kd2 kd' g)) : PSs X sts (tP C kb kd kd' g) :=
  PSs_imp h fun Dn σ H ⟨ow, ρ, S, o, R, e, k⟩ => by
    have ev : Ev C ow H ⟨fun i => if kd2 i = true then ow.sl i else if kd i = true then none else ow.sl i, ow.ex⟩ H := by
      refine ⟨.refl, fun _ h => h, fun i a q _ => ⟨i, ?_⟩, fun _ => Iff.rfl⟩
      have q : (if kd2 i = true then ow.sl i else if kd i = true then none else ow.sl i) = some a := q
      split at q
      · exact q
      · split at q
        · cases q
        · exact q
    exact ⟨_, ρ, S, o, R.freeze hk, e, k.ev ev⟩
/-! ### assignments -/
def gSet (i : Nat) (f : FE) : FS := fun ρ S => match f ρ S with
  | some (d, S1) => some (.nx (ρ.set i (some d)) S1)
  | none => none
theorem gSet_of {i : Nat} {f : FE} {o : Res} (h : gSet i f ρ S = some o) : ∃ d S1, f ρ S = some (d, S1) ∧ o = .nx (ρ.set i (some d)) S1 := by
  unfold gSet at h
  split at h
  · rename_i d S1 e
    cases h
    exact ⟨d, S1, e, rfl⟩
  · cases h
theorem p_set {st : Stmt} {i : Nat} {f : FE} (h : PS X st (tAsg (tX C kd f) (gName i))) (hk : kd i = false := by rfl) (h0 : i ≠ C.sx ∨ C.src = none := by exact .inl (Nat.ne_of_beq_eq_false rfl)) : PS X st (tP C kb kd kd (gSet i f)) :=
  PS_imp h fun Dn σ H ⟨ow, ρ, S, o, R, e, k⟩ => by
    obtain ⟨d, S1, e1, rfl⟩ := gSet_of e
    exact ⟨ow, ρ, S, d, S1, R, e1, fun v H' k1 s1 r1 => k _ H' ow ((R.step k1 s1).set hk h0 r1) (R.ev k1 s1)⟩
theorem asg_f2x {st : Stmt} {i : Nat} {f : FE} (h : PS X st (tAsg (tF C kd f) (gName i))) : PS X st (tAsg (tX C kd f) (gName i)) :=
  PS_imp h fun Dn σ H ⟨ow, ρ, S, d, S', R, e, k⟩ => ⟨ow, ρ, S, d, S', R, e, fun v H' k1 k2 k3 _ => k v H' k1 k2 k3⟩
theorem asg_lc {st : Stmt} {i : Nat} {fI : FA} {sg : FG} {ft : FB} {fe : FE} {is vs : List Nat} (h : PS X st (tAsg (tLc (tI C kd false fI) (tG C kd is sg) (tB C kd ft) (tX C kd fe) vs) (gName i))) (hz : C.sx ∉ vs ∨ C.src = none) (his : ∀ i ∈ is, i ∈ vs) :
    PS X st (tAsg (tF C kd (lcE vs fI sg ft fe)) (gName i)) := PS_imp h fun Dn σ H q => lc_run hz his q
/-- an own list or dict -/
def gOwn (i : Nat) (f : FE) : FS := fun ρ S => match f ρ S with
  | some (d, S1) => if isMut d = true then some (.nx (ρ.set i (some d)) S1) else none
  | none => none
theorem gOwn_of {i : Nat} {f : FE} {o : Res} (h : gOwn i f ρ S = some o) : ∃ d S1, f ρ S = some (d, S1) ∧ isMut d = true ∧ o = .nx (ρ.set i (some d)) S1 := by
  unfold gOwn at h
  split at h
  · rename_i d S1 e
    split at h
    · rename_i m
      cases h
      exact ⟨d, S1, e, m, rfl⟩
    · cases h
  · cases h
theorem Rel.setO (R : Rel C kd ow σ ρ S H) (k : Kp C.foot H H') (s : SrcOk C S' H') {i : Nat} (hk : kd i = true) (h0 : i ≠ C.sx ∨ C.src = none) (r : Rep H' (ZO C ow) d v) (m : isMut d = true) (n : New (ZO C ow) H H' d v) :
    ∃ ow', Rel C kd ow' (σ.set i (some v)) (ρ.set i (some d)) S' H' ∧ Ev C ow H ow' H' := by
  obtain ⟨a, rfl, ha, hs⟩ := n m
  have R' := R.step k s
  have hm : Mut (H' a) ∧ ¬ ZO C ow a := by
    cases d <;> first
      | (cases m; done)
      | (rw [Rep] at r
         obtain ⟨b, vs, e, q1, q2, _⟩ := r
         cases e
         rw [q1]
         exact ⟨trivial, q2⟩)
      | (rw [Rep] at r
         obtain ⟨b, vs, e, q1, q2, _⟩ := r
         cases e
         rcases q1 with ⟨kk, _, _, q1⟩ | ⟨kk, _, _, q1⟩ <;> (rw [q1]; exact ⟨trivial, q2⟩))
  have h00 : C.H0 a = none := by
    cases q : C.H0 a with
    | none => rfl
    | some o =>
      by_cases f : C.foot a
      · exact absurd ha (R.there (R.fz a f))
      · rw [R.base.ob a o q f] at ha
        cases ha
  -- outside and a
  have more : ∀ {d : D} {v : V}, Rep H (ZO C ow) d v → Rep H' (fun b => ZO C ow b ∨ b = a) d v := fun r => (r.more fun b z => z.elim .inl fun z => .inr (by rw [z]; exact ha)).kp (k.mono fun b f => .inl (R.fz b f))
  have zo : ∀ b, ZO C ⟨fun j => if j = i then some a else ow.sl j, ow.ex⟩ b → ZO C ow b ∨ b = a := fun b z => by
    rcases z with z | ⟨j, z⟩ | z
    · exact .inl (.inl z)
    · have z : (if j = i then some a else ow.sl j) = some b := z
      split at z
      · cases z; exact .inr rfl
      · exact .inl (.inr (.inl ⟨j, z⟩))
    · exact .inl (.inr (.inr z))
  refine ⟨⟨fun j => if j = i then some a else ow.sl j, ow.ex⟩, ⟨R'.dom, R'.ft, R'.base, R'.src, by rw [List.length_set, List.length_set, R.len], fun p hp => ?_, fun j e h1 h2 => ?_, fun j e h1 h2 => ?_, fun j l b h1 h2 => ?_, fun j b h1 h2 => ?_, fun b z => ?_⟩, ⟨k.mono fun b f => .inl f, fun b h q => h (R.back k s q), fun j b h1 h2 => ?_, fun _ => Iff.rfl⟩⟩
  · rcases h0 with h0 | h0
    · obtain ⟨q1, q2⟩ := R.sr p hp
      exact ⟨by rw [List.getElem?_set_ne h0]; exact q1, by rw [List.getElem?_set_ne h0]; exact q2⟩
    · rw [h0] at hp; cases hp
  · have hj : i ≠ j := fun z => by rw [← z, hk] at h1; cases h1
    rw [List.getElem?_set_ne hj] at h2 ⊢
    obtain ⟨v, q, r⟩ := R.cl j e h1 h2
    exact ⟨v, q, (more r).less zo⟩
  · by_cases hj : i = j
    · subst hj
      have hl : i < ρ.length := by
        rw [List.getElem?_set] at h2
        simp only [if_true] at h2
        split at h2
        · assumption
        · cases h2
      rw [List.getElem?_set_self hl] at h2
      cases h2
      refine ⟨a, by simp, by rw [List.getElem?_set_self (by rw [← R.len]; exact hl)], ?_⟩
      cases d <;> first
        | (cases m; done)
        | (obtain ⟨vs, q1, q2⟩ := hs
           exact ⟨vs, q1, q2.less zo⟩)
        | (obtain ⟨vs, q1, q2⟩ := hs
           exact ⟨vs, q1, RepV.less zo q2⟩)
    · rw [List.getElem?_set_ne hj] at h2 ⊢
      obtain ⟨b, q1, q2, r⟩ := R.own j e h1 h2
      refine ⟨b, by simp only [if_neg (fun z => hj z.symm : ¬ j = i)]; exact q1, q2, ?_⟩
      have hb : ∀ o, H b = some o → H' b = some o := fun o z => k.ob b o z (R.nf (.inl ⟨j, q1⟩))
      cases e <;> first
        | exact r.elim
        | (obtain ⟨vs, z1, z2⟩ := r
           exact ⟨vs, hb _ z1, ((z2.more (Z' := fun b => ZO C ow b ∨ b = a) fun b z => z.elim .inl fun z => .inr (by rw [z]; exact ha)).kp (k.mono fun b f => .inl (R.fz b f))).less zo⟩)
        | (obtain ⟨vs, z1, z2⟩ := r
           refine ⟨vs, ?_, RepV.less zo (RepV.kp (k.mono fun b f => .inl (R.fz b f)) (RepV.more (Z' := fun b => ZO C ow b ∨ b = a) (fun b z => z.elim .inl fun z => .inr (by rw [z]; exact ha)) z2))⟩
           rcases z1 with ⟨kk, y1, y2, y3⟩ | ⟨kk, y1, y2, y3⟩
           · exact .inl ⟨kk, y1, y2, hb _ y3⟩
           · exact .inr ⟨kk, y1, y2, hb _ y3⟩)
  · have h1 : (if j = i then some a else ow.sl j) = some b := h1
    have h2 : (if l = i then some a else ow.sl l) = some b := h2
    split at h1
    · split at h2
      · rename_i e1 e2; rw [e1, e2]
      · cases h1
        exact absurd (.inr (.inl ⟨l, h2⟩)) hm.2
    · split at h2
      · cases h2
        exact absurd (.inr (.inl ⟨j, h1⟩)) hm.2
      · exact R.inj j l b h1 h2
  · have h1 : (if j = i then some a else ow.sl j) = some b := h1
    split at h1
    · cases h1
      exact hm.2 (.inr (.inr h2))
    · exact R.dj j b h1 h2
  · rcases zo b (.inr z) with q | q
    · rcases q with q | q
      · rcases z with ⟨j, z⟩ | z
        · have z : (if j = i then some a else ow.sl j) = some b := z
          split at z
          · cases z
            exact ⟨h00, hm.1⟩
          · exact R'.new b (.inl ⟨j, z⟩)
        · exact R'.new b (.inr z)
      · exact R'.new b q
    · rw [q]
      exact ⟨h00, hm.1⟩
  · have h1 : (if j = i then some a else ow.sl j) = some b := h1
    split at h1
    · cases h1
      exact absurd ha h2
    · exact ⟨j, h1⟩
theorem p_own {st : Stmt} {i : Nat} {f : FE} (h : PS X st (tAsg (tF C kd f) (gName i))) (hk : kd i = true := by rfl) (h0 : i ≠ C.sx ∨ C.src = none := by exact .inl (Nat.ne_of_beq_eq_false rfl)) : PS X st (tP C kb kd kd (gOwn i f)) :=
  PS_imp h fun Dn σ H ⟨ow, ρ, S, o, R, e, k⟩ => by
    obtain ⟨d, S1, e1, m, rfl⟩ := gOwn_of e
    refine ⟨ow, ρ, S, d, S1, R, e1, fun v H' k1 s1 r1 n => ?_⟩
    obtain ⟨ow', R', ev⟩ := R.setO k1 s1 hk h0 r1 m n
    exact k _ H' ow' R' ev
end
end TL

set_option Elab.async false
set_option linter.all false
set_option maxRecDepth 100000
set_option maxHeartbeats 4000000
namespace TL
open PySem PySem.Spec PyProof.Rows L2

section
variable {X : Cx} {C : Cf} {kb kd kd1 kd2 kd' : Nat → Bool} {ow ow1 ow2 ow' : Ow} {σ σ' : L2.St} {ρ : Rho} {S S' : Src} {H H1 H2 H' : Hp} {d : D} {v : V}
/-! ### unpacking, two at once, return -/
def gUnp (st : FG) (f : FE) : FS := fun ρ S => match f ρ S with
  | some (d, S1) => (match st d ρ with
    | some ρ1 => some (.nx ρ1 S1)
    | none => none)
  | none => none
theorem p_unp {s : Stmt} {st : FG} {f : FE} {is : List Nat} (h : PS X s (tAsg (tX C kd f) (tG C kd is st))) : PS X s (tP C kb kd kd (gUnp st f)) :=
  PS_imp h fun Dn σ H ⟨ow, ρ, S, o, R, e, k⟩ => by
    unfold gUnp at e
    split at e
    · rename_i d S1 e1
      split at e
      · rename_i ρ1 e2
        cases e
        refine ⟨ow, ρ, S, d, S1, R, e1, fun v H' k1 s1 r1 => ?_⟩
        exact ⟨ow, ρ, S1, d, ρ1, R.step k1 s1, r1, e2, fun σ' R' _ => k σ' H' ow R' (R.ev k1 s1)⟩
      · cases e
    · cases e
/-- one of two values: own (new) or clean -/
def tZ (C : Cf) (kd : Nat → Bool) (o : Bool) (f : FE) : TE := fun σ H Q => ∃ ow ρ S d S', Rel C kd ow σ ρ S H ∧ f ρ S = some (d, S') ∧
  ∀ v H', Kp C.foot H H' → SrcOk C S' H' → Rep H' (ZO C ow) d v → (o = true → New (ZO C ow) H H' d v) → Q v H'
theorem z_own {e : Expr} {f : FE} (h : PE X e (tF C kd f)) : PE X e (tZ C kd true f) := PE_imp h fun σ H Q ⟨ow, ρ, S, d, S', R, e, k⟩ => ⟨ow, ρ, S, d, S', R, e, fun v H' k1 k2 k3 k4 => k v H' k1 k2 k3 fun _ => k4⟩
theorem z_cl {e : Expr} {f : FE} (h : PE X e (tX C kd f)) : PE X e (tZ C kd false f) := PE_imp h fun σ H Q ⟨ow, ρ, S, d, S', R, e, k⟩ => ⟨ow, ρ, S, d, S', R, e, fun v H' k1 k2 k3 => k v H' k1 k2 k3 fun z => by cases z⟩
def okM (o : Bool) (d : D) : Bool := !o || isMut d
theorem mut_of {Z : Zn} (m : isMut d = true) (r : Rep H Z d v) : ∃ a, v = .ref a ∧ Mut (H a) ∧ ¬ Z a := by
  cases d <;> first
    | (cases m; done)
    | (rw [Rep] at r
       obtain ⟨b, vs, rfl, q1, q2, _⟩ := r
       exact ⟨b, rfl, by rw [q1]; trivial, q2⟩)
    | (rw [Rep] at r
       obtain ⟨b, vs, rfl, q1, q2, _⟩ := r
       rcases q1 with ⟨kk, _, _, q1⟩ | ⟨kk, _, _, q1⟩ <;> exact ⟨b, rfl, by rw [q1]; trivial, q2⟩)
/-- a new thing stands apart -/
theorem Rel.exclude (R : Rel C kd ow σ ρ S H) (k : Kp C.foot H H') (s : SrcOk C S' H') {a : Addr} (ha : H a = none) (hm : Mut (H' a)) : Rel C kd ⟨ow.sl, a :: ow.ex⟩ σ ρ S' H' := by
  have R' := R.step k s
  have zo : ∀ b, ZO C ⟨ow.sl, a :: ow.ex⟩ b → ZO C ow b ∨ H b = none := fun b z => by
    rcases z with z | z | z
    · exact .inl (.inl z)
    · exact .inl (.inr (.inl z))
    · rcases List.mem_cons.mp z with z | z
      · rw [z]; exact .inr ha
      · exact .inl (.inr (.inr z))
  have kz : Kp (ZO C ⟨ow.sl, a :: ow.ex⟩) H H' := k.mono fun b f => .inl (R.ft b f)
  have ne : ∀ b, Own ow b → b ≠ a := fun b z q => by
    have m := (R.new b z).2
    rw [q, ha] at m
    exact m
  refine ⟨R'.dom, R'.ft, R'.base, R'.src, R'.len, R'.sr, fun j e h1 h2 => ?_, fun j e h1 h2 => ?_, R'.inj, fun j b h1 h2 => ?_, fun b z => ?_⟩
  · obtain ⟨v, q, r⟩ := R.cl j e h1 h2
    exact ⟨v, q, (r.more zo).kp kz⟩
  · obtain ⟨b, q1, q2, r⟩ := R.own j e h1 h2
    refine ⟨b, q1, q2, ?_⟩
    have hb : ∀ o, H b = some o → H' b = some o := fun o z => k.ob b o z (R.nf (.inl ⟨j, q1⟩))
    cases e <;> first
      | exact r.elim
      | (obtain ⟨vs, z1, z2⟩ := r
         exact ⟨vs, hb _ z1, (z2.more zo).kp kz⟩)
      | (obtain ⟨vs, z1, z2⟩ := r
         refine ⟨vs, ?_, RepV.kp kz (RepV.more zo z2)⟩
         rcases z1 with ⟨kk, y1, y2, y3⟩ | ⟨kk, y1, y2, y3⟩
         · exact .inl ⟨kk, y1, y2, hb _ y3⟩
         · exact .inr ⟨kk, y1, y2, hb _ y3⟩)
  · rcases List.mem_cons.mp h2 with z | z
    · exact ne b (.inl ⟨j, h1⟩) z
    · exact R'.dj j b h1 z
  · have z' : b = a ∨ Own ow b := by
      rcases z with z | z
      · exact .inr (.inl z)
      · exact (List.mem_cons.mp z).elim .inl fun z => .inr (.inr z)
    rcases z' with z' | z'
    · subst z'
      refine ⟨?_, hm⟩
      cases q : C.H0 b with
      | none => rfl
      | some o =>
        by_cases f : C.foot b
        · exact absurd ha (R.there (R.fz b f))
        · rw [R.base.ob b o q f] at ha
          cases ha
    · exact R'.new b z'
/-- .. and becomes a slot's -/
theorem Rel.adopt {sl : Nat → Option Addr} {ex ex' : List Addr} {a : Addr} (R : Rel C kd ⟨sl, ex⟩ σ ρ S H) (hx : ∀ b, b ∈ ex ↔ b = a ∨ b ∈ ex') (hn : a ∉ ex') {i : Nat} (hk : kd i = true) (h0 : i ≠ C.sx ∨ C.src = none) (m : isMut d = true) (hs : Sh C ⟨sl, ex⟩ H d a) :
    Rel C kd ⟨fun j => if j = i then some a else sl j, ex'⟩ (σ.set i (some (.ref a))) (ρ.set i (some d)) S H := by
  have zo : ∀ b, ZO C ⟨fun j => if j = i then some a else sl j, ex'⟩ b → ZO C ⟨sl, ex⟩ b := fun b z => by
    rcases z with z | ⟨j, z⟩ | z
    · exact .inl z
    · have z : (if j = i then some a else sl j) = some b := z
      split at z
      · cases z; exact .inr (.inr ((hx a).mpr (.inl rfl)))
      · exact .inr (.inl ⟨j, z⟩)
    · exact .inr (.inr ((hx b).mpr (.inr z)))
  refine ⟨R.dom, R.ft, R.base, R.src, by rw [List.length_set, List.length_set, R.len], fun p hp => ?_, fun j e h1 h2 => ?_, fun j e h1 h2 => ?_, fun j l b h1 h2 => ?_, fun j b h1 h2 => ?_, fun b z => ?_⟩
  · rcases h0 with h0 | h0
    · obtain ⟨q1, q2⟩ := R.sr p hp
      exact ⟨by rw [List.getElem?_set_ne h0]; exact q1, by rw [List.getElem?_set_ne h0]; exact q2⟩
    · rw [h0] at hp; cases hp
  · have hj : i ≠ j := fun z => by rw [← z, hk] at h1; cases h1
    rw [List.getElem?_set_ne hj] at h2 ⊢
    obtain ⟨v, q, r⟩ := R.cl j e h1 h2
    exact ⟨v, q, r.less zo⟩
  · by_cases hj : i = j
    · subst hj
      have hl : i < ρ.length := by
        rw [List.getElem?_set] at h2
        simp only [if_true] at h2
        split at h2
        · assumption
        · cases h2
      rw [List.getElem?_set_self hl] at h2
      cases h2
      refine ⟨a, by simp, by rw [List.getElem?_set_self (by rw [← R.len]; exact hl)], ?_⟩
      cases d <;> first
        | exact hs.elim
        | (obtain ⟨vs, q1, q2⟩ := hs
           exact ⟨vs, q1, q2.less zo⟩)
        | (obtain ⟨vs, q1, q2⟩ := hs
           exact ⟨vs, q1, RepV.less zo q2⟩)
    · rw [List.getElem?_set_ne hj] at h2 ⊢
      obtain ⟨b, q1, q2, r⟩ := R.own j e h1 h2
      refine ⟨b, by simp only [if_neg (fun z => hj z.symm : ¬ j = i)]; exact q1, q2, ?_⟩
      cases e <;> first
        | exact r.elim
        | (obtain ⟨vs, z1, z2⟩ := r
           exact ⟨vs, z1, z2.less zo⟩)
        | (obtain ⟨vs, z1, z2⟩ := r
           exact ⟨vs, z1, RepV.less zo z2⟩)
  · have h1 : (if j = i then some a else sl j) = some b := h1
    have h2 : (if l = i then some a else sl l) = some b := h2
    split at h1
    · split at h2
      · rename_i e1 e2; rw [e1, e2]
      · cases h1
        exact absurd ((hx a).mpr (.inl rfl)) (R.dj l a h2)
    · split at h2
      · cases h2
        exact absurd ((hx a).mpr (.inl rfl)) (R.dj j a h1)
      · exact R.inj j l b h1 h2
  · have h1 : (if j = i then some a else sl j) = some b := h1
    split at h1
    · cases h1
      exact hn h2
    · exact R.dj j b h1 ((hx b).mpr (.inr h2))
  · rcases z with ⟨j, z⟩ | z
    · have z : (if j = i then some a else sl j) = some b := z
      split at z
      · cases z
        exact R.new a (.inr ((hx a).mpr (.inl rfl)))
      · exact R.new b (.inl ⟨j, z⟩)
    · exact R.new b (.inr ((hx b).mpr (.inr z)))
/-- values that come one behind another for some slots: the new ones apart -/
def Made (C : Cf) (ow : Ow) (H : Hp) : List Bool → List D → List V → List Addr → Prop
  | [], ds, vs, as => ds = [] ∧ vs = [] ∧ as = []
  | false :: fl, ds, vs, as => ∃ d v ds' vs', ds = d :: ds' ∧ vs = v :: vs' ∧ Rep H (ZO C ow) d v ∧ Made C ow H fl ds' vs' as
  | true :: fl, ds, vs, as => ∃ d a ds' vs' as', ds = d :: ds' ∧ vs = .ref a :: vs' ∧ as = a :: as' ∧ isMut d = true ∧ Sh C ow H d a ∧ Made C ow H fl ds' vs' as'
def tAM (C : Cf) (kd : Nat → Bool) (fl : List Bool) (g : FA) : TA := fun σ H Q => ∃ ow ρ S ds S', Rel C kd ow σ ρ S H ∧ g ρ S = some (ds, S') ∧
  ∀ vs H' as ex, Kp C.foot H H' → (∀ b, b ∈ ex ↔ b ∈ as ∨ b ∈ ow.ex) → Rel C kd ⟨ow.sl, ex⟩ σ ρ S' H' → (∀ a ∈ as, H a = none) → as.Nodup → Made C ⟨ow.sl, ex⟩ H' fl ds vs as → Q vs H'
theorem m_nil : PA X [] (tAM C kd [] aN) := PA_imp pa_nil fun σ H Q ⟨ow, ρ, S, d, S', R, e, k⟩ => by
  cases e
  exact k [] H [] ow.ex .refl (fun b => by simp) R (fun a h => by simp at h) List.nodup_nil ⟨rfl, rfl, rfl⟩
def aM (f : FE) (g : FA) : FA := fun ρ S => match f ρ S with
  | some (d, S1) => if isMut d = true then (match g ρ S1 with
    | some (ds, S2) => some (d :: ds, S2)
    | none => none) else none
  | none => none
theorem m_cl {e : Expr} {es : List Expr} {f : FE} {g : FA} {fl : List Bool} (ha : PE X e (tX C kd f)) (hr : PA X es (tAM C kd fl g)) (hs : starEach (e :: es) X.env = (false, eval e X.env) :: starEach es X.env := by rfl) :
    PA X (e :: es) (tAM C kd (false :: fl) (aC f g)) := PA_imp (pa_cons ha hr hs) fun σ H Q ⟨ow, ρ, S, ds, S', R, e, k⟩ => by
  obtain ⟨d, S1, es', e1, e2, rfl⟩ := aC_of e
  refine ⟨ow, ρ, S, d, S1, R, e1, fun v H1 k1 s1 r1 => ?_⟩
  have R1 := R.step k1 s1
  refine ⟨ow, ρ, S1, es', S', R1, e2, fun vs H2 as ex k2 hx R2 hn nd mm => ?_⟩
  refine k _ H2 as ex (k1.trans k2) hx R2 (fun a ha => R.back k1 s1 (hn a ha)) nd ⟨d, v, es', vs, rfl, rfl, ?_, mm⟩
  refine (r1.more fun b z => ?_).kp (k2.mono fun b f => .inl (R.ft b f))
  rcases z with z | z | z
  · exact .inl (.inl z)
  · exact .inl (.inr (.inl z))
  · rcases (hx b).mp z with z | z
    · exact .inr (hn b z)
    · exact .inl (.inr (.inr z))
theorem m_own {e : Expr} {es : List Expr} {f : FE} {g : FA} {fl : List Bool} (ha : PE X e (tF C kd f)) (hr : PA X es (tAM C kd fl g)) (hs : starEach (e :: es) X.env = (false, eval e X.env) :: starEach es X.env := by rfl) :
    PA X (e :: es) (tAM C kd (true :: fl) (aM f g)) := PA_imp (pa_cons ha hr hs) fun σ H Q ⟨ow, ρ, S, ds, S', R, e, k⟩ => by
  unfold aM at e
  split at e
  · rename_i d S1 e1
    split at e
    · rename_i m
      split at e
      · rename_i es' S2 e2
        cases e
        refine ⟨ow, ρ, S, d, S1, R, e1, fun v H1 k1 s1 r1 n => ?_⟩
        obtain ⟨a, rfl, ha, hs⟩ := n m
        obtain ⟨a', e', hm, _⟩ := mut_of m r1
        cases e'
        have R1 := R.exclude k1 s1 ha hm
        refine ⟨⟨ow.sl, a :: ow.ex⟩, ρ, S1, es', _, R1, e2, fun vs H2 as ex k2 hx R2 hn nd mm => ?_⟩
        refine k _ H2 (a :: as) ex (k1.trans k2) (fun b => ?_) R2 (fun b hb => ?_) (List.nodup_cons.mpr ⟨fun z => ?_, nd⟩) ⟨d, a, es', vs, as, rfl, rfl, rfl, m, ?_, mm⟩
        · rw [hx b, List.mem_cons, List.mem_cons]
          exact ⟨fun z => z.elim (fun z => .inl (.inr z)) fun z => z.elim (fun z => .inl (.inl z)) .inr, fun z => z.elim (fun z => z.elim (fun z => .inr (.inl z)) .inl) fun z => .inr (.inr z)⟩
        · rcases List.mem_cons.mp hb with z | z
          · rw [z]; exact ha
          · exact R.back k1 s1 (hn b z)
        · rw [hn a z] at hm
          exact hm
        · have zo : ∀ b, ZO C ⟨ow.sl, ex⟩ b → (ZO C ow b ∨ b = a) ∨ H1 b = none := fun b z => by
            rcases z with z | z | z
            · exact .inl (.inl (.inl z))
            · exact .inl (.inl (.inr (.inl z)))
            · rcases (hx b).mp z with z | z
              · exact .inr (hn b z)
              · rcases List.mem_cons.mp z with z | z
                · exact .inl (.inr z)
                · exact .inl (.inl (.inr (.inr z)))
          have nf : ¬ C.foot a := fun f => R.there (R.fz a f) ha
          have kz : Kp (ZO C ⟨ow.sl, ex⟩) H1 H2 := k2.mono fun b f => .inl (R.ft b f)
          cases d <;> first
            | exact hs.elim
            | (obtain ⟨vs, q1, q2⟩ := hs
               exact ⟨vs, k2.ob _ _ q1 nf, (q2.more zo).kp kz⟩)
            | (obtain ⟨vs, q1, q2⟩ := hs
               refine ⟨vs, ?_, RepV.kp kz (RepV.more zo q2)⟩
               rcases q1 with ⟨kk, z1, z2, z3⟩ | ⟨kk, z1, z2, z3⟩
               · exact .inl ⟨kk, z1, z2, k2.ob _ _ z3 nf⟩
               · exact .inr ⟨kk, z1, z2, k2.ob _ _ z3 nf⟩)
      · cases e
    · cases e
  · cases e
def setV : List Nat → List V → L2.St → L2.St
  | i :: is, v :: vs, σ => setV is vs (σ.set i (some v))
  | _, _, σ => σ
def setD : List Nat → List D → Rho → Rho
  | i :: is, d :: ds, ρ => setD is ds (ρ.set i (some d))
  | _, _, ρ => ρ
theorem Made.less {sl : Nat → Option Addr} {ex : List Addr} {ow' : Ow} (h : ∀ b, ZO C ow' b → ZO C ⟨sl, ex⟩ b) : ∀ {fl : List Bool} {ds : List D} {vs : List V} {as : List Addr}, Made C ⟨sl, ex⟩ H fl ds vs as → Made C ow' H fl ds vs as
  | [], _, _, _, q => q
  | false :: _, _, _, _, ⟨d, v, ds', vs', e1, e2, r, q⟩ => ⟨d, v, ds', vs', e1, e2, r.less h, Made.less h q⟩
  | true :: _, _, _, _, ⟨d, a, ds', vs', as', e1, e2, e3, m, r, q⟩ => by
    refine ⟨d, a, ds', vs', as', e1, e2, e3, m, ?_, Made.less h q⟩
    cases d <;> first
      | exact r.elim
      | (obtain ⟨vs, q1, q2⟩ := r
         exact ⟨vs, q1, q2.less h⟩)
      | (obtain ⟨vs, q1, q2⟩ := r
         exact ⟨vs, q1, RepV.less h q2⟩)
theorem Made.assign : ∀ {fl : List Bool} {is : List Nat} {ds : List D} {vs : List V} {as : List Addr} {sl : Nat → Option Addr} {ex ex0 : List Addr} {σ : L2.St} {ρ : Rho}, Rel C kd ⟨sl, ex⟩ σ ρ S H → (∀ b, b ∈ ex ↔ b ∈ as ∨ b ∈ ex0) → (∀ a ∈ as, a ∉ ex0) → as.Nodup →
    Made C ⟨sl, ex⟩ H fl ds vs as → is.map kd = fl → (∀ i ∈ is, i ≠ C.sx ∨ C.src = none) →
    ∃ sl' ex', Rel C kd ⟨sl', ex'⟩ (setV is vs σ) (setD is ds ρ) S H ∧ (∀ b, b ∈ ex' ↔ b ∈ ex0) ∧ ∀ i a, sl' i = some a → sl i = some a ∨ a ∈ as
  | [], is, _, _, _, sl, ex, ex0, σ, ρ, R, hx, hn, nd, ⟨e1, e2, e3⟩, hm, _ => by
    subst e1 e2 e3
    have : is = [] := by
      cases is with
      | nil => rfl
      | cons i is => simp at hm
    subst this
    exact ⟨sl, ex, R, fun b => by rw [hx b]; simp, fun i a e => .inl e⟩
  | false :: fl, is, _, _, as, sl, ex, ex0, σ, ρ, R, hx, hn, nd, ⟨d, v, ds', vs', e1, e2, r, q⟩, hm, h0 => by
    subst e1 e2
    cases is with
    | nil => simp at hm
    | cons i is =>
      rw [List.map_cons, List.cons.injEq] at hm
      have h := Made.assign (fl := fl) (is := is) (ds := ds') (vs := vs') (R.set hm.1 (h0 i (List.mem_cons_self ..)) r) hx hn nd q hm.2 fun j hj => h0 j (List.mem_cons_of_mem _ hj)
      exact h
  | true :: fl, is, _, _, _, sl, ex, ex0, σ, ρ, R, hx, hn, nd, ⟨d, a, ds', vs', as', e1, e2, e3, m, r, q⟩, hm, h0 => by
    subst e1 e2 e3
    cases is with
    | nil => simp at hm
    | cons i is =>
      rw [List.map_cons, List.cons.injEq] at hm
      rw [List.nodup_cons] at nd
      have hna : a ∉ as' ++ ex0 := fun z => (List.mem_append.mp z).elim nd.1 (hn a (List.mem_cons_self ..))
      have R' := R.adopt (ex' := as' ++ ex0) (fun b => by rw [hx b, List.mem_cons, List.mem_append, or_assoc]) hna hm.1 (h0 i (List.mem_cons_self ..)) m r
      have less : ∀ b, ZO C ⟨fun j => if j = i then some a else sl j, as' ++ ex0⟩ b → ZO C ⟨sl, ex⟩ b := fun b z => by
        rcases z with z | ⟨j, z⟩ | z
        · exact .inl z
        · have z : (if j = i then some a else sl j) = some b := z
          split at z
          · cases z
            exact .inr (.inr ((hx a).mpr (.inl (List.mem_cons_self ..))))
          · exact .inr (.inl ⟨j, z⟩)
        · exact .inr (.inr ((hx b).mpr ((List.mem_append.mp z).elim (fun z => .inl (List.mem_cons_of_mem _ z)) .inr)))
      obtain ⟨sl', ex', R2, h2, h3⟩ := Made.assign (fl := fl) (is := is) (ds := ds') (vs := vs') R' (fun b => List.mem_append) (fun b hb => hn b (List.mem_cons_of_mem _ hb)) nd.2 (q.less less) hm.2 fun j hj => h0 j (List.mem_cons_of_mem _ hj)
      refine ⟨sl', ex', R2, h2, fun j b e => ?_⟩
      rcases h3 j b e with z | z
      · have z : (if j = i then some a else sl j) = some b := z
        split at z
        · cases z
          exact .inr (List.mem_cons_self ..)
        · exact .inl z
      · exact .inr (List.mem_cons_of_mem _ z)
theorem all_ne {is : List Nat} {n : Nat} {p : Prop} (h : is.all (fun i => !(Nat.beq i n)) = true) : ∀ i ∈ is, i ≠ n ∨ p := fun i hi => .inl fun e => by
  have q := List.all_eq_true.mp h i hi
  rw [e, Nat.beq_refl] at q
  cases q
def gPar (is : List Nat) (g : FA) : FS := fun ρ S => match g ρ S with
  | some (ds, S1) => some (.nx (setD is ds ρ) S1)
  | none => none
/-- several names at once: what the store is known to do -/
def tSto (is : List Nat) (ta : TA) : TS := fun Dn σ H => ta σ H fun vs H1 => Dn.nx (setV is vs σ) H1
theorem p_par {s : Stmt} {is : List Nat} {g : FA} {fl : List Bool} (h : PS X s (tSto is (tAM C kd fl g))) (hm : is.map kd = fl := by rfl) (h0 : ∀ i ∈ is, i ≠ C.sx ∨ C.src = none := by exact all_ne rfl) : PS X s (tP C kb kd kd (gPar is g)) :=
  PS_imp h fun Dn σ H ⟨ow, ρ, S, o, R, e, k⟩ => by
    unfold gPar at e
    split at e
    · rename_i ds S1 e1
      cases e
      refine ⟨ow, ρ, S, ds, S1, R, e1, fun vs H' as ex k1 hx R1 hn nd mm => ?_⟩
      have hd : ∀ a ∈ as, a ∉ ow.ex := fun a ha z => by
        have m := (R.new a (.inr z)).2
        rw [hn a ha] at m
        exact m
      obtain ⟨sl', ex', R2, h2, h3⟩ := mm.assign R1 hx hd nd hm h0
      refine k _ H' ⟨sl', ex'⟩ R2 ⟨k1.mono fun a f => .inl f, fun a h q => h (R.back k1 R1.src q), fun i a e h => ?_, h2⟩
      rcases h3 i a e with z | z
      · exact ⟨i, z⟩
      · exact absurd (hn a z) h
    · cases e
end
end TL

set_option Elab.async false
set_option linter.all false
set_option maxRecDepth 100000
set_option maxHeartbeats 4000000
namespace TL
open PySem PySem.Spec PyProof.Rows L2

section
variable {X : Cx} {C : Cf} {kb kd kd1 kd2 kd' : Nat → Bool} {ow ow1 ow2 ow' : Ow} {σ σ' : L2.St} {ρ : Rho} {S S' : Src} {H H1 H2 H' : Hp} {d : D} {v : V}
/-! ### a, b = x, y: what the store does -/
theorem sto_par {s : Stmt} {i j : Nat} {g : FA} {fi fj : Bool} (h : PS X s (tPar i j (tAM C kd [fi, fj] g))) : PS X s (tSto [i, j] (tAM C kd [fi, fj] g)) :=
  PS_imp h fun Dn σ H ⟨ow, ρ, S, ds, S1, R, e, k⟩ => by
    refine ⟨ow, ρ, S, ds, S1, R, e, fun vs H' as ex k1 hx R1 hn nd mm => ?_⟩
    have two : ∃ v w, vs = [v, w] := by
      cases fi <;> cases fj <;> simp only [Made] at mm
      · obtain ⟨d, v, ds', vs', _, rfl, _, d2, v2, ds2, vs2, _, rfl, _, _, rfl, _⟩ := mm
        exact ⟨_, _, rfl⟩
      · obtain ⟨d, v, ds', vs', _, rfl, _, d2, v2, ds2, vs2, as2, _, rfl, _, _, _, _, rfl, _⟩ := mm
        exact ⟨_, _, rfl⟩
      · obtain ⟨d, v, ds', vs', as', _, rfl, _, _, _, d2, v2, ds2, vs2, _, rfl, _, _, rfl, _⟩ := mm
        exact ⟨_, _, rfl⟩
      · obtain ⟨d, v, ds', vs', as', _, rfl, _, _, _, d2, v2, ds2, vs2, as2, _, rfl, _, _, _, _, rfl, _⟩ := mm
        exact ⟨_, _, rfl⟩
    obtain ⟨v, w, rfl⟩ := two
    exact ⟨v, w, rfl, k _ H' as ex k1 hx R1 hn nd mm⟩
theorem Made.len : ∀ {fl : List Bool} {ds : List D} {vs : List V} {as : List Addr}, Made C ow H fl ds vs as → vs.length = fl.length
  | [], _, _, _, ⟨_, e, _⟩ => by rw [e]; rfl
  | false :: _, _, _, _, ⟨d, v, ds', vs', e1, e2, r, q⟩ => by rw [e2, List.length_cons, List.length_cons, Made.len q]
  | true :: _, _, _, _, ⟨d, a, ds', vs', as', e1, e2, e3, m, r, q⟩ => by rw [e2, List.length_cons, List.length_cons, Made.len q]
theorem sto_par3 {s : Stmt} {i j l : Nat} {g : FA} {fl : List Bool} (h : PS X s (tPar3 i j l (tAM C kd fl g))) (hl : fl.length = 3 := by rfl) : PS X s (tSto [i, j, l] (tAM C kd fl g)) :=
  PS_imp h fun Dn σ H ⟨ow, ρ, S, ds, S1, R, e, k⟩ => by
    refine ⟨ow, ρ, S, ds, S1, R, e, fun vs H' as ex k1 hx R1 hn nd mm => ?_⟩
    have hv := mm.len
    rw [hl] at hv
    match vs, hv with
    | [u, v, w], _ => exact ⟨u, v, w, rfl, k _ H' as ex k1 hx R1 hn nd mm⟩
theorem Made.kp (kz : Kp Z0 H H') : ∀ {fl : List Bool} {ds : List D} {vs : List V} {as : List Addr}, Made C ow H fl ds vs as → Made C ow H' fl ds vs as
  | [], _, _, _, q => q
  | false :: _, _, _, _, ⟨d, v, ds', vs', e1, e2, r, q⟩ => ⟨d, v, ds', vs', e1, e2, r.kp kz.z0, Made.kp kz q⟩
  | true :: _, _, _, _, ⟨d, a, ds', vs', as', e1, e2, e3, m, r, q⟩ => ⟨d, a, ds', vs', as', e1, e2, e3, m, r.kp kz (fun _ z => z.elim) fun o z => kz.ob _ o z fun z => z, Made.kp kz q⟩
/-- by a tuple that is unpacked (where a name is captured) -/
def gNames : List Nat → TGs
  | [] => gNil
  | i :: is => gCons (gName i) (gNames is)
theorem gNames_set {Dx : L2.St → Hp → Prop} : ∀ {is : List Nat} {vs : List V} {σ : L2.St} {H : Hp}, is.length = vs.length → Dx (setV is vs σ) H → gNames is vs σ H Dx
  | [], [], _, _, _, q => ⟨rfl, q⟩
  | i :: is, v :: vs, σ, H, hl, q => ⟨v, vs, rfl, gNames_set (is := is) (vs := vs) (σ := σ.set i (some v)) (by simpa using hl) q⟩
  | [], _ :: _, _, _, hl, _ => by simp at hl
  | _ :: _, [], _, _, hl, _ => by simp at hl
theorem sto_cell {s : Stmt} {is : List Nat} {n : Nat} {g : FA} {fl : List Bool} (h : PS X s (tAsg (tTup (tAM C kd fl g)) (gTup X.K n (gNames is)))) (hi : is.length = n := by rfl) (hf : fl.length = n := by rfl) (hn : n ≤ 1000 := by decide) : PS X s (tSto is (tAM C kd fl g)) :=
  PS_imp h fun Dn σ H ⟨ow, ρ, S, ds, S1, R, e, k⟩ => by
    refine ⟨ow, ρ, S, ds, S1, R, e, fun vs H' as ex k1 hx R1 hnn nd mm => ?_⟩
    have hv := mm.len
    refine ⟨by rw [hv, hf]; exact small_sz hn, fun p hp => ⟨p, vs, rfl, .of upd_same, by rw [hv, hf], gNames_set (by rw [hi, hv, hf]) ?_⟩⟩
    have kz : Kp Z0 H' (upd H' p (.tup vs)) := .upd hp
    exact k vs _ as ex (k1.trans kz.z0) hx (R1.step kz.z0 (R1.src.kp kz)) hnn nd (mm.kp kz)
/-! ### return, an expression alone, if -/
def gRet (f : FE) : FS := fun ρ S => match f ρ S with
  | some (d, S1) => some (.rt d S1)
  | none => none
theorem p_ret {s : Stmt} {f : FE} (h : PS X s (tRet (tS C kd f))) : PS X s (tP C kb kd kd' (gRet f)) := PS_imp h fun Dn σ H ⟨ow, ρ, S, o, R, e, k⟩ => by
  unfold gRet at e
  split at e
  · rename_i d S1 e1
    cases e
    exact ⟨ow, ρ, S, d, S1, R, e1, fun v H' k1 s1 r1 => k v H' (R.base.trans k1) s1 r1.out⟩
  · cases e
def gRetN : FS := fun _ S => some (.rt .none S)
theorem p_retN {pos : Pos} : PS X (.Return none pos) (tP C kb kd kd' gRetN) := PS_imp ps_retN fun Dn σ H ⟨ow, ρ, S, o, R, e, k⟩ => by
  cases e
  exact k .non H R.base R.src (by rw [Rep])
def gDrop (f : FE) : FS := fun ρ S => match f ρ S with
  | some (_, S1) => some (.nx ρ S1)
  | none => none
theorem p_drop {s : Stmt} {f : FE} (h : PS X s (tDrop (tX C kd f))) : PS X s (tP C kb kd kd (gDrop f)) := PS_imp h fun Dn σ H ⟨ow, ρ, S, o, R, e, k⟩ => by
  unfold gDrop at e
  split at e
  · rename_i d S1 e1
    cases e
    exact ⟨ow, ρ, S, d, S1, R, e1, fun v H' k1 s1 r1 => k σ H' ow (R.step k1 s1) (R.ev k1 s1)⟩
  · cases e
def gIf (c : FB) (g h : FS) : FS := fun ρ S => match c ρ S with
  | some (true, S1) => g ρ S1
  | some (false, S1) => h ρ S1
  | none => none
theorem p_if {c : Expr} {a b : List Stmt} {pos : Pos} {fc : FB} {g h : FS} (hc : PT X c (tB C kd fc)) (ha : PSs X a (tP C kb kd kd' g)) (hb : PSs X b (tP C kb kd kd' h)) : PS X (.If c a b pos) (tP C kb kd kd' (gIf fc g h)) :=
  PS_imp (ps_if hc ha hb) fun Dn σ H ⟨ow, ρ, S, o, R, e, k⟩ => by
    unfold gIf at e
    split at e
    · rename_i S1 e1
      refine ⟨ow, ρ, S, true, S1, R, e1, fun H1 k1 s1 => ?_⟩
      refine iteT ?_
      exact ⟨ow, ρ, S1, o, R.step k1 s1, e, k.ev (R.ev k1 s1)⟩
    · rename_i S1 e1
      refine ⟨ow, ρ, S, false, S1, R, e1, fun H1 k1 s1 => ?_⟩
      refine iteF ?_
      exact ⟨ow, ρ, S1, o, R.step k1 s1, e, k.ev (R.ev k1 s1)⟩
    · cases e
/-! ### for, while -/
def forL (st : FG) (g : FS) : List D → FS
  | [] => fun ρ S => some (.nx ρ S)
  | d :: ds => fun ρ S => match st d ρ with
    | some ρ1 => (match g ρ1 S with
      | some (.nx ρ2 S2) => forL st g ds ρ2 S2
      | some (.ct ρ2 S2) => forL st g ds ρ2 S2
      | some (.bk ρ2 S2) => some (.nx ρ2 S2)
      | some (.rt v S2) => some (.rt v S2)
      | none => none)
    | none => none
def gFor (fI : FA) (st : FG) (g : FS) : FS := fun ρ S => match fI ρ S with
  | some (ds, S1) => forL st g ds ρ S1
  | none => none
theorem p_for {iter tg : Expr} {body : List Stmt} {pos : Pos} {fI : FA} {st : FG} {is : List Nat} {g : FS} (hp : PassesOwn (model X.prog X.w) X.A X.env X.xe) (hc : X.calm = true) (hi : PI X tg iter (tI C kd true fI)) (hg : PG X tg (tG C kd is st)) (hb : PSs X body (tP C kd kd kd g))
    (hs : ∀ x, foldedSetIterable iter X.env x = pure x := by intro _; rfl) : PS X (.For tg iter body [] pos) (tP C kb kd kd (gFor fI st g)) :=
  PS_imp (ps_for hp hc hi hg hb hs) fun Dn σ H ⟨ow, ρ, S, o, R, e, k⟩ => by
    unfold gFor at e
    split at e
    · rename_i ds S1 e1
      refine ⟨ow, ρ, S, ds, S1, R, e1, fun J H1 k1 s1 W => ?_⟩
      have R1 := R.step k1 s1
      have k := k.ev (R.ev k1 s1)
      refine ⟨fun i m σ' H' => m = ds.length - i ∧ i ≤ ds.length ∧ ∃ ow2 ρ2 S2, Rel C kd ow2 σ' ρ2 S2 H' ∧ Ev C ow H1 ow2 H' ∧ forL st g (ds.drop i) ρ2 S2 = some o,
        ⟨ds.length, by simp, Nat.zero_le _, ow, ρ, S1, R1, .refl, by rw [List.drop_zero]; exact e⟩, ?_⟩
      rintro i m σ2 H2 ⟨rfl, hi, ow2, ρ2, S2, R2, ev, e2⟩
      rw [if_pos rfl] at W
      by_cases hlt : i < ds.length
      · obtain ⟨go, step⟩ := (W i H2 ev.kp).1 hlt
        refine .inr ⟨go, fun σ' H' => ∃ ow3 ρ3 S3, Rel C kd ow3 σ' ρ3 S3 H' ∧ Ev C ow H1 ow3 H' ∧ forL st g (ds.drop (i + 1)) ρ3 S3 = some o, fun σ' H' hN => ⟨ds.length - (i + 1), by omega, rfl, hlt, hN⟩, fun x H3 y => ?_⟩
        obtain ⟨k3, d, ed, rd⟩ := step x H3 y
        have hdr : ds.drop i = d :: ds.drop (i + 1) := by
          obtain ⟨h, e'⟩ := List.getElem?_eq_some_iff.mp ed
          rw [← e', List.drop_eq_getElem_cons h]
        rw [hdr, forL] at e2
        dsimp only at e2
        have s3 := R2.src.kp k3
        have R3 := R2.step k3.z0 s3
        have ev3 := ev.trans (R2.ev k3.z0 s3)
        have rx : Rep H3 (ZO C ow2) d x := (rd (fun a => ZO C ow a ∨ ZO C ow2 a) (fun a z => z.elim .inl (ev.zo a)) fun a z => .inl (R1.cz a z)).less fun a z => .inr z
        split at e2
        · rename_i ρ3 e3
          refine ⟨ow2, ρ2, S2, d, ρ3, R3, rx, e3, fun σ3 R4 _ => ?_⟩
          split at e2
          · rename_i ρ4 S4 e4
            exact ⟨ow2, ρ3, S2, _, R4, e4, fun σ' H' ow' R' ev' => ⟨ow', ρ4, S4, R', ev3.trans ev', e2⟩⟩
          · rename_i ρ4 S4 e4
            exact ⟨ow2, ρ3, S2, _, R4, e4, fun σ' H' ow' R' ev' => ⟨ow', ρ4, S4, R', ev3.trans ev', e2⟩⟩
          · rename_i ρ4 S4 e4
            cases e2
            exact ⟨ow2, ρ3, S2, _, R4, e4, fun σ' H' ow' R' ev' => k σ' H' ow' R' (ev3.trans ev')⟩
          · rename_i v S4 e4
            cases e2
            exact ⟨ow2, ρ3, S2, _, R4, e4, k⟩
          · cases e2
        · cases e2
      · have hie : i = ds.length := by omega
        subst hie
        rw [List.drop_length, forL] at e2
        cases e2
        exact .inl ⟨(W _ H2 ev.kp).2 (Nat.le_refl _), k σ2 H2 ow2 R2 ev⟩
    · cases e
def gWh (t : FB) (g : FS) : Nat → FS
  | 0 => fun _ _ => none
  | n + 1 => fun ρ S => match t ρ S with
    | some (true, S1) => (match g ρ S1 with
      | some (.nx ρ2 S2) => gWh t g n ρ2 S2
      | some (.ct ρ2 S2) => gWh t g n ρ2 S2
      | some (.bk ρ2 S2) => some (.nx ρ2 S2)
      | some (.rt v S2) => some (.rt v S2)
      | none => none)
    | some (false, S1) => some (.nx ρ S1)
    | none => none
theorem p_while {c : Expr} {body : List Stmt} {pos : Pos} {t : FB} {g : FS} (n : Nat) (hp : PassesOwn (model X.prog X.w) X.A X.env X.xe) (hc : PT X c (tB C kd t)) (hb : PSs X body (tP C kd kd kd g)) : PS X (.While c body [] pos) (tP C kb kd kd (gWh t g n)) :=
  PS_imp (ps_while hp hc hb) fun Dn σ H ⟨ow, ρ, S, o, R, e, k⟩ => by
    refine ⟨fun m σ' H' => ∃ ow2 ρ2 S2, Rel C kd ow2 σ' ρ2 S2 H' ∧ Ev C ow H ow2 H' ∧ gWh t g m ρ2 S2 = some o, ⟨n, ow, ρ, S, R, .refl, e⟩, ?_⟩
    rintro m σ2 H2 ⟨ow2, ρ2, S2, R2, ev, e2⟩
    cases m with
    | zero => cases e2
    | succ m =>
      rw [gWh] at e2
      dsimp only at e2
      split at e2
      · rename_i S3 e3
        refine ⟨ow2, ρ2, S2, true, S3, R2, e3, fun H3 k3 s3 => ?_⟩
        refine iteT ?_
        have R3 := R2.step k3 s3
        have ev3 := ev.trans (R2.ev k3 s3)
        refine ⟨fun σ' H' => ∃ ow4 ρ4 S4, Rel C kd ow4 σ' ρ4 S4 H' ∧ Ev C ow H ow4 H' ∧ gWh t g m ρ4 S4 = some o, fun σ' H' hN => ⟨m, Nat.lt_succ_self _, hN⟩, ?_⟩
        split at e2
        · rename_i ρ4 S4 e4
          exact ⟨ow2, ρ2, S3, _, R3, e4, fun σ' H' ow' R' ev' => ⟨ow', ρ4, S4, R', ev3.trans ev', e2⟩⟩
        · rename_i ρ4 S4 e4
          exact ⟨ow2, ρ2, S3, _, R3, e4, fun σ' H' ow' R' ev' => ⟨ow', ρ4, S4, R', ev3.trans ev', e2⟩⟩
        · rename_i ρ4 S4 e4
          cases e2
          exact ⟨ow2, ρ2, S3, _, R3, e4, fun σ' H' ow' R' ev' => k σ' H' ow' R' (ev3.trans ev')⟩
        · rename_i v S4 e4
          cases e2
          exact ⟨ow2, ρ2, S3, _, R3, e4, k⟩
        · cases e2
      · rename_i S3 e3
        cases e2
        refine ⟨ow2, ρ2, S2, false, S3, R2, e3, fun H3 k3 s3 => ?_⟩
        refine iteF ?_
        exact k σ2 H3 ow2 (R2.step k3 s3) (ev.trans (R2.ev k3 s3))
      · cases e2
/-! ### a slot's own list is changed -/
/-- the own list or dict of slot i is put otherwise -/
theorem Rel.put (R : Rel C kd ow σ ρ S H) {i : Nat} {a : Addr} {o : HO} (hk : kd i = true) (ha : ow.sl i = some a) (hσ : σ[i]? = some (some (.ref a))) (ho : Mut (some o)) (hs : Sh C ow (upd H a o) d a) : Rel C kd ow σ (ρ.set i (some d)) S (upd H a o) ∧ Ev C ow H ow (upd H a o) ∧ Kp (ZO C ow) H (upd H a o) := by
  have hown : Own ow a := .inl ⟨i, ha⟩
  have m := (R.new a hown).2
  have kz : Kp (chg C ow) H (upd H a o) := Kp.wr (.inr ⟨i, ha⟩) (fun xs z => by rw [z] at m; exact m) fun o' u z => by rw [z] at m; exact m
  have kzo := kz.mono R.cz
  have nf : ¬ C.foot a := R.nf hown
  have hb : ∀ b, C.H0 b ≠ none → b ≠ a := fun b z q => z (by rw [q]; exact (R.new a hown).1)
  refine ⟨⟨R.dom, R.ft, ⟨fun b o' e n => ?_, fun b xs e => ?_, fun b o' u e => ?_⟩, ?_, by rw [List.length_set]; exact R.len, fun p hp => ?_, fun j e h1 h2 => ?_, fun j e h1 h2 => ?_, R.inj, R.dj, fun b z => ⟨(R.new b z).1, ?_⟩⟩, ⟨kz, fun b h => ?_, fun j b e _ => ⟨j, e⟩, fun _ => Iff.rfl⟩, kzo⟩
  · rw [upd_ne (hb b (by rw [e]; exact fun z => nomatch z))]
    exact R.base.ob b o' e n
  · rw [upd_ne (hb b (by rw [e]; exact fun z => nomatch z))]
    exact R.base.tp b xs e
  · rw [upd_ne (hb b (by rw [e]; exact fun z => nomatch z))]
    exact R.base.fz b o' u e
  · have s := R.src
    unfold SrcOk at s ⊢
    unfold Cf.foot at nf
    cases q : C.src with
    | none => trivial
    | some p' =>
      rw [q] at s nf
      obtain ⟨n0, h1, h2, h3⟩ := s
      exact ⟨n0, by rw [upd_ne fun z => nf (.inl z.symm)]; exact h1, by rw [upd_ne fun z => nf (.inr z.symm)]; exact h2, h3⟩
  · obtain ⟨q1, q2⟩ := R.sr p hp
    refine ⟨q1, ?_⟩
    by_cases h0 : i = C.sx
    · subst h0
      rw [q1] at hσ
      cases hσ
      exact absurd (by unfold Cf.foot; rw [hp]; exact .inl rfl) nf
    · rw [List.getElem?_set_ne h0]; exact q2
  · have hj : i ≠ j := fun z => by rw [← z, hk] at h1; cases h1
    rw [List.getElem?_set_ne hj] at h2
    obtain ⟨v, q, r⟩ := R.cl j e h1 h2
    exact ⟨v, q, r.kp kzo⟩
  · by_cases hj : i = j
    · subst hj
      have hl : i < ρ.length := by
        rw [List.getElem?_set] at h2
        simp only [if_true] at h2
        split at h2
        · assumption
        · cases h2
      rw [List.getElem?_set_self hl] at h2
      cases h2
      exact ⟨a, ha, hσ, hs⟩
    · rw [List.getElem?_set_ne hj] at h2
      obtain ⟨b, q1, q2, r⟩ := R.own j e h1 h2
      have nb : b ≠ a := fun z => hj (R.inj i j a ha (by rw [← z]; exact q1))
      exact ⟨b, q1, q2, r.kp kzo (fun _ z => z) fun o' z => by rw [upd_ne nb]; exact z⟩
  · by_cases q : b = a
    · rw [q, upd_same]; exact ho
    · rw [upd_ne q]; exact (R.new b z).2
  · by_cases q : b = a
    · rw [q, upd_same]; exact fun z => nomatch z
    · rw [upd_ne q]; exact h
def gApp (i : Nat) (f : FE) : FS := fun ρ S => match f ρ S with
  | some (d, S1) => (match ρ[i]? with
    | some (some (.list ds)) => if ds.length < sizeLine then some (.nx (ρ.set i (some (.list (ds ++ [d])))) S1) else none
    | _ => none)
  | none => none
/-- x.append(e) -/
theorem p_app {s : Stmt} {i : Nat} {f : FE} (h : PS X s (tDrop (tBM X.K "list" rAppend (tVar i) (tCons (tX C kd f) tNil)))) (hk : kd i = true := by rfl) : PS X s (tP C kb kd kd (gApp i f)) :=
  PS_imp h fun Dn σ H ⟨ow, ρ, S, o, R, e, k⟩ => by
    unfold gApp at e
    split at e
    · rename_i d S1 e1
      split at e
      · rename_i ds e2
        split at e
        · rename_i hz
          cases e
          obtain ⟨a, q1, q2, vs, q3, q4⟩ := R.own i _ hk e2
          refine ⟨.ref a, q2, .inl ⟨rfl, vs, .of q3⟩, ow, ρ, S, d, S1, R, e1, fun v H1 k1 s1 r1 => ?_⟩
          have R1 := R.step k1 s1
          have nf := R.nf (.inl ⟨i, q1⟩)
          have q3' := k1.ob _ _ q3 nf
          have hl := RepL.len q4
          refine ⟨a, vs, v, rfl, rfl, q3', by rw [hl]; exact hz, ?_⟩
          have kz : Kp (ZO C ow) H1 (upd H1 a (.lst (vs ++ [v]))) := Kp.wr (.inr (.inl ⟨i, q1⟩)) (fun xs z => by rw [q3'] at z; cases z) fun o u z => by rw [q3'] at z; cases z
          obtain ⟨R2, ev, _⟩ := R1.put (d := .list (ds ++ [d])) hk q1 q2 (o := .lst (vs ++ [v])) trivial ⟨_, upd_same, ((q4.kp (k1.mono R.fz)).app (.cons r1 .nil)).kp kz⟩
          exact k _ _ ow R2 ((R.ev k1 s1).trans ev)
        · cases e
      · cases e
    · cases e
end
end TL

set_option Elab.async false
set_option linter.all false
set_option maxRecDepth 100000
set_option maxHeartbeats 4000000
namespace TL
open PySem PySem.Spec PyProof.Rows L2

/-! ### dicts -/
def keyOf : D → Option Key
  | .int i => some (.inl i)
  | .str x => some (.inr x)
  | _ => none
def keysOf : List D → Option (List Key)
  | [] => some []
  | d :: ds => match keyOf d, keysOf ds with
    | some k, some ks => some (k :: ks)
    | _, _ => none
def isT : List (D × D) → Bool
  | (.none, _) :: _ => true
  | _ => false
def okKey (kvs : List (D × D)) (k : D) : Bool := if isT kvs = true then (match k with
  | .tuple ds => (keysOf ds).isSome
  | _ => false) else (keyOf k).isSome
def lookD (kvs : List (D × D)) (k : D) : Option D := (kvs.find? fun p => PyData.eqv p.1 k).map (·.2)
def putD (kvs : List (D × D)) (k v : D) : List (D × D) := if (kvs.any fun p => PyData.eqv p.1 k) = true then kvs.map (fun p => if PyData.eqv p.1 k = true then (p.1, v) else p) else kvs ++ [(k, v)]
theorem keyOf_is {d : D} {k : Key} (h : keyOf d = some k) : d = keyD k := by
  cases d <;> first | (cases h; done) | (cases h; rfl)
theorem keysOf_is : ∀ {ds : List D} {ks : List Key}, keysOf ds = some ks → ds = ks.map keyD
  | [], _, h => by cases h; rfl
  | d :: ds, ks, h => by
    rw [keysOf] at h
    split at h
    · rename_i k ks' e1 e2
      cases h
      rw [keyOf_is e1, keysOf_is e2]
      rfl
    · cases h
theorem eqv_key (a b : Key) : PyData.eqv (keyD a) (keyD b) = decide (a = b) := by
  cases a <;> cases b <;> simp [keyD, PyData.eqv] <;> (rw [Bool.eq_iff_iff]; simp)
theorem eqv_keys : ∀ a b : List Key, PyData.eqvAll (a.map keyD) (b.map keyD) = decide (a = b)
  | [], [] => by simp [PyData.eqvAll]
  | [], _ :: _ => by simp [PyData.eqvAll]
  | _ :: _, [] => by simp [PyData.eqvAll]
  | a :: as, b :: bs => by
    rw [List.map_cons, List.map_cons, PyData.eqvAll, eqv_key, eqv_keys as bs]
    by_cases h : a = b <;> by_cases h2 : as = bs <;> simp [h, h2]
theorem eqv_tkey (a b : List Key) : PyData.eqv (tkeyD a) (tkeyD b) = decide (a = b) := by
  unfold tkeyD
  rw [PyData.eqv, eqv_keys]
theorem eqv_none (a : List Key) : PyData.eqv .none (tkeyD a) = false := by
  unfold tkeyD
  rw [PyData.eqv] <;> simp
section
variable {H : Hp} {Z : Zn} {κ : Type} [DecidableEq κ] {enc : κ → D}
/-- what is found at a key -/
theorem look_val (he : ∀ a b, PyData.eqv (enc a) (enc b) = decide (a = b)) : ∀ {kvs : List (D × D)} {kk : List κ} {vs : List V} (k : κ), kvs.map (·.1) = kk.map enc → RepV H Z kvs vs →
    (match lookD kvs (enc k), valV (kk.zip vs) k with
      | some d, some v => Rep H Z d v
      | none, none => True
      | _, _ => False) ∧ (kvs.any fun p => PyData.eqv p.1 (enc k)) = (valV (kk.zip vs) k).isSome
  | [], kk, vs, k, e, r => by
    have : kk = [] := by
      cases kk with
      | nil => rfl
      | cons a b => simp at e
    subst this
    simp [lookD, valV]
  | (kd, d) :: kvs, kk, vs, k, e, r => by
    cases kk with
    | nil => simp at e
    | cons a kk =>
      rw [List.map_cons, List.map_cons, List.cons.injEq] at e
      rw [RepV] at r
      obtain ⟨w, ws, rfl, r1, r2⟩ := r
      obtain ⟨ih1, ih2⟩ := look_val he (kvs := kvs) (kk := kk) (vs := ws) k e.2 r2
      have e1 : kd = enc a := e.1
      subst e1
      rw [List.zip_cons_cons]
      by_cases h : a = k
      · subst h
        rw [valV_pos rfl]
        simp only [lookD, List.find?_cons, he, decide_true, Option.map_some, List.any_cons, Bool.true_or, Option.isSome_some, and_true]
        exact r1
      · rw [valV_neg h]
        simp only [lookD, List.find?_cons, he, decide_eq_false h, List.any_cons, Bool.false_or]
        exact ⟨ih1, ih2⟩
theorem RepV.len : ∀ {kvs : List (D × D)} {vs : List V}, RepV H Z kvs vs → vs.length = kvs.length
  | [], vs, r => by rw [RepV] at r; rw [r]; rfl
  | (_, _) :: kvs, vs, r => by
    rw [RepV] at r
    obtain ⟨w, ws, rfl, _, r2⟩ := r
    rw [List.length_cons, List.length_cons, RepV.len r2]
theorem RepV.app : ∀ {kvs : List (D × D)} {vs : List V} {k d : D} {v : V}, RepV H Z kvs vs → Rep H Z d v → RepV H Z (kvs ++ [(k, d)]) (vs ++ [v])
  | [], vs, k, d, v, r, rd => by
    rw [RepV] at r
    subst r
    show RepV H Z [(k, d)] [v]
    rw [RepV]
    exact ⟨v, [], rfl, rd, by rw [RepV]⟩
  | (k0, d0) :: kvs, vs, k, d, v, r, rd => by
    rw [RepV] at r
    obtain ⟨w, ws, rfl, r1, r2⟩ := r
    show RepV H Z ((k0, d0) :: (kvs ++ [(k, d)])) (w :: (ws ++ [v]))
    rw [RepV]
    exact ⟨w, _, rfl, r1, RepV.app r2 rd⟩
theorem put_map (he : ∀ a b, PyData.eqv (enc a) (enc b) = decide (a = b)) (k : κ) {d : D} {v : V} (rd : Rep H Z d v) : ∀ {kvs : List (D × D)} {kk : List κ} {vs : List V}, kvs.map (·.1) = kk.map enc → RepV H Z kvs vs →
    RepV H Z (kvs.map fun p => if PyData.eqv p.1 (enc k) = true then (p.1, d) else p) ((kk.zip vs).map fun q => if q.1 = k then v else q.2) ∧
    ((kk.zip vs).map fun q => if q.1 = k then (q.1, v) else q) = kk.zip ((kk.zip vs).map fun q => if q.1 = k then v else q.2)
  | [], kk, vs, e, r => by
    have : kk = [] := by
      cases kk with
      | nil => rfl
      | cons a b => simp at e
    subst this
    exact ⟨by simp [RepV], rfl⟩
  | (pk, pd) :: kvs, kk, vs, e, r => by
    cases kk with
    | nil => simp at e
    | cons a kk =>
      rw [List.map_cons, List.map_cons, List.cons.injEq] at e
      rw [RepV] at r
      obtain ⟨w, ws, rfl, r1, r2⟩ := r
      obtain ⟨ih1, ih2⟩ := put_map he k rd (kvs := kvs) (kk := kk) (vs := ws) e.2 r2
      have e1 : pk = enc a := e.1
      subst e1
      rw [List.zip_cons_cons, List.map_cons, List.map_cons, List.map_cons, List.zip_cons_cons, ih2]
      refine ⟨?_, ?_⟩
      · show RepV H Z ((if PyData.eqv (enc a) (enc k) = true then (enc a, d) else (enc a, pd)) :: _) _
        rw [he]
        by_cases h : a = k
        · simp only [h, decide_true, if_true]
          rw [RepV]
          exact ⟨v, _, rfl, rd, by subst h; exact ih1⟩
        · simp only [h, decide_false, Bool.false_eq_true, if_false]
          rw [RepV]
          exact ⟨w, _, rfl, r1, ih1⟩
      · by_cases h : a = k <;> simp [h]
theorem put_val (he : ∀ a b, PyData.eqv (enc a) (enc b) = decide (a = b)) {kvs : List (D × D)} {kk : List κ} {vs : List V} (k : κ) {d : D} {v : V} (e : kvs.map (·.1) = kk.map enc) (hl : kk.length = vs.length) (r : RepV H Z kvs vs) (rd : Rep H Z d v) :
    ∃ (kk' : List κ) (vs' : List V), (putD kvs (enc k) d).map (·.1) = kk'.map enc ∧ RepV H Z (putD kvs (enc k) d) vs' ∧ kk'.length = vs'.length ∧ putK (kk.zip vs) k v = kk'.zip vs' := by
  have hany := (look_val he k e r).2
  rw [← valV_any] at hany
  unfold putD putK
  rw [hany]
  split
  · obtain ⟨h1, h2⟩ := put_map he k rd e r
    refine ⟨kk, _, ?_, h1, ?_, h2⟩
    · rw [List.map_map, ← e]
      apply List.map_congr_left
      intro p _
      show (if _ then _ else _ : D × D).1 = p.1
      split <;> rfl
    · rw [List.length_map, List.length_zip]
      omega
  · refine ⟨kk ++ [k], vs ++ [v], by rw [List.map_append, e, List.map_append]; rfl, RepV.app r rd, by rw [List.length_append, List.length_append, hl]; rfl, ?_⟩
    rw [List.zip_append hl]
    rfl
end
/-- None ahead changes nothing -/
theorem lookD_T {kvs : List (D × D)} {v : D} {k : List Key} : lookD ((.none, v) :: kvs) (tkeyD k) = lookD kvs (tkeyD k) := by
  unfold lookD
  rw [List.find?_cons]
  simp only [eqv_none]
theorem any_T {kvs : List (D × D)} {v : D} {k : List Key} : (((.none, v) :: kvs).any fun p => PyData.eqv p.1 (tkeyD k)) = kvs.any fun p => PyData.eqv p.1 (tkeyD k) := by
  rw [List.any_cons]
  simp only [eqv_none, Bool.false_or]
theorem putD_T {kvs : List (D × D)} {v d : D} {k : List Key} : putD ((.none, v) :: kvs) (tkeyD k) d = (.none, v) :: putD kvs (tkeyD k) d := by
  unfold putD
  rw [any_T]
  split
  · rw [List.map_cons]
    simp only [eqv_none, Bool.false_eq_true, if_false]
  · rfl
theorem keys_rep {H : Hp} {Z : Zn} : ∀ {ks : List Key} {vs : List V}, RepL H Z (ks.map keyD) vs → vs = ks.map kV
  | [], vs, r => by
    rw [List.map_nil, RepL] at r
    exact r
  | k :: ks, vs, r => by
    rw [List.map_cons, RepL] at r
    obtain ⟨w, ws, rfl, r1, r2⟩ := r
    rw [keys_rep r2, List.map_cons]
    cases k <;> (rw [keyD, Rep] at r1; rw [r1]; rfl)
section
variable {C : Cf} {ow : Ow} {H : Hp} {kvs : List (D × D)} {k : D} {v y : V} {a : Addr} {vs : List V} {Z : Zn}
theorem isT_K {kk : List Key} (h : kvs.map (·.1) = kk.map keyD) : isT kvs = false := by
  cases kvs with
  | nil => rfl
  | cons p kvs =>
    obtain ⟨pk, pd⟩ := p
    cases kk with
    | nil => simp at h
    | cons x kk =>
      rw [List.map_cons, List.map_cons, List.cons.injEq] at h
      have e : pk = keyD x := h.1
      subst e
      cases x <;> rfl
/-- what the dict holds at a key -/
theorem dic_get (hd : DicAt H a (kvs.map (·.1)) vs) (r : RepV H Z kvs vs) (hk : RepS C ow H k y) (ok : okKey kvs k = true) :
    ∃ o, DGet H a y o ∧ (kvs.any fun p => PyData.eqv p.1 k) = o.isSome ∧ ∀ d, lookD kvs k = some d → ∃ v, o = some v ∧ Rep H Z d v := by
  rcases hd with ⟨kk, e1, e2, e3⟩ | ⟨kk, e1, e2, e3⟩
  · unfold okKey at ok
    rw [isT_K e1, if_neg Bool.false_ne_true] at ok
    obtain ⟨ky, hky⟩ := Option.isSome_iff_exists.mp ok
    have e := keyOf_is hky
    subst e
    have ey : y = kV ky := by
      cases ky with
      | inl i => exact hk.int
      | inr x => exact hk.str
    subst ey
    obtain ⟨h1, h2⟩ := look_val eqv_key ky e1 r
    refine ⟨_, .k e3, h2, fun d hd => ?_⟩
    rw [hd] at h1
    cases q : valV (kk.zip vs) ky with
    | none => rw [q] at h1; exact h1.elim
    | some v => rw [q] at h1; exact ⟨v, rfl, h1⟩
  · cases kvs with
    | nil => simp at e1
    | cons p kvs =>
      obtain ⟨pk, pd⟩ := p
      rw [List.map_cons, List.cons.injEq] at e1
      have e : pk = .none := e1.1
      subst e
      rw [RepV] at r
      obtain ⟨w, ws, rfl, r1, r2⟩ := r
      unfold okKey isT at ok
      rw [if_pos rfl] at ok
      split at ok
      · rename_i ds
        obtain ⟨ks, hks⟩ := Option.isSome_iff_exists.mp ok
        have e := keysOf_is hks
        subst e
        obtain ⟨b, us, rfl, hb, rb⟩ := hk.tup
        rw [keys_rep rb] at hb
        obtain ⟨h1, h2⟩ := look_val eqv_tkey ks e1.2 r2
        have e3' : H a = some (.dT (kk.zip ws)) := e3
        refine ⟨_, .t e3' hb, by rw [show PyData.tuple (ks.map keyD) = tkeyD ks from rfl, any_T]; exact h2, fun d hd => ?_⟩
        rw [show PyData.tuple (ks.map keyD) = tkeyD ks from rfl, lookD_T] at hd
        rw [hd] at h1
        cases q : valV (kk.zip ws) ks with
        | none => rw [q] at h1; exact h1.elim
        | some v => rw [q] at h1; exact ⟨v, rfl, h1⟩
      · cases ok
/-- the dict behind a store -/
theorem dic_put {d : D} (hd : DicAt H a (kvs.map (·.1)) vs) (r : RepV H Z kvs vs) (hk : RepS C ow H k y) (ok : okKey kvs k = true) (rd : Rep H Z d v) (hz : kvs.length < sizeLine) :
    ∃ o, Mut (some o) ∧ DPut H a y v (upd H a o) ∧ ∃ vs', DicAt (upd H a o) a ((putD kvs k d).map (·.1)) vs' ∧ RepV H Z (putD kvs k d) vs' := by
  rcases hd with ⟨kk, e1, e2, e3⟩ | ⟨kk, e1, e2, e3⟩
  · unfold okKey at ok
    rw [isT_K e1, if_neg Bool.false_ne_true] at ok
    obtain ⟨ky, hky⟩ := Option.isSome_iff_exists.mp ok
    have e := keyOf_is hky
    subst e
    have ey : y = kV ky := by
      cases ky with
      | inl i => exact hk.int
      | inr x => exact hk.str
    subst ey
    obtain ⟨kk', vs', h1, h2, h3, h4⟩ := put_val eqv_key ky e1 e2 r rd
    refine ⟨.dK (putK (kk.zip vs) ky v), trivial, .k e3 ?_, vs', .inl ⟨kk', h1, h3, by rw [upd_same, h4]⟩, h2⟩
    rw [List.length_zip, e2, Nat.min_self, RepV.len r]
    exact hz
  · cases kvs with
    | nil => simp at e1
    | cons p kvs =>
      obtain ⟨pk, pd⟩ := p
      rw [List.map_cons, List.cons.injEq] at e1
      have e : pk = .none := e1.1
      subst e
      rw [RepV] at r
      obtain ⟨w, ws, rfl, r1, r2⟩ := r
      unfold okKey isT at ok
      rw [if_pos rfl] at ok
      split at ok
      · rename_i ds
        obtain ⟨ks, hks⟩ := Option.isSome_iff_exists.mp ok
        have e := keysOf_is hks
        subst e
        obtain ⟨b, us, rfl, hb, rb⟩ := hk.tup
        rw [keys_rep rb] at hb
        have hl : kk.length = ws.length := by simpa using e2
        obtain ⟨kk', vs', h1, h2, h3, h4⟩ := put_val eqv_tkey ks e1.2 hl r2 rd
        have e3' : H a = some (.dT (kk.zip ws)) := e3
        refine ⟨.dT (putK (kk.zip ws) ks v), trivial, .t e3' hb ?_, w :: vs', .inr ⟨kk', ?_, by rw [List.length_cons, h3], by rw [upd_same, h4]; rfl⟩, ?_⟩
        · rw [List.length_zip, hl, Nat.min_self, RepV.len r2]
          rw [List.length_cons] at hz
          omega
        · rw [show PyData.tuple (ks.map keyD) = tkeyD ks from rfl, putD_T, List.map_cons, h1]
        · rw [show PyData.tuple (ks.map keyD) = tkeyD ks from rfl, putD_T, RepV]
          exact ⟨w, vs', rfl, r1, h2⟩
      · cases ok
end
def dInD (a b : D) : Option D := match b with
  | .dict kvs => if okKey kvs a = true then some (.bool (kvs.any fun p => PyData.eqv p.1 a)) else none
  | _ => dIn a b
def dNotInD (a b : D) : Option D := match b with
  | .dict kvs => if okKey kvs a = true then some (.bool (!kvs.any fun p => PyData.eqv p.1 a)) else none
  | _ => dNotIn a b
def dGet (a b : D) : Option D := match a with
  | .dict kvs => if okKey kvs b = true then lookD kvs b else none
  | _ => none
section
variable {X : Cx}
theorem o_inD (hu : X.A.units + 64 < cLine) : OpR X (compareOp .In) (rT true dInD) := by
  intro pins s σ H x y v u Q I rx ry ⟨C, ow, a, b, d, fz, ha, hb, e, q⟩
  unfold dInD at e
  split at e
  · split at e
    · rename_i ok
      cases e
      obtain ⟨p, vs, rfl, hd, _, r⟩ := hb.dic
      obtain ⟨o, g, h1, _⟩ := dic_get hd r ha ok
      cases ry
      exact d_in (by omega) I g rx fun s' I' => ⟨.bl o.isSome, H, I', rfl, q.atom (by rw [h1, Rep])⟩
    · cases e
  · exact o_in hu pins s σ H x y v u Q I rx ry ⟨C, ow, a, _, d, fz, ha, hb, e, q⟩
theorem o_notinD (hu : X.A.units + 64 < cLine) : OpR X (compareOp .NotIn) (rT true dNotInD) := by
  intro pins s σ H x y v u Q I rx ry ⟨C, ow, a, b, d, fz, ha, hb, e, q⟩
  unfold dNotInD at e
  split at e
  · split at e
    · rename_i ok
      cases e
      obtain ⟨p, vs, rfl, hd, _, r⟩ := hb.dic
      obtain ⟨o, g, h1, _⟩ := dic_get hd r ha ok
      cases ry
      exact d_notIn (by omega) I g rx fun s' I' => ⟨.bl (!o.isSome), H, I', rfl, q.atom (by rw [h1, Rep])⟩
    · cases e
  · exact o_notin hu pins s σ H x y v u Q I rx ry ⟨C, ow, a, _, d, fz, ha, hb, e, q⟩
variable {C : Cf} {kb kd : Nat → Bool}
theorem x_get {o i : Expr} {pos : Pos} {fa fb : FE} (hu : X.A.units + 64 < cLine) (ho : PE X o (tS C kd fa)) (hi : PE X i (tS C kd fb)) (hs : NoSl i) : PE X (.Subscript o i pos) (tX C kd (b2 dGet fa fb)) :=
  PE_imp (pe_dget (by omega) ho hi hs) fun σ H Q ⟨ow, ρ, S, d, S', R, e, k⟩ => by
    obtain ⟨x, S1, y, e1, e2, e3⟩ := b2_of e
    refine ⟨ow, ρ, S, x, S1, R, e1, fun vx H1 k1 s1 r1 => ⟨ow, ρ, S1, y, S', R.step k1 s1, e2, fun vy H2 k2 s2 r2 => ?_⟩⟩
    have r1 := r1.kp (R.step k1 s1) k2
    unfold dGet at e3
    split at e3
    · split at e3
      · rename_i ok
        obtain ⟨p, vs, rfl, hd, _, r⟩ := r1.dic
        obtain ⟨o, g, _, h2⟩ := dic_get hd r r2 ok
        obtain ⟨v, rfl, rv⟩ := h2 d e3
        exact ⟨p, v, rfl, g, k v H2 (k1.trans k2) s2 rv⟩
      · cases e3
    · cases e3
def newK : FE := fun _ S => some (.dict [], S)
def newT : FE := fun _ S => some (.dict [(.none, .none)], S)
theorem x_newK {pos : Pos} : PE X (.Dict [] [] pos) (tF C kd newK) := PE_imp pe_dnewK fun σ H Q ⟨ow, ρ, S, d, S', R, e, k⟩ => by
  cases e
  intro p hp
  have hd : DicAt (upd H p (.dK [])) p [] [] := .inl ⟨[], rfl, rfl, upd_same⟩
  refine k _ _ (.upd hp) (R.src.upd hp) ?_ fun _ => ⟨p, rfl, hp, [], hd, by rw [RepV]⟩
  rw [Rep]
  exact ⟨p, [], rfl, hd, R.fresh hp, by rw [RepV]⟩
theorem x_newT {pos : Pos} : PE X (.Dict [] [] pos) (tF C kd newT) := PE_imp pe_dnewT fun σ H Q ⟨ow, ρ, S, d, S', R, e, k⟩ => by
  cases e
  intro p hp
  have hd : DicAt (upd H p (.dT [])) p [.none] [.non] := .inr ⟨[], rfl, rfl, upd_same⟩
  have one : ∀ {Z : Zn}, RepV (upd H p (.dT [])) Z [(.none, .none)] [.non] := fun {Z} => by
    rw [RepV]
    exact ⟨.non, [], rfl, by rw [Rep], by rw [RepV]⟩
  refine k _ _ (.upd hp) (R.src.upd hp) ?_ fun _ => ⟨p, rfl, hp, [.non], hd, one⟩
  rw [Rep]
  exact ⟨p, [.non], rfl, hd, R.fresh hp, one⟩
end
end TL

set_option Elab.async false
set_option linter.all false
set_option maxRecDepth 100000
set_option maxHeartbeats 4000000
namespace TL
open PySem PySem.Spec PyProof.Rows L2

section
variable {X : Cx} {C : Cf} {kb kd kd' : Nat → Bool} {ow ow' : Ow} {σ : L2.St} {ρ : Rho} {S S' : Src} {H H' : Hp} {d : D} {v : V}
/-! ### stores into an own dict -/
def putAt (i : Nat) (k d : D) (ρ : Rho) : Option Rho := match ρ[i]? with
  | some (some (.dict kvs)) => if okKey kvs k = true ∧ kvs.length < sizeLine then some (ρ.set i (some (.dict (putD kvs k d)))) else none
  | _ => none
def setDic : TSet := fun o i v H Q => ∃ a H', o = .ref a ∧ DPut H a i v H' ∧ Q H'
theorem pset_dic (hu : X.A.units + 64 < cLine) : PSet X setDic := by
  intro pins s σ H o i v ov iv u Q I ro ri rv ⟨a, H', e, g, q⟩
  subst e
  cases ro
  exact d_setItem (by omega) I g ri rv fun s' I' => ⟨H', I', q⟩
/-- the store itself -/
theorem Rel.putK (R : Rel C kd ow σ ρ S H) {i : Nat} {k : D} {y : V} {ρ' : Rho} (hk : kd i = true) (hy : RepS C ow H k y) (hv : Rep H (ZO C ow) d v) (e : putAt i k d ρ = some ρ') :
    ∃ a H', σ[i]? = some (some (.ref a)) ∧ DPut H a y v H' ∧ Rel C kd ow σ ρ' S H' ∧ Ev C ow H ow H' := by
  unfold putAt at e
  split at e
  · rename_i kvs e2
    split at e
    · rename_i hz
      cases e
      obtain ⟨a, q1, q2, vs, q3, q4⟩ := R.own i _ hk e2
      obtain ⟨o, mo, g, vs', h1, h2⟩ := dic_put q3 q4 hy hz.1 hv hz.2
      have kz : Kp (ZO C ow) H (upd H a o) := by
        have m := (R.new a (.inl ⟨i, q1⟩)).2
        exact Kp.wr (.inr (.inl ⟨i, q1⟩)) (fun xs z => by rw [z] at m; exact m) fun o' u z => by rw [z] at m; exact m
      obtain ⟨R2, ev, _⟩ := R.put (d := .dict (putD kvs k d)) hk q1 q2 mo ⟨vs', h1, h2.kp kz⟩
      exact ⟨a, _, q2, g, R2, ev⟩
    · cases e
  · cases e
theorem Rel.ownAt (R : Rel C kd ow σ ρ S H) {i : Nat} {k : D} {ρ' : Rho} (hk : kd i = true) (e : putAt i k d ρ = some ρ') : ∃ a, σ[i]? = some (some (.ref a)) := by
  unfold putAt at e
  split at e
  · rename_i kvs e2
    obtain ⟨a, _, q2, _⟩ := R.own i _ hk e2
    exact ⟨a, q2⟩
  · cases e
def gPutK (i : Nat) (fk fv : FE) : FS := fun ρ S => match fv ρ S with
  | some (d, S1) => (match fk ρ S1 with
    | some (k, S2) => (match putAt i k d ρ with
      | some ρ' => some (.nx ρ' S2)
      | none => none)
    | none => none)
  | none => none
/-- d[k] = v -/
theorem p_put {s : Stmt} {i : Nat} {fk fv : FE} (h : PS X s (sDPut (tVar i) (tS C kd fk) (tX C kd fv))) (hk : kd i = true := by rfl) : PS X s (tP C kb kd kd (gPutK i fk fv)) :=
  PS_imp h fun Dn σ H ⟨ow, ρ, S, o, R, e, q⟩ => by
    unfold gPutK at e
    split at e
    · rename_i d S1 e1
      split at e
      · rename_i k S2 e2
        split at e
        · rename_i ρ' e3
          cases e
          refine ⟨ow, ρ, S, d, S1, R, e1, fun v H1 k1 s1 r1 => ?_⟩
          have R1 := R.step k1 s1
          obtain ⟨a, q2⟩ := R1.ownAt hk e3
          refine ⟨.ref a, q2, ow, ρ, S1, k, S2, R1, e2, fun y H2 k2 s2 r2 => ?_⟩
          have R2 := R1.step k2 s2
          obtain ⟨a', H3, q3, g, R3, ev⟩ := R2.putK hk r2 (r1.kp (k2.mono R1.fz)) e3
          rw [q2] at q3
          cases q3
          exact ⟨a, H3, rfl, g, q _ H3 ow R3 ((R.ev (k1.trans k2) s2).trans ev)⟩
        · cases e
      · cases e
    · cases e
/-! ### targets that store -/
abbrev FM := D → Rho → Src → Option (Rho × Src)
abbrev FMs := List D → Rho → Src → Option (Rho × Src)
def tM (C : Cf) (kd : Nat → Bool) (st : FM) : TG := fun v σ H Q => ∃ ow ρ S d ρ' S', Rel C kd ow σ ρ S H ∧ Rep H (ZO C ow) d v ∧ st d ρ S = some (ρ', S') ∧ ∀ σ' H' ow', Rel C kd ow' σ' ρ' S' H' → Ev C ow H ow' H' → Q σ' H'
def tMs (C : Cf) (kd : Nat → Bool) (st : FMs) : TGs := fun vs σ H Q => ∃ ow ρ S ds ρ' S', Rel C kd ow σ ρ S H ∧ RepL H (ZO C ow) ds vs ∧ st ds ρ S = some (ρ', S') ∧ ∀ σ' H' ow', Rel C kd ow' σ' ρ' S' H' → Ev C ow H ow' H' → Q σ' H'
def mPut (i : Nat) (fk : FE) : FM := fun d ρ S => match fk ρ S with
  | some (k, S1) => (match putAt i k d ρ with
    | some ρ' => some (ρ', S1)
    | none => none)
  | none => none
def m0 : FMs := fun ds ρ S => match ds with
  | [] => some (ρ, S)
  | _ => none
def mC (f : FM) (g : FMs) : FMs := fun ds ρ S => match ds with
  | d :: ds => (match f d ρ S with
    | some (ρ1, S1) => g ds ρ1 S1
    | none => none)
  | [] => none
def mT (g : FMs) : FM := fun d ρ S => match d with
  | .tuple ds => g ds ρ S
  | _ => none
theorem mC_len {f : FM} {g : FMs} {n : Nat} (hg : ∀ ds ρ S r, g ds ρ S = some r → ds.length = n) : ∀ ds ρ S r, mC f g ds ρ S = some r → ds.length = n + 1 := fun ds ρ S r e => by
  unfold mC at e
  split at e
  · split at e
    · rw [List.length_cons, hg _ _ _ _ e]
    · cases e
  · cases e
theorem m0_len : ∀ ds ρ S r, m0 ds ρ S = some r → ds.length = 0 := fun ds ρ S r e => by
  unfold m0 at e
  split at e
  · rfl
  · cases e
theorem mg_put {tg : Expr} {i : Nat} {fk : FE} (h : PG X tg (gSub (tVar i) (tS C kd fk) setDic)) (hk : kd i = true := by rfl) : PG X tg (tM C kd (mPut i fk)) :=
  ⟨fun pins s σ H v u Q I r ⟨ow, ρ, S, d, ρ', S', R, rp, e, q⟩ => by
    unfold mPut at e
    split at e
    · rename_i k S1 e1
      split at e
      · rename_i ρ1 e2
        cases e
        obtain ⟨a, q2⟩ := R.ownAt hk e2
        refine h.run pins s σ H v u Q I r ⟨.ref a, q2, ow, ρ, S, k, _, R, e1, fun y H1 k1 s1 r1 => ?_⟩
        have R1 := R.step k1 s1
        obtain ⟨a', H2, q3, g, R2, ev⟩ := R1.putK hk r1 (rp.kp (k1.mono R.fz)) e2
        rw [q2] at q3
        cases q3
        exact ⟨a, H2, rfl, g, q _ H2 ow R2 ((R.ev k1 s1).trans ev)⟩
      · cases e
    · cases e⟩
theorem ms_nil : PGs X [] (tMs C kd m0) := ⟨fun pins s σ H vs us Q I r ⟨ow, ρ, S, ds, ρ', S', R, rp, e, k⟩ => by
  unfold m0 at e
  split at e
  · cases e
    rw [RepL] at rp
    exact pgs_nil.run pins s σ H vs us Q I r ⟨rp, k σ H ow R .refl⟩
  · cases e⟩
theorem RepL.ev (R : Rel C kd ow σ ρ S H) (e : Ev C ow H ow' H') : ∀ {ds : List D} {vs : List V}, RepL H (ZO C ow) ds vs → RepL H' (ZO C ow') ds vs
  | [], vs, r => by
    rw [RepL] at r ⊢
    exact r
  | d :: ds, vs, r => by
    rw [RepL] at r ⊢
    obtain ⟨w, ws, e1, r1, r2⟩ := r
    exact ⟨w, ws, e1, Ev.rep R e r1, RepL.ev R e r2⟩
theorem ms_cons {e : Expr} {es : List Expr} {f : FM} {g : FMs} (h1 : PG X e (tM C kd f)) (h2 : PGs X es (tMs C kd g))
    (hs : (assignEach (e :: es) X.env).map (·.2) = assign e X.env :: (assignEach es X.env).map (·.2) := by rfl) : PGs X (e :: es) (tMs C kd (mC f g)) :=
  ⟨fun pins s σ H vs us Q I r ⟨ow, ρ, S, ds, ρ', S', R, rp, e, k⟩ => by
    unfold mC at e
    split at e
    · rename_i d ds
      split at e
      · rename_i ρ1 S1 e1
        rw [RepL] at rp
        obtain ⟨w, ws, rfl, r1, r2⟩ := rp
        exact (pgs_cons h1 h2 hs).run pins s σ H _ us Q I r ⟨w, ws, rfl, ow, ρ, S, d, ρ1, S1, R, r1, e1, fun σ1 H1 ow1 R1 ev1 => ⟨ow1, ρ1, S1, ds, ρ', S', R1, RepL.ev R ev1 r2, e, fun σ2 H2 ow2 R2 ev2 => k σ2 H2 ow2 R2 (ev1.trans ev2)⟩⟩
      · cases e
    · cases e⟩
theorem mg_tup {es : List Expr} {k0 : Nat} {pos : Pos} {g : FMs} {n : Nat} (hc : X.calm = true) (h : PGs X es (tMs C kd g)) (hl : ∀ ds ρ S r, g ds ρ S = some r → ds.length = n)
    (hn : (assignEach es X.env).length = n := by rfl) (hst : (assignEach es X.env).findIdx? (·.1) = none := by rfl) : PG X (.Tuple es k0 pos) (tM C kd (mT g)) :=
  ⟨fun pins s σ H v u Q I r ⟨ow, ρ, S, d, ρ', S', R, rp, e, k⟩ => by
    unfold mT at e
    split at e
    · rename_i ds
      rw [Rep] at rp
      obtain ⟨a, vs, rfl, h1, r2⟩ := rp
      exact (pg_tup hc h hn hst).run pins s σ H _ u Q I r ⟨a, vs, rfl, .of h1, by rw [RepL.len r2]; exact hl _ _ _ _ e, ow, ρ, S, ds, ρ', S', R, r2, e, k⟩
    · cases e⟩
def gM (st : FM) (f : FE) : FS := fun ρ S => match f ρ S with
  | some (d, S1) => (match st d ρ S1 with
    | some (ρ1, S2) => some (.nx ρ1 S2)
    | none => none)
  | none => none
theorem p_m {s : Stmt} {st : FM} {f : FE} (h : PS X s (tAsg (tX C kd f) (tM C kd st))) : PS X s (tP C kb kd kd (gM st f)) :=
  PS_imp h fun Dn σ H ⟨ow, ρ, S, o, R, e, k⟩ => by
    unfold gM at e
    split at e
    · rename_i d S1 e1
      split at e
      · rename_i ρ1 S2 e2
        cases e
        refine ⟨ow, ρ, S, d, S1, R, e1, fun v H' k1 s1 r1 => ?_⟩
        exact ⟨ow, ρ, S1, d, ρ1, S2, R.step k1 s1, r1, e2, fun σ' H2 ow' R' ev => k σ' H2 ow' R' ((R.ev k1 s1).trans ev)⟩
      · cases e
    · cases e

/-! ### x.pop(e), x.pop(): the list is a def's own -/
abbrev FN := Rho → Src → Option (D × Rho × Src)
def tN (C : Cf) (kd : Nat → Bool) (f : FN) : TE := fun σ H Q => ∃ ow ρ S d ρ' S', Rel C kd ow σ ρ S H ∧ f ρ S = some (d, ρ', S') ∧ ∀ v H', Rel C kd ow σ ρ' S' H' → Ev C ow H ow H' → Rep H' (ZO C ow) d v → Q v H'
def nP (i : Nat) (f : FE) : FN := fun ρ S => match f ρ S with
  | some (.int j, S1) => (match ρ[i]? with
    | some (some (.list ds)) => if -(2 ^ 63) ≤ j ∧ j < 2 ^ 63 then (match seqIndex? j ds.length with
      | some k => (match ds[k]? with
        | some d => some (d, ρ.set i (some (.list (ds.eraseIdx k))), S1)
        | none => none)
      | none => none) else none
    | _ => none)
  | _ => none
theorem n_popAt {e : Expr} {i : Nat} {f : FE} (h : PE X e (tBM X.K "list" rPopAt (tVar i) (tCons (tS C kd f) tNil))) (hk : kd i = true := by rfl) : PE X e (tN C kd (nP i f)) :=
  PE_imp h fun σ H Q ⟨ow, ρ, S, d, ρ', S', R, e, q⟩ => by
    unfold nP at e
    split at e
    · rename_i j S1 e1
      split at e
      · rename_i ds e2
        split at e
        · rename_i hj
          split at e
          · rename_i k e3
            split at e
            · rename_i d' e4
              cases e
              obtain ⟨a, q1, q2, vs, q3, q4⟩ := R.own i _ hk e2
              refine ⟨.ref a, q2, .inl ⟨rfl, vs, .of q3⟩, ow, ρ, S, _, _, R, e1, fun v H1 k1 s1 r1 => ?_⟩
              have R1 := R.step k1 s1
              have nf := R.nf (.inl ⟨i, q1⟩)
              have q3' := k1.ob _ _ q3 nf
              have q4' := q4.kp (k1.mono R.fz)
              obtain ⟨w, e5, rw'⟩ := q4'.get e4
              have kz : Kp (ZO C ow) H1 (upd H1 a (.lst (vs.eraseIdx k))) := Kp.wr (.inr (.inl ⟨i, q1⟩)) (fun xs z => by rw [q3'] at z; cases z) fun o u z => by rw [q3'] at z; cases z
              refine ⟨a, vs, j, k, w, rfl, by rw [r1.int], q3', hj.1, hj.2, by rw [RepL.len q4]; exact e3, e5, ?_⟩
              obtain ⟨R2, ev, _⟩ := R1.put (d := .list (ds.eraseIdx k)) hk q1 q2 (o := .lst (vs.eraseIdx k)) trivial ⟨_, upd_same, (q4'.erase k).kp kz⟩
              exact q w _ R2 ((R.ev k1 s1).trans ev) (rw'.kp kz)
            · cases e
          · cases e
        · cases e
      · cases e
    · cases e
def nPop (i : Nat) : FN := fun ρ S => match ρ[i]? with
  | some (some (.list ds)) => (match ds[ds.length - 1]? with
    | some d => some (d, ρ.set i (some (.list ds.dropLast)), S)
    | none => none)
  | _ => none
theorem RepL.dl {Z : Zn} : ∀ {ds : List D} {vs : List V}, RepL H Z ds vs → RepL H Z ds.dropLast vs.dropLast := fun {ds vs} r => by
  rw [List.dropLast_eq_take, List.dropLast_eq_take, RepL.len r]
  exact r.take _
theorem n_pop {e : Expr} {i : Nat} (h : PE X e (tBM0 X.K "list" rPop (tVar i))) (hk : kd i = true := by rfl) : PE X e (tN C kd (nPop i)) :=
  PE_imp h fun σ H Q ⟨ow, ρ, S, d, ρ', S', R, e, q⟩ => by
    unfold nPop at e
    split at e
    · rename_i ds e2
      split at e
      · rename_i d' e4
        cases e
        obtain ⟨a, q1, q2, vs, q3, q4⟩ := R.own i _ hk e2
        obtain ⟨w, e5, rw'⟩ := q4.get e4
        have kz : Kp (ZO C ow) H (upd H a (.lst vs.dropLast)) := Kp.wr (.inr (.inl ⟨i, q1⟩)) (fun xs z => by rw [q3] at z; cases z) fun o u z => by rw [q3] at z; cases z
        refine ⟨.ref a, q2, .inl ⟨rfl, vs, .of q3⟩, a, vs, w, rfl, rfl, q3, by rw [RepL.len q4]; exact e5, ?_⟩
        obtain ⟨R2, ev, _⟩ := R.put (d := .list ds.dropLast) hk q1 q2 (o := .lst vs.dropLast) trivial ⟨_, upd_same, q4.dl.kp kz⟩
        exact q w _ R2 ev (rw'.kp kz)
      · cases e
    · cases e
def gSetN (i : Nat) (f : FN) : FS := fun ρ S => match f ρ S with
  | some (d, ρ1, S1) => some (.nx (ρ1.set i (some d)) S1)
  | none => none
theorem p_setN {st : Stmt} {i : Nat} {f : FN} (h : PS X st (tAsg (tN C kd f) (gName i))) (hk : kd i = false := by rfl) (h0 : i ≠ C.sx ∨ C.src = none := by exact .inl (Nat.ne_of_beq_eq_false rfl)) : PS X st (tP C kb kd kd (gSetN i f)) :=
  PS_imp h fun Dn σ H ⟨ow, ρ, S, o, R, e, k⟩ => by
    unfold gSetN at e
    split at e
    · rename_i d ρ1 S1 e1
      cases e
      exact ⟨ow, ρ, S, d, ρ1, S1, R, e1, fun v H' R' ev r1 => k _ H' ow (R'.set hk h0 r1) ev⟩
    · cases e
def gRetNN (f : FN) : FS := fun ρ S => match f ρ S with
  | some (d, _, S1) => some (.rt d S1)
  | none => none
theorem p_retNN {s : Stmt} {f : FN} (h : PS X s (tRet (tN C kd f))) : PS X s (tP C kb kd kd' (gRetNN f)) := PS_imp h fun Dn σ H ⟨ow, ρ, S, o, R, e, k⟩ => by
  unfold gRetNN at e
  split at e
  · rename_i d ρ1 S1 e1
    cases e
    exact ⟨ow, ρ, S, d, ρ1, S1, R, e1, fun v H' R' ev r1 => k v H' R'.base R'.src (r1.less fun a z => .inl z)⟩
  · cases e
def gAppN (i : Nat) (f : FN) : FS := fun ρ S => match f ρ S with
  | some (d, ρ1, S1) => (match ρ1[i]? with
    | some (some (.list ds)) => if ds.length < sizeLine then some (.nx (ρ1.set i (some (.list (ds ++ [d])))) S1) else none
    | _ => none)
  | none => none
theorem p_appN {s : Stmt} {i : Nat} {f : FN} (h : PS X s (tDrop (tBM X.K "list" rAppend (tVar i) (tCons (tN C kd f) tNil)))) (hl : ∀ ρ S r, f ρ S = some r → ∀ ds, r.2.1[i]? = some (some (.list ds)) → ∃ es, ρ[i]? = some (some (.list es))) (hk : kd i = true := by rfl) : PS X s (tP C kb kd kd (gAppN i f)) :=
  PS_imp h fun Dn σ H ⟨ow, ρ, S, o, R, e, k⟩ => by
    unfold gAppN at e
    split at e
    · rename_i d ρ1 S1 e1
      split at e
      · rename_i ds e2
        split at e
        · rename_i hz
          cases e
          obtain ⟨es, e3⟩ := hl ρ S _ e1 ds e2
          obtain ⟨a, q1, q2, vs, q3, q4⟩ := R.own i _ hk e3
          refine ⟨.ref a, q2, .inl ⟨rfl, vs, .of q3⟩, ow, ρ, S, d, ρ1, S1, R, e1, fun v H1 R1 ev r1 => ?_⟩
          obtain ⟨a', p1, p2, ws, p3, p4⟩ := R1.own i _ hk e2
          rw [q2] at p2
          cases p2
          refine ⟨a, ws, v, rfl, rfl, p3, by rw [RepL.len p4]; exact hz, ?_⟩
          have kz : Kp (ZO C ow) H1 (upd H1 a (.lst (ws ++ [v]))) := Kp.wr (.inr (.inl ⟨i, p1⟩)) (fun xs z => by rw [p3] at z; cases z) fun o u z => by rw [p3] at z; cases z
          obtain ⟨R2, ev2, _⟩ := R1.put (d := .list (ds ++ [d])) hk p1 q2 (o := .lst (ws ++ [v])) trivial ⟨_, upd_same, (p4.app (.cons r1 .nil)).kp kz⟩
          exact k _ _ ow R2 (ev.trans ev2)
        · cases e
      · cases e
    · cases e
end
end TL

set_option Elab.async false
set_option linter.all false
set_option maxRecDepth 100000
set_option maxHeartbeats 4000000
namespace TL
open PySem PySem.Spec PyProof.Rows L2
theorem not_in {vs : List Nat} {n : Nat} {p : Prop} (h : vs.all (fun i => !(Nat.beq i n)) = true) : n ∉ vs ∨ p := .inl fun hi => by
  have q := List.all_eq_true.mp h n hi
  rw [Nat.beq_refl] at q
  cases q

section
variable {X : Cx} {C : Cf} {kb kd kd1 kd2 kd' : Nat → Bool} {ow ow1 ow2 ow' : Ow} {σ σ' : L2.St} {ρ : Rho} {S S' : Src} {H H1 H2 H' : Hp} {d : D} {v : V}
/-! ### a comprehension whose item changes a def's own list -/
def compN (vs : List Nat) (st : FG) (t : FB) (e : FN) : List D → Rho → Src → Option (List D × Rho × Src)
  | [], ρ, S => some ([], ρ, S)
  | d :: ds, ρ, S => match st d ρ with
    | some ρ1 => (match t ρ1 S with
      | some (true, S1) => (match e ρ1 S1 with
        | some (y, ρ2, S2) => (match compN vs st t e ds (wipeR ρ2 vs) S2 with
          | some (ys, ρ3, S3) => some (y :: ys, ρ3, S3)
          | none => none)
        | none => none)
      | some (false, S1) => compN vs st t e ds (wipeR ρ1 vs) S1
      | none => none)
    | none => none
def lcN (vs : List Nat) (fI : FA) (st : FG) (t : FB) (e : FN) : FN := fun ρ S => match fI ρ S with
  | some (ds, S1) => if ds.length ≤ sizeLine then (match compN vs st t e ds (wipeR ρ vs) S1 with
    | some (ys, ρ2, S2) => some (.list ys, ρ2, S2)
    | none => none) else none
  | none => none
/-- the list in the making is let go -/
theorem Rel.unmake {sl : Nat → Option Addr} {ex : List Addr} {p : Addr} (R : Rel C kd ⟨sl, p :: ex⟩ σ ρ S H) : Rel C kd ⟨sl, ex⟩ σ ρ S H := by
  have up : ∀ a, Own ⟨sl, ex⟩ a → Own ⟨sl, p :: ex⟩ a := fun a z => z.elim .inl fun z => .inr (List.mem_cons_of_mem _ z)
  have zo : ∀ a, ZO C ⟨sl, ex⟩ a → ZO C ⟨sl, p :: ex⟩ a := fun a z => z.elim .inl fun z => .inr (up a z)
  refine ⟨R.dom, R.ft, R.base, R.src, R.len, R.sr, fun j e h1 h2 => ?_, fun j e h1 h2 => ?_, R.inj, fun j a e z => R.dj j a e (List.mem_cons_of_mem _ z), fun a z => R.new a (up a z)⟩
  · obtain ⟨v, q, r⟩ := R.cl j e h1 h2
    exact ⟨v, q, r.less zo⟩
  · obtain ⟨b, q1, q2, r⟩ := R.own j e h1 h2
    refine ⟨b, q1, q2, ?_⟩
    cases e <;> first
      | exact r.elim
      | (obtain ⟨vs, z1, z2⟩ := r
         exact ⟨vs, z1, z2.less zo⟩)
      | (obtain ⟨vs, z1, z2⟩ := r
         exact ⟨vs, z1, RepV.less zo z2⟩)
/-- slots that say nothing may hold what they like -/
theorem Rel.unwipe {vs : List Nat} (R : Rel C kd ow (L2.wipe σ vs) ρ S H) (h : wipeR ρ vs = ρ) (h0 : C.sx ∉ vs ∨ C.src = none) : Rel C kd ow σ ρ S H := by
  have out : ∀ {j : Nat} {e : D}, ρ[j]? = some (some e) → j ∉ vs := fun {j e} q => by
    rw [← h] at q
    exact (wipeR_some q).2
  refine ⟨R.dom, R.ft, R.base, R.src, by rw [R.len, wipe_length], fun p hp => ?_, fun j e h1 h2 => ?_, fun j e h1 h2 => ?_, R.inj, R.dj, R.new⟩
  · obtain ⟨q1, q2⟩ := R.sr p hp
    rcases h0 with h0 | h0
    · exact ⟨by rw [wipe_out h0] at q1; exact q1, q2⟩
    · rw [h0] at hp; cases hp
  · obtain ⟨w, q, r⟩ := R.cl j e h1 h2
    exact ⟨w, by rw [wipe_out (out h2)] at q; exact q, r⟩
  · obtain ⟨b, q1, q2, r⟩ := R.own j e h1 h2
    exact ⟨b, q1, by rw [wipe_out (out h2)] at q2; exact q2, r⟩
theorem wipeR_set {i : Nat} : ∀ {vs : List Nat}, i ∈ vs → ∀ (ρ : Rho), (wipeR ρ vs)[i]? = (if i < ρ.length then some none else none)
  | [], h, _ => by simp at h
  | v :: vs, h, ρ => by
    rw [wipeR, List.getElem?_set]
    by_cases hv : v = i
    · rw [if_pos hv, wipeR_len, hv]
    · rw [if_neg hv]
      exact wipeR_set ((List.mem_cons.mp h).resolve_left fun z => hv z.symm) ρ
theorem wipeR_twice {vs : List Nat} : wipeR (wipeR ρ vs) vs = wipeR ρ vs := by
  apply List.ext_getElem?
  intro i
  by_cases hi : i ∈ vs
  · rw [wipeR_set hi, wipeR_set hi, wipeR_len]
  · rw [wipeR_out hi]
theorem compN_wiped {vs : List Nat} {st : FG} {t : FB} {e : FN} : ∀ {ds : List D} {ρ ρ' : Rho} {S S' : Src} {ys : List D}, wipeR ρ vs = ρ → compN vs st t e ds ρ S = some (ys, ρ', S') → wipeR ρ' vs = ρ'
  | [], _, _, _, _, _, w, h => by
    rw [compN] at h
    cases h
    exact w
  | d :: ds, _, _, _, _, _, w, h => by
    rw [compN] at h
    split at h
    · split at h
      · split at h
        · split at h
          · rename_i e4
            cases h
            exact compN_wiped wipeR_twice e4
          · cases h
        · cases h
      · exact compN_wiped wipeR_twice h
      · cases h
    · cases h
theorem Ev.made {sl : Nat → Option Addr} {ex : List Addr} {p : Addr} (hp : H p = none) {o : HO} (e : Ev C ⟨sl, p :: ex⟩ (upd H p o) ⟨sl, p :: ex⟩ H') : Ev C ⟨sl, ex⟩ H ⟨sl, ex⟩ H' := by
  have ne : ∀ {a : Addr} {u : HO}, H a = some u → a ≠ p := fun q z => by rw [z, hp] at q; cases q
  exact ⟨⟨fun a u q n => e.kp.ob a u (by rw [upd_ne (ne q)]; exact q) n, fun a xs q => e.kp.tp a xs (by rw [upd_ne (ne q)]; exact q), fun a u w q => e.kp.fz a u w (by rw [upd_ne (ne q)]; exact q)⟩,
    fun a q => e.th a (by
      by_cases z : a = p
      · rw [z, upd_same]; exact fun z => nomatch z
      · rw [upd_ne z]; exact q), fun i a z _ => ⟨i, z⟩, fun _ => Iff.rfl⟩
/-- a slot's list, then the new one is let grow -/
theorem Ev.grown {sl : Nat → Option Addr} {ex : List Addr} {p : Addr} {o : HO} {o' : HO} (h : Ev C ⟨sl, p :: ex⟩ (upd H1 p o') ⟨sl, p :: ex⟩ H2) (hp : H1 p = none) : Kp (chg C ⟨sl, ex⟩) H1 (upd H2 p o) ∧ ∀ a, H1 a ≠ none → (upd H2 p o) a ≠ none := by
  have ne : ∀ {a : Addr} {u : HO}, H1 a = some u → a ≠ p := fun q z => by rw [z, hp] at q; cases q
  have h := h.made hp
  exact ⟨⟨fun a u q n => by rw [upd_ne (ne q)]; exact h.kp.ob a u q n, fun a xs q => by rw [upd_ne (ne q)]; exact h.kp.tp a xs q, fun a u w q => by rw [upd_ne (ne q)]; exact h.kp.fz a u w q⟩, fun a q => by
    by_cases z : a = p
    · rw [z, upd_same]; exact fun z => nomatch z
    · rw [upd_ne z]; exact h.th a q⟩
theorem lcN_run {fI : FA} {st : FG} {ft : FB} {fe : FN} {is vs : List Nat} {Q : VK} (hz : C.sx ∉ vs ∨ C.src = none) (his : ∀ i ∈ is, i ∈ vs) (q : tN C kd (lcN vs fI st ft fe) σ H Q) : tLc (tI C kd true fI) (tG C kd is st) (tB C kd ft) (tN C kd fe) vs σ H Q := by
  obtain ⟨ow, ρ, S, d, ρE, S', R, e, k⟩ := q
  unfold lcN at e
  split at e
  · rename_i ds S1 e1
    split at e
    · rename_i hl
      split at e
      · rename_i ys ρE' S2' e2
        cases e
        have hw := compN_wiped wipeR_twice e2
        refine ⟨ow, ρ, S, ds, S1, R, e1, fun J H1 k1 s1 W D hD => ?_⟩
        have R1 := R.step k1 s1
        have R2 := (R1.make (o := .lst []) hD trivial).wipe hz
        rw [if_pos rfl] at W
        refine ⟨fun i m H2 => m = ds.length - i ∧ i ≤ ds.length ∧ ∃ S2 ρ2 ys1 ys2 acc, ys = ys1 ++ ys2 ∧ compN vs st ft fe (ds.drop i) ρ2 S2 = some (ys2, ρE, S') ∧ Rel C kd ⟨ow.sl, D :: ow.ex⟩ (wipe σ vs) ρ2 S2 H2 ∧
          Kp (chg C ow) H1 H2 ∧ (∀ a, H1 a ≠ none → H2 a ≠ none) ∧ H2 D = some (.lst acc) ∧ RepL H2 (ZO C ⟨ow.sl, D :: ow.ex⟩) ys1 acc ∧ acc.length ≤ i,
          ⟨ds.length, by simp, Nat.zero_le _, S1, wipeR ρ vs, [], ys, [], rfl, by rw [List.drop_zero]; exact e2, R2, .upd hD, fun a q => ?_, upd_same, .nil, Nat.le_refl _⟩, ?_⟩
        · by_cases z : a = D
          · rw [z, upd_same]; exact fun z => nomatch z
          · rw [upd_ne z]; exact q
        rintro i m H2 ⟨rfl, hi, S2, ρ2, ys1, ys2, acc, rfl, e3, R3, k2, th, hd, r3, ha⟩
        by_cases hlt : i < ds.length
        · obtain ⟨go, step⟩ := (W i H2 k2).1 hlt
          refine .inr ⟨go, fun H' => ∃ S2' ρ2' ys1' ys2' acc', ys1 ++ ys2 = ys1' ++ ys2' ∧ compN vs st ft fe (ds.drop (i + 1)) ρ2' S2' = some (ys2', ρE, S') ∧ Rel C kd ⟨ow.sl, D :: ow.ex⟩ (wipe σ vs) ρ2' S2' H' ∧
            Kp (chg C ow) H1 H' ∧ (∀ a, H1 a ≠ none → H' a ≠ none) ∧ H' D = some (.lst acc') ∧ RepL H' (ZO C ⟨ow.sl, D :: ow.ex⟩) ys1' acc' ∧ acc'.length ≤ i + 1, fun H' hN => ⟨ds.length - (i + 1), by omega, rfl, hlt, hN⟩, fun x H3 y => ?_⟩
          obtain ⟨k3, d, ed, rd⟩ := step x H3 y
          have hdr : ds.drop i = d :: ds.drop (i + 1) := by
            obtain ⟨h, e'⟩ := List.getElem?_eq_some_iff.mp ed
            rw [← e', List.drop_eq_getElem_cons h]
          rw [hdr, compN] at e3
          have s3 := R3.src.kp k3
          have R4 := R3.step k3.z0 s3
          have rx : Rep H3 (ZO C ⟨ow.sl, D :: ow.ex⟩) d x := rd _ (fun a z => by
            rcases z with z | z | z
            · exact .inl (.inl z)
            · exact .inl (.inr (.inl z))
            · rcases List.mem_cons.mp z with z | z
              · rw [z]; exact .inr hD
              · exact .inl (.inr (.inr z))) fun a z => R3.cz a z
          split at e3
          · rename_i ρ1 e4
            refine ⟨⟨ow.sl, D :: ow.ex⟩, ρ2, S2, d, ρ1, R4, rx, e4, fun σ2 R5 o2 => ⟨?_, ?_⟩⟩
            · rw [wipe_eq (σ := wipe σ vs) ⟨o2.1, fun j hj => o2.2 j fun z => hj (his j z)⟩, wipe_wipe]
            have hw2 : wipe σ2 vs = wipe σ vs := by rw [wipe_eq (σ := wipe σ vs) ⟨o2.1, fun j hj => o2.2 j fun z => hj (his j z)⟩, wipe_wipe]
            have nD : ¬ chg C ow D := fun f => R1.fresh hD (R1.cz D f)
            have k3' : Kp (chg C ow) H1 H3 := k2.trans k3.z0
            have hd3 : H3 D = some (.lst acc) := k3.ob _ _ hd fun z => z
            have r3' := r3.kp (k3.z0 (Z := ZO C ⟨ow.sl, D :: ow.ex⟩))
            have th3 : ∀ a, H1 a ≠ none → H3 a ≠ none := fun a q => (R3.ev k3.z0 s3).th a (th a q)
            split at e3
            · rename_i S3 e5
              refine ⟨⟨ow.sl, D :: ow.ex⟩, ρ1, S2, true, S3, R5, e5, fun H4 k4 s4 => ?_⟩
              have R6 := R5.step k4 s4
              have hd4 : H4 D = some (.lst acc) := k4.ob _ _ hd3 fun f => nD (.inl f)
              refine iteT ?_
              split at e3
              · rename_i y ρ3 S4 e7
                split at e3
                · rename_i ys' ρ4 S5 e8
                  cases e3
                  refine ⟨⟨ow.sl, D :: ow.ex⟩, ρ1, S3, y, ρ3, S4, R6, e7, fun w H5 R7 ev5 r5 => ?_⟩
                  have ev15 := (R5.ev k4 s4).trans ev5
                  have nc5 : ¬ chg C ⟨ow.sl, D :: ow.ex⟩ D := nD
                  have hd5 : H5 D = some (.lst acc) := ev5.kp.ob _ _ hd4 nc5
                  have r5a : RepL H5 (ZO C ⟨ow.sl, D :: ow.ex⟩) ys1 acc := (r3'.kp (k4.mono R5.fz)).kp (ev5.kp.mono R6.cz)
                  have kz : Kp (ZO C ⟨ow.sl, D :: ow.ex⟩) H5 (upd H5 D (.lst (acc ++ [w]))) := Kp.wr (.inr (.inr (List.mem_cons_self ..))) (fun xs z => by rw [hd5] at z; cases z) fun o u z => by rw [hd5] at z; cases z
                  have R8 := (R7.wipe hz).grow (o := .lst (acc ++ [w])) (p := D) (List.mem_cons_self ..) trivial
                  rw [hw2] at R8
                  have k15 : Kp (chg C ow) H1 H5 := (k3'.trans (k4.mono fun a f => .inl f)).trans ev5.kp
                  refine ⟨acc, hd5, Nat.lt_of_le_of_lt ha (Nat.lt_of_lt_of_le hlt hl), S4, wipeR ρ3 vs, ys1 ++ [y], ys', acc ++ [w], by rw [List.append_assoc]; rfl, e8, R8, ?_, fun a q => ?_, upd_same, (r5a.app (.cons r5 .nil)).kp kz, by rw [List.length_append, List.length_singleton]; omega⟩
                  · exact ⟨fun a o z n => by rw [upd_ne (ne_of_none z hD)]; exact k15.ob a o z n, fun a xs z => by rw [upd_ne (ne_of_none z hD)]; exact k15.tp a xs z, fun a o u z => by rw [upd_ne (ne_of_none z hD)]; exact k15.fz a o u z⟩
                  · by_cases z : a = D
                    · rw [z, upd_same]; exact fun z => nomatch z
                    · rw [upd_ne z]; exact ev15.th a (th3 a q)
                · cases e3
              · cases e3
            · rename_i S3 e5
              refine ⟨⟨ow.sl, D :: ow.ex⟩, ρ1, S2, false, S3, R5, e5, fun H4 k4 s4 => ?_⟩
              refine iteF ?_
              have R6 := (R5.step k4 s4).wipe hz
              rw [hw2] at R6
              exact ⟨S3, wipeR ρ1 vs, ys1, ys2, acc, rfl, e3, R6, k3'.trans (k4.mono fun a f => .inl f), fun a q => (R5.ev k4 s4).th a (th3 a q), k4.ob _ _ hd3 fun f => nD (.inl f), r3'.kp (k4.mono R5.fz), by omega⟩
            · cases e3
          · cases e3
        · have hie : i = ds.length := by omega
          subst hie
          rw [List.drop_length, compN] at e3
          cases e3
          refine .inl ⟨(W _ H2 k2).2 (Nat.le_refl _), ?_⟩
          rw [List.append_nil] at k
          refine k _ H2 (R3.unmake.unwipe hw hz) ((R.ev k1 s1).trans ⟨k2, th, fun i a z _ => ⟨i, z⟩, fun _ => Iff.rfl⟩) ?_
          rw [Rep]
          exact ⟨D, acc, rfl, hd, R1.fresh hD, r3.less fun a z => z.elim .inl fun z => z.elim (fun z => .inr (.inl z)) fun z => .inr (.inr (List.mem_cons_of_mem _ z))⟩
      · cases e
    · cases e
  · cases e
theorem x_lcN {elt tg iter : Expr} {ifs : List Expr} {scope : Scope} {own : List (Str × Nat)} {pos : Pos} {fI : FA} {st : FG} {ft : FB} {fe : FN} {is : List Nat} (hc : X.calm = true) (hN : X.N.Nodup) (hi : PI X tg iter (tI C kd true fI)) (ok : BlkOk X.N X.env.scope scope own)
    (hz : C.sx ∉ own.map (·.2) ∨ C.src = none) (his : ∀ i ∈ is, i ∈ own.map (·.2))
    (hg : ∀ (s : Shared) (H : Hp) (A : Addr) (cl : List (Str × Addr)) (fp : List Addr), PG (X.blk s H scope (compEnvC scope cl A X.env) fp) tg (tG C kd is st)) (ht : ∀ (s : Shared) (H : Hp) (A : Addr) (cl : List (Str × Addr)) (fp : List Addr), PTs (X.blk s H scope (compEnvC scope cl A X.env) fp) ifs (tB C kd ft))
    (he : ∀ (s : Shared) (H : Hp) (A : Addr) (cl : List (Str × Addr)) (fp : List Addr), PE (X.blk s H scope (compEnvC scope cl A X.env) fp) elt (tN C kd fe)) (hs : ∀ x, foldedSetIterable iter X.env x = pure x := by intro _; rfl) :
    PE X (.ListComp elt [⟨tg, iter, ifs, 0⟩] scope pos) (tN C kd (lcN (own.map (·.2)) fI st ft fe)) :=
  PE_imp (pe_lc hc hN hi ok hg ht he hs) fun σ H Q q => lcN_run hz his q
end
end TL

set_option Elab.async false
set_option linter.all false
set_option maxRecDepth 100000
set_option maxHeartbeats 4000000
namespace TL
open PySem PySem.Spec PyProof.Rows L2

/-! ### a def by its body -/
abbrev fnX (P : Program) (w : World) (K : PySem.W.Frag) (mg : Str → Option Value) (base : Heap) (N : List Str) (qual : Str) (st : Stmt) (f : Addr) (cdv : Value) (A : Around) (outer : List Env) (s : Shared) (H : Hp) : Cx :=
  (cxOf CX0 P w K mg base N qual (defScope st) f cdv A outer s H E0).nox
section
variable {P : Program} {w : World} {K : PySem.W.Frag} {mg : Str → Option Value} {base : Heap}
theorem fnG_of {x qual : Str} {st : Stmt} {f : Addr} {fd : FuncData} {N ps : List Str} {k : Nat} {sp : Sp} (F : Fun K x qual st f fd) (S : FnScope N ps (defScope st)) (ln : ∀ vs H Q E, sp vs H Q E → vs.length = ps.length)
    (body : ∀ (cdv : Value) (A : Around) (outer : List Env) (s : Shared) (H : Hp) (vs : List V) (Q : VK), Room k (fnX P w K mg base N qual st f cdv A outer s H).A → (fnX P w K mg base N qual st f cdv A outer s H).A.guards = some [] → sp vs H Q E0 →
      ∃ t, PSs (fnX P w K mg base N qual st f cdv A outer s H) (defBody st) t ∧ t { nx := fun _ H' => Q .non H', rt := Q } (L2.start N vs) H) : FnG P w K mg base (k + 1) f fd ps sp := by
  refine ⟨ln, fun A outer s H args us vs Q gd room e0 hb rv hsp => ?_⟩
  obtain ⟨oc, od, kV, doc, pm, an, cdv, ct, osl, rfl, lk, hcd⟩ := F.ex
  have hl := ln _ _ _ _ hsp
  have stays : ∀ b o, base.get? b = some o → s.heap.get? b = some o := fun b o e => (e0.bs b o e).1
  have KX : K.In s.heap := e0.mod.kin.keeps stays
  have kinds : ∀ y ∈ ps.zip us, (defScope st).names.lookup y.1 = some .local ∨ ((defScope st).names.lookup y.1 = some .cell ∧ ((cellsFrom (s.heap.objs.size + 1) (defScope st).names []).lookup y.1).isSome = true) := fun y hy =>
    (S.par y.1 (List.of_mem_zip (show (y.1, y.2) ∈ ps.zip us from hy)).1).elim .inl fun q => .inr ⟨q, PySem.W.cellsFrom_some _ _ _ (.inl q)⟩
  refine codeAny_call_function room.depth (KX _ _ lk) rfl S.co S.gen rfl (PySem.W.codeRec_of KX hcd) (hb _ _ _ _ (wpAny_newFunctionEnv_cells S.kind kinds fun env he s1 ic => ?_))
  subst he
  refine ⟨(e0.mod.nolimit.keeps stays).keeps ic.toInCall.keep, codeAny_func ?_⟩
  obtain ⟨t, ht, hq⟩ := body cdv A outer s H vs Q (room.deeper _) gd hsp
  have I := inv_start (CX := CX0) (E := E0) (qual := qual) (cd := cdv) (f := f) S room.hd e0 hl rv ic
  refine wpAny_mono (ht.nox.run [] s1 (L2.start N vs) H _ I hq) (fun fl s' hs => ?_) fun e s' hs => hs
  cases fl with
  | next =>
    obtain ⟨σ', H', J, q⟩ := hs
    exact ⟨V.non, H', J.os, J.bare, J.base, J.hok, rfl, q⟩
  | ret u =>
    obtain ⟨v, σ', H', J, r, q⟩ := hs
    exact ⟨v, H', J.os, J.bare, J.base, J.hok, r, q⟩
  | brk =>
    obtain ⟨_, _, _, q⟩ := hs
    cases q
  | cont =>
    obtain ⟨_, _, _, q⟩ := hs
    cases q
/-! ### what a body's mirror says -/
theorem s0ok : (⟨[], 0, 0, 0⟩ : Src0).Ok := by
  refine ⟨fun _ h => (nomatch h), by decide, by decide, ?_, by decide, by decide⟩
  unfold lim
  exact Nat.pow_pos (by decide)
def S0 : Src := ⟨⟨[], 0, 0, 0⟩, s0ok⟩
def runP (L : Nat) (g : FS) (ds : List D) : Option D := match g (ds.map some ++ List.replicate (L - ds.length) none) S0 with
  | some (.rt d _) => some d
  | some (.nx _ _) => some .none
  | _ => none
def runS (L : Nat) (g : FS) (ds : List D) (S : Src) : Option (D × Src) := match g (none :: ds.map some ++ List.replicate (L - (ds.length + 1)) none) S with
  | some (.rt d S1) => some (d, S1)
  | some (.nx _ S1) => some (.none, S1)
  | _ => none
def ow0 : Ow := ⟨fun _ => none, []⟩
theorem own0 {a : Addr} : ¬ Own ow0 a := fun z => z.elim (fun ⟨_, z⟩ => by cases z) fun z => by cases z
theorem start_get {ds : List D} {n i : Nat} {d : D} (h : (ds.map some ++ List.replicate n none)[i]? = some (some d)) : i < ds.length ∧ ds[i]? = some d := by
  by_cases hi : i < ds.length
  · rw [List.getElem?_append_left (by simpa using hi), List.getElem?_map] at h
    cases e : ds[i]? with
    | none => rw [e] at h; cases h
    | some a => rw [e] at h; cases h; exact ⟨hi, rfl⟩
  · rw [List.getElem?_append_right (by simpa using hi), List.getElem?_replicate] at h
    split at h <;> cases h
theorem start_val {vs : List V} {n i : Nat} {v : V} (h : vs[i]? = some v) : (vs.map some ++ List.replicate n none)[i]? = some (some v) := by
  have hi : i < vs.length := (List.getElem?_eq_some_iff.mp h).1
  rw [List.getElem?_append_left (by simpa using hi), List.getElem?_map, h]
  rfl
theorem rel_P {N : List Str} {kd : Nat → Bool} {Z : Zn} {H : Hp} {ds : List D} {vs : List V} (hZ : ∀ a, Z a → H a ≠ none) (r : RepL H Z ds vs) (hk : ∀ i, i < ds.length → kd i = false) :
    Rel ⟨Z, H, none, 1000⟩ kd ow0 (L2.start N vs) (ds.map some ++ List.replicate (N.length - ds.length) none) S0 H := by
  have hl := RepL.len r
  refine ⟨hZ, fun a f => f.elim, .refl, trivial, ?_, fun p hp => (nomatch hp), fun i d h1 h2 => ?_, fun i d h1 h2 => ?_, fun i j a e => (nomatch e), fun i a e => (nomatch e), fun a z => absurd z own0⟩
  · unfold L2.start
    rw [List.length_append, List.length_append, List.length_map, List.length_map, List.length_replicate, List.length_replicate, hl]
  · obtain ⟨hi, e⟩ := start_get h2
    obtain ⟨v, e1, r1⟩ := r.get e
    exact ⟨v, start_val e1, r1.less fun a z => z.elim id fun z => absurd z own0⟩
  · rw [hk i (start_get h2).1] at h1
    cases h1
/-- a def without the drawing object -/
theorem fn_P {x qual : Str} {st : Stmt} {f : Addr} {fd : FuncData} {N ps : List Str} {k n : Nat} {kb kd kd' : Nat → Bool} {g : FS} (F : Fun K x qual st f fd) (S : FnScope N ps (defScope st)) (hn : ps.length = n) (hk : ∀ i, i < n → kd i = false)
    (body : ∀ (cdv : Value) (A : Around) (outer : List Env) (s : Shared) (H : Hp) (Z : Zn), Room k (fnX P w K mg base N qual st f cdv A outer s H).A → (fnX P w K mg base N qual st f cdv A outer s H).A.guards = some [] →
      PSs (fnX P w K mg base N qual st f cdv A outer s H) (defBody st) (tP ⟨Z, H, none, 1000⟩ kb kd kd' g)) : FnG P w K mg base (k + 1) f fd ps (spP n (runP N.length g)) := by
  refine fnG_of F S (fun vs H Q E ⟨Z, ds, d, h1, h2, h3, _⟩ => by rw [RepL.len h2, h3, hn]) fun cdv A outer s H vs Q room gd ⟨Z, ds, d, hZ, r, hd, e, q⟩ => ⟨_, body cdv A outer s H Z room gd, ?_⟩
  unfold runP at e
  split at e
  · rename_i d' S' e1
    cases e
    exact ⟨ow0, _, _, _, rel_P hZ r (fun i hi => hk i (by omega)), e1, fun v H' k1 s1 r1 => q v H' (k1.mono fun a f => f) r1⟩
  · rename_i ρ' S' e1
    cases e
    exact ⟨ow0, _, _, _, rel_P hZ r (fun i hi => hk i (by omega)), e1, fun σ' H' ow' R' ev => q .non H' (R'.base.mono fun a f => f) (by rw [Rep])⟩
  · cases e
theorem rel_S {N : List Str} {kd : Nat → Bool} {Z : Zn} {H : Hp} {x c : Addr} {S : Src} {ds : List D} {vs : List V} (hZ : ∀ a, Z a → H a ≠ none) (hs : SrcAt H x c S) (zx : Z x) (zc : Z c) (r : RepL H Z ds vs) (hk : ∀ i, i < ds.length + 1 → kd i = false) :
    Rel ⟨Z, H, some (x, c), 0⟩ kd ow0 (L2.start N (.ref x :: vs)) (none :: ds.map some ++ List.replicate (N.length - (ds.length + 1)) none) S H := by
  have hl := RepL.len r
  refine ⟨hZ, fun a f => ?_, .refl, hs, ?_, fun p hp => ?_, fun i d h1 h2 => ?_, fun i d h1 h2 => ?_, fun i j a e => (nomatch e), fun i a e => (nomatch e), fun a z => absurd z own0⟩
  · rcases f with rfl | rfl
    · exact zx
    · exact zc
  · unfold L2.start
    rw [List.length_append, List.length_append, List.length_cons, List.length_map, List.length_map, List.length_replicate, List.length_replicate, List.length_cons, hl]
  · cases hp
    exact ⟨rfl, rfl⟩
  · cases i with
    | zero => cases h2
    | succ i =>
      obtain ⟨hi, e⟩ := start_get (i := i) h2
      obtain ⟨v, e1, r1⟩ := r.get e
      exact ⟨v, start_val (vs := .ref x :: vs) (i := i + 1) e1, r1.less fun a z => z.elim id fun z => absurd z own0⟩
  · cases i with
    | zero => cases h2
    | succ i =>
      rw [hk (i + 1) (by have := (start_get (i := i) h2).1; omega)] at h1
      cases h1
/-- a def whose first parameter is the drawing object -/
theorem fn_S {y qual : Str} {st : Stmt} {f : Addr} {fd : FuncData} {N ps : List Str} {k n : Nat} {kb kd kd' : Nat → Bool} {g : FS} (F : Fun K y qual st f fd) (S : FnScope N ps (defScope st)) (hn : ps.length = n + 1) (hk : ∀ i, i < n + 1 → kd i = false)
    (body : ∀ (cdv : Value) (A : Around) (outer : List Env) (s : Shared) (H : Hp) (Z : Zn) (x c : Addr), Room k (fnX P w K mg base N qual st f cdv A outer s H).A → (fnX P w K mg base N qual st f cdv A outer s H).A.guards = some [] →
      PSs (fnX P w K mg base N qual st f cdv A outer s H) (defBody st) (tP ⟨Z, H, some (x, c), 0⟩ kb kd kd' g)) : FnG P w K mg base (k + 1) f fd ps (spS n (runS N.length g)) := by
  refine fnG_of F S (fun vs H Q E ⟨Z, x, c, T, ds, ws, d, T', e, _, _, _, _, h2, h3, _⟩ => by rw [e, List.length_cons, RepL.len h2, h3, hn]) fun cdv A outer s H vs Q room gd ⟨Z, x, c, T, ds, ws, d, T', ev, hs, zx, zc, hZ, r, hd, e, q⟩ => ⟨_, body cdv A outer s H Z x c room gd, ?_⟩
  subst ev
  unfold runS at e
  split at e
  · rename_i d' S' e1
    cases e
    exact ⟨ow0, _, _, _, rel_S hZ hs zx zc r (fun i hi => hk i (by omega)), e1, fun v H' k1 s1 r1 => q v H' k1 s1 r1⟩
  · rename_i ρ' S' e1
    cases e
    exact ⟨ow0, _, _, _, rel_S hZ hs zx zc r (fun i hi => hk i (by omega)), e1, fun σ' H' ow' R' ev => q .non H' R'.base R'.src (by rw [Rep])⟩
  · cases e
end

/-! ### the end of a law -/
/-- law's promise at the script -/
def spLaw (K : PySem.W.Frag) (n : Nat) : Sp := fun vs H Q _ => ∃ (a : Addr) (ns : List Int), vs = [.ref a] ∧ SqL K H a (ns.map V.int) ∧ ns.length ≤ n ∧ (∀ z ∈ ns, Builtin.Int.intBits z ≤ 1048576) ∧ ∀ H', Q (.bl true) H'
section
open Att
theorem law_end {P : Program} {w : World} {K : PySem.W.Frag} {mg mb : Str → Option Value} {k n : Nat} {g a : Addr} {fd : FuncData} {x : Str} {t : Shared} {vs : List Value} {ns : List Int}
    (kin : K.In t.heap) (nsM : t.heap.Ns mainGlobals mg) (nsB : t.heap.Ns builtinsNs mb) (boot : ∀ x : Str, x ≠ "__name__" → mb x = bootBuiltins x) (nolim : t.heap.NoLimit) (gens : t.gens = #[])
    (oa : t.heap.get? a = some { cls := .type "list", data := .seq vs.toArray }) (hints : IntsAre vs ns) (hl : ns.length ≤ n) (hn : n ≤ sizeLine) (bits : ∀ z ∈ ns, Builtin.Int.intBits z ≤ 1048576) (room : Room k callerA)
    (F : ∀ base : Heap, K.In base → base.Ns mainGlobals mg → FnG P w K mg base k g fd [x] (spLaw K n)) (bind : ∀ (s : Shared) (u : Value), K.In s.heap → BindsTo s fd ⟨[u], []⟩ [(x, u)]) :
    codeAny (model P w) callerA (.call (.ref g) ⟨[.ref a], []⟩) (fun r s' => r = .ok (.ret (.bool true)) ∧ OldK t.heap s'.heap ∧ s'.os = t.os ∧ AllBare s'.gens) t := by
  have rv : Vals (ns.map V.int) vs := vals_ints hints
  have hv := hints.length
  -- the heap in which at most the script is told
  have main : ∀ H : Hp, (∀ b o, H b = some o → b = a ∧ K.lookup a = none ∧ o = .frz { cls := .type "list", data := .seq vs.toArray } (.lst (ns.map V.int))) → SqL K H a (ns.map V.int) → HOk P w H t.heap →
      codeAny (model P w) callerA (.call (.ref g) ⟨[.ref a], []⟩) (fun r s' => r = .ok (.ret (.bool true)) ∧ OldK t.heap s'.heap ∧ s'.os = t.os ∧ AllBare s'.gens) t := by
    intro H only seq hok
    have hid : ∀ {b : Addr} {o : Obj}, t.heap.get? b = some o → H b = none → (hidT t.heap H).get? b = some o := fun e z => hidT_get e z
    have free : ∀ {b : Addr} {o : Obj} {es : Array DictEntry} {ep : Nat}, t.heap.get? b = some o → o.data = .dict es ep → H b = none := fun {b o es ep} e d => by
      cases q : H b with
      | none => rfl
      | some u =>
        obtain ⟨rfl, _⟩ := only b u q
        cases oa.symm.trans e
        exact absurd (show Data.seq vs.toArray _ = Data.dict es ep from d) (fun z => nomatch z)
    have ns' : ∀ {b : Addr} {m : Str → Option Value}, t.heap.Ns b m → (hidT t.heap H).Ns b m := fun ⟨o, es, ep, e, d, r⟩ => ⟨o, es, ep, hid e (free e d), d, r⟩
    have kin' : K.In (hidT t.heap H) := fun b o e => hid (kin b o e) (by
      cases q : H b with
      | none => rfl
      | some u =>
        obtain ⟨rfl, z, _⟩ := only b u q
        cases z.symm.trans e)
    obtain ⟨mc, l1, l2⟩ := nolim
    have start0 : Env0 P w K mg (hidT t.heap H) callerA [] t H := ⟨rfl, ⟨kin', ns' nsM, ⟨mb, ns' nsB, boot⟩, mc, ns' l1, l2⟩, fun b o e => of_hidT e, Nat.le_of_eq (hidT_size _ _), trivial, fun b hb => absurd hb (by simp [frs]), hok, .of_eq gens⟩
    refine codeAny_mono ((F _ kin' (ns' nsM)).run callerA [] t H ⟨[.ref a], []⟩ [.ref a] [.ref a] (fun v _ => v = .bl true) rfl room start0 (bind t (.ref a) kin) (.cons rfl .nil) ⟨a, ns, rfl, seq, hl, bits, fun _ => rfl⟩) fun r s' h => ?_
    match r, h with
    | .error _, h => exact h.elim
    | .ok .next, h => exact h.elim
    | .ok .brk, h => exact h.elim
    | .ok .cont, h => exact h.elim
    | .ok (.ret u), ⟨v, H', os, bare, un, hok', r', q⟩ =>
      have q : v = .bl true := q
      subst q
      obtain rfl : u = Value.bool true := r'
      refine ⟨rfl, OldK.of_keep fun b o e => ?_, os, bare⟩
      cases q : H b with
      | none => exact un.keep b o e q (fun z => by cases z) (by simp)
      | some u =>
        obtain ⟨_, _, rfl⟩ := only b u q
        obtain ⟨e1, _⟩ := hok b _ q
        obtain ⟨e2, _⟩ := hok' b _ (un.frzs b _ _ q)
        cases e.symm.trans e1
        exact e2
  cases hk : K.lookup a with
  | some o =>
    cases (kin a o hk).symm.trans oa
    exact main (fun _ => none) (fun _ _ z => by cases z) (.inr ⟨_, vs.toArray, _, hk, rfl, rfl, rfl, by rw [List.size_toArray, hv]; exact Nat.le_trans hl hn, by simpa using rv⟩) fun b u z => by
      have z : (none : Option HO) = some u := z
      cases z
  | none =>
    have only : ∀ b o, (if b = a then some (HO.frz { cls := .type "list", data := .seq vs.toArray } (.lst (ns.map V.int))) else none) = some o → b = a ∧ o = .frz { cls := .type "list", data := .seq vs.toArray } (.lst (ns.map V.int)) := fun b o z => by
      split at z
      · rename_i hb
        cases z
        exact ⟨hb, rfl⟩
      · cases z
    refine main (fun b => if b = a then some (.frz { cls := .type "list", data := .seq vs.toArray } (.lst (ns.map V.int))) else none) (fun b o z => ⟨(only b o z).1, hk, (only b o z).2⟩) (.inl (.inr ⟨_, if_pos rfl⟩)) fun b u z => ?_
    obtain ⟨rfl, rfl⟩ := only b u z
    exact ⟨oa, by rw [List.length_map]; exact Nat.le_trans hl hn, vs, _, rv, oa⟩
end
theorem walkG {l : PySem.W.OpenLaw} {n k : Nat} {q : Program} {loose : List Str} {XP : (Str → Option Value) → Heap → Prop} {YP : World → Heap → Prop} {d : DefRec} {K : Params → PySem.W.Frag} {x : Str}
    (most : l.most = some n) (hn : n ≤ sizeLine) (nodef : d.params.defaults = []) (room : Room k callerA) (kin : ∀ (w : World) (h : Heap), YP w h → (K w.params).In h)
    (F : ∀ (w : World) (mg : Str → Option Value) (g : Addr) (h : Heap), (K w.params).In h → h.Ns mainGlobals mg → mg d.name = some (.ref g) →
      ∃ fd : FuncData, (∀ (s : Shared) (u : Value), (K w.params).In s.heap → BindsTo s fd ⟨[u], []⟩ [(x, u)]) ∧ ∀ base : Heap, (K w.params).In base → base.Ns mainGlobals mg → FnG l.prog w (K w.params) mg base k g fd [x] (spLaw (K w.params) n)) :
    PySem.W.WalkO q loose XP YP l.row.toRowW d [] (fun f vs => PySem.call f vs) :=
  Att.attach_callB most nodef fun w _ t mg mb g o pm cd doc a vs ns G Y ho hd hcd hmg hobj hints hlen hbits hg =>
    let ⟨fd, hb, hF⟩ := F w mg g _ (kin w _ Y) G.T.g hmg
    law_end (kin w _ Y) G.T.g G.T.b G.T.builtins G.T.nolimit hg hobj hints hlen hn hbits room hF hb
end TL

set_option Elab.async false
set_option linter.all false
set_option maxRecDepth 100000
set_option maxHeartbeats 4000000
namespace TL
open PySem PySem.Spec PyProof.Rows L2

/-! ### the drawing object's own fields -/
def Src.pull (S : Src) (c : Int) (h : S.cells.getLast? = some c) : Src := ⟨⟨S.cells.dropLast, c, S.mixed, S.turn⟩,
  fun z hz => S.ok.1 z (List.dropLast_subset _ hz), by have := S.ok.2.1; show S.cells.dropLast.length ≤ 63; rw [List.length_dropLast]; omega, (S.ok.1 c (List.mem_of_getLast? h)).1, (S.ok.1 c (List.mem_of_getLast? h)).2, S.ok.2.2.2.2⟩
def Src.putL (S : Src) (i : Int) (h : 0 ≤ i ∧ i.natAbs < lim) : Src := ⟨⟨S.cells, i, S.mixed, S.turn⟩, S.ok.1, S.ok.2.1, h.1, h.2, S.ok.2.2.2.2⟩
def Src.putM (S : Src) (i : Int) (h : 0 ≤ i ∧ i < 1099511627776) : Src := ⟨⟨S.cells, S.left, i, S.turn⟩, S.ok.1, S.ok.2.1, S.ok.2.2.1, S.ok.2.2.2.1, h.1, h.2⟩
def Src.putT (S : Src) (i : Int) : Src := ⟨⟨S.cells, S.left, S.mixed, i⟩, S.ok⟩
def sgL : FE := fun _ S => some (.int S.left, S)
def sgM : FE := fun _ S => some (.int S.mixed, S)
def sgT : FE := fun _ S => some (.int S.turn, S)
def sgN : FE := fun _ S => some (.int S.cells.length, S)
def gPull : FS := fun ρ S => match h : S.cells.getLast? with
  | some c => some (.nx ρ (S.pull c h))
  | none => none
def gPutL (f : FE) : FS := fun ρ S => match f ρ S with
  | some (.int i, S1) => if h : 0 ≤ i ∧ i.natAbs < lim then some (.nx ρ (S1.putL i h)) else none
  | _ => none
def gPutM (f : FE) : FS := fun ρ S => match f ρ S with
  | some (.int i, S1) => if h : 0 ≤ i ∧ i < 1099511627776 then some (.nx ρ (S1.putM i h)) else none
  | _ => none
def gPutT (f : FE) : FS := fun ρ S => match f ρ S with
  | some (.int i, S1) => some (.nx ρ (S1.putT i))
  | _ => none
abbrev fld (v1 v2 v3 v4 : V) : List (Key × V) := [(.inr "cells", v1), (.inr "left", v2), (.inr "mixed", v3), (.inr "turn", v4)]
theorem fld_c {a b c d : V} : valV (fld a b c d) (.inr "cells") = some a := by rfl
theorem fld_l {a b c d : V} : valV (fld a b c d) (.inr "left") = some b := by rfl
theorem fld_m {a b c d : V} : valV (fld a b c d) (.inr "mixed") = some c := by rfl
theorem fld_t {a b c d : V} : valV (fld a b c d) (.inr "turn") = some d := by rfl
theorem fld_pl {a b c d v : V} : putK (fld a b c d) (.inr "left") v = fld a v c d := by rfl
theorem fld_pm {a b c d v : V} : putK (fld a b c d) (.inr "mixed") v = fld a b v d := by rfl
theorem fld_pt {a b c d v : V} : putK (fld a b c d) (.inr "turn") v = fld a b c v := by rfl
section
variable {X : Cx} {C : Cf} {kb kd kd' : Nat → Bool} {ow : Ow} {σ : L2.St} {ρ : Rho} {S S' : Src} {H H' : Hp} {e : Expr} {st : Stmt}
theorem Rel.srcAt (R : Rel C kd ow σ ρ S H) (hs : ∃ p, C.src = some p) : ∃ x c, C.src = some (x, c) ∧ σ[C.sx]? = some (some (.ref x)) ∧ SrcAt H x c S ∧ C.foot x ∧ C.foot c := by
  obtain ⟨⟨x, c⟩, hp⟩ := hs
  have s := R.src
  unfold SrcOk at s
  rw [hp] at s
  exact ⟨x, c, hp, (R.sr _ hp).1, s, by unfold Cf.foot; rw [hp]; exact .inl rfl, by unfold Cf.foot; rw [hp]; exact .inr rfl⟩
theorem x_sL (hs : ∃ p, C.src = some p) (h : PE X e (tDGet (tVar C.sx) (tC (.str "left")))) : PE X e (tF C kd sgL) := PE_imp h fun σ H Q ⟨ow, ρ, S, d, S', R, e, k⟩ => by
  cases e
  obtain ⟨x, c, hp, hσ, ⟨n0, h1, h2, h3⟩, _⟩ := R.srcAt hs
  exact ⟨_, hσ, x, .int S.left, rfl, (DGet.k (k := .inr "left") h1 : _), k _ H .refl R.src (by rw [Rep]) fun z => by cases z⟩
theorem x_sM (hs : ∃ p, C.src = some p) (h : PE X e (tDGet (tVar C.sx) (tC (.str "mixed")))) : PE X e (tF C kd sgM) := PE_imp h fun σ H Q ⟨ow, ρ, S, d, S', R, e, k⟩ => by
  cases e
  obtain ⟨x, c, hp, hσ, ⟨n0, h1, h2, h3⟩, _⟩ := R.srcAt hs
  exact ⟨_, hσ, x, .int S.mixed, rfl, (DGet.k (k := .inr "mixed") h1 : _), k _ H .refl R.src (by rw [Rep]) fun z => by cases z⟩
theorem x_sT (hs : ∃ p, C.src = some p) (h : PE X e (tDGet (tVar C.sx) (tC (.str "turn")))) : PE X e (tF C kd sgT) := PE_imp h fun σ H Q ⟨ow, ρ, S, d, S', R, e, k⟩ => by
  cases e
  obtain ⟨x, c, hp, hσ, ⟨n0, h1, h2, h3⟩, _⟩ := R.srcAt hs
  exact ⟨_, hσ, x, .int S.turn, rfl, (DGet.k (k := .inr "turn") h1 : _), k _ H .refl R.src (by rw [Rep]) fun z => by cases z⟩
theorem x_sN (hs : ∃ p, C.src = some p) (h : PE X e (tCB (fun xs H Q => ∃ p ys, xs = [.ref p] ∧ (SqL X.K H p ys ∨ SqT X.K H p ys) ∧ Q (.int ys.length) H) (tCons (tDGet (tVar C.sx) (tC (.str "cells"))) tNil))) : PE X e (tF C kd sgN) := PE_imp h fun σ H Q ⟨ow, ρ, S, d, S', R, e, k⟩ => by
  cases e
  obtain ⟨x, c, hp, hσ, ⟨n0, h1, h2, h3⟩, _⟩ := R.srcAt hs
  refine ⟨_, hσ, x, .ref c, rfl, (DGet.k (k := .inr "cells") h1 : _), c, _, rfl, .inl (.of h2), ?_⟩
  rw [List.length_map]
  exact k _ H .refl R.src (by rw [Rep]) fun z => by cases z
theorem kp_src {x : Addr} {xs ys : HO} (h : H x = some xs) (m : Mut (some xs)) (f : C.foot x) : Kp C.foot H (upd H x ys) := .wr f (fun zs z => by rw [h] at z; cases z; exact m) fun o u z => by rw [h] at z; cases z; exact m
theorem src_back (hp : C.src = some (x, c)) (s : SrcAt H x c S) : SrcOk C S H := by
  unfold SrcOk
  rw [hp]
  exact s
theorem p_sPull (hs : ∃ p, C.src = some p) (h : PS X st (sDPut (tVar C.sx) (tC (.str "left")) (tBM0 X.K "list" rPop (tDGet (tVar C.sx) (tC (.str "cells")))))) : PS X st (tP C kb kd kd gPull) := PS_imp h fun Dn σ H ⟨ow, ρ, S, o, R, e, k⟩ => by
  unfold gPull at e
  split at e
  · rename_i cl hcl
    cases e
    obtain ⟨x, c, hp, hσ, ⟨n0, h1, h2, h3⟩, fx, fc⟩ := R.srcAt hs
    have hl : (S.cells.map V.int)[(S.cells.map V.int).length - 1]? = some (.int cl) := by
      rw [List.length_map, List.getElem?_map, ← List.getLast?_eq_getElem?, hcl]
      rfl
    have k1 : Kp C.foot H (upd H c (.lst (S.cells.map V.int).dropLast)) := kp_src h2 trivial fc
    have h1' : (upd H c (.lst (S.cells.map V.int).dropLast)) x = some (.dK (fld (.ref c) (.int S.left) (.int S.mixed) (.int S.turn))) := by rw [upd_ne n0]; exact h1
    have k2 : Kp C.foot _ (upd (upd H c (.lst (S.cells.map V.int).dropLast)) x (.dK (fld (.ref c) (.int cl) (.int S.mixed) (.int S.turn)))) := kp_src h1' trivial fx
    refine ⟨_, hσ, x, .ref c, rfl, (DGet.k (k := .inr "cells") h1 : _), .inl ⟨rfl, _, .of h2⟩, c, _, .int cl, rfl, rfl, h2, hl, _, hσ, x, _, rfl, (DPut.k (k := .inr "left") h1' (small1000 (by show 4 ≤ 1000; decide)) : _), ?_⟩
    have s' : SrcOk C (S.pull cl hcl) (upd (upd H c (.lst (S.cells.map V.int).dropLast)) x (.dK (fld (.ref c) (.int cl) (.int S.mixed) (.int S.turn)))) :=
      src_back hp ⟨n0, upd_same, by rw [upd_ne n0.symm, upd_same]; show _ = some (HO.lst (List.map V.int S.cells.dropLast)); rw [List.map_dropLast], (S.pull cl hcl).ok⟩
    exact k σ _ ow (R.step (k1.trans k2) s') (R.ev (k1.trans k2) s')
  · cases e
theorem p_sL {f : FE} (hs : ∃ p, C.src = some p) (h : PS X st (sDPut (tVar C.sx) (tC (.str "left")) (tX C kd f))) : PS X st (tP C kb kd kd (gPutL f)) := PS_imp h fun Dn σ H ⟨ow, ρ, S, o, R, e, k⟩ => by
  unfold gPutL at e
  split at e
  · rename_i i S1 e1
    split at e
    · rename_i hi
      cases e
      refine ⟨ow, ρ, S, _, S1, R, e1, fun v H1 k1 s1 r1 => ?_⟩
      obtain ⟨x, c, hp, hσ, ⟨n0, h1, h2, h3⟩, fx, fc⟩ := (R.step k1 s1).srcAt hs
      rw [Rep] at r1
      subst r1
      have k2 : Kp C.foot _ (upd H1 x (.dK (fld (.ref c) (.int i) (.int S1.mixed) (.int S1.turn)))) := kp_src h1 trivial fx
      have s' : SrcOk C (S1.putL i hi) (upd H1 x (.dK (fld (.ref c) (.int i) (.int S1.mixed) (.int S1.turn)))) := src_back hp ⟨n0, upd_same, by rw [upd_ne n0.symm]; exact h2, (S1.putL i hi).ok⟩
      exact ⟨_, hσ, x, _, rfl, (DPut.k (k := .inr "left") h1 (small1000 (by show 4 ≤ 1000; decide)) : _), k σ _ ow (R.step (k1.trans k2) s') (R.ev (k1.trans k2) s')⟩
    · cases e
  · cases e
theorem p_sM {f : FE} (hs : ∃ p, C.src = some p) (h : PS X st (sDPut (tVar C.sx) (tC (.str "mixed")) (tX C kd f))) : PS X st (tP C kb kd kd (gPutM f)) := PS_imp h fun Dn σ H ⟨ow, ρ, S, o, R, e, k⟩ => by
  unfold gPutM at e
  split at e
  · rename_i i S1 e1
    split at e
    · rename_i hi
      cases e
      refine ⟨ow, ρ, S, _, S1, R, e1, fun v H1 k1 s1 r1 => ?_⟩
      obtain ⟨x, c, hp, hσ, ⟨n0, h1, h2, h3⟩, fx, fc⟩ := (R.step k1 s1).srcAt hs
      rw [Rep] at r1
      subst r1
      have k2 : Kp C.foot _ (upd H1 x (.dK (fld (.ref c) (.int S1.left) (.int i) (.int S1.turn)))) := kp_src h1 trivial fx
      have s' : SrcOk C (S1.putM i hi) (upd H1 x (.dK (fld (.ref c) (.int S1.left) (.int i) (.int S1.turn)))) := src_back hp ⟨n0, upd_same, by rw [upd_ne n0.symm]; exact h2, (S1.putM i hi).ok⟩
      exact ⟨_, hσ, x, _, rfl, (DPut.k (k := .inr "mixed") h1 (small1000 (by show 4 ≤ 1000; decide)) : _), k σ _ ow (R.step (k1.trans k2) s') (R.ev (k1.trans k2) s')⟩
    · cases e
  · cases e
theorem p_sT {f : FE} (hs : ∃ p, C.src = some p) (h : PS X st (sDPut (tVar C.sx) (tC (.str "turn")) (tX C kd f))) : PS X st (tP C kb kd kd (gPutT f)) := PS_imp h fun Dn σ H ⟨ow, ρ, S, o, R, e, k⟩ => by
  unfold gPutT at e
  split at e
  · rename_i i S1 e1
    cases e
    refine ⟨ow, ρ, S, _, S1, R, e1, fun v H1 k1 s1 r1 => ?_⟩
    obtain ⟨x, c, hp, hσ, ⟨n0, h1, h2, h3⟩, fx, fc⟩ := (R.step k1 s1).srcAt hs
    rw [Rep] at r1
    subst r1
    have k2 : Kp C.foot _ (upd H1 x (.dK (fld (.ref c) (.int S1.left) (.int S1.mixed) (.int i)))) := kp_src h1 trivial fx
    have s' : SrcOk C (S1.putT i) (upd H1 x (.dK (fld (.ref c) (.int S1.left) (.int S1.mixed) (.int i)))) := src_back hp ⟨n0, upd_same, by rw [upd_ne n0.symm]; exact h2, (S1.putT i).ok⟩
    exact ⟨_, hσ, x, _, rfl, (DPut.k (k := .inr "turn") h1 (small1000 (by show 4 ≤ 1000; decide)) : _), k σ _ ow (R.step (k1.trans k2) s') (R.ev (k1.trans k2) s')⟩
  · cases e
end
end TL

set_option Elab.async false
set_option linter.all false
set_option maxRecDepth 100000
set_option maxHeartbeats 4000000
namespace TL
open PySem PySem.Spec PyProof.Rows L2

/-! ### _law_pick -/
def gPick : FS :=
  gSeq (gWh (fAnd (tst (b2 dGt (rd 1) (cst (.int 1)))) (fAnd (tst (b2 dLt sgL (cst (.int 2)))) (tst (b2 dGt sgN (cst (.int 0)))))) gPull 65)
  (gSeq (gSet 2 sgL)
  (gSeq (gIf (fOr (tst (b2 dLt (rd 1) (cst (.int 2)))) (tst (b2 dGt (rd 2) (cst (.int 1)))))
    (gSeq (gPutL (b2 dFdiv (rd 2) (cN dMax (aC (cst (.int 1)) (aC (rd 1) aN)))))
      (gRet (b2 dMod (cN dInt (aC (rd 2) aN)) (cN dMax (aC (cst (.int 1)) (aC (rd 1) aN)))))) gN)
  (gSeq (gPutT (b2 dAdd sgT (cst (.int 1))))
  (gSeq (gSet 3 (b2 dMod (cN dInt (aC (b2 dAdd sgM (b2 dMul sgT (cst (.int 104729)))) aN)) (cst (.int 998244353))))
  (gSeq (gSet 3 (b2 dMod (cN dInt (aC (b2 dAdd (b2 dMul (rd 3) (rd 3)) (b2 dMul sgT (cst (.int 17)))) aN)) (cst (.int 2147483647))))
  (gSeq (gPutM (rd 3))
    (gRet (b2 dMod (cN dInt (aC (b2 dFdiv (rd 3) (cst (.int 16))) aN)) (rd 1)))))))))
def gPick' : FS :=
  gSeq (gSet 2 sgL)
  (gSeq (gIf (fOr (tst (b2 dLt (rd 1) (cst (.int 2)))) (tst (b2 dGt (rd 2) (cst (.int 1)))))
    (gSeq (gPutL (b2 dFdiv (rd 2) (cN dMax (aC (cst (.int 1)) (aC (rd 1) aN)))))
      (gRet (b2 dMod (cN dInt (aC (rd 2) aN)) (cN dMax (aC (cst (.int 1)) (aC (rd 1) aN)))))) gN)
  (gSeq (gPutT (b2 dAdd sgT (cst (.int 1))))
  (gSeq (gSet 3 (b2 dMod (cN dInt (aC (b2 dAdd sgM (b2 dMul sgT (cst (.int 104729)))) aN)) (cst (.int 998244353))))
  (gSeq (gSet 3 (b2 dMod (cN dInt (aC (b2 dAdd (b2 dMul (rd 3) (rd 3)) (b2 dMul sgT (cst (.int 17)))) aN)) (cst (.int 2147483647))))
  (gSeq (gPutM (rd 3))
    (gRet (b2 dMod (cN dInt (aC (b2 dFdiv (rd 3) (cst (.int 16))) aN)) (rd 1))))))))
theorem pull_len {S : Src} {c : Int} {h : S.cells.getLast? = some c} : (S.pull c h).cells.length + 1 = S.cells.length := by
  show S.cells.dropLast.length + 1 = _
  have : S.cells ≠ [] := by intro e; rw [e] at h; cases h
  rw [List.length_dropLast]
  have := List.length_pos_iff.mpr this
  omega
theorem pick_loop {m : Int} {x y z : Option D} : ∀ (n : Nat) (S : Src), S.cells.length < n →
    ∃ S', gWh (fAnd (tst (b2 dGt (rd 1) (cst (.int 1)))) (fAnd (tst (b2 dLt sgL (cst (.int 2)))) (tst (b2 dGt sgN (cst (.int 0)))))) gPull n [x, some (.int m), y, z] S = some (.nx [x, some (.int m), y, z] S')
  | 0, _, h => by omega
  | n + 1, S, h => by
    rw [gWh]
    by_cases h1 : 1 < m
    · by_cases h2 : S.left < 2
      · cases hc : S.cells.getLast? with
        | none =>
          have h0 : S.cells = [] := by simpa using hc
          refine ⟨S, ?_⟩
          simp [fAnd, tst, b2, rd, cst, dGt, dLt, sgL, sgN, h1, h2, h0]
        | some c =>
          have hpos : 0 < S.cells.length := by
            cases e : S.cells with
            | nil => rw [e] at hc; cases hc
            | cons a b => simp
          obtain ⟨S', e⟩ := pick_loop (m := m) (x := x) (y := y) (z := z) n (S.pull c hc) (by have := pull_len (S := S) (h := hc); omega)
          refine ⟨S', ?_⟩
          have eg : gPull [x, some (.int m), y, z] S = some (.nx [x, some (.int m), y, z] (S.pull c hc)) := by
            unfold gPull
            split
            · rename_i c' hc'
              have : c' = c := by rw [hc] at hc'; cases hc'; rfl
              subst this
              rfl
            · rename_i hn
              rw [hc] at hn
              cases hn
          simp [fAnd, tst, b2, rd, cst, dGt, dLt, sgL, sgN, h1, h2, hpos, eg, e]
      · refine ⟨S, ?_⟩
        simp [fAnd, tst, b2, rd, cst, dGt, dLt, sgL, h1, h2]
    · refine ⟨S, ?_⟩
      simp [fAnd, tst, b2, rd, cst, dGt, h1]
theorem b2_val {f : D → D → Option D} {fa fb : FE} {ρ : Rho} {S S1 S2 : Src} {a b d : D} (ea : fa ρ S = some (a, S1)) (eb : fb ρ S1 = some (b, S2)) (ef : f a b = some d) : b2 f fa fb ρ S = some (d, S2) := by
  unfold b2
  rw [ea]
  dsimp only
  rw [eb]
  dsimp only
  rw [ef]
theorem dMul_of {i j : Int} (h : (-(2 ^ 64) < i ∧ i < 2 ^ 64) ∨ (-(2 ^ 64) < j ∧ j < 2 ^ 64)) : dMul (.int i) (.int j) = some (.int (i * j)) := if_pos h
theorem dMod_of {i j : Int} (h : 0 < j) : dMod (.int i) (.int j) = some (.int (i % j)) := if_pos h
theorem dFdiv_of {i j : Int} (h : 0 < j ∧ j < 2 ^ 30) : dFdiv (.int i) (.int j) = some (.int (i / j)) := if_pos h
theorem gSeq_rt {g h : FS} {ρ : Rho} {S S1 : Src} {d : D} (e : g ρ S = some (.rt d S1)) : gSeq g h ρ S = some (.rt d S1) := by
  unfold gSeq
  rw [e]
theorem gSeq_nx {g h : FS} {ρ ρ1 : Rho} {S S1 : Src} (e : g ρ S = some (.nx ρ1 S1)) : gSeq g h ρ S = h ρ1 S1 := by
  unfold gSeq
  rw [e]
theorem pick_end {m : Int} {x y z : Option D} (S : Src) (hm : m < 2 ^ 30) : ∃ r S', gPick' [x, some (.int m), y, z] S = some (.rt (.int r) S') ∧ 0 ≤ r ∧ r < (if m > 1 then m else 1) := by
  have hl0 := S.ok.2.2.1
  have hl1 := S.ok.2.2.2.1
  unfold gPick'
  rw [gSeq_nx (ρ1 := [x, some (.int m), some (.int S.left), z]) (S1 := S) rfl]
  have hmax : 0 < (if m > 1 then m else 1) ∧ (if m > 1 then m else 1) < 2 ^ 30 := by split <;> omega
  by_cases hc : m < 2 ∨ 1 < S.left
  · have hq : 0 ≤ S.left / (if m > 1 then m else 1) ∧ (S.left / (if m > 1 then m else 1)).natAbs < lim := by
      have h1 := Int.ediv_nonneg hl0 (Int.le_of_lt hmax.1)
      have h2 := Int.ediv_le_self (if m > 1 then m else 1) hl0
      exact ⟨h1, by omega⟩
    refine ⟨S.left % (if m > 1 then m else 1), S.putL _ hq, ?_, Int.emod_nonneg _ (by omega), Int.emod_lt_of_pos _ hmax.1⟩
    have ec : fOr (tst (b2 dLt (rd 1) (cst (.int 2)))) (tst (b2 dGt (rd 2) (cst (.int 1)))) [x, some (.int m), some (.int S.left), z] S = some (true, S) := by
      by_cases h1 : m < 2
      · simp [fOr, tst, b2, rd, cst, dLt, h1]
      · have h2 : 1 < S.left := hc.resolve_left h1
        simp [fOr, tst, b2, rd, cst, dLt, dGt, h1, h2]
    have em : ∀ S, cN dMax (aC (cst (.int 1)) (aC (rd 1) aN)) [x, some (.int m), some (.int S.left), z] S = some (.int (if m > 1 then m else 1), S) := fun S => rfl
    have e1 : gIf (fOr (tst (b2 dLt (rd 1) (cst (.int 2)))) (tst (b2 dGt (rd 2) (cst (.int 1)))))
        (gSeq (gPutL (b2 dFdiv (rd 2) (cN dMax (aC (cst (.int 1)) (aC (rd 1) aN))))) (gRet (b2 dMod (cN dInt (aC (rd 2) aN)) (cN dMax (aC (cst (.int 1)) (aC (rd 1) aN)))))) gN
        [x, some (.int m), some (.int S.left), z] S = some (.rt (.int (S.left % (if m > 1 then m else 1))) (S.putL _ hq)) := by
      unfold gIf
      rw [ec]
      have ed : b2 dFdiv (rd 2) (cN dMax (aC (cst (.int 1)) (aC (rd 1) aN))) [x, some (.int m), some (.int S.left), z] S = some (.int (S.left / (if m > 1 then m else 1)), S) := b2_val rfl (em S) (dFdiv_of hmax)
      have ep : gPutL (b2 dFdiv (rd 2) (cN dMax (aC (cst (.int 1)) (aC (rd 1) aN)))) [x, some (.int m), some (.int S.left), z] S = some (.nx [x, some (.int m), some (.int S.left), z] (S.putL _ hq)) := by
        unfold gPutL
        rw [ed]
        exact dif_pos hq
      dsimp only
      rw [gSeq_nx ep]
      unfold gRet
      have ev : b2 dMod (cN dInt (aC (rd 2) aN)) (cN dMax (aC (cst (.int 1)) (aC (rd 1) aN))) [x, some (.int m), some (.int S.left), z] (S.putL _ hq) = some (.int (S.left % (if m > 1 then m else 1)), S.putL _ hq) :=
        b2_val (S1 := S.putL _ hq) (a := .int S.left) rfl (em _) (dMod_of hmax.1)
      rw [ev]
    rw [gSeq_rt e1]
  · have h1 : ¬ m < 2 := fun h => hc (.inl h)
    have h2 : ¬ 1 < S.left := fun h => hc (.inr h)
    have ec : fOr (tst (b2 dLt (rd 1) (cst (.int 2)))) (tst (b2 dGt (rd 2) (cst (.int 1)))) [x, some (.int m), some (.int S.left), z] S = some (false, S) := by
      simp [fOr, tst, b2, rd, cst, dLt, dGt, h1, h2]
    have e1 : gIf (fOr (tst (b2 dLt (rd 1) (cst (.int 2)))) (tst (b2 dGt (rd 2) (cst (.int 1)))))
        (gSeq (gPutL (b2 dFdiv (rd 2) (cN dMax (aC (cst (.int 1)) (aC (rd 1) aN))))) (gRet (b2 dMod (cN dInt (aC (rd 2) aN)) (cN dMax (aC (cst (.int 1)) (aC (rd 1) aN)))))) gN
        [x, some (.int m), some (.int S.left), z] S = some (.nx [x, some (.int m), some (.int S.left), z] S) := by
      unfold gIf
      rw [ec]
      rfl
    rw [gSeq_nx e1]
    rw [gSeq_nx (g := gPutT (b2 dAdd sgT (cst (.int 1)))) (ρ1 := [x, some (.int m), some (.int S.left), z]) (S1 := S.putT (S.turn + 1)) rfl]
    have e2 : gSet 3 (b2 dMod (cN dInt (aC (b2 dAdd sgM (b2 dMul sgT (cst (.int 104729)))) aN)) (cst (.int 998244353))) [x, some (.int m), some (.int S.left), z] (S.putT (S.turn + 1)) =
        some (.nx [x, some (.int m), some (.int S.left), some (.int ((S.mixed + (S.turn + 1) * 104729) % 998244353))] (S.putT (S.turn + 1))) := by
      have : b2 dMul sgT (cst (.int 104729)) [x, some (.int m), some (.int S.left), z] (S.putT (S.turn + 1)) = some (.int ((S.turn + 1) * 104729), S.putT (S.turn + 1)) := by
        exact b2_val rfl rfl (dMul_of (.inr (by decide)))
      have : b2 dAdd sgM (b2 dMul sgT (cst (.int 104729))) [x, some (.int m), some (.int S.left), z] (S.putT (S.turn + 1)) = some (.int (S.mixed + (S.turn + 1) * 104729), S.putT (S.turn + 1)) := by
        rw [b2, show sgM [x, some (.int m), some (.int S.left), z] (S.putT (S.turn + 1)) = some (.int S.mixed, S.putT (S.turn + 1)) from rfl]
        dsimp only
        rw [this]
        rfl
      have : cN dInt (aC (b2 dAdd sgM (b2 dMul sgT (cst (.int 104729)))) aN) [x, some (.int m), some (.int S.left), z] (S.putT (S.turn + 1)) = some (.int (S.mixed + (S.turn + 1) * 104729), S.putT (S.turn + 1)) := by
        rw [cN, aC, this]
        rfl
      rw [gSet, b2, this]
      rfl
    rw [gSeq_nx e2]
    generalize hv : (S.mixed + (S.turn + 1) * 104729) % 998244353 = v
    have hv0 : 0 ≤ v := by rw [← hv]; exact Int.emod_nonneg _ (by decide)
    have hv1 : v < 998244353 := by rw [← hv]; exact Int.emod_lt_of_pos _ (by decide)
    have e3 : gSet 3 (b2 dMod (cN dInt (aC (b2 dAdd (b2 dMul (rd 3) (rd 3)) (b2 dMul sgT (cst (.int 17)))) aN)) (cst (.int 2147483647))) [x, some (.int m), some (.int S.left), some (.int v)] (S.putT (S.turn + 1)) =
        some (.nx [x, some (.int m), some (.int S.left), some (.int ((v * v + (S.turn + 1) * 17) % 2147483647))] (S.putT (S.turn + 1))) := by
      have h1 : b2 dMul (rd 3) (rd 3) [x, some (.int m), some (.int S.left), some (.int v)] (S.putT (S.turn + 1)) = some (.int (v * v), S.putT (S.turn + 1)) := by
        exact b2_val rfl rfl (dMul_of (.inr (by omega)))
      have h2 : b2 dMul sgT (cst (.int 17)) [x, some (.int m), some (.int S.left), some (.int v)] (S.putT (S.turn + 1)) = some (.int ((S.turn + 1) * 17), S.putT (S.turn + 1)) := by
        exact b2_val rfl rfl (dMul_of (.inr (by decide)))
      have : b2 dAdd (b2 dMul (rd 3) (rd 3)) (b2 dMul sgT (cst (.int 17))) [x, some (.int m), some (.int S.left), some (.int v)] (S.putT (S.turn + 1)) = some (.int (v * v + (S.turn + 1) * 17), S.putT (S.turn + 1)) := by
        rw [b2, h1]
        dsimp only
        rw [h2]
        rfl
      have : cN dInt (aC (b2 dAdd (b2 dMul (rd 3) (rd 3)) (b2 dMul sgT (cst (.int 17)))) aN) [x, some (.int m), some (.int S.left), some (.int v)] (S.putT (S.turn + 1)) = some (.int (v * v + (S.turn + 1) * 17), S.putT (S.turn + 1)) := by
        rw [cN, aC, this]
        rfl
      rw [gSet, b2, this]
      rfl
    rw [gSeq_nx e3]
    generalize hu : (v * v + (S.turn + 1) * 17) % 2147483647 = u
    have hu0 : 0 ≤ u := by rw [← hu]; exact Int.emod_nonneg _ (by decide)
    have hu1 : u < 2147483647 := by rw [← hu]; exact Int.emod_lt_of_pos _ (by decide)
    have hm' : 0 ≤ u ∧ u < 1099511627776 := ⟨hu0, by omega⟩
    have e4 : gPutM (rd 3) [x, some (.int m), some (.int S.left), some (.int u)] (S.putT (S.turn + 1)) = some (.nx [x, some (.int m), some (.int S.left), some (.int u)] ((S.putT (S.turn + 1)).putM u hm')) := by
      unfold gPutM
      rw [show rd 3 [x, some (.int m), some (.int S.left), some (.int u)] (S.putT (S.turn + 1)) = some (.int u, S.putT (S.turn + 1)) from rfl]
      exact dif_pos hm'
    rw [gSeq_nx e4]
    refine ⟨u / 16 % m, (S.putT (S.turn + 1)).putM u hm', ?_, Int.emod_nonneg _ (by omega), ?_⟩
    · unfold gRet
      rw [b2_val (S1 := (S.putT (S.turn + 1)).putM u hm') (a := .int (u / 16)) (b := .int m) rfl rfl (dMod_of (by omega))]
    · have := Int.emod_lt_of_pos (u / 16) (show 0 < m by omega)
      split <;> omega
/-- what _law_pick answers -/
theorem pick_run (S : Src) {m : Int} (hm : m < 2 ^ 30) : ∃ r S', runS 4 gPick [.int m] S = some (.int r, S') ∧ 0 ≤ r ∧ r < (if m > 1 then m else 1) := by
  obtain ⟨S1, e1⟩ := pick_loop (m := m) (x := none) (y := none) (z := none) 65 S (by have := S.ok.2.1; omega)
  obtain ⟨r, S2, e2, h1, h2⟩ := pick_end (x := none) (y := none) (z := none) S1 hm
  refine ⟨r, S2, ?_, h1, h2⟩
  have e : gPick [none, some (.int m), none, none] S = some (.rt (.int r) S2) := by
    rw [gPick, gSeq_nx e1]
    exact e2
  unfold runS
  rw [show (none :: List.map some [PyData.int m] ++ List.replicate (4 - ([PyData.int m].length + 1)) none) = [none, some (.int m), none, none] from rfl, e]
end TL

set_option Elab.async false
set_option linter.all false
set_option maxRecDepth 100000
set_option maxHeartbeats 4000000
namespace TL
open PySem PySem.Spec PyProof.Rows L2

/-! ### defs that are known, by name -/
/-- a def of the text as it stands behind the top -/
structure DefG (K : PySem.W.Frag) (mg : Str → Option Value) (x : Str) (st : Stmt) (ps : List Str) : Prop where
  ex : ∃ (f : Addr) (fd : FuncData), Fun K x x st f fd ∧ mg x = some (.ref f) ∧ Binds K fd ps []
structure CalG (P : Program) (w : World) (K : PySem.W.Frag) (mg : Str → Option Value) (base : Heap) (k : Nat) (x : Str) (sp : Sp) : Prop where
  ex : ∃ (f : Addr) (fd : FuncData) (ps : List Str), FnG P w K mg base k f fd ps sp ∧ mg x = some (.ref f) ∧ PySem.W.keepIn K (.ref f) = true ∧ Binds K fd ps []
section
variable {P : Program} {w : World} {K : PySem.W.Frag} {mg : Str → Option Value} {base : Heap}
theorem CalG.up {j k : Nat} {x : Str} {sp : Sp} (c : CalG P w K mg base j x sp) (h : j ≤ k) : CalG P w K mg base k x sp :=
  let ⟨f, fd, ps, F, h1, h2, h3⟩ := c.ex
  ⟨f, fd, ps, F.mono h, h1, h2, h3⟩
theorem cal_P {x : Str} {st : Stmt} {N ps : List Str} {k n : Nat} {kb kd kd' : Nat → Bool} {g : FS} (F : DefG K mg x st ps) (S : FnScope N ps (defScope st)) (hn : ps.length = n) (hk : ∀ i, i < n → kd i = false)
    (body : ∀ (f : Addr) (cdv : Value) (A : Around) (outer : List Env) (s : Shared) (H : Hp) (Z : Zn), Room k (fnX P w K mg base N x st f cdv A outer s H).A → (fnX P w K mg base N x st f cdv A outer s H).A.guards = some [] →
      PSs (fnX P w K mg base N x st f cdv A outer s H) (defBody st) (tP ⟨Z, H, none, 1000⟩ kb kd kd' g)) : CalG P w K mg base (k + 1) x (spP n (runP N.length g)) :=
  let ⟨f, fd, hF, h1, h2⟩ := F.ex
  ⟨f, fd, ps, fn_P hF S hn hk (body f), h1, hF.kp, h2⟩
theorem cal_S {y : Str} {st : Stmt} {N ps : List Str} {k n : Nat} {kb kd kd' : Nat → Bool} {g : FS} (F : DefG K mg y st ps) (S : FnScope N ps (defScope st)) (hn : ps.length = n + 1) (hk : ∀ i, i < n + 1 → kd i = false)
    (body : ∀ (f : Addr) (cdv : Value) (A : Around) (outer : List Env) (s : Shared) (H : Hp) (Z : Zn) (x c : Addr), Room k (fnX P w K mg base N y st f cdv A outer s H).A → (fnX P w K mg base N y st f cdv A outer s H).A.guards = some [] →
      PSs (fnX P w K mg base N y st f cdv A outer s H) (defBody st) (tP ⟨Z, H, some (x, c), 0⟩ kb kd kd' g)) : CalG P w K mg base (k + 1) y (spS n (runS N.length g)) :=
  let ⟨f, fd, hF, h1, h2⟩ := F.ex
  ⟨f, fd, ps, fn_S hF S hn hk (body f), h1, hF.kp, h2⟩
/-- the drawing object is made -/
def spSrc (K : PySem.W.Frag) (n : Nat) : Sp := fun vs H Q _ => ∃ (a : Addr) (ns : List Int), vs = [.ref a] ∧ SqL K H a (ns.map V.int) ∧ ns.length ≤ n ∧ (∀ z ∈ ns, Builtin.Int.intBits z ≤ 1048576) ∧ ∀ (H' : Hp) (x c : Addr) (S : Src), SrcAt H' x c S → Q (.ref x) H'
theorem DefG.bind {x x0 : Str} {st : Stmt} (F : DefG K mg x st [x0]) : ∃ (f : Addr) (fd : FuncData), Fun K x x st f fd ∧ mg x = some (.ref f) ∧ ∀ (s : Shared) (u : Value), K.In s.heap → BindsTo s fd ⟨[u], []⟩ [(x0, u)] := by
  obtain ⟨f, fd, hF, hm, hbi⟩ := F.ex
  refine ⟨f, fd, hF, hm, fun s u hi => ?_⟩
  have := hbi s [u] hi rfl
  simpa using this
/-- a law -/
theorem cal_L {x x0 : Str} {st : Stmt} {N : List Str} {k m : Nat} {kb kd kd' : Nat → Bool} {g : FS} {s0 : Stmt} {rest : List Stmt} {f : Addr} {fd : FuncData} (hF : Fun K x x st f fd) (S : FnScope N [x0] (defScope st)) (hb : defBody st = s0 :: rest) (hN : 2 ≤ N.length)
    (h0 : ∀ (cdv : Value) (A : Around) (outer : List Env) (s : Shared) (H : Hp), Room k (fnX P w K mg base N x st f cdv A outer s H).A → (fnX P w K mg base N x st f cdv A outer s H).A.guards = some [] →
      PS (fnX P w K mg base N x st f cdv A outer s H) s0 (tAsg (fun σ H Q => tCons (tVar 0) tNil σ H fun vs H1 => spSrc K m vs H1 Q E0) (gName 1)))
    (h1 : ∀ (cdv : Value) (A : Around) (outer : List Env) (s : Shared) (H H1 : Hp) (Z : Zn) (y c : Addr), Room k (fnX P w K mg base N x st f cdv A outer s H).A → (fnX P w K mg base N x st f cdv A outer s H).A.guards = some [] →
      PSs (fnX P w K mg base N x st f cdv A outer s H) rest (tP ⟨Z, H1, some (y, c), 1⟩ kb kd kd' g))
    (true' : ∀ T : Src, ∃ T', g (List.replicate N.length none) T = some (.rt (.bool true) T')) : FnG P w K mg base (k + 1) f fd [x0] (spLaw K m) := by
  refine fnG_of hF S (fun vs H Q E ⟨a, ns, e, _⟩ => by rw [e]; rfl) fun cdv A outer s H vs Q room gd ⟨a, ns, e, sq, hl, bits, q⟩ => ?_
  · rw [hb]
    have hr : PSs (fnX P w K mg base N x st f cdv A outer s H) rest (fun D σ H' => ∃ (Z : Zn) (H1 : Hp) (y c : Addr), tP ⟨Z, H1, some (y, c), 1⟩ kb kd kd' g D σ H') :=
      ⟨fun pins s2 σ H2 D I ⟨Z, H1, y, c, h⟩ => (h1 cdv A outer s H H1 Z y c room gd).run pins s2 σ H2 D I h⟩
    refine ⟨_, pss_cons (h0 cdv A outer s H room gd) hr, ?_⟩
    subst e
    have e0 : (L2.start N [V.ref a]) = some (V.ref a) :: List.replicate (N.length - 1) none := rfl
    refine ⟨.ref a, by rw [e0]; rfl, ?_⟩
    refine ⟨a, ns, rfl, sq, hl, bits, fun H' y c T hT => ?_⟩
    refine ⟨fun b => b = y ∨ b = c, H', y, c, ?_⟩
    obtain ⟨T', eT⟩ := true' T
    have hget : ∀ (i : Nat) (d : D), (List.replicate N.length (none : Option D))[i]? ≠ some (some d) := fun i d z => by
      rw [List.getElem?_replicate] at z
      split at z <;> cases z
    refine ⟨ow0, _, T, _, ⟨fun b z => ?_, fun b z => z, .refl, hT, ?_, fun p hp => ?_, fun i d _ z => absurd z (hget i d), fun i d _ z => absurd z (hget i d), fun i j b z => (nomatch z), fun i b z => (nomatch z), fun b z => absurd z own0⟩, eT, fun v H2 _ _ r => ?_⟩
    · obtain ⟨_, g1, g2, _⟩ := hT
      rcases z with rfl | rfl
      · show H' _ ≠ none
        rw [g1]; exact fun z => nomatch z
      · show H' _ ≠ none
        rw [g2]; exact fun z => nomatch z
    · rw [List.length_set, e0, List.length_cons, List.length_replicate, List.length_replicate]
      omega
    · cases hp
      refine ⟨?_, ?_⟩
      · rw [e0]
        exact List.getElem?_set_self (by rw [List.length_cons, List.length_replicate]; omega)
      · show (List.replicate N.length (none : Option D))[1]? = some none
        rw [List.getElem?_replicate, if_pos (by omega)]
    · rw [Rep] at r
      subst r
      exact q H2
end
section
variable {X : Cx} {C : Cf} {kd : Nat → Bool} {x : Str} {p pos : Pos} {e : Expr} {es : List Expr} {j k n : Nat} {g : FA}
theorem y_P {m : List D → Option D} (c : CalG X.prog X.w X.K X.mg X.base k x (spP n m)) (gd : X.A.guards = some []) (hr : Room j X.A) (ha : PA X (e :: es) (tAX C kd n g)) (hj : k ≤ j := by decide) (hg : Gl X x := by rfl) (hdb : (x == ("__debug__" : Str)) = false := by decide)
    (he : starEach (e :: es) X.env = (false, eval e X.env) :: starEach es X.env := by rfl) (hpl : (backTo pos (starEach es X.env)).any (·.1) = false := by rfl) : PE X (.Call (.Name x p) (e :: es) [] pos) (tX C kd (cN m g)) :=
  let ⟨f, fd, ps, F, h1, h2, h3⟩ := c.ex
  x_callP F gd (hr.mono hj) hg h1 h2 h3 ha hdb he hpl
theorem y_I {m : List D → Option D} (c : CalG X.prog X.w X.K X.mg X.base k x (spP n m)) (gd : X.A.guards = some []) (hr : Room j X.A) (ha : PA X (e :: es) (tA C kd n g)) (hj : k ≤ j := by decide) (hg : Gl X x := by rfl) (hdb : (x == ("__debug__" : Str)) = false := by decide)
    (he : starEach (e :: es) X.env = (false, eval e X.env) :: starEach es X.env := by rfl) (hpl : (backTo pos (starEach es X.env)).any (·.1) = false := by rfl) : PE X (.Call (.Name x p) (e :: es) [] pos) (tF C kd (cI m g)) :=
  let ⟨f, fd, ps, F, h1, h2, h3⟩ := c.ex
  x_callI F gd (hr.mono hj) hg h1 h2 h3 ha hdb he hpl
theorem y_S {m : List D → Src → Option (D × Src)} (c : CalG X.prog X.w X.K X.mg X.base k x (spS n m)) (hs : ∃ p, C.src = some p) (gd : X.A.guards = some []) (hr : Room j X.A) (ha : PA X (e :: es) (tAS C kd n g)) (hj : k ≤ j := by decide) (hg : Gl X x := by rfl) (hdb : (x == ("__debug__" : Str)) = false := by decide)
    (he : starEach (e :: es) X.env = (false, eval e X.env) :: starEach es X.env := by rfl) (hpl : (backTo pos (starEach es X.env)).any (·.1) = false := by rfl) : PE X (.Call (.Name x p) (e :: es) [] pos) (tX C kd (cS m g)) :=
  let ⟨f, fd, ps, F, h1, h2, h3⟩ := c.ex
  x_callS F hs gd (hr.mono hj) hg h1 h2 h3 ha hdb he hpl
theorem y_src {m : Nat} (c : CalG X.prog X.w X.K X.mg X.base k x (spSrc X.K m)) (gd : X.A.guards = some []) (hr : Room j X.A) {t : TA} (ha : PA X (e :: es) t) (hj : k ≤ j := by decide) (hg : Gl X x := by rfl) (hdb : (x == ("__debug__" : Str)) = false := by decide)
    (he : starEach (e :: es) X.env = (false, eval e X.env) :: starEach es X.env := by rfl) (hpl : (backTo pos (starEach es X.env)).any (·.1) = false := by rfl) : PE X (.Call (.Name x p) (e :: es) [] pos) (fun σ H Q => t σ H fun vs H1 => spSrc X.K m vs H1 Q E0) :=
  let ⟨f, fd, ps, F, h1, h2, h3⟩ := c.ex
  pe_callG F gd (hr.mono hj) hg h1 h2 h3 ha hdb he hpl
/-! ### o[i], of whatever o is -/
theorem PE_or {e : Expr} {t u : TE} (h1 : PE X e t) (h2 : PE X e u) : PE X e (fun σ H Q => t σ H Q ∨ u σ H Q) := ⟨fun pins s σ H Q I q => q.elim (h1.run pins s σ H Q I) (h2.run pins s σ H Q I)⟩
def dSub2 (a b : D) : Option D := match a with
  | .dict kvs => dGet (.dict kvs) b
  | a => dIx a b
theorem x_sub {o i : Expr} {pos : Pos} {fa fb : FE} (hu : X.A.units + 64 < cLine) (ho : PE X o (tS C kd fa)) (hi : PE X i (tS C kd fb)) (hs : NoSl i) (hp : PlainIx i) : PE X (.Subscript o i pos) (tX C kd (b2 dSub2 fa fb)) :=
  PE_imp (PE_or (x_get hu ho hi hs) (x_ix ho hi hp)) fun σ H Q ⟨ow, ρ, S, d, S', R, e, k⟩ => by
    obtain ⟨a, S1, b, e1, e2, e3⟩ := b2_of e
    unfold dSub2 at e3
    split at e3
    · exact .inl ⟨ow, ρ, S, d, S', R, b2_val e1 e2 e3, k⟩
    · exact .inr ⟨ow, ρ, S, d, S', R, b2_val e1 e2 e3, k⟩
end
/-! ### a comprehension's names -/
def blkC (N : List Str) (sc scope : Scope) (own : List (Str × Nat)) : Bool :=
  decide (scope.kind = .function) && scope.names.all (fun y => decide (scope.names.lookup y.1 = some y.2)) && own.all (fun p => decide (N[p.2]? = some p.1)) &&
  scope.names.all (fun y => decide (y.2 = .free → sc.names.lookup y.1 = some .cell ∨ sc.names.lookup y.1 = some .free)) && scope.names.all fun y => decide (y.2 = .local ∨ y.2 = .cell → y.1 ∈ own.map (·.1) ∨ y.1 ∉ N)
theorem blk_by {N : List Str} {sc scope : Scope} {own : List (Str × Nat)} (h : blkC N sc scope own = true) : BlkOk N sc scope own := by
  unfold blkC at h
  simp only [Bool.and_eq_true, decide_eq_true_eq, List.all_eq_true] at h
  obtain ⟨⟨⟨⟨h1, h2⟩, h3⟩, h4⟩, h5⟩ := h
  exact ⟨h1, h2, h3, h4, h5⟩
end TL

set_option Elab.async false
set_option linter.all false
set_option maxRecDepth 100000
set_option maxHeartbeats 4000000
namespace TL
open PySem PySem.Spec PyProof.Rows L2

/-! ### short words for printed derivations -/
def kdL (l : List Nat) : Nat → Bool := fun i => l.any fun j => Nat.beq j i
theorem kdL_sub {l l' : List Nat} (h : (l'.all fun i => kdL l i) = true) : ∀ i, kdL l' i = true → kdL l i = true := fun i hi => by
  unfold kdL at hi
  rw [List.any_eq_true] at hi
  obtain ⟨j, hj, e⟩ := hi
  have q := List.all_eq_true.mp h j hj
  rw [Nat.eq_of_beq_eq_true e] at q
  exact q
theorem sub_in {is vs : List Nat} (h : (is.all fun i => kdL vs i) = true) : ∀ i ∈ is, i ∈ vs := fun i hi => by
  have q := List.all_eq_true.mp h i hi
  unfold kdL at q
  rw [List.any_eq_true] at q
  obtain ⟨j, hj, e⟩ := q
  rw [← Nat.eq_of_beq_eq_true e]
  exact hj
theorem bt_len : bootBuiltins "len" = some (.builtin "len") := by decide +kernel
theorem bt_any : bootBuiltins "any" = some (.builtin "any") := by decide +kernel
theorem bt_all : bootBuiltins "all" = some (.builtin "all") := by decide +kernel
theorem bt_abs : bootBuiltins "abs" = some (.builtin "abs") := by decide +kernel
theorem bt_max : bootBuiltins "max" = some (.builtin "max") := by decide +kernel
theorem bt_min : bootBuiltins "min" = some (.builtin "min") := by decide +kernel
theorem bt_repr : bootBuiltins "repr" = some (.builtin "repr") := by decide +kernel
theorem bt_sorted : bootBuiltins "sorted" = some (.builtin "sorted") := by decide +kernel
theorem bt_tuple : bootBuiltins "tuple" = some (.type "tuple") := by decide +kernel
theorem bt_list : bootBuiltins "list" = some (.type "list") := by decide +kernel
theorem bt_int : bootBuiltins "int" = some (.type "int") := by decide +kernel
def dListA (ds : List D) : Option D := match ds with
  | [.str x] => dListS [.str x]
  | ds => dList ds
section
variable {X : Cx}
theorem CallR_or {f : Value} {r t : List V → Hp → VK → Prop} (h1 : CallR X f r) (h2 : CallR X f t) : CallR X f (fun xs H Q => r xs H Q ∨ t xs H Q) := fun pins s σ H xs us Q I rv q => q.elim (h1 pins s σ H xs us Q I rv) (h2 pins s σ H xs us Q I rv)
theorem c_listA (hc : X.calm = true) : CallR X (.type "list") (rCl true dListA) := fun pins s σ H xs us Q I rv ⟨C, ow, ds, d, fz, h, e, q⟩ => by
  unfold dListA at e
  split at e
  · exact c_listS hc pins s σ H xs us Q I rv ⟨C, ow, _, d, fz, h, e, q⟩
  · exact c_list pins s σ H xs us Q I rv ⟨C, ow, _, d, fz, h, e, q⟩
end
end TL

set_option Elab.async false
set_option linter.all false
set_option maxRecDepth 100000
set_option maxHeartbeats 4000000
namespace TL
open PySem PySem.Spec PyProof.Rows L2

/-! ### _law_source -/
theorem bits_lim {z : Int} (h : Builtin.Int.intBits z ≤ 1048576) : z.natAbs < lim := by
  unfold Builtin.Int.intBits at h
  unfold lim
  split at h
  · rename_i e
    have e' : z.natAbs = 0 := by simpa using e
    rw [e']
    exact Nat.pow_pos (by decide)
  · exact Nat.lt_of_lt_of_le (Nat.lt_log2_self (n := z.natAbs)) (Nat.pow_le_pow_right (by decide) (by omega))
def tSrc (K : PySem.W.Frag) : TS :=
  tSeq (tAsg (tC (V.int 11)) (gName 1)) (tSeq
    (tFor (iList K (tVar 0)) (gName 2) (tAsg (tOp (rI (fun x j => 0 < j) fun i j => V.int (i % j))
      (tCB (fun xs H Q => (∃ i, xs = [V.int i] ∧ Q (V.int i) H) ∨ ∃ k, xs = [V.bl k] ∧ Q (V.int (if k = true then 1 else 0)) H)
        (tCons (tOp (rI0 fun i j => V.int (i + j)) (tOp (rI0 fun i j => V.int (i + j)) (tOp (rI CMul fun i j => V.int (i * j)) (tVar 1) (tC (V.int 69069))) (tOp (rI CMul fun i j => V.int (i * j)) (tVar 2) (tC (V.int 31)))) (tC (V.int 5))) tNil))
      (tC (V.int 2147483629))) (gName 1)))
    (tRet (tDisp [(tC (V.str "cells"), tRevL K (tLc (iList K (tVar 0)) (gName 2) tYes (tCB (fun xs H Q => ∃ i, xs = [V.int i] ∧ Q (V.int (if i < 0 then -i else i)) H) (tCons (tVar 2) tNil)) [2])),
      (tC (V.str "left"), tC (V.int 1)), (tC (V.str "mixed"), tVar 1), (tC (V.str "turn"), tC (V.int 0))])))
theorem source_run {K : PySem.W.Frag} {H : Hp} {Q : VK} {a : Addr} {ns : List Int} {nx : L2.St → Hp → Prop} (sq : SqL K H a (ns.map V.int)) (hl : ns.length ≤ 63) (bits : ∀ z ∈ ns, Builtin.Int.intBits z ≤ 1048576) (q : ∀ (H' : Hp) (x c : Addr) (S : Src), SrcAt H' x c S → Q (V.ref x) H') :
    tSrc K { nx := nx, rt := Q } (L2.start ["script", "mixed", "cell"] [V.ref a]) H := by
  have get : ∀ {i : Nat} (hi : i < ns.length), (ns.map V.int)[i]? = some (V.int ns[i]) := fun hi => by
    rw [List.getElem?_map, List.getElem?_eq_getElem hi]
    rfl
  refine ⟨.ref a, rfl, a, rfl, ⟨_, sq⟩, fun i m σ H' => ∃ (v : Int) (y2 : Option V), σ = [some (.ref a), some (.int v), y2] ∧ 0 ≤ v ∧ v < 2147483629 ∧ H = H' ∧ i + m = ns.length, ⟨ns.length, 11, none, rfl, by decide, by decide, rfl, by omega⟩, ?_⟩
  rintro i m _ _ ⟨v, y2, rfl, h0, h1, rfl, em⟩
  by_cases hi : i < ns.length
  · refine .inr ⟨⟨_, _, sq, get hi⟩, fun σ' H1 => ∃ (v : Int) (y2 : Option V), σ' = [some (.ref a), some (.int v), y2] ∧ 0 ≤ v ∧ v < 2147483629 ∧ H = H1, fun σ' H' ⟨v, y2, e1, e2, e3, e4⟩ => ⟨m - 1, by omega, v, y2, e1, e2, e3, e4, by omega⟩, ?_⟩
    rintro x _ ⟨rfl, hx⟩
    have ex := hx _ sq
    rw [get hi] at ex
    cases ex
    refine ⟨.int v, rfl, v, 69069, rfl, rfl, .inr (by decide), .int ns[i], rfl, ns[i], 31, rfl, rfl, .inr (by decide), _, _, rfl, rfl, _, _, rfl, rfl, .inl ⟨_, rfl, _, _, rfl, rfl, (by decide : (0 : Int) < 2147483629), ?_⟩⟩
    exact ⟨_, _, rfl, Int.emod_nonneg _ (by decide), Int.emod_lt_of_pos _ (by decide), rfl⟩
  · refine .inl ⟨⟨_, sq, by rw [List.length_map]; omega⟩, ?_⟩
    -- the dict
    intro p hp
    have sq1 : SqL K (upd H p (.dK [])) a (ns.map V.int) := by
      have sm : Same H (upd H p (.dK [])) := fun b o e => by rw [upd_ne (ne_of_none e hp)]; exact e
      exact sm.seq sq
    refine ⟨.ref a, rfl, a, rfl, ⟨_, sq1⟩, fun D hD => ?_⟩
    have nD : D ≠ p := fun e => by rw [e, upd_same] at hD; cases hD
    have absn : ∀ z : Int, (if z < 0 then -z else z) = (z.natAbs : Int) := fun z => by split <;> omega
    refine ⟨fun i m H2 => i + m = ns.length ∧ Same (upd H p (.dK [])) H2 ∧ H2 D = some (.lst (((ns.take i).map fun z => ((z.natAbs : Nat) : Int)).map V.int)), ⟨ns.length, by omega, fun b o e => by rw [upd_ne (ne_of_none e hD)]; exact e, by rw [upd_same]; rfl⟩, ?_⟩
    rintro j n H2 ⟨en, sm, hd⟩
    by_cases hj : j < ns.length
    · refine .inr ⟨⟨_, _, sm.seq sq1, get hj⟩, fun H3 => Same (upd H p (.dK [])) H3 ∧ H3 D = some (.lst (((ns.take (j + 1)).map fun z => ((z.natAbs : Nat) : Int)).map V.int)), fun H3 ⟨e1, e2⟩ => ⟨n - 1, by omega, by omega, e1, e2⟩, ?_⟩
      rintro x _ ⟨rfl, hx⟩
      have ex := hx _ (sm.seq sq1)
      rw [get hj] at ex
      cases ex
      refine ⟨rfl, ?_⟩
      refine ⟨.int ns[j], rfl, ns[j], rfl, _, hd, ?_, ?_⟩
      · rw [List.length_map, List.length_map, List.length_take]
        exact small1000 (by omega)
      · refine ⟨fun b o e => ?_, ?_⟩
        · rw [upd_ne (ne_of_none e hD)]
          exact sm b o e
        · rw [upd_same, List.take_add_one, List.getElem?_eq_getElem hj, absn, List.map_append, List.map_append]
          rfl
    · refine .inl ⟨⟨_, sm.seq sq1, by rw [List.length_map]; omega⟩, ?_⟩
      have ej : ns.take j = ns := List.take_of_length_le (by omega)
      rw [ej] at hd
      refine ⟨D, _, rfl, .inl (.inl hd), fun c hc => ?_⟩
      have nc : p ≠ c := fun e => by
        rw [← e, sm p _ upd_same] at hc
        cases hc
      refine ⟨.int v, rfl, ?_⟩
      refine ⟨by rw [upd_ne nc]; exact sm p _ upd_same, [(.inr "cells", .ref c), (.inr "left", .int 1), (.inr "mixed", .int v), (.inr "turn", .int 0)], rfl, (show 4 ≤ 15 by decide), ?_⟩
      refine q _ p c ⟨⟨(ns.map fun z => ((z.natAbs : Nat) : Int)).reverse, 1, v, 0⟩, fun z hz => ?_, ?_, (show (0 : Int) ≤ 1 by decide), ?_, h0, by show v < _; omega⟩ ⟨nc, ?_, ?_, ?_⟩
      · obtain ⟨y, hy, rfl⟩ := List.mem_map.mp (List.mem_reverse.mp hz)
        exact ⟨Int.natCast_nonneg _, by rw [Int.natAbs_natCast]; exact bits_lim (bits y hy)⟩
      · show (ns.map fun z => ((z.natAbs : Nat) : Int)).reverse.length ≤ 63
        rw [List.length_reverse, List.length_map]
        exact hl
      · show (1 : Int).natAbs < lim
        unfold lim
        exact Nat.one_lt_two_pow (by decide)
      · rw [upd_same]
        rfl
      · rw [upd_ne nc.symm, upd_same, List.map_reverse]
      · refine ⟨fun z hz => ?_, ?_, (show (0 : Int) ≤ 1 by decide), ?_, h0, by show v < _; omega⟩
        · obtain ⟨y, hy, rfl⟩ := List.mem_map.mp (List.mem_reverse.mp hz)
          exact ⟨Int.natCast_nonneg _, by rw [Int.natAbs_natCast]; exact bits_lim (bits y hy)⟩
        · show (ns.map fun z => ((z.natAbs : Nat) : Int)).reverse.length ≤ 63
          rw [List.length_reverse, List.length_map]
          exact hl
        · show (1 : Int).natAbs < lim
          unfold lim
          exact Nat.one_lt_two_pow (by decide)
end TL

set_option Elab.async false
set_option linter.all false
set_option maxRecDepth 100000
set_option maxHeartbeats 4000000
namespace TL
open PySem PySem.Spec PyProof.Rows L2
/-! ### what the top has written -/
theorem def_mk {K : PySem.W.Frag} {h : Heap} {mg : Str → Option Value} {x : Str} {st : Stmt} {ps : List Str} {f : Addr} {oc kV dc pm cd ct : Value} {od an : Option Addr} {sl : Array (Option Value)} (KX : K.In h) (G : h.Ns mainGlobals mg)
    (hb : ∀ (kV doc pm : Value) (an : Option Addr) (cdv ct : Value) (us : List Value), us.length = ps.length → bindArgs (PySem.W.fnOf x x (defArgs st) (defBody st) (defScope st) .none kV doc pm an cdv ct) ⟨us, []⟩ = pure (ps.zip us))
    (a : PySem.W.nsIn K mainGlobals x = some (some (.ref f))) (l : K.lookup f = some ⟨oc, od, .func (PySem.W.fnOf x x (defArgs st) (defBody st) (defScope st) .none kV dc pm an cd ct), sl⟩) (c : PySem.W.codeIn K cd x = true) (k : PySem.W.keepIn K (.ref f) = true) : DefG K mg x st ps :=
  ⟨f, _, fun_mk l c k, PySem.W.mg_of KX G a, (fun_mk l c k).binds hb⟩
theorem def_then {goal : Prop} {K : PySem.W.Frag} {h : Heap} {mg : Str → Option Value} {x : Str} {st : Stmt} {ps : List Str} {f : Addr} {oc kV dc pm cd ct : Value} {od an : Option Addr} {sl : Array (Option Value)} (KX : K.In h) (G : h.Ns mainGlobals mg)
    (hb : ∀ (kV doc pm : Value) (an : Option Addr) (cdv ct : Value) (us : List Value), us.length = ps.length → bindArgs (PySem.W.fnOf x x (defArgs st) (defBody st) (defScope st) .none kV doc pm an cdv ct) ⟨us, []⟩ = pure (ps.zip us))
    (a : PySem.W.nsIn K mainGlobals x = some (some (.ref f))) (l : K.lookup f = some ⟨oc, od, .func (PySem.W.fnOf x x (defArgs st) (defBody st) (defScope st) .none kV dc pm an cd ct), sl⟩) (c : PySem.W.codeIn K cd x = true) (k : PySem.W.keepIn K (.ref f) = true)
    (next : DefG K mg x st ps → goal) : goal := next (def_mk KX G hb a l c k)
theorem DefG.law {K : PySem.W.Frag} {mg : Str → Option Value} {x x0 : Str} {st : Stmt} {g : Addr} (F : DefG K mg x st [x0]) (hm : mg x = some (.ref g)) : ∃ (fd : FuncData), Fun K x x st g fd ∧ ∀ (s : Shared) (u : Value), K.In s.heap → BindsTo s fd ⟨[u], []⟩ [(x0, u)] := by
  obtain ⟨f, fd, hF, h1, h2⟩ := F.bind
  rw [h1] at hm
  cases hm
  exact ⟨fd, hF, h2⟩
end TL

set_option Elab.async false
set_option linter.all false
set_option maxRecDepth 100000
set_option maxHeartbeats 4000000
namespace TL
open PySem PySem.Spec PyProof.Rows L2

/-! ### turns of loops, typed -/
section
variable {α β : Type} {st : FG} {t : FB} {e : FE} {g : FS} {ρ : Rho} {S : Src}
theorem compL_map (enc : α → D) (q : α → Bool) (z : α → D) : ∀ {xs : List α}, (∀ x ∈ xs, ∃ ρ1, st (enc x) ρ = some ρ1 ∧ t ρ1 S = some (q x, S) ∧ (q x = true → e ρ1 S = some (z x, S))) →
    compL st t e ρ (xs.map enc) S = some ((xs.filter q).map z, S)
  | [], _ => rfl
  | x :: xs, h => by
    obtain ⟨ρ1, h1, h2, h3⟩ := h x (List.mem_cons_self ..)
    have ih := compL_map enc q z (xs := xs) fun y hy => h y (List.mem_cons_of_mem _ hy)
    rw [List.map_cons, compL, h1]
    dsimp only
    rw [h2]
    cases hq : q x with
    | true =>
      dsimp only
      rw [h3 hq]
      dsimp only
      rw [ih, List.filter_cons_of_pos hq, List.map_cons]
    | false =>
      dsimp only
      rw [ih, List.filter_cons_of_neg (by rw [hq]; exact Bool.false_ne_true)]
theorem lc_map (enc : α → D) (q : α → Bool) (z : α → D) {vs : List Nat} {fI : FA} {xs : List α} {S0 : Src} (hI : fI ρ S0 = some (xs.map enc, S)) (hl : xs.length ≤ 100000) (h : ∀ x ∈ xs, ∃ ρ1, st (enc x) (wipeR ρ vs) = some ρ1 ∧ t ρ1 S = some (q x, S) ∧ (q x = true → e ρ1 S = some (z x, S))) :
    lcE vs fI st t e ρ S0 = some (.list ((xs.filter q).map z), S) := by
  unfold lcE
  rw [hI]
  dsimp only
  rw [if_pos (by rw [List.length_map]; exact Nat.le_trans hl (by decide)), compL_map enc q z h]
/-- items that draw -/
theorem compL_src (enc : α → D) (ency : β → D) (R : α → β → Prop) : ∀ {xs : List α} {S : Src}, (∀ x ∈ xs, ∀ S, ∃ ρ1 y S', st (enc x) ρ = some ρ1 ∧ t ρ1 S = some (true, S) ∧ e ρ1 S = some (ency y, S') ∧ R x y) →
    ∃ (ys : List β) (S' : Src), compL st t e ρ (xs.map enc) S = some (ys.map ency, S') ∧ ys.length = xs.length ∧ ∀ (i : Nat) (x : α) (y : β), xs[i]? = some x → ys[i]? = some y → R x y
  | [], S, _ => ⟨[], S, rfl, rfl, fun i x y h => by simp at h⟩
  | x :: xs, S, h => by
    obtain ⟨ρ1, y, S1, h1, h2, h3, hr⟩ := h x (List.mem_cons_self ..) S
    obtain ⟨ys, S2, e2, hl, hR⟩ := compL_src enc ency R (xs := xs) (S := S1) fun y hy => h y (List.mem_cons_of_mem _ hy)
    refine ⟨y :: ys, S2, ?_, by rw [List.length_cons, List.length_cons, hl], fun i a b ha hb => ?_⟩
    · rw [List.map_cons, compL, h1]
      dsimp only
      rw [h2]
      dsimp only
      rw [h3]
      dsimp only
      rw [e2, List.map_cons]
    · cases i with
      | zero => cases ha; cases hb; exact hr
      | succ i => exact hR i a b (by simpa using ha) (by simpa using hb)
theorem forL_inv : ∀ {ds : List D} (I : Nat → Rho → Src → Prop), (∀ i d ρ S, ds[i]? = some d → I i ρ S → ∃ ρ1, st d ρ = some ρ1 ∧ ∃ ρ2 S2, g ρ1 S = some (.nx ρ2 S2) ∧ I (i + 1) ρ2 S2) → ∀ {ρ : Rho} {S : Src}, I 0 ρ S →
    ∃ ρ' S', forL st g ds ρ S = some (.nx ρ' S') ∧ I ds.length ρ' S'
  | [], I, _, ρ, S, h => ⟨ρ, S, rfl, h⟩
  | d :: ds, I, h, ρ, S, h0 => by
    obtain ⟨ρ1, h1, ρ2, S2, h2, h3⟩ := h 0 d ρ S rfl h0
    obtain ⟨ρ', S', h4, h5⟩ := forL_inv (ds := ds) (fun i => I (i + 1)) (fun i e ρ S he hi => h (i + 1) e ρ S (by simpa using he) hi) h3
    refine ⟨ρ', S', ?_, h5⟩
    rw [forL]
    dsimp only
    rw [h1]
    dsimp only
    rw [h2]
    exact h4
/-- the first for which p, or none -/
theorem forL_find {enc : α → D} (p : α → Bool) (v : α → D) (I : Rho → Prop) : ∀ {xs : List α}, (∀ x ∈ xs, ∀ ρ, I ρ → ∃ ρ1, st (enc x) ρ = some ρ1 ∧ (p x = true → g ρ1 S = some (.rt (v x) S)) ∧ (p x = false → ∃ ρ2, g ρ1 S = some (.nx ρ2 S) ∧ I ρ2)) → ∀ {ρ : Rho}, I ρ →
    (∃ x, xs.find? p = some x ∧ forL st g (xs.map enc) ρ S = some (.rt (v x) S)) ∨ (xs.find? p = none ∧ ∃ ρ', forL st g (xs.map enc) ρ S = some (.nx ρ' S) ∧ I ρ')
  | [], _, ρ, hi => .inr ⟨rfl, ρ, rfl, hi⟩
  | x :: xs, h, ρ, hi => by
    obtain ⟨ρ1, h1, h2, h3⟩ := h x (List.mem_cons_self ..) ρ hi
    cases hp : p x with
    | true =>
      refine .inl ⟨x, by rw [List.find?_cons, hp], ?_⟩
      rw [List.map_cons, forL]
      dsimp only
      rw [h1]
      dsimp only
      rw [h2 hp]
    | false =>
      obtain ⟨ρ2, h4, h5⟩ := h3 hp
      have ih := forL_find (enc := enc) p v I (xs := xs) (fun y hy => h y (List.mem_cons_of_mem _ hy)) h5
      have e : forL st g ((x :: xs).map enc) ρ S = forL st g (xs.map enc) ρ2 S := by
        rw [List.map_cons, forL]
        dsimp only
        rw [h1]
        dsimp only
        rw [h4]
      rw [e, List.find?_cons, hp]
      exact ih
end
theorem lcN_val {vs : List Nat} {fI : FA} {st : FG} {t : FB} {e : FN} {ρ ρ2 : Rho} {S S1 S2 : Src} {ds ys : List D} (hI : fI ρ S = some (ds, S1)) (hl : ds.length ≤ 100000) (h : compN vs st t e ds (wipeR ρ vs) S1 = some (ys, ρ2, S2)) : lcN vs fI st t e ρ S = some (.list ys, ρ2, S2) := by
  unfold lcN
  rw [hI]
  dsimp only
  rw [if_pos (Nat.le_trans hl (by decide)), h]
theorem gRetNN_val {ρ ρ' : Rho} {f : FN} {d : D} {S S' : Src} (e : f ρ S = some (d, ρ', S')) : gRetNN f ρ S = some (.rt d S') := by
  unfold gRetNN
  rw [e]
theorem tst_val {ρ : Rho} {f : FE} {b : Bool} {S S' : Src} (e : f ρ S = some (.bool b, S')) : tst f ρ S = some (b, S') := by
  unfold tst
  rw [e]
theorem nodup_len {α : Type} [DecidableEq α] : ∀ {l m : List α}, l.Nodup → (∀ x ∈ l, x ∈ m) → l.length ≤ m.length
  | [], _, _, _ => Nat.zero_le _
  | x :: l, m, nd, h => by
    rw [List.nodup_cons] at nd
    have hx : x ∈ m := h x (List.mem_cons_self ..)
    have ih := nodup_len (l := l) (m := m.erase x) nd.2 fun y hy => (List.mem_erase_of_ne fun e => nd.1 (by rw [← e]; exact hy)).mpr (h y (List.mem_cons_of_mem _ hy))
    rw [List.length_erase_of_mem hx] at ih
    have := List.length_pos_of_mem hx
    rw [List.length_cons]
    omega
theorem gWh_t {t : FB} {g : FS} {n : Nat} {ρ ρ2 : Rho} {S S1 S2 : Src} (et : t ρ S = some (true, S1)) (eg : g ρ S1 = some (.nx ρ2 S2)) : gWh t g (n + 1) ρ S = gWh t g n ρ2 S2 := by
  rw [gWh]
  dsimp only
  rw [et]
  dsimp only
  rw [eg]
theorem gWh_f {t : FB} {g : FS} {n : Nat} {ρ : Rho} {S S1 : Src} (et : t ρ S = some (false, S1)) : gWh t g (n + 1) ρ S = some (.nx ρ S1) := by
  rw [gWh]
  dsimp only
  rw [et]
theorem gIf_t {c : FB} {g h : FS} {ρ : Rho} {S S1 : Src} (e : c ρ S = some (true, S1)) : gIf c g h ρ S = g ρ S1 := by
  unfold gIf
  rw [e]
theorem gIf_f {c : FB} {g h : FS} {ρ : Rho} {S S1 : Src} (e : c ρ S = some (false, S1)) : gIf c g h ρ S = h ρ S1 := by
  unfold gIf
  rw [e]
theorem gSet_val {i : Nat} {f : FE} {ρ : Rho} {S S1 : Src} {d : D} (e : f ρ S = some (d, S1)) : gSet i f ρ S = some (.nx (ρ.set i (some d)) S1) := by
  unfold gSet
  rw [e]
theorem gRet_val {f : FE} {ρ : Rho} {S S1 : Src} {d : D} (e : f ρ S = some (d, S1)) : gRet f ρ S = some (.rt d S1) := by
  unfold gRet
  rw [e]
theorem gFor_val {fI : FA} {st : FG} {g : FS} {ρ : Rho} {S S1 : Src} {ds : List D} (e : fI ρ S = some (ds, S1)) : gFor fI st g ρ S = forL st g ds ρ S1 := by
  unfold gFor
  rw [e]
theorem gPar_val {is : List Nat} {g : FA} {ρ : Rho} {S S1 : Src} {ds : List D} (e : g ρ S = some (ds, S1)) : gPar is g ρ S = some (.nx (setD is ds ρ) S1) := by
  unfold gPar
  rw [e]
theorem gOwn_val {i : Nat} {f : FE} {ρ : Rho} {S S1 : Src} {d : D} (e : f ρ S = some (d, S1)) (m : isMut d = true := by rfl) : gOwn i f ρ S = some (.nx (ρ.set i (some d)) S1) := by
  unfold gOwn
  rw [e]
  exact if_pos m
theorem gApp_val {i : Nat} {f : FE} {ρ : Rho} {S S1 : Src} {d : D} {ds : List D} (e : f ρ S = some (d, S1)) (h : ρ[i]? = some (some (.list ds))) (hl : ds.length ≤ 100000) : gApp i f ρ S = some (.nx (ρ.set i (some (.list (ds ++ [d])))) S1) := by
  unfold gApp
  rw [e]
  dsimp only
  rw [h]
  exact if_pos (Nat.lt_of_le_of_lt hl (by decide))
theorem aC_val {f : FE} {g : FA} {ρ : Rho} {S S1 S2 : Src} {d : D} {ds : List D} (e : f ρ S = some (d, S1)) (h : g ρ S1 = some (ds, S2)) : aC f g ρ S = some (d :: ds, S2) := by
  unfold aC
  rw [e]
  dsimp only
  rw [h]
theorem aM_val {f : FE} {g : FA} {ρ : Rho} {S S1 S2 : Src} {d : D} {ds : List D} (e : f ρ S = some (d, S1)) (h : g ρ S1 = some (ds, S2)) (m : isMut d = true := by rfl) : aM f g ρ S = some (d :: ds, S2) := by
  unfold aM
  rw [e]
  dsimp only
  rw [if_pos m, h]
theorem aC1 {f : FE} {ρ : Rho} {S S1 : Src} {d : D} (e : f ρ S = some (d, S1)) : aC f aN ρ S = some ([d], S1) := aC_val e rfl
theorem cN_val {m : List D → Option D} {g : FA} {ρ : Rho} {S S1 : Src} {d : D} {ds : List D} (e : g ρ S = some (ds, S1)) (h : m ds = some d) : cN m g ρ S = some (d, S1) := by
  unfold cN
  rw [e]
  dsimp only
  rw [h]
theorem cS_val {m : List D → Src → Option (D × Src)} {g : FA} {ρ : Rho} {S S1 S2 : Src} {d : D} {ds : List D} (e : g ρ S = some (ds, S1)) (h : m ds S1 = some (d, S2)) : cS m g ρ S = some (d, S2) := by
  unfold cS
  rw [e]
  exact h
theorem mkT_val {g : FA} {ρ : Rho} {S S1 : Src} {ds : List D} (e : g ρ S = some (ds, S1)) : mkT g ρ S = some (.tuple ds, S1) := by
  unfold mkT
  rw [e]
theorem mkL_val {g : FA} {ρ : Rho} {S S1 : Src} {ds : List D} (e : g ρ S = some (ds, S1)) : mkL g ρ S = some (.list ds, S1) := by
  unfold mkL
  rw [e]
theorem ifE_t {c : FB} {f g : FE} {ρ : Rho} {S S1 : Src} (e : c ρ S = some (true, S1)) : ifE c f g ρ S = f ρ S1 := by
  unfold ifE
  rw [e]
theorem ifE_f {c : FB} {f g : FE} {ρ : Rho} {S S1 : Src} (e : c ρ S = some (false, S1)) : ifE c f g ρ S = g ρ S1 := by
  unfold ifE
  rw [e]
theorem fAnd_t {f g : FB} {ρ : Rho} {S S1 : Src} (e : f ρ S = some (true, S1)) : fAnd f g ρ S = g ρ S1 := by
  unfold fAnd
  rw [e]
theorem fAnd_f {f g : FB} {ρ : Rho} {S S1 : Src} (e : f ρ S = some (false, S1)) : fAnd f g ρ S = some (false, S1) := by
  unfold fAnd
  rw [e]
theorem fAnd_val {f g : FB} {ρ : Rho} {S : Src} {a b : Bool} (e : f ρ S = some (a, S)) (h : g ρ S = some (b, S)) : fAnd f g ρ S = some (a && b, S) := by
  unfold fAnd
  rw [e]
  cases a with
  | true => exact h
  | false => rfl
theorem fOr_val {f g : FB} {ρ : Rho} {S : Src} {a b : Bool} (e : f ρ S = some (a, S)) (h : g ρ S = some (b, S)) : fOr f g ρ S = some (a || b, S) := by
  unfold fOr
  rw [e]
  cases a with
  | true => rfl
  | false => exact h
theorem sl3_val {fa : FE} {fl fh : FO} {ρ : Rho} {S S1 S2 S3 : Src} {a d : D} {l h : Option Int} (ea : fa ρ S = some (a, S1)) (el : fl ρ S1 = some (l, S2)) (eh : fh ρ S2 = some (h, S3)) (e : dSl a l h = some d) : sl3 fa fl fh ρ S = some (d, S3) := by
  unfold sl3
  rw [ea]
  dsimp only
  rw [el]
  dsimp only
  rw [eh]
  dsimp only
  rw [e]
theorem pS_val {f : FE} {ρ : Rho} {S S1 : Src} {i : Int} (e : f ρ S = some (.int i, S1)) : pS f ρ S = some (some i, S1) := by
  unfold pS
  rw [e]
theorem iE_val {f : FE} {ρ : Rho} {S S1 : Src} {d : D} {ds : List D} (e : f ρ S = some (d, S1)) (h : items d = some ds) : iE f ρ S = some (ds, S1) := by
  unfold iE
  rw [e]
  dsimp only
  rw [h]
/-! ### a def's mirror, from its body's -/
theorem runP_rt {L : Nat} {g : FS} {ds : List D} {ρ : Rho} {d : D} {S : Src} (e : ds.map some ++ List.replicate (L - ds.length) none = ρ) (h : g ρ S0 = some (.rt d S)) : runP L g ds = some d := by
  subst e
  unfold runP
  rw [h]
theorem runP_nx {L : Nat} {g : FS} {ds : List D} {ρ ρ' : Rho} {S : Src} (e : ds.map some ++ List.replicate (L - ds.length) none = ρ) (h : g ρ S0 = some (.nx ρ' S)) : runP L g ds = some .none := by
  subst e
  unfold runP
  rw [h]
theorem runS_rt {L : Nat} {g : FS} {ds : List D} {ρ : Rho} {d : D} {S S' : Src} (e : none :: ds.map some ++ List.replicate (L - (ds.length + 1)) none = ρ) (h : g ρ S = some (.rt d S')) : runS L g ds S = some (d, S') := by
  subst e
  unfold runS
  rw [h]
theorem runS_nx {L : Nat} {g : FS} {ds : List D} {ρ ρ' : Rho} {S S' : Src} (e : none :: ds.map some ++ List.replicate (L - (ds.length + 1)) none = ρ) (h : g ρ S = some (.nx ρ' S')) : runS L g ds S = some (.none, S') := by
  subst e
  unfold runS
  rw [h]
/-! ### data that are told apart -/
structure Good {α : Type} [DecidableEq α] (enc : α → D) : Prop where
  plain : ∀ x, (enc x).plain = true
  flat : ∀ x, (enc x).depth ≤ 50
  eqv : ∀ x y, PyData.eqv (enc x) (enc y) = decide (x = y)
section
variable {α : Type} [DecidableEq α] {enc : α → D}
theorem Good.plains (G : Good enc) : ∀ xs : List α, PyData.plainAll (xs.map enc) = true
  | [] => rfl
  | x :: xs => by rw [List.map_cons, PyData.plainAll, G.plain, G.plains xs]; rfl
theorem Good.flats (G : Good enc) : ∀ xs : List α, PyData.depthAll (xs.map enc) ≤ 50
  | [] => Nat.zero_le _
  | x :: xs => by
    rw [List.map_cons, PyData.depthAll]
    exact Nat.max_le.mpr ⟨G.flat x, G.flats xs⟩
theorem Good.any (G : Good enc) (x : α) : ∀ xs : List α, ((xs.map enc).any fun y => PyData.eqv y (enc x)) = decide (x ∈ xs)
  | [] => by simp
  | y :: ys => by
    rw [List.map_cons, List.any_cons, G.eqv, G.any x ys]
    by_cases h : y = x
    · simp [h]
    · have h' : ¬ x = y := fun e => h e.symm
      simp [h, h']
theorem Good.lst (G : Good enc) {x : α} {xs : List α} {inst : Decidable (x ∈ xs)} : dInD (enc x) (.list (xs.map enc)) = some (.bool (decide (x ∈ xs))) := by
  show dIn (enc x) (.list (xs.map enc)) = _
  unfold dIn
  dsimp only
  have h1 := G.flat x
  rw [if_pos ⟨G.plain x, G.plains xs, by omega⟩, G.any]
  congr
theorem Good.tup (G : Good enc) {x : α} {xs : List α} {inst : Decidable (x ∈ xs)} : dInD (enc x) (.tuple (xs.map enc)) = some (.bool (decide (x ∈ xs))) := by
  show dIn (enc x) (.tuple (xs.map enc)) = _
  unfold dIn
  dsimp only
  have h1 := G.flat x
  rw [if_pos ⟨G.plain x, G.plains xs, by omega⟩, G.any]
  congr
theorem Good.nlst (G : Good enc) {x : α} {xs : List α} {inst : Decidable (x ∈ xs)} : dNotInD (enc x) (.list (xs.map enc)) = some (.bool (!decide (x ∈ xs))) := by
  show dNotIn (enc x) (.list (xs.map enc)) = _
  unfold dNotIn
  dsimp only
  have h1 := G.flat x
  rw [if_pos ⟨G.plain x, G.plains xs, by omega⟩, G.any]
  congr
theorem Good.ntup (G : Good enc) {x : α} {xs : List α} {inst : Decidable (x ∈ xs)} : dNotInD (enc x) (.tuple (xs.map enc)) = some (.bool (!decide (x ∈ xs))) := by
  show dNotIn (enc x) (.tuple (xs.map enc)) = _
  unfold dNotIn
  dsimp only
  have h1 := G.flat x
  rw [if_pos ⟨G.plain x, G.plains xs, by omega⟩, G.any]
  congr
theorem Good.eq (G : Good enc) {x y : α} : dEq (enc x) (enc y) = some (.bool (decide (x = y))) := by
  unfold dEq
  have h1 := G.flat x
  rw [if_pos ⟨G.plain x, G.plain y, by omega⟩, G.eqv]
theorem Good.ne (G : Good enc) {x y : α} : dNe (enc x) (enc y) = some (.bool (!decide (x = y))) := by
  unfold dNe
  have h1 := G.flat x
  rw [if_pos ⟨G.plain x, G.plain y, by omega⟩, G.eqv]
theorem Good.eqvs (G : Good enc) : ∀ xs ys : List α, PyData.eqvAll (xs.map enc) (ys.map enc) = decide (xs = ys)
  | [], [] => by rw [List.map_nil, PyData.eqvAll]; rfl
  | [], y :: ys => by rw [List.map_nil, List.map_cons, PyData.eqvAll]; rfl
  | x :: xs, [] => by rw [List.map_nil, List.map_cons, PyData.eqvAll]; rfl
  | x :: xs, y :: ys => by
    rw [List.map_cons, List.map_cons, PyData.eqvAll, G.eqv, G.eqvs xs ys]
    by_cases h : x = y <;> by_cases h' : xs = ys <;> simp [h, h']
/-- tuples and lists of such -/
theorem Good.tups (G : Good enc) (h : ∀ x, (enc x).depth ≤ 40) : Good (fun xs : List α => PyData.tuple (xs.map enc)) := by
  have hd : ∀ xs : List α, PyData.depthAll (xs.map enc) ≤ 40 := fun xs => by
    induction xs with
    | nil => exact Nat.zero_le _
    | cons x xs ih =>
      rw [List.map_cons, PyData.depthAll]
      exact Nat.max_le.mpr ⟨h x, ih⟩
  exact ⟨fun xs => by rw [PyData.plain]; exact G.plains xs, fun xs => by rw [PyData.depth]; have := hd xs; omega, fun xs ys => by rw [PyData.eqv]; exact G.eqvs xs ys⟩
theorem Good.lsts (G : Good enc) (h : ∀ x, (enc x).depth ≤ 40) : Good (fun xs : List α => PyData.list (xs.map enc)) := by
  have hd : ∀ xs : List α, PyData.depthAll (xs.map enc) ≤ 40 := fun xs => by
    induction xs with
    | nil => exact Nat.zero_le _
    | cons x xs ih =>
      rw [List.map_cons, PyData.depthAll]
      exact Nat.max_le.mpr ⟨h x, ih⟩
  exact ⟨fun xs => by rw [PyData.plain]; exact G.plains xs, fun xs => by rw [PyData.depth]; have := hd xs; omega, fun xs ys => by rw [PyData.eqv]; exact G.eqvs xs ys⟩
end
theorem good_str : Good PyData.str := ⟨fun _ => rfl, fun _ => Nat.zero_le _, fun x y => by rw [PyData.eqv]; rfl⟩
theorem good_int : Good PyData.int := ⟨fun _ => rfl, fun _ => Nat.zero_le _, fun x y => by rw [PyData.eqv]; rfl⟩
theorem good_bool : Good PyData.bool := ⟨fun _ => rfl, fun _ => Nat.zero_le _, fun x y => by rw [PyData.eqv]; rfl⟩
/-- the n-th small letter -/
def nm (i : Nat) : D := .str ⟨#[97 + i]⟩
theorem good_nm : Good nm := ⟨fun _ => rfl, fun _ => Nat.zero_le _, fun x y => by
  unfold nm
  rw [PyData.eqv]
  by_cases h : x = y
  · subst h
    simp
  · have : (⟨#[97 + x]⟩ : Str) ≠ ⟨#[97 + y]⟩ := fun e => by
      have e1 := congrArg (fun s : Str => s.cps) e
      simp at e1
      exact h e1
    simp [h, this]⟩
def tn (xs : List Nat) : D := .tuple (xs.map nm)
def ln (xs : List Nat) : D := .list (xs.map nm)
theorem good_tn : Good tn := good_nm.tups fun _ => Nat.zero_le _
theorem good_ln : Good ln := good_nm.lsts fun _ => Nat.zero_le _
def pr (p : Nat × Nat) : D := .tuple [nm p.1, nm p.2]
theorem good_pr : Good pr := ⟨fun _ => rfl, fun x => by simp [pr, nm, PyData.depth, PyData.depthAll], fun x y => by
  have h := good_nm.eqvs [x.1, x.2] [y.1, y.2]
  unfold pr
  rw [PyData.eqv]
  rw [show [nm x.1, nm x.2] = [x.1, x.2].map nm from rfl, show [nm y.1, nm y.2] = [y.1, y.2].map nm from rfl, h]
  by_cases h1 : x.1 = y.1 <;> by_cases h2 : x.2 = y.2 <;> simp [h1, h2, Prod.ext_iff]⟩
/-! ### sorted names -/
theorem nm_le (a b : Nat) : W.dataLe false id (nm a) (nm b) = decide (a ≤ b) := by
  show (!PyProof.Rows.lexLt itemOrd (W.keyToks (nm b)) (W.keyToks (nm a))) = _
  unfold nm
  rw [W.keyToks, W.keyToks, lex_cons]
  show (!(decide ([97 + b] < [97 + a]) || (!decide ([97 + a] < [97 + b]) && lexLt itemOrd [] []))) = _
  have e : lexLt itemOrd [] [] = false := rfl
  rw [e, Bool.and_false, Bool.or_false]
  have h : ([97 + b] < [97 + a]) ↔ b < a := by
    rw [List.cons_lt_cons_iff]
    constructor
    · rintro (h | ⟨_, h⟩)
      · omega
      · exact absurd h (List.lt_irrefl _)
    · intro h
      exact .inl (by omega)
  by_cases hab : b < a
  · rw [decide_eq_true (h.mpr hab), decide_eq_false (by omega)]
    rfl
  · rw [decide_eq_false fun z => hab (h.mp z), decide_eq_true (by omega)]
    rfl
theorem perm_sorted {xs ys : List Nat} (p : xs.Perm ys) (h1 : xs.Pairwise (· < ·)) (h2 : ys.Pairwise (· ≤ ·)) : xs = ys := by
  induction xs generalizing ys with
  | nil => exact (List.nil_perm.mp p).symm
  | cons x xs ih =>
    cases ys with
    | nil => exact absurd p (by simp)
    | cons y ys =>
      rw [List.pairwise_cons] at h1 h2
      have e : x = y := by
        have a : x ∈ y :: ys := p.subset (List.mem_cons_self ..)
        have b : y ∈ x :: xs := p.symm.subset (List.mem_cons_self ..)
        rcases List.mem_cons.mp a with q | q
        · exact q
        · rcases List.mem_cons.mp b with q' | q'
          · exact q'.symm
          · have := h1.1 y q'
            have := h2.1 x q
            omega
      subst e
      rw [ih (List.Perm.cons_inv p) h1.2 h2.2]
/-- sorted(..) of names that are those of zs in some order -/
theorem sort_nm {xs zs : List Nat} (p : xs.Perm zs) (h : zs.Pairwise (· < ·)) : dSorted [.list (xs.map nm)] = some (.list (zs.map nm)) := by
  have al : ∀ a b, W.alike (nm a) (nm b) = true := fun a b => by unfold nm; rw [W.alike]
  unfold dSorted
  dsimp only
  refine (if_pos ⟨fun d hd e he => ?_, .inr fun d hd => ?_, fun d hd => ?_⟩).trans ?_
  · have e1 : sortD (xs.map nm) = (xs.mergeSort fun a b => decide (a ≤ b)).map nm := (List.map_mergeSort fun a _ b _ => (nm_le a b).symm).symm
    have e2 : xs.mergeSort (fun a b => decide (a ≤ b)) = zs := by
      refine (perm_sorted ((p.symm.trans (List.mergeSort_perm xs _).symm)) h ?_).symm
      have := List.pairwise_mergeSort (le := fun a b : Nat => decide (a ≤ b)) (fun a b c h1 h2 => by simp only [decide_eq_true_eq] at *; omega) (fun a b => by simp only [Bool.or_eq_true, decide_eq_true_eq]; omega) xs
      simpa using this
    rw [e1, e2]
  · obtain ⟨a, _, rfl⟩ := List.mem_map.mp hd
    obtain ⟨b, _, rfl⟩ := List.mem_map.mp he
    exact al a b
  · obtain ⟨a, _, rfl⟩ := List.mem_map.mp hd
    rfl
  · obtain ⟨a, _, rfl⟩ := List.mem_map.mp hd
    exact Nat.zero_le _
theorem sort_pr (xs : List (Nat × Nat)) : ∃ ys : List (Nat × Nat), ys.Perm xs ∧ dSorted [.list (xs.map pr)] = some (.list (ys.map pr)) := by
  refine ⟨xs.mergeSort fun a b => W.dataLe false id (pr a) (pr b), List.mergeSort_perm xs _, ?_⟩
  unfold dSorted
  dsimp only
  refine (if_pos ⟨fun d hd e he => ?_, .inl fun d hd => ?_, fun d hd => ?_⟩).trans ?_
  · have e1 : sortD (xs.map pr) = (xs.mergeSort fun a b => W.dataLe false id (pr a) (pr b)).map pr := (List.map_mergeSort (f := pr) (s := W.dataLe false id) fun a _ b _ => rfl).symm
    rw [e1]
  · obtain ⟨a, _, rfl⟩ := List.mem_map.mp hd
    obtain ⟨b, _, rfl⟩ := List.mem_map.mp he
    simp [pr, nm, W.alike, W.alikeAll]
  · obtain ⟨a, _, rfl⟩ := List.mem_map.mp hd
    rfl
  · obtain ⟨a, _, rfl⟩ := List.mem_map.mp hd
    simp [pr, nm, PyData.depth, PyData.depthAll]
end TL

set_option Elab.async false
set_option linter.all false
set_option maxRecDepth 100000
set_option maxHeartbeats 4000000
namespace TL
open PySem PySem.Spec PyProof.Rows L2

/-! ### dict([..]) of pairs -/
def mergeT (kvs more : List (List Key × V)) : List (List Key × V) := more.foldl (fun acc kv => putK acc kv.1 kv.2) kvs
theorem KT_merge {H : Hp} : ∀ {more : List (List Key × V)} {rs : List (List Key × Addr × Value)} {kvs : List (List Key × V)} {vs : List (List Key × Addr × Value)}, KT H more rs → KT H kvs vs → KT H (mergeT kvs more) (storedAllH vs rs) := by
  intro more rs kvs vs r
  unfold KT at r
  induction r generalizing kvs vs with
  | nil => intro q; exact q
  | @cons p q ps qs h t ih =>
    intro r0
    obtain ⟨h1, h2, h3⟩ := h
    have e : KT H (putK kvs p.1 p.2) (storedH vs q.1 q.2.1 q.2.2) := by
      rw [← h1]
      exact KT.put r0 p.1 h2 h3
    exact ih e
theorem length_mergeT : ∀ (more kvs : List (List Key × V)), (mergeT kvs more).length ≤ kvs.length + more.length
  | [], kvs => by
    show kvs.length ≤ _
    rw [List.length_nil]
    omega
  | p :: ps, kvs => by
    show (mergeT (putK kvs p.1 p.2) ps).length ≤ _
    refine Nat.le_trans (length_mergeT ps _) ?_
    have : (putK kvs p.1 p.2).length ≤ kvs.length + 1 := by
      unfold putK
      split
      · rw [List.length_map]
        omega
      · rw [List.length_append]
        exact Nat.le_refl _
    rw [List.length_cons]
    omega
section
variable {X : Cx}
theorem pairs_ofT {pins : List (Addr × Obj)} {σ : L2.St} {H : Hp} {s : Shared} (I : Inv X pins σ H s) : ∀ {ps : List Addr} {kvs : List (List Key × V)}, Paired (fun p kv => ∃ b, SqT X.K H p [.ref b, kv.2] ∧ H b = some (.tup (kv.1.map kV))) ps kvs →
    ∃ xs : List (List Key × Addr × Value), KT H kvs xs ∧ xs.length = ps.length ∧ ∀ (j : Nat) (q : List Key × Addr × Value), xs[j]? = some q → ∃ p : Addr, ps[j]? = some p ∧ IsTup s.heap p #[.ref q.2.1, q.2.2]
  | _, _, .nil => ⟨[], .nil, rfl, fun j q e => by simp at e⟩
  | _, _, .cons (a := p) (b := kv) ⟨b, h, hb⟩ t => by
    obtain ⟨xs, r, hl, hp⟩ := pairs_ofT I t
    obtain ⟨its, rv, ht, _⟩ := I.tuple h
    obtain ⟨u, y, ei, ru, ry⟩ := vals2 rv
    subst ei
    cases ru
    refine ⟨(kv.1, b, y) :: xs, .cons ⟨rfl, hb, ry⟩ r, by rw [List.length_cons, List.length_cons, hl], fun j q e => ?_⟩
    cases j with
    | zero =>
      have e' : (kv.1, b, y) = q := Option.some.inj e
      subst e'
      exact ⟨p, rfl, ht⟩
    | succ j =>
      obtain ⟨b', e1, e2⟩ := hp j q (by simpa using e)
      exact ⟨b', by simpa using e1, e2⟩
/-- dict(xs) of a list of pairs whose keys are tuples -/
theorem call_dictPT (hu : X.A.units + 64 < cLine) (hcalm : X.calm = true) : CallR X (.type "dict") (fun xs H Q => ∃ (a : Addr) (ps : List Addr) (kvs : List (List Key × V)), xs = [.ref a] ∧ SqL X.K H a (ps.map V.ref) ∧ Paired (fun p kv => ∃ b, SqT X.K H p [.ref b, kv.2] ∧ H b = some (.tup (kv.1.map kV))) ps kvs ∧
    ∀ p, H p = none → Q (.ref p) (upd H p (.dT (mergeT [] kvs)))) := by
  intro pins s σ H xs us Q I r q
  obtain ⟨a, ps, kvs, ex, hq, hp, q⟩ := q
  subst ex
  obtain ⟨u, eu, rx⟩ := vals1 r
  subst eu
  cases rx
  obtain ⟨its, rv, pl, hz⟩ := I.list hq
  have ei := refs_at rv
  subst ei
  rw [List.length_map] at hz
  obtain ⟨xs, rel, hl, hpr⟩ := pairs_ofT I hp
  obtain ⟨o, n, ho, hc, hd, hdat⟩ := pl
  have key : ∀ x ∈ xs, (tupleKind (mixKind X.prog X.w)).is s.heap x.1 x.2.1 := fun x hx => by
    have all : ∀ {l : List (List Key × V)} {m : List (List Key × Addr × Value)}, KT H l m → ∀ x ∈ m, (tupleKind (mixKind X.prog X.w)).is s.heap x.1 x.2.1 := by
      intro l m q
      induction q with
      | nil => intro x hx; exact nomatch hx
      | @cons p q ps qs hq t ih =>
        intro x hx
        rcases List.mem_cons.mp hx with e | hx
        · subst e
          exact key_of I.hok (by rw [← hq.1]; exact hq.2.1)
        · exact ih x hx
    exact all rel x hx
  refine call_dict_pairsH (knd := tupleKind (mixKind X.prog X.w)) (ps := xs) (PairArg.list (prog := X.prog) (w := X.w) a (ps.map Value.ref).toArray (fun j => ps.getD j 0) (xs.map fun x => (Value.ref x.2.1, x.2.2))) (I.ok.hd hcalm) (show X.A.units + 1 + 1 < cLine by omega) ⟨⟨o, n, ho, hc, hd, hdat⟩, ?_, fun j k v e => ?_⟩ ⟨by rw [List.length_map], fun j k v e => ?_⟩ (fun h' hk x hx => ?_) (by rw [List.length_map, hl]; exact hz) fun h' tk hd' k => ?_
  · simp [hl]
  · rw [List.getElem?_map] at e
    cases hx : xs[j]? with
    | none => rw [hx] at e; cases e
    | some x =>
      rw [hx] at e
      cases e
      obtain ⟨p, e1, e2⟩ := hpr j x hx
      have eg : ps.getD j 0 = p := by rw [List.getD_eq_getElem?_getD, e1]; rfl
      refine ⟨by simp [e1], .inl ?_⟩
      show s.heap.IsTuple (ps.getD j 0) _
      rw [eg]
      exact e2
  · have e : (xs.map fun x => (Value.ref x.2.1, x.2.2))[j]? = some (k, v) := e
    rw [List.getElem?_map] at e
    cases hx : xs[j]? with
    | none => rw [hx] at e; cases e
    | some x =>
      rw [hx] at e
      cases e
      exact ⟨x.1, x.2.1, rfl, rfl⟩
  · refine tupleKind_stays.stays (fun b o vs n e _ => hk b o (Nat.ne_of_lt (Heap.lt_size e)) (fun z => nomatch z) e) (key x hx)
  · have hm : (s.heap.objs.size == sysModules) = false := beq_eq_false_iff_ne.mpr (Nat.ne_of_gt I.big)
    have hlen : (mergeT [] kvs).length ≤ sizeLine := by
      refine Nat.le_trans (length_mergeT kvs []) ?_
      rw [List.length_nil, Nat.zero_add, Paired.length rel, hl]
      exact hz
    have hf : H s.heap.objs.size = none := I.hok.fresh (Nat.le_refl _)
    obtain ⟨o', es, ep, h1, h2, h3, h4, _, h5⟩ := hd'
    exact ⟨.ref s.heap.objs.size, upd H s.heap.objs.size (.dT (mergeT [] kvs)), I.laid (t' := tk) (fun b u e => k b u (fun z => nomatch z) e) (Nat.le_refl _)
      (show ObjOk X.prog X.w _ _ _ (.dT (mergeT [] kvs)) from ⟨hlen, hm, storedAllH [] xs, KT.keeps (KT_merge rel .nil) (fun b ys e => by rw [upd_ne (ne_of_none e hf)]; exact e), o', es, ep, h1, h2, h3, h4, h5⟩), rfl, q _ hf⟩
end
def pairD : D → Option (D × D)
  | .tuple [k, v] => some (k, v)
  | _ => none
def pairsD : List D → Option (List (D × D))
  | [] => some []
  | d :: ds => match pairD d, pairsD ds with
    | some p, some ps => some (p :: ps)
    | _, _ => none
def isKk (d : D) : Bool := (keyOf d).isSome
def isTk : D → Bool
  | .tuple ds => (keysOf ds).isSome
  | _ => false
def putsD (acc kvs : List (D × D)) : List (D × D) := kvs.foldl (fun a p => putD a p.1 p.2) acc
def dDictK : List D → Option D
  | [.list ps] => match pairsD ps with
    | some kvs => if (kvs.all fun p => isKk p.1) = true then some (.dict (putsD [] kvs)) else none
    | none => none
  | _ => none
def dDictT : List D → Option D
  | [.list ps] => match pairsD ps with
    | some kvs => if (kvs.all fun p => isTk p.1) = true then some (.dict (putsD [(.none, .none)] kvs)) else none
    | none => none
  | _ => none
theorem puts_T : ∀ {kvs : List (D × D)} {v : D} {acc : List (D × D)}, (kvs.all fun p => isTk p.1) = true → putsD ((.none, v) :: acc) kvs = (.none, v) :: putsD acc kvs
  | [], _, _, _ => rfl
  | (k, d) :: kvs, v, acc, h => by
    rw [List.all_cons, Bool.and_eq_true] at h
    obtain ⟨h1, h2⟩ := h
    show putsD (putD ((.none, v) :: acc) k d) kvs = (.none, v) :: putsD (putD acc k d) kvs
    cases k <;> first | (cases h1; done) | skip
    rename_i ds
    obtain ⟨ks, hks⟩ := Option.isSome_iff_exists.mp h1
    have e := keysOf_is hks
    subst e
    rw [show PyData.tuple (ks.map keyD) = tkeyD ks from rfl, putD_T]
    exact puts_T h2
section
variable {H : Hp} {Z : Zn} {κ : Type} [DecidableEq κ] {enc : κ → D}
theorem fold_put (he : ∀ a b, PyData.eqv (enc a) (enc b) = decide (a = b)) : ∀ {kvs : List (D × D)} {kk : List κ} {ws : List V}, kvs.map (·.1) = kk.map enc → kk.length = ws.length → RepV H Z kvs ws →
    ∀ {acc : List (D × D)} {ka : List κ} {va : List V}, acc.map (·.1) = ka.map enc → ka.length = va.length → RepV H Z acc va →
    ∃ (kk' : List κ) (vs' : List V), (putsD acc kvs).map (·.1) = kk'.map enc ∧ RepV H Z (putsD acc kvs) vs' ∧ kk'.length = vs'.length ∧ (kk.zip ws).foldl (fun a kv => putK a kv.1 kv.2) (ka.zip va) = kk'.zip vs'
  | [], kk, ws, e, hl, r, acc, ka, va, ea, la, ra => by
    have : kk = [] := by
      cases kk with
      | nil => rfl
      | cons a b => simp at e
    subst this
    exact ⟨ka, va, ea, ra, la, rfl⟩
  | (k, d) :: kvs, kk, ws, e, hl, r, acc, ka, va, ea, la, ra => by
    cases kk with
    | nil => simp at e
    | cons k1 kk =>
      rw [List.map_cons, List.map_cons, List.cons.injEq] at e
      rw [RepV] at r
      obtain ⟨w, ws, rfl, r1, r2⟩ := r
      have e1 : k = enc k1 := e.1
      subst e1
      obtain ⟨ka', va', q1, q2, q3, q4⟩ := put_val he k1 ea la ra r1
      obtain ⟨kk', vs', p1, p2, p3, p4⟩ := fold_put he (kvs := kvs) (kk := kk) (ws := ws) e.2 (by simpa using hl) r2 q1 q3 q2
      refine ⟨kk', vs', p1, p2, p3, ?_⟩
      rw [List.zip_cons_cons, List.foldl_cons, q4]
      exact p4
theorem pairs_rep {K : PySem.W.Frag} : ∀ {ps : List D} {vs : List V} {kvs : List (D × D)} {kk : List Key}, RepL H Z ps vs → pairsD ps = some kvs → kvs.map (·.1) = kk.map keyD →
    ∃ (as : List Addr) (ws : List V), vs = as.map V.ref ∧ Paired (fun p (kv : Key × V) => SqT K H p [kV kv.1, kv.2]) as (kk.zip ws) ∧ RepV H Z kvs ws ∧ kk.length = ws.length
  | [], vs, kvs, kk, r, e, ek => by
    rw [RepL] at r
    subst r
    cases e
    have : kk = [] := by
      cases kk with
      | nil => rfl
      | cons a b => simp at ek
    subst this
    exact ⟨[], [], rfl, .nil, by rw [RepV], rfl⟩
  | d :: ps, vs, kvs, kk, r, e, ek => by
    rw [RepL] at r
    obtain ⟨w, ws, rfl, r1, r2⟩ := r
    rw [pairsD] at e
    split at e
    · rename_i p kvs' e1 e2
      cases e
      unfold pairD at e1
      split at e1
      · rename_i k v
        cases e1
        cases kk with
        | nil => simp at ek
        | cons k1 kk =>
          rw [List.map_cons, List.map_cons, List.cons.injEq] at ek
          have e3 : k = keyD k1 := ek.1
          subst e3
          obtain ⟨as, us, rfl, h2, h3, h4⟩ := pairs_rep (K := K) r2 e2 ek.2
          rw [Rep] at r1
          obtain ⟨a, xs, rfl, h1, rr⟩ := r1
          rw [RepL] at rr
          obtain ⟨x, xs1, rfl, rx, rr⟩ := rr
          rw [RepL] at rr
          obtain ⟨y, xs2, rfl, ry, rr⟩ := rr
          rw [RepL] at rr
          subst rr
          have ex : x = kV k1 := by
            cases k1 <;> (rw [keyD, Rep] at rx; exact rx)
          subst ex
          exact ⟨a :: as, y :: us, rfl, .cons (.inl (.inl h1)) h2, by rw [RepV]; exact ⟨y, us, rfl, ry, h3⟩, by rw [List.length_cons, List.length_cons, h4]⟩
      · cases e1
    · cases e
theorem pairs_repT {K : PySem.W.Frag} : ∀ {ps : List D} {vs : List V} {kvs : List (D × D)} {kk : List (List Key)}, RepL H Z ps vs → pairsD ps = some kvs → kvs.map (·.1) = kk.map tkeyD →
    ∃ (as : List Addr) (ws : List V), vs = as.map V.ref ∧ Paired (fun p (kv : List Key × V) => ∃ b, SqT K H p [.ref b, kv.2] ∧ H b = some (.tup (kv.1.map kV))) as (kk.zip ws) ∧ RepV H Z kvs ws ∧ kk.length = ws.length
  | [], vs, kvs, kk, r, e, ek => by
    rw [RepL] at r
    subst r
    cases e
    have : kk = [] := by
      cases kk with
      | nil => rfl
      | cons a b => simp at ek
    subst this
    exact ⟨[], [], rfl, .nil, by rw [RepV], rfl⟩
  | d :: ps, vs, kvs, kk, r, e, ek => by
    rw [RepL] at r
    obtain ⟨w, ws, rfl, r1, r2⟩ := r
    rw [pairsD] at e
    split at e
    · rename_i p kvs' e1 e2
      cases e
      unfold pairD at e1
      split at e1
      · rename_i k v
        cases e1
        cases kk with
        | nil => simp at ek
        | cons k1 kk =>
          rw [List.map_cons, List.map_cons, List.cons.injEq] at ek
          have e3 : k = tkeyD k1 := ek.1
          subst e3
          obtain ⟨as, us, rfl, h2, h3, h4⟩ := pairs_repT (K := K) r2 e2 ek.2
          rw [Rep] at r1
          obtain ⟨a, xs, rfl, h1, rr⟩ := r1
          rw [RepL] at rr
          obtain ⟨x, xs1, rfl, rx, rr⟩ := rr
          rw [RepL] at rr
          obtain ⟨y, xs2, rfl, ry, rr⟩ := rr
          rw [RepL] at rr
          subst rr
          unfold tkeyD at rx
          rw [Rep] at rx
          obtain ⟨b, us2, rfl, hb, rb⟩ := rx
          rw [keys_rep rb] at hb
          exact ⟨a :: as, y :: us, rfl, .cons ⟨b, .inl (.inl h1), hb⟩ h2, by rw [RepV]; exact ⟨y, us, rfl, ry, h3⟩, by rw [List.length_cons, List.length_cons, h4]⟩
      · cases e1
    · cases e
end
theorem all_keys : ∀ {kvs : List (D × D)}, (kvs.all fun p => isKk p.1) = true → ∃ kk : List Key, kvs.map (·.1) = kk.map keyD
  | [], _ => ⟨[], rfl⟩
  | (k, d) :: kvs, h => by
    rw [List.all_cons, Bool.and_eq_true] at h
    obtain ⟨kk, e⟩ := all_keys h.2
    obtain ⟨k1, h1⟩ := Option.isSome_iff_exists.mp h.1
    exact ⟨k1 :: kk, by rw [List.map_cons, List.map_cons, e, ← keyOf_is h1]⟩
theorem all_tkeys : ∀ {kvs : List (D × D)}, (kvs.all fun p => isTk p.1) = true → ∃ kk : List (List Key), kvs.map (·.1) = kk.map tkeyD
  | [], _ => ⟨[], rfl⟩
  | (k, d) :: kvs, h => by
    rw [List.all_cons, Bool.and_eq_true] at h
    obtain ⟨kk, e⟩ := all_tkeys h.2
    obtain ⟨h1, _⟩ := h
    cases k <;> first | (cases h1; done) | skip
    rename_i ds
    obtain ⟨k1, h1⟩ := Option.isSome_iff_exists.mp h1
    exact ⟨k1 :: kk, by rw [List.map_cons, List.map_cons, e, keysOf_is h1]; rfl⟩
section
variable {X : Cx} {C : Cf} {ow : Ow} {H : Hp} {fr : Bool} {Q : VK}
theorem Fin2.dic {kvs : List (D × D)} {vs : List V} {p : Addr} {o : HO} (q : Fin2 C ow H fr (.dict kvs) Q) (fz : ∀ p, H p = none → ¬ ZO C ow p) (hp : H p = none) (hd : DicAt (upd H p o) p (kvs.map (·.1)) vs) (r : RepV H (ZO C ow) kvs vs) : Q (.ref p) (upd H p o) := by
  refine q _ _ (.upd hp) ?_ fun _ _ => ⟨p, rfl, hp, vs, hd, (r.more (Z' := fun b => ZO C ow b ∨ b = p) fun b z => z.elim .inl fun z => .inr (by rw [z]; exact hp)).kp (.upd hp)⟩
  rw [Rep]
  exact ⟨p, vs, rfl, hd, fz p hp, r.kp (.upd hp)⟩
theorem c_dictK (hcalm : X.calm = true) : CallR X (.type "dict") (rCl true dDictK) := by
  intro pins s σ H xs us Q I r ⟨C, ow, ds, d, fz, h, e, q⟩
  unfold dDictK at e
  split at e
  · rename_i ps
    split at e
    · rename_i kvs e1
      split at e
      · rename_i hk
        cases e
        obtain ⟨kk, ek⟩ := all_keys hk
        obtain ⟨w, rfl, hw⟩ := h.one
        obtain ⟨p, vs, rfl, hp, _, r1⟩ := hw.lst
        obtain ⟨as, ws, rfl, h2, h3, h4⟩ := pairs_rep (K := X.K) r1 e1 ek
        obtain ⟨kk', vs', q1, q2, q3, q4⟩ := fold_put eqv_key ek h4 h3 (acc := []) (ka := []) (va := []) rfl rfl (by rw [RepV])
        exact call_dictP hcalm pins s σ H _ us Q I r ⟨p, as, kk.zip ws, rfl, .inl (.inl hp), h2, fun p' hp' => by
          have e5 : mergeK [] (kk.zip ws) = kk'.zip vs' := q4
          rw [e5]
          exact q.dic fz hp' (.inl ⟨kk', q1, q3, upd_same⟩) q2⟩
      · cases e
    · cases e
  · cases e
theorem c_dictT (hu : X.A.units + 64 < cLine) (hcalm : X.calm = true) : CallR X (.type "dict") (rCl true dDictT) := by
  intro pins s σ H xs us Q I r ⟨C, ow, ds, d, fz, h, e, q⟩
  unfold dDictT at e
  split at e
  · rename_i ps
    split at e
    · rename_i kvs e1
      split at e
      · rename_i hk
        cases e
        obtain ⟨kk, ek⟩ := all_tkeys hk
        obtain ⟨w, rfl, hw⟩ := h.one
        obtain ⟨p, vs, rfl, hp, _, r1⟩ := hw.lst
        obtain ⟨as, ws, rfl, h2, h3, h4⟩ := pairs_repT (K := X.K) r1 e1 ek
        obtain ⟨kk', vs', q1, q2, q3, q4⟩ := fold_put eqv_tkey ek h4 h3 (acc := []) (ka := []) (va := []) rfl rfl (by rw [RepV])
        exact call_dictPT hu hcalm pins s σ H _ us Q I r ⟨p, as, kk.zip ws, rfl, .inl (.inl hp), h2, fun p' hp' => by
          have e5 : mergeT [] (kk.zip ws) = kk'.zip vs' := q4
          rw [e5]
          refine Fin2.dic (vs := .non :: vs') q fz hp' ?_ ?_
          · rw [puts_T hk]
            exact .inr ⟨kk', by rw [List.map_cons, q1], by rw [List.length_cons, q3], upd_same⟩
          · rw [puts_T hk, RepV]
            exact ⟨.non, vs', rfl, by rw [Rep], q2⟩⟩
      · cases e
    · cases e
  · cases e
end
end TL

set_option Elab.async false
set_option linter.all false
set_option maxRecDepth 100000
set_option maxHeartbeats 4000000
namespace TL
open PySem PySem.Spec PyProof.Rows L2

/-! ### sorted(d) of a dict -/
mutual
theorem readsThere {h : Heap} : ∀ {v : Value} {d : PyData} {as : List Addr}, Reads h v d as → ∀ a ∈ as, ∃ o, h.get? a = some o
  | _, _, _, .none, a, m => nomatch m
  | _, _, _, .bool _, a, m => nomatch m
  | _, _, _, .int _ _, a, m => nomatch m
  | _, _, _, .str _ _, a, m => nomatch m
  | _, _, _, .list (o := o) h1 _ _ h4, a, m => by
    rcases List.mem_cons.mp m with rfl | m
    · exact ⟨o, h1⟩
    · exact readsThereL h4 a m
  | _, _, _, .tuple _ _ _ h4, a, m => readsThereL h4 a m
  | _, _, _, .dict (o := o) h1 _ _ h4 h5, a, m => by
    rw [List.cons_append] at m
    rcases List.mem_cons.mp m with rfl | m
    · exact ⟨o, h1⟩
    · rcases List.mem_append.mp m with m | m
      · exact readsThereL h4 a m
      · exact readsThereL h5 a m
theorem readsThereL {h : Heap} : ∀ {v : List Value} {d : List PyData} {as : List Addr}, ReadsAll h v d as → ∀ a ∈ as, ∃ o, h.get? a = some o
  | _, _, _, .nil, a, m => nomatch m
  | _, _, _, .cons h1 h2, a, m => by
    rcases List.mem_append.mp m with m | m
    · exact readsThere h1 a m
    · exact readsThereL h2 a m
end
section
variable {X : Cx} {pins : List (Addr × Obj)} {σ : L2.St} {H : Hp} {s : Shared}
theorem sorted_col (hu : X.A.units + 64 < cLine) (I : L2.Inv X pins σ H s) {d : Addr} {n : Nat} (hn : n ≤ sizeLine) {Z : Zn} {ds : List D} {Q : VK}
    (hcol : ∀ R : List Value → Shared → Prop, (∀ (h' : Heap) (tk : Nat) (us : List Value), (∀ b o, s.heap.get? b = some o → h'.get? b = some o) → us.length = n → (∃ ks, Vals ks us ∧ RepL H Z ds ks) → R us { s with heap := h', toks := tk }) → wpAny (model X.prog X.w) X.A.in1 (collect (.ref d)) R X.xe s)
    (h1 : ∀ d ∈ ds, ∀ e ∈ ds, W.alike d e = true) (h2 : (∀ d ∈ ds, tup1 d = true) ∨ (∀ d ∈ ds, notTup d = true)) (h3 : ∀ d ∈ ds, d.depth ≤ 60)
    (q : ∀ vs p, RepL H Z (sortD ds) vs → H p = none → Q (.ref p) (upd H p (.lst vs))) :
    wpAny (model X.prog X.w) X.A (call (.builtin "sorted") [.ref d]) (EP X pins σ Q) X.xe s := by
  refine Calls.call_function_entry PyProof.Rows.kind_sorted PyProof.Rows.plain_sorted PyProof.Rows.entry_sorted (PyProof.Rows.args_sorted1 _) ?_
  unfold Builtin.«sorted»
  refine wpAny_bind (m := checkCount "sorted" 1 1 _) (wpAny_pure ?_)
  refine wpAny_bind (hcol _ fun h' tk us hk hal ⟨ks, rv, r1⟩ => ?_)
  have I1 : L2.Inv X pins σ H { s with heap := h', toks := tk } := I.kept hk
  have lz : us.length ≤ sizeLine := by rw [hal]; exact hn
  have lds : ds.length = n := by
    have a1 := RepL.len r1
    have a2 := rv.length
    omega
  refine wpAny_bind (wpAny_newList ?_ lz)
  have hoL : (h'.push (seqObj "list" us.toArray 0)).get? h'.objs.size = some (seqObj "list" us.toArray 0) := Heap.get?_push_size _ rfl
  have ea := each_of r1 rv
  have er0 := each_reads I1 (fun d hd => alike_plain d (h1 d hd d hd)) ea
  have er : W.EachIs (fun v (b : D) => ∃ as, Reads (h'.push (seqObj "list" us.toArray 0)) v b as ∧ h'.objs.size ∉ as) us ds := er0.mono fun v b ⟨as, r⟩ => ⟨as, PyProof.Rows.Reads.keeps (fun _ _ e => Heap.get?_push_of_some _ e) r, fun hm => by
    obtain ⟨o, ho⟩ := readsThere r _ hm
    exact absurd (Heap.lt_size ho) (Nat.lt_irrefl _)⟩
  show wpAny _ _ _ _ _ { s with heap := h'.push (seqObj "list" us.toArray 0), toks := tk }
  refine wpAny_bind (wpAny_holding (W.list_sort_data (s := { s with heap := h'.push (seqObj "list" us.toArray 0), toks := tk }) (enc := id) hoL ea er (by rw [List.map_id]; exact h1) ?_ (by rw [lds]; exact hn) (fun b hb => ?_) fun out hl eo => ?_))
  · rw [List.map_id]
    rcases h2 with h2 | h2
    · refine .inl fun d hd => ?_
      have := h2 d hd
      unfold tup1 at this
      split at this
      · exact ⟨_, _, rfl⟩
      · cases this
    · refine .inr fun d hd => ?_
      have := h2 d hd
      refine ⟨fun z => ?_, fun xs z => ?_⟩ <;> (subst z; cases this)
  · have := h3 b hb
    show X.A.units + 1 + 1 + b.depth < cLine
    omega
  · obtain ⟨vo, ro, rvo⟩ := of_each eo
    obtain ⟨e', he'⟩ := PyProof.Rows.sortedHeap_at (vs := us) (out := out.toArray) hoL
    have hlen : vo.length ≤ sizeLine := by
      rw [RepL.len ro, List.length_mergeSort, lds]
      exact hn
    refine wpAny_pure ⟨_, rfl, .ref h'.objs.size, upd H h'.objs.size (.lst vo), I1.laid (t' := tk) (fun b u e => ?_) (Nat.le_refl _)
      (show ObjOk X.prog X.w _ _ _ (.lst vo) from ⟨hlen, out, e', rvo, he'⟩), rfl, q vo _ ro (I1.hok.fresh (Nat.le_refl _))⟩
    have hb : b < h'.objs.size := Heap.lt_size e
    rw [PyProof.Rows.sortedHeap_old (Nat.ne_of_lt hb) (by rw [size_push']; exact Nat.lt_succ_of_lt hb)]
    exact Heap.get?_push_of_some _ e
theorem sorted_src (hu : X.A.units + 64 < cLine) (hcalm : X.calm = true) (I : L2.Inv X pins σ H s) {T : String} {d : Addr} {n : Nat} {P : Nat → Value → Prop} {OK : Heap → Prop} (K : W.KdlSrc X.prog X.w T d d n P OK) (hok : OK s.heap) (hn : n ≤ sizeLine) {Z : Zn} {ds : List D} {Q : VK}
    (items : ∀ us : List Value, us.length = n → (∀ j v, us[j]? = some v → P j v) → ∃ ks, Vals ks us ∧ RepL H Z ds ks)
    (h1 : ∀ d ∈ ds, ∀ e ∈ ds, W.alike d e = true) (h2 : (∀ d ∈ ds, tup1 d = true) ∨ (∀ d ∈ ds, notTup d = true)) (h3 : ∀ d ∈ ds, d.depth ≤ 60)
    (q : ∀ vs p, RepL H Z (sortD ds) vs → H p = none → Q (.ref p) (upd H p (.lst vs))) :
    wpAny (model X.prog X.w) X.A (call (.builtin "sorted") [.ref d]) (EP X pins σ Q) X.xe s :=
  sorted_col hu I hn (fun R hR => PySem.W.kdu_collect (A := X.A.in1) K (I.ok.hd hcalm) hok hn fun h' tk acc hk hacc => by
    have hal : acc.toList.length = n := by rw [Array.length_toList, hacc.1]
    exact hR h' tk acc.toList hk hal (items acc.toList hal fun j v e => hacc.2 j v (by rw [← Array.getElem?_toList]; exact e))) h1 h2 h3 q
end
def keysD (kvs : List (D × D)) : List D := if isT kvs = true then kvs.tail.map (·.1) else kvs.map (·.1)
def isStr : D → Bool
  | .str _ => true
  | _ => false
def dSortedA : List D → Option D
  | [.dict kvs] => if isT kvs = true ∨ (keysD kvs).all isStr = true then dSorted [.list (keysD kvs)] else none
  | xs => dSorted xs
theorem strs_rep {H : Hp} {Z : Zn} : ∀ {kk : List Key}, ((kk.map keyD).all isStr) = true → ∃ xs : List Str, kk = xs.map Sum.inr ∧ RepL H Z (kk.map keyD) (xs.map V.str)
  | [], _ => ⟨[], rfl, .nil⟩
  | .inl i :: kk, h => by cases h
  | .inr x :: kk, h => by
    obtain ⟨xs, e, r⟩ := strs_rep (H := H) (Z := Z) (kk := kk) h
    exact ⟨x :: xs, by rw [List.map_cons, ← e], .cons (by rw [keyD, Rep]) r⟩
theorem keys_repT {H : Hp} {Z : Zn} : ∀ {kvs : List (List Key × V)} {bs : List Addr}, IsKeys H kvs bs → RepL H Z ((kvs.map (·.1)).map tkeyD) (bs.map V.ref)
  | _, _, .nil => .nil
  | _, _, .cons (a := p) (b := b) h t => by
    refine .cons ?_ (keys_repT t)
    unfold tkeyD
    rw [Rep]
    refine ⟨b, _, rfl, h, ?_⟩
    have : ∀ ks : List Key, RepL H Z (ks.map keyD) (ks.map kV) := fun ks => by
      induction ks with
      | nil => exact .nil
      | cons k ks ih =>
        refine .cons ?_ ih
        cases k <;> (rw [keyD, Rep]; rfl)
    exact this p.1
section
variable {X : Cx}
theorem c_sortedA (hu : X.A.units + 64 < cLine) (hcalm : X.calm = true) : CallR X (.builtin "sorted") (rCl true dSortedA) := by
  intro pins s σ H xs us Q I r ⟨C, ow, ds, d, fz, h, e, q⟩
  unfold dSortedA at e
  split at e
  · rename_i kvs
    split at e
    · rename_i hk
      unfold dSorted at e
      dsimp only at e
      split at e
      · rename_i hz
        obtain ⟨h1, h2, h3⟩ := hz
        cases e
        obtain ⟨w, rfl, hw⟩ := h.one
        obtain ⟨u, rfl, ru⟩ := vals1 r
        obtain ⟨p, vs, rfl, hd, _, r1⟩ := hw.dic
        cases ru
        rcases hd with ⟨kk, e1, e2, e3⟩ | ⟨kk, e1, e2, e3⟩
        · have it : isT kvs = false := isT_K e1
          have ek : keysD kvs = kk.map keyD := by
            unfold keysD
            rw [it, if_neg Bool.false_ne_true, e1]
          rw [it] at hk
          have hs : (kk.map keyD).all isStr = true := by
            rw [← ek]
            exact hk.elim (fun z => nomatch z) id
          obtain ⟨xs, ex, rr⟩ := strs_rep (H := H) (Z := ZO C ow) hs
          obtain ⟨z, lo, vals, rel, dd⟩ := dk_rd I.hok (.inl e3)
          obtain ⟨ep, hat⟩ := dd.dictAt
          have hkeys : vals.map (·.1) = xs.map Sum.inr := by
            rw [← rel.keys, ← ex, List.map_fst_zip (by omega)]
          have hl : vals.length = xs.length := by
            have e := congrArg List.length hkeys
            rw [List.length_map, List.length_map] at e
            exact e
          rw [ek] at h1 h2 h3 q
          refine sorted_src hu hcalm I (PySem.W.kdl_dict (knd := mixKind X.prog X.w) (kvs := vals) (ep := ep) lo) hat ?_ (Z := ZO C ow) (ds := kk.map keyD) (fun us hlu hP => ⟨xs.map V.str, ?_, rr⟩) h1 h2 h3 fun vo p' ro hp' => q.lst fz ro p' hp'
          · rw [rel.length] at z
            exact z
          · have hS : StrsAre us xs := strs_at (by rw [hlu, hl]) fun j v e => by
              obtain ⟨k, x, e1, e2⟩ := hP j v e
              have e3 : (vals.map (·.1))[j]? = some k := by rw [List.getElem?_map, e1]; all_goals rfl
              rw [hkeys, List.getElem?_map] at e3
              cases e4 : xs[j]? with
              | none => rw [e4] at e3; cases e3
              | some y =>
                rw [e4] at e3
                have e5 : Sum.inr y = k := Option.some.inj e3
                subst e5
                obtain ⟨t, ev⟩ := Value.isStrOf_shape (x := y) (v := v) e2
                exact ⟨y, t, rfl, ev⟩
            exact vals_of_strs hS
        · cases kvs with
          | nil => simp at e1
          | cons p0 kvs =>
            obtain ⟨pk, pd⟩ := p0
            rw [List.map_cons, List.cons.injEq] at e1
            have e : pk = .none := e1.1
            subst e
            have ek : keysD ((.none, pd) :: kvs) = kk.map tkeyD := by
              exact e1.2
            rw [ek] at h1 h2 h3 q
            obtain ⟨z, hs, ks, pr, o, es, ep, ho, hx, hdt, he, hn⟩ := (show ObjOk X.prog X.w H s.heap p (.dT (kk.zip vs.tail)) from I.hok _ _ e3)
            have l1 : es.size = ks.length := size_of_entries he
            have l2 : (kk.zip vs.tail).length = ks.length := Paired.length pr
            refine sorted_src hu hcalm I (kdl_raw hs hx hdt) ho (by omega) (Z := ZO C ow) (ds := kk.map tkeyD) (fun us hlu hP => ⟨(ks.map fun x => x.2.1).map V.ref, ?_, ?_⟩) h1 h2 h3 fun vo p' ro hp' => q.lst fz ro p' hp'
            · have ea : us = (ks.map fun x => x.2.1).map Value.ref := by
                rw [List.map_map]
                apply List.ext_getElem?
                intro j
                rw [List.getElem?_map]
                cases hj : us[j]? with
                | none =>
                  have h1 := List.getElem?_eq_none_iff.mp hj
                  rw [List.getElem?_eq_none (by omega)]
                  rfl
                | some v =>
                  obtain ⟨en, hen, hv⟩ := hP j v hj
                  have qe := entry_at he j
                  rw [hen] at qe
                  cases hb : ks[j]? with
                  | none =>
                    rw [hb] at qe
                    exact nomatch (show some en = none from qe)
                  | some b =>
                    rw [hb] at qe
                    have e2 : en = entryOfKey (tupleKind (mixKind X.prog X.w)) b := Option.some.inj qe
                    rw [hv, e2]
                    rfl
              rw [ea]
              exact vals_refs _
            · have := keys_repT (Z := ZO C ow) (isKeys_of pr)
              have hlen : kk.length ≤ vs.tail.length := by
                rw [List.length_tail]
                omega
              rwa [List.map_fst_zip hlen] at this
      · cases e
    · cases e
  · exact c_sorted hu pins s σ H xs us Q I r ⟨C, ow, ds, d, fz, h, e, q⟩
end
end TL

set_option Elab.async false
set_option linter.all false
set_option maxRecDepth 100000
set_option maxHeartbeats 4000000
namespace TL
open PySem PySem.Spec PyProof.Rows L2

theorem bt_dict : bootBuiltins "dict" = some (.type "dict") := by decide +kernel
section
variable {X : Cx} {C : Cf} {kb kd kd2 kd' : Nat → Bool} {ow : Ow} {σ : L2.St} {ρ : Rho} {S S' : Src} {H H' : Hp} {d : D} {v : V}
/-! ### slots that become a def's own: what they held is forgotten -/
def gThaw (is : List Nat) (g : FS) : FS := fun ρ S => g (wipeR ρ is) S
theorem Rel.thaw (R : Rel C kd ow σ ρ S H) {is : List Nat} (h1 : ∀ i, kd2 i = true → kd i = true ∨ i ∈ is) (h2 : ∀ i, kd i = true → kd2 i = true) : Rel C kd2 ow σ (wipeR ρ is) S H := by
  refine ⟨R.dom, R.ft, R.base, R.src, by rw [wipeR_len, R.len], fun p hp => ⟨(R.sr p hp).1, ?_⟩, fun i e q1 q2 => ?_, fun i e q1 q2 => ?_, R.inj, R.dj, R.new⟩
  · have e := (R.sr p hp).2
    have hl : C.sx < ρ.length := (List.getElem?_eq_some_iff.mp e).1
    cases q : (wipeR ρ is)[C.sx]? with
    | none =>
      rw [List.getElem?_eq_none_iff, wipeR_len] at q
      omega
    | some o =>
      cases o with
      | none => rfl
      | some x =>
        rw [(wipeR_some q).1] at e
        cases e
  · obtain ⟨q, n⟩ := wipeR_some q2
    refine R.cl i e ?_ q
    cases hk : kd i with
    | false => rfl
    | true => rw [h2 i hk] at q1; cases q1
  · obtain ⟨q, n⟩ := wipeR_some q2
    rcases h1 i q1 with z | z
    · exact R.own i e z q
    · exact absurd z n
theorem p_thaw {sts : List Stmt} {g : FS} {is : List Nat} (h1 : ∀ i, kd2 i = true → kd i = true ∨ i ∈ is) (h2 : ∀ i, kd i = true → kd2 i = true) (h : PSs X sts (tP C kb kd2 kd' g)) : PSs X sts (tP C kb kd kd' (gThaw is g)) :=
  PSs_imp h fun Dn σ H ⟨ow, ρ, S, o, R, e, k⟩ => ⟨ow, wipeR ρ is, S, o, R.thaw h1 h2, e, k⟩
theorem thaw_sub {l is : List Nat} : ∀ i, kdL (l ++ is) i = true → kdL l i = true ∨ i ∈ is := fun i h => by
  unfold kdL at h ⊢
  rw [List.any_append, Bool.or_eq_true] at h
  rcases h with h | h
  · exact .inl h
  · obtain ⟨j, hj, e⟩ := List.any_eq_true.mp h
    exact .inr (by rw [← Nat.eq_of_beq_eq_true e]; exact hj)
theorem thaw_sup {l is : List Nat} : ∀ i, kdL l i = true → kdL (l ++ is) i = true := fun i h => by
  unfold kdL at h ⊢
  rw [List.any_append, h]
  rfl
/-! ### xs.append(ys.pop(e)) -/
theorem nP_hl {i j : Nat} {f : FE} : ∀ (ρ : Rho) (S : Src) (r : D × Rho × Src), nP j f ρ S = some r → ∀ ds, r.2.1[i]? = some (some (.list ds)) → ∃ es, ρ[i]? = some (some (.list es)) := fun ρ S r e ds h => by
  unfold nP at e
  split at e
  · split at e
    · rename_i es e2
      split at e
      · split at e
        · split at e
          · cases e
            have h : (ρ.set j (some (PyData.list _)))[i]? = some (some (.list ds)) := h
            rw [List.getElem?_set] at h
            split at h
            · rename_i q
              rw [← q]
              exact ⟨es, e2⟩
            · exact ⟨ds, h⟩
          · cases e
        · cases e
      · cases e
    · cases e
  · cases e
/-! ### a text that the top has written -/
theorem x_gstr {x s : Str} {t : Tok} {pos : Pos} (hg : Gl X x) (hm : X.mg x = some (.str s t)) (hd : (x == ("__debug__" : Str)) = false := by decide) : PE X (.Name x pos) (tF C kd (cst (.str s))) :=
  xc (pe_glob hg hm (show RelV (V.str s) (.str s t) from ⟨t, rfl⟩) hd) (fun _ _ => by rw [Rep])
/-! ### xs.extend(ys) -/
def gExt (i : Nat) (f : FE) : FS := fun ρ S => match f ρ S with
  | some (.list es, S1) => (match ρ[i]? with
    | some (some (.list ds)) => if ds.length + es.length ≤ sizeLine then some (.nx (ρ.set i (some (.list (ds ++ es)))) S1) else none
    | _ => none)
  | _ => none
theorem p_ext {s : Stmt} {i : Nat} {f : FE} (h : PS X s (tDrop (tBM X.K "list" rExtend (tVar i) (tCons (tX C kd f) tNil)))) (hk : kd i = true := by rfl) : PS X s (tP C kb kd kd (gExt i f)) :=
  PS_imp h fun Dn σ H ⟨ow, ρ, S, o, R, e, k⟩ => by
    unfold gExt at e
    split at e
    · rename_i es S1 e1
      split at e
      · rename_i ds e2
        split at e
        · rename_i hz
          cases e
          obtain ⟨a, q1, q2, vs, q3, q4⟩ := R.own i _ hk e2
          refine ⟨.ref a, q2, .inl ⟨rfl, vs, .of q3⟩, ow, ρ, S, _, S1, R, e1, fun v H1 k1 s1 r1 => ?_⟩
          have R1 := R.step k1 s1
          have nf := R.nf (.inl ⟨i, q1⟩)
          have q3' := k1.ob _ _ q3 nf
          have hl := RepL.len q4
          rw [Rep] at r1
          obtain ⟨b, ws, rfl, hb, nb, rw'⟩ := r1
          have hl2 := RepL.len rw'
          refine ⟨a, b, vs, ws, rfl, rfl, q3', hb, by rw [hl, hl2]; exact hz, ?_⟩
          have kz : Kp (ZO C ow) H1 (upd H1 a (.lst (vs ++ ws))) := Kp.wr (.inr (.inl ⟨i, q1⟩)) (fun xs z => by rw [q3'] at z; cases z) fun o u z => by rw [q3'] at z; cases z
          obtain ⟨R2, ev, _⟩ := R1.put (d := .list (ds ++ es)) hk q1 q2 (o := .lst (vs ++ ws)) trivial ⟨_, upd_same, ((q4.kp (k1.mono R.fz)).app rw').kp kz⟩
          exact k _ _ ow R2 ((R.ev k1 s1).trans ev)
        · cases e
      · cases e
    · cases e
/-! ### xs[::-1] of a list -/
def u1r (f : FE) : FE := fun ρ S => match f ρ S with
  | some (.list ds, S1) => some (.list ds.reverse, S1)
  | _ => none
theorem x_revL {e : Expr} {f : FE} {k : Nat} {p1 p2 p3 pos : Pos} (he : PE X e (tS C kd f)) : PE X (.Subscript e (.Slice none none (some (.UnaryOp .USub (.Constant (.int 1) k p1) p2)) p3) pos) (tF C kd (u1r f)) :=
  PE_imp (pe_revL he) fun σ H Q ⟨ow, ρ, S, d, S', R, e, k⟩ => by
    unfold u1r at e
    split at e
    · rename_i ds S1 e1
      cases e
      refine ⟨ow, ρ, S, _, S', R, e1, fun v H1 k1 s1 r1 => ?_⟩
      obtain ⟨a, vs, rfl, hp, _, rr⟩ := r1.lst
      refine ⟨a, vs, rfl, .inl (.inl hp), fun p hp' => ?_⟩
      have R1 := R.step k1 s1
      have fin := R.fin (t := true) k1 s1 (fun v H' k2 s2 r fr => k v H' k2 s2 r (fr rfl))
      exact fin.lst (fun p hp => R1.fresh hp) rr.rev p hp'
    · cases e
end
end TL

set_option Elab.async false
set_option linter.all false
set_option maxRecDepth 100000
set_option maxHeartbeats 4000000
namespace TL
open PySem PySem.Spec PyProof.Rows L2

def dSortedB : List D → Option D
  | [.tuple xs] => dSorted [.list xs]
  | xs => dSortedA xs
section
variable {X : Cx}
theorem c_sortedB (hu : X.A.units + 64 < cLine) (hcalm : X.calm = true) : CallR X (.builtin "sorted") (rCl true dSortedB) := by
  intro pins s σ H xs us Q I r ⟨C, ow, ds, d, fz, h, e, q⟩
  unfold dSortedB at e
  split at e
  · rename_i es
    unfold dSorted at e
    dsimp only at e
    split at e
    · rename_i hz
      obtain ⟨h1, h2, h3⟩ := hz
      cases e
      obtain ⟨w, rfl, hw⟩ := h.one
      obtain ⟨u, rfl, ru⟩ := vals1 r
      obtain ⟨p, vs, rfl, hp, r1⟩ := hw.tup
      cases ru
      obtain ⟨its, rv, pl, hzl⟩ := I.tuple (.inl (.inl hp))
      obtain ⟨o, ho, hc, n, hd⟩ := pl
      have l1 : its.length = vs.length := rv.length.symm
      refine sorted_col hu I (n := vs.length) hzl (Z := ZO C ow) (ds := es) (fun R hR => ?_) h1 h2 h3 fun vo p' ro hp' => q.lst fz ro p' hp'
      refine wpAny_collect_seq p (.inr rfl) ho hc hd (fun h' hk => ?_) (by simp; omega)
      have e0 : its.toArray.toList = its := by simp
      rw [e0]
      exact hR h' s.toks its hk l1 ⟨vs, rv, r1⟩
    · cases e
  · exact c_sortedA hu hcalm pins s σ H xs us Q I r ⟨C, ow, ds, d, fz, h, e, q⟩
end
/-! ### min, max of two texts -/
def dMinA : List D → Option D
  | [.str x, .str y] => some (if W.dataLt (.str y) (.str x) = true then .str y else .str x)
  | xs => dMin xs
def dMaxA : List D → Option D
  | [.str x, .str y] => some (if W.dataLt (.str x) (.str y) = true then .str y else .str x)
  | xs => dMax xs
section
variable {prog : Program} {w : World} {A : Around} {E : Value → Shared → Prop} {s : Shared}
theorem txt_at {x y : Str} {t t' : Tok} {i : Nat} {v : Value} (h : #[Value.str x t, Value.str y t'][i]? = some v) (hp : Heap) : Reads hp v ([PyData.str x, PyData.str y].getD i .none) [] ∧ (∃ z, [PyData.str x, PyData.str y].getD i .none = .str z) := by
  match i with
  | 0 => cases h; exact ⟨.str _ _, _, rfl⟩
  | 1 => cases h; exact ⟨.str _ _, _, rfl⟩
  | i + 2 => simp at h
theorem min_txt {x y : Str} {t t' : Tok} {Q : Value → Shared → Prop} (hh : A.handled = none) (hu : A.units + 64 < cLine)
    (h : ∀ h' tk, (∀ c o, s.heap.get? c = some o → h'.get? c = some o) → Q (if W.dataLt (.str y) (.str x) = true then .str y t' else .str x t) { s with heap := h', toks := tk }) :
    wpAny (model prog w) A (call (.builtin "min") [.str x t, .str y t']) Q E s := by
  have hT : (s.heap.push { cls := .type "tuple", data := .seq #[.str x t, .str y t'] }).IsTuple s.heap.objs.size #[.str x t, .str y t'] := ⟨_, Heap.get?_push_size _ rfl, rfl, 0, rfl⟩
  refine call_min_two (wpAny_pyIter_tuple hT ?_)
  have hsz : (s.heap.push { cls := .type "tuple", data := .seq #[.str x t, .str y t'] }).objs.size = s.heap.objs.size + 1 := Heap.size_push ..
  refine ⟨_, [_, s.heap.objs.size], [_], _, _, _, (fun i j => W.dataLt ([PyData.str x, PyData.str y].getD i .none) ([PyData.str x, PyData.str y].getD j .none)), rfl, Walks.tuple (A := A.in1) hh _ s.heap.objs.size (by rw [hsz]; exact Nat.ne_of_lt (Nat.lt_succ_self _)) #[.str x t, .str y t'],
    ⟨⟨_, Heap.get?_push_size _ rfl, rfl, rfl⟩, hT.push _⟩, fun c hc => ?_, by simp, fun i j vi vj s' Q' E' hi hj hq => ?_, fun v h' tk hP hk => ?_⟩
  · show c < ((s.heap.push _).push _).objs.size
    rw [Heap.size_push, hsz]
    rcases List.mem_cons.mp hc with rfl | hc
    · rw [hsz]; exact Nat.lt_succ_self _
    · rcases List.mem_cons.mp hc with rfl | hc
      · exact Nat.lt_succ_of_lt (Nat.lt_succ_self _)
      · cases hc
  · obtain ⟨r1, z1, e1⟩ := txt_at hi s'.heap
    obtain ⟨r2, z2, e2⟩ := txt_at hj s'.heap
    refine W.rcLt_alike _ _ A.in1 s' vi vj _ _ r1 r2 (by rw [e1, e2, W.alike]) (by rw [e1]; exact fun z => nomatch z) ?_ prog w E' Q' hq
    rw [e1, e2]
    show A.units + 1 + 0 < cLine
    omega
  · have hold : ∀ c o, s.heap.get? c = some o → h'.get? c = some o := fun c o e => by
      refine hk c o (fun hm => ?_) (Heap.get?_push_of_some _ (Heap.get?_push_of_some _ e))
      rcases List.mem_cons.mp hm with e1 | hm
      · have := Heap.lt_size e; rw [e1, hsz] at this; exact Nat.lt_irrefl _ (Nat.lt_of_succ_lt this)
      · cases hm
    have := h h' tk hold
    have hv : v = if W.dataLt (.str y) (.str x) = true then .str y t' else .str x t := by
      cases hc : W.dataLt (.str y) (.str x) <;> simp [argBest, hc] at hP <;> simp [hP]
    rw [hv]; exact this
theorem max_txt {x y : Str} {t t' : Tok} {Q : Value → Shared → Prop} (hh : A.handled = none) (hu : A.units + 64 < cLine)
    (h : ∀ h' tk, (∀ c o, s.heap.get? c = some o → h'.get? c = some o) → Q (if W.dataLt (.str x) (.str y) = true then .str y t' else .str x t) { s with heap := h', toks := tk }) :
    wpAny (model prog w) A (call (.builtin "max") [.str x t, .str y t']) Q E s := by
  have hT : (s.heap.push { cls := .type "tuple", data := .seq #[.str x t, .str y t'] }).IsTuple s.heap.objs.size #[.str x t, .str y t'] := ⟨_, Heap.get?_push_size _ rfl, rfl, 0, rfl⟩
  refine call_max_two (wpAny_pyIter_tuple hT ?_)
  have hsz : (s.heap.push { cls := .type "tuple", data := .seq #[.str x t, .str y t'] }).objs.size = s.heap.objs.size + 1 := Heap.size_push ..
  refine ⟨_, [_, s.heap.objs.size], [_], _, _, _, (fun i j => W.dataLt ([PyData.str x, PyData.str y].getD j .none) ([PyData.str x, PyData.str y].getD i .none)), rfl, Walks.tuple (A := A.in1) hh _ s.heap.objs.size (by rw [hsz]; exact Nat.ne_of_lt (Nat.lt_succ_self _)) #[.str x t, .str y t'],
    ⟨⟨_, Heap.get?_push_size _ rfl, rfl, rfl⟩, hT.push _⟩, fun c hc => ?_, by simp, fun i j vi vj s' Q' E' hi hj hq => ?_, fun v h' tk hP hk => ?_⟩
  · show c < ((s.heap.push _).push _).objs.size
    rw [Heap.size_push, hsz]
    rcases List.mem_cons.mp hc with rfl | hc
    · rw [hsz]; exact Nat.lt_succ_self _
    · rcases List.mem_cons.mp hc with rfl | hc
      · exact Nat.lt_succ_of_lt (Nat.lt_succ_self _)
      · cases hc
  · obtain ⟨r1, z1, e1⟩ := txt_at hi s'.heap
    obtain ⟨r2, z2, e2⟩ := txt_at hj s'.heap
    refine W.rcGt_alike _ _ A.in1 s' vi vj _ _ r1 r2 (by rw [e1, e2, W.alike]) (by rw [e1]; exact fun z => nomatch z) ?_ prog w E' Q' hq
    rw [e1, e2]
    show A.units + 1 + 0 < cLine
    omega
  · have hold : ∀ c o, s.heap.get? c = some o → h'.get? c = some o := fun c o e => by
      refine hk c o (fun hm => ?_) (Heap.get?_push_of_some _ (Heap.get?_push_of_some _ e))
      rcases List.mem_cons.mp hm with e1 | hm
      · have := Heap.lt_size e; rw [e1, hsz] at this; exact Nat.lt_irrefl _ (Nat.lt_of_succ_lt this)
      · cases hm
    have := h h' tk hold
    have hv : v = if W.dataLt (.str x) (.str y) = true then .str y t' else .str x t := by
      cases hc : W.dataLt (.str x) (.str y) <;> simp [argBest, hc] at hP <;> simp [hP]
    rw [hv]; exact this
end
section
variable {X : Cx}
theorem c_minA (hu : X.A.units + 64 < cLine) (hc : X.calm = true) : CallR X (.builtin "min") (rCl true dMinA) := by
  intro pins s σ H xs us Q I r ⟨C, ow, ds, d, fz, h, e, q⟩
  unfold dMinA at e
  split at e
  · rename_i x y
    cases e
    obtain ⟨w, z, rfl, hw, hz⟩ := h.two
    obtain rfl := hw.str
    obtain rfl := hz.str
    obtain ⟨u, w', rfl, ⟨t, rfl⟩, ⟨t', rfl⟩⟩ := vals2 r
    refine min_txt (I.ok.hd hc) hu fun h' tk k => ?_
    by_cases hj : W.dataLt (.str y) (.str x) = true
    · rw [if_pos hj] at q ⊢
      exact ⟨.str y, H, I.kept k, ⟨_, rfl⟩, q.atom (by rw [Rep])⟩
    · rw [if_neg hj] at q ⊢
      exact ⟨.str x, H, I.kept k, ⟨_, rfl⟩, q.atom (by rw [Rep])⟩
  · exact c_min hc pins s σ H xs us Q I r ⟨C, ow, ds, d, fz, h, e, q⟩
theorem c_maxA (hu : X.A.units + 64 < cLine) (hc : X.calm = true) : CallR X (.builtin "max") (rCl true dMaxA) := by
  intro pins s σ H xs us Q I r ⟨C, ow, ds, d, fz, h, e, q⟩
  unfold dMaxA at e
  split at e
  · rename_i x y
    cases e
    obtain ⟨w, z, rfl, hw, hz⟩ := h.two
    obtain rfl := hw.str
    obtain rfl := hz.str
    obtain ⟨u, w', rfl, ⟨t, rfl⟩, ⟨t', rfl⟩⟩ := vals2 r
    refine max_txt (I.ok.hd hc) hu fun h' tk k => ?_
    by_cases hj : W.dataLt (.str x) (.str y) = true
    · rw [if_pos hj] at q ⊢
      exact ⟨.str y, H, I.kept k, ⟨_, rfl⟩, q.atom (by rw [Rep])⟩
    · rw [if_neg hj] at q ⊢
      exact ⟨.str x, H, I.kept k, ⟨_, rfl⟩, q.atom (by rw [Rep])⟩
  · exact c_max hc pins s σ H xs us Q I r ⟨C, ow, ds, d, fz, h, e, q⟩
end
end TL

set_option Elab.async false
set_option linter.all false
set_option maxRecDepth 100000
set_option maxHeartbeats 4000000
namespace LW
open PySem PySem.Spec PyProof.Rows L2 TL
def g_names_of : FS :=
  (gRet (cN dTuple (aC (lcE [1] (iE (b2 dSub2 (rd 0) (cst (.int 0)))) (sN 1) bT (b2 dSub2 (rd 1) (cst (.int 0)))) aN)))
def m_names_of : List D → Option D := runP 2 g_names_of
def g_known_ties : FS :=
  (gSeq (gOwn 1 newT)
  (gSeq (gFor (iE (b2 dSub2 (rd 0) (cst (.int 1)))) (sT (sC (sN 2) (sC (sN 3) s0))) (gM (mT (mC (mPut 1 (mkT (aC (rd 2) (aC (rd 3) aN)))) (mC (mPut 1 (mkT (aC (rd 3) (aC (rd 2) aN)))) m0))) (mkT (aC (cst (.bool true)) (aC (cst (.bool true)) aN)))))
  (gRet (rd 1))))
def m_known_ties : List D → Option D := runP 4 g_known_ties
def g_is_split : FS :=
  (gSeq (gSet 3 (b2 dInD (mkT (aC (rd 2) (aC (b2 dSub2 (rd 1) (cst (.int 0))) aN))) (rd 0)))
  (gRet (cN dAny (aC (lcE [4] (iE (rd 1)) (sN 4) bT (b2 dNe (b2 dInD (mkT (aC (rd 2) (aC (rd 4) aN))) (rd 0)) (rd 3))) aN))))
def m_is_split : List D → Option D := runP 5 g_is_split
def g_first_splitter : FS :=
  (gSeq (gFor (iE (rd 1)) (sN 3) (gIf (fAnd (tst (b2 dNotInD (rd 3) (rd 2))) (tst (cN m_is_split (aC (rd 0) (aC (rd 2) (aC (rd 3) aN)))))) (gRet (rd 3)) gN))
  (gRet (cst .none)))
def m_first_splitter : List D → Option D := runP 4 g_first_splitter
def g_is_part : FS :=
  (gRet (b2 dIsN (cN m_first_splitter (aC (cN m_known_ties (aC (rd 0) aN)) (aC (cN m_names_of (aC (rd 0) aN)) (aC (rd 1) aN)))) (cst .none)))
def m_is_part : List D → Option D := runP 2 g_is_part
def g_part_told : FS :=
  (gSeq (gSet 2 (cN m_first_splitter (aC (cN m_known_ties (aC (rd 0) aN)) (aC (cN m_names_of (aC (rd 0) aN)) (aC (rd 1) aN)))))
  (gRet (ifE (tst (b2 dIsN (rd 2) (cst .none))) (mkT (aC (cst (.str "part")) aN)) (mkT (aC (cst (.str "split")) (aC (rd 2) aN))))))
def m_part_told : List D → Option D := runP 3 g_part_told
def g_least_part : FS :=
  (gSeq (gPar [2, 3] (aC (cN m_known_ties (aC (rd 0) aN)) (aC (cN m_names_of (aC (rd 0) aN)) aN)))
  (gSeq (gOwn 4 (cN dListA (aC (rd 1) aN)))
  (gSeq (gSet 5 (cI m_first_splitter (aC (rd 2) (aC (rd 3) (aC (rd 4) aN)))))
  (gSeq (gWh (tst (b2 dNotN (rd 5) (cst .none))) (gSeq (gApp 4 (rd 5))
    (gSet 5 (cI m_first_splitter (aC (rd 2) (aC (rd 3) (aC (rd 4) aN)))))) 20)
  (gRet (cN dTuple (aC (cN dSortedB (aC (rd 4) aN)) aN)))))))
def m_least_part : List D → Option D := runP 6 g_least_part
def g_are_crossed : FS :=
  (gSeq (gSet 2 (lcE [3] (iE (rd 0)) (sN 3) (tst (b2 dInD (rd 3) (rd 1))) (rd 3)))
  (gRet (ch dLt dLt (cst (.int 0)) (cN dLen (aC (rd 2) aN)) (cN dMinA (aC (cN dLen (aC (rd 0) aN)) (aC (cN dLen (aC (rd 1) aN)) aN))))))
def m_are_crossed : List D → Option D := runP 4 g_are_crossed
def g__law_pick : FS := gPick
def m__law_pick : List D → Src → Option (D × Src) := runS 4 g__law_pick
def g__law_of : FS :=
  (gRet (b2 dSub2 (rd 1) (cS m__law_pick (aC (cN dLen (aC (rd 1) aN)) aN))))
def m__law_of : List D → Src → Option (D × Src) := runS 2 g__law_of
end LW

set_option Elab.async false
set_option linter.all false
set_option maxRecDepth 100000
set_option maxHeartbeats 4000000
namespace LW
open PySem PySem.Spec PyProof.Rows L2 TL

/-! ### webs -/
abbrev Post := Nat × D × D × D
def postD (z : Post) : D := .tuple [nm z.1, z.2.1, z.2.2.1, z.2.2.2]
def wb (zs : List Post) (ts : List (Nat × Nat)) : D := .tuple [.tuple (zs.map postD), .tuple (ts.map pr)]
theorem ix0 {d : D} {ds : List D} : dSub2 (.tuple (d :: ds)) (.int 0) = some d := by
  show atI (d :: ds) 0 = some d
  exact atI_nat (j := 0) rfl
theorem ix1 {d e : D} {ds : List D} : dSub2 (.tuple (d :: e :: ds)) (.int 1) = some e := by
  show atI (d :: e :: ds) 1 = some e
  exact atI_nat (j := 1) rfl
theorem ixl0 {d : D} {ds : List D} : dSub2 (.list (d :: ds)) (.int 0) = some d := by
  show atI (d :: ds) 0 = some d
  exact atI_nat (j := 0) rfl
theorem ixl1 {d e : D} {ds : List D} : dSub2 (.list (d :: e :: ds)) (.int 1) = some e := by
  show atI (d :: e :: ds) 1 = some e
  exact atI_nat (j := 1) rfl
theorem filter_all {α : Type} (xs : List α) : xs.filter (fun _ => true) = xs := by simp
theorem names_of_eq {zs : List Post} {ts : List (Nat × Nat)} (hl : zs.length ≤ 1000) : m_names_of [wb zs ts] = some (tn (zs.map (·.1))) := by
  have h : lcE [1] (iE (b2 dSub2 (rd 0) (cst (.int 0)))) (sN 1) bT (b2 dSub2 (rd 1) (cst (.int 0))) [some (wb zs ts), none] S0 = some (.list ((zs.filter fun _ => true).map fun z => nm z.1), S0) := by
    refine lc_map postD (fun _ => true) (fun z => nm z.1) (S := S0) ?_ (by omega) fun z hz => ?_
    · simp [iE, b2, rd, cst, wb, ix0, items]
    · exact ⟨_, rfl, rfl, fun _ => by simp [wipeR, sN, b2, rd, cst, postD, ix0]⟩
  rw [filter_all] at h
  simp [m_names_of, runP, g_names_of, gRet, cN, aC, aN, h, dTuple, tn]

/-! ### known -/
def tied (ts : List (Nat × Nat)) (i j : Nat) : Bool := decide ((i, j) ∈ ts) || decide ((j, i) ∈ ts)
/-- a dict whose keys are the pairs of R -/
structure Kn (R : Nat → Nat → Bool) (kvs : List (D × D)) : Prop where
  hd : isT kvs = true
  any : ∀ i j, (kvs.any fun p => PyData.eqv p.1 (pr (i, j))) = R i j
theorem ok_pr {kvs : List (D × D)} (h : isT kvs = true) (p : Nat × Nat) : okKey kvs (pr p) = true := by
  unfold okKey
  rw [if_pos h]
  rfl
theorem Kn.inD {R : Nat → Nat → Bool} {kvs : List (D × D)} (K : Kn R kvs) (i j : Nat) : dInD (pr (i, j)) (.dict kvs) = some (.bool (R i j)) := by
  unfold dInD
  dsimp only
  rw [if_pos (ok_pr K.hd _), K.any]
theorem Kn.put {R : Nat → Nat → Bool} {kvs : List (D × D)} (K : Kn R kvs) (a b : Nat) (v : D) : Kn (fun i j => R i j || (decide (i = a) && decide (j = b))) (putD kvs (pr (a, b)) v) := by
  have e : ∀ i j, PyData.eqv (pr (a, b)) (pr (i, j)) = (decide (i = a) && decide (j = b)) := fun i j => by
    rw [good_pr.eqv]
    have c1 : (a = i) ↔ (i = a) := ⟨Eq.symm, Eq.symm⟩
    have c2 : (b = j) ↔ (j = b) := ⟨Eq.symm, Eq.symm⟩
    simp only [Prod.mk.injEq, c1, c2]
    by_cases h1 : i = a <;> by_cases h2 : j = b <;> simp [h1, h2]
  unfold putD
  split
  · rename_i h
    refine ⟨?_, fun i j => ?_⟩
    · have := K.hd
      cases kvs with
      | nil => cases this
      | cons p r =>
        obtain ⟨k, w⟩ := p
        cases k <;> first | (cases this; done) | skip
        rw [List.map_cons]
        split <;> rfl
    · rw [List.any_map]
      have hh : ((fun p => PyData.eqv p.1 (pr (i, j))) ∘ fun p : D × D => if PyData.eqv p.1 (pr (a, b)) = true then (p.1, v) else p) = fun p => PyData.eqv p.1 (pr (i, j)) := by
        funext p
        show PyData.eqv (if PyData.eqv p.1 (pr (a, b)) = true then (p.1, v) else p).1 _ = _
        split <;> rfl
      rw [hh, K.any]
      by_cases hij : i = a ∧ j = b
      · obtain ⟨rfl, rfl⟩ := hij
        rw [← K.any, h]
        rfl
      · have : (decide (i = a) && decide (j = b)) = false := by
          rw [← Bool.not_eq_true, Bool.and_eq_true, decide_eq_true_eq, decide_eq_true_eq]
          exact hij
        rw [this, Bool.or_false]
  · refine ⟨?_, fun i j => ?_⟩
    · have := K.hd
      cases kvs with
      | nil => cases this
      | cons p r =>
        obtain ⟨k, w⟩ := p
        cases k <;> first | (cases this; done) | rfl
    · rw [List.any_append, K.any, List.any_cons, List.any_nil, Bool.or_false, e]
theorem putD_len (kvs : List (D × D)) (k v : D) : (putD kvs k v).length ≤ kvs.length + 1 := by
  unfold putD
  split
  · rw [List.length_map]; omega
  · rw [List.length_append]; exact Nat.le_refl _
theorem kn0 : Kn (fun _ _ => false) [(.none, .none)] := ⟨rfl, fun i j => rfl⟩
theorem known_eq {zs : List Post} {ts : List (Nat × Nat)} (hl : ts.length ≤ 10000) : ∃ kvs, m_known_ties [wb zs ts] = some (.dict kvs) ∧ Kn (tied ts) kvs := by
  have hb : ∀ (p : Nat × Nat) (kvs : List (D × D)) (x y : Option D), isT kvs = true → kvs.length < 100000 → isT (putD kvs (pr p) (.bool true)) = true → gM (mT (mC (mPut 1 (mkT (aC (rd 2) (aC (rd 3) aN)))) (mC (mPut 1 (mkT (aC (rd 3) (aC (rd 2) aN)))) m0))) (mkT (aC (cst (.bool true)) (aC (cst (.bool true)) aN)))
      [some (wb zs ts), some (.dict kvs), some (nm p.1), some (nm p.2)] S0 = some (.nx [some (wb zs ts), some (.dict (putD (putD kvs (pr p) (.bool true)) (pr (p.2, p.1)) (.bool true))), some (nm p.1), some (nm p.2)] S0) := by
    intro p kvs x y h1 h2 h3
    have z : (100000 : Nat) < sizeLine := by decide
    have l2 := putD_len kvs (pr p) (.bool true)
    have e1 : TL.putAt 1 (pr p) (.bool true) [some (wb zs ts), some (.dict kvs), some (nm p.1), some (nm p.2)] = some [some (wb zs ts), some (.dict (putD kvs (pr p) (.bool true))), some (nm p.1), some (nm p.2)] := by
      unfold TL.putAt
      show (if okKey kvs (pr p) = true ∧ kvs.length < sizeLine then _ else _) = _
      rw [if_pos ⟨ok_pr h1 _, by omega⟩]
      rfl
    have e2 : TL.putAt 1 (pr (p.2, p.1)) (.bool true) [some (wb zs ts), some (.dict (putD kvs (pr p) (.bool true))), some (nm p.1), some (nm p.2)] = some [some (wb zs ts), some (.dict (putD (putD kvs (pr p) (.bool true)) (pr (p.2, p.1)) (.bool true))), some (nm p.1), some (nm p.2)] := by
      unfold TL.putAt
      show (if okKey (putD kvs (pr p) (.bool true)) (pr (p.2, p.1)) = true ∧ (putD kvs (pr p) (.bool true)).length < sizeLine then _ else _) = _
      rw [if_pos ⟨ok_pr h3 _, by omega⟩]
      rfl
    have p1 : pr p = .tuple [nm p.1, nm p.2] := rfl
    have p2 : pr (p.2, p.1) = .tuple [nm p.2, nm p.1] := rfl
    rw [p1] at e1 e2
    rw [p2] at e2
    simp [gM, mT, mC, mPut, m0, mkT, aC, aN, rd, cst, e1, e2, p1, p2]
  have hi : iE (b2 dSub2 (rd 0) (cst (.int 1))) [some (wb zs ts), some (.dict [(.none, .none)]), none, none] S0 = some (ts.map pr, S0) := by
    simp [iE, b2, rd, cst, wb, ix1, items]
  obtain ⟨ρ', S', e1, kvs, x, y, rfl, rfl, hk, _⟩ := forL_inv (st := sT (sC (sN 2) (sC (sN 3) s0))) (g := gM (mT (mC (mPut 1 (mkT (aC (rd 2) (aC (rd 3) aN)))) (mC (mPut 1 (mkT (aC (rd 3) (aC (rd 2) aN)))) m0))) (mkT (aC (cst (.bool true)) (aC (cst (.bool true)) aN))))
    (ds := ts.map pr) (fun n ρ S => ∃ kvs x y, ρ = [some (wb zs ts), some (.dict kvs), x, y] ∧ S = S0 ∧ Kn (tied (ts.take n)) kvs ∧ kvs.length ≤ 2 * n + 1) (fun n d ρ S hd ⟨kvs, x, y, e1, e2, hk, hz⟩ => by
      subst e1 e2
      rw [List.getElem?_map] at hd
      cases hp : ts[n]? with
      | none => rw [hp] at hd; cases hd
      | some p =>
        rw [hp] at hd
        cases hd
        have hn : n < ts.length := (List.getElem?_eq_some_iff.mp hp).1
        have k1 := hk.put p.1 p.2 (.bool true)
        have k2 := k1.put p.2 p.1 (.bool true)
        refine ⟨[some (wb zs ts), some (.dict kvs), some (nm p.1), some (nm p.2)], rfl, _, S0, hb p kvs x y hk.hd (by omega) k1.hd, _, _, _, rfl, rfl, ?_, ?_⟩
        · have : (fun i j => (tied (ts.take n) i j || (decide (i = p.1) && decide (j = p.2))) || (decide (i = p.2) && decide (j = p.1))) = tied (ts.take (n + 1)) := by
            funext i j
            unfold tied
            rw [List.take_add_one, hp]
            simp only [List.mem_append, Option.toList, List.mem_singleton, Prod.ext_iff]
            by_cases a1 : i = p.1 <;> by_cases a2 : j = p.2 <;> by_cases a3 : i = p.2 <;> by_cases a4 : j = p.1 <;> by_cases a5 : (i, j) ∈ ts.take n <;> by_cases a6 : (j, i) ∈ ts.take n <;> simp_all
          rw [← this]
          exact k2
        · have l1 := putD_len kvs (pr p) (.bool true)
          have l2 := putD_len (putD kvs (pr p) (.bool true)) (pr (p.2, p.1)) (.bool true)
          exact Nat.le_trans l2 (by omega))
    (ρ := [some (wb zs ts), some (.dict [(.none, .none)]), none, none]) (S := S0) ⟨_, _, _, rfl, rfl, kn0, by decide⟩
  rw [List.length_map, List.take_length] at hk
  refine ⟨kvs, ?_, hk⟩
  unfold m_known_ties runP g_known_ties
  have ea : gOwn 1 newT [some (wb zs ts), none, none, none] S0 = some (.nx [some (wb zs ts), some (.dict [(.none, .none)]), none, none] S0) := rfl
  rw [show (List.map some [wb zs ts] ++ List.replicate (4 - [wb zs ts].length) none) = [some (wb zs ts), none, none, none] from rfl, gSeq_nx ea]
  have eb : gFor (iE (b2 dSub2 (rd 0) (cst (.int 1)))) (sT (sC (sN 2) (sC (sN 3) s0))) (gM (mT (mC (mPut 1 (mkT (aC (rd 2) (aC (rd 3) aN)))) (mC (mPut 1 (mkT (aC (rd 3) (aC (rd 2) aN)))) m0))) (mkT (aC (cst (.bool true)) (aC (cst (.bool true)) aN))))
      [some (wb zs ts), some (.dict [(.none, .none)]), none, none] S0 = some (.nx [some (wb zs ts), some (.dict kvs), x, y] S0) := by
    unfold gFor
    rw [hi]
    exact e1
  rw [gSeq_nx eb]
  rfl

/-! ### splitters -/
structure IsLot (L : D) (lot : List Nat) : Prop where
  it : items L = some (lot.map nm)
  nin : ∀ p, dNotInD (nm p) L = some (.bool (!decide (p ∈ lot)))
  isin : ∀ p, dInD (nm p) L = some (.bool (decide (p ∈ lot)))
  i0 : ∀ a r, lot = a :: r → dSub2 L (.int 0) = some (nm a)
  len : dLen [L] = some (.int lot.length)
  lst : dListA [L] = some (ln lot)
  tup : dTuple [L] = some (tn lot)
theorem lot_tn (lot : List Nat) : IsLot (tn lot) lot := ⟨rfl, fun p => good_nm.ntup, fun p => good_nm.tup, fun a r e => by rw [e]; exact ix0, by unfold dLen tn; simp, rfl, rfl⟩
theorem lot_ln (lot : List Nat) : IsLot (ln lot) lot := ⟨rfl, fun p => good_nm.nlst, fun p => good_nm.lst, fun a r e => by rw [e]; exact ixl0, by unfold dLen ln; simp, rfl, rfl⟩
def split (R : Nat → Nat → Bool) (lot : List Nat) (p : Nat) : Bool := lot.any fun one => !decide (R p one = R p (lot.headD 0))
theorem bits_map {α : Type} (f : α → Bool) : ∀ xs : List α, bits (xs.map fun x => .bool (f x)) = some (xs.map f)
  | [] => rfl
  | x :: xs => by
    rw [List.map_cons, bits, bits_map f xs]
    rfl
theorem is_split_eq {R : Nat → Nat → Bool} {kvs : List (D × D)} {L : D} {lot : List Nat} (K : Kn R kvs) (hL : IsLot L lot) (h0 : lot ≠ []) (hl : lot.length ≤ 1000) (p : Nat) : m_is_split [.dict kvs, L, nm p] = some (.bool (split R lot p)) := by
  obtain ⟨a, r, rfl⟩ : ∃ a r, lot = a :: r := by
    cases lot with
    | nil => exact absurd rfl h0
    | cons a r => exact ⟨a, r, rfl⟩
  have e0 := hL.i0 a r rfl
  have k1 : ∀ q, dInD (.tuple [nm p, nm q]) (.dict kvs) = some (.bool (R p q)) := fun q => K.inD p q
  have h : lcE [4] (iE (rd 1)) (sN 4) bT (b2 dNe (b2 dInD (mkT (aC (rd 2) (aC (rd 4) aN))) (rd 0)) (rd 3)) [some (.dict kvs), some L, some (nm p), some (.bool (R p a)), none] S0 =
      some (.list (((a :: r).filter fun _ => true).map fun one => .bool (!decide (R p one = R p a))), S0) := by
    refine lc_map nm (fun _ => true) (fun one => .bool (!decide (R p one = R p a))) (S := S0) ?_ (by omega) fun z hz => ?_
    · simp [iE, rd, hL.it]
    · refine ⟨_, rfl, rfl, fun _ => ?_⟩
      have := good_bool.ne (x := R p z) (y := R p a)
      simp [wipeR, b2, mkT, aC, aN, rd, k1, this]
  rw [filter_all] at h
  have hb : bits ((a :: r).map fun one => .bool (!decide (R p one = R p a))) = some ((a :: r).map fun one => !decide (R p one = R p a)) := bits_map _ _
  have hs : dAny [.list ((a :: r).map fun one => .bool (!decide (R p one = R p a)))] = some (.bool (split R (a :: r) p)) := by
    unfold dAny
    dsimp only
    rw [hb]
    unfold split
    simp [List.any_map]
  unfold m_is_split runP g_is_split
  have e1 : gSet 3 (b2 dInD (mkT (aC (rd 2) (aC (b2 dSub2 (rd 1) (cst (.int 0))) aN))) (rd 0)) [some (.dict kvs), some L, some (nm p), none, none] S0 = some (.nx [some (.dict kvs), some L, some (nm p), some (.bool (R p a)), none] S0) := by
    simp [gSet, b2, mkT, aC, aN, rd, cst, e0, k1]
  rw [show (List.map some [PyData.dict kvs, L, nm p] ++ List.replicate (5 - [PyData.dict kvs, L, nm p].length) none) = [some (.dict kvs), some L, some (nm p), none, none] from rfl, gSeq_nx e1]
  simp only [gRet, cN, aC, aN, h, hs]
def optD : Option Nat → D
  | some p => nm p
  | none => .none
def splitter (R : Nat → Nat → Bool) (names lot : List Nat) : Option Nat := names.find? fun p => !decide (p ∈ lot) && split R lot p
theorem first_splitter_eq {R : Nat → Nat → Bool} {kvs : List (D × D)} {L : D} {lot names : List Nat} (K : Kn R kvs) (hL : IsLot L lot) (h0 : lot ≠ []) (hl : lot.length ≤ 1000) : m_first_splitter [.dict kvs, tn names, L] = some (optD (splitter R names lot)) := by
  unfold m_first_splitter runP g_first_splitter
  rw [show (List.map some [PyData.dict kvs, tn names, L] ++ List.replicate (4 - [PyData.dict kvs, tn names, L].length) none) = [some (.dict kvs), some (tn names), some L, none] from rfl]
  have hf := forL_find (st := sN 3) (g := gIf (fAnd (tst (b2 dNotInD (rd 3) (rd 2))) (tst (cN m_is_split (aC (rd 0) (aC (rd 2) (aC (rd 3) aN)))))) (gRet (rd 3)) gN) (S := S0) (enc := nm) (fun p => !decide (p ∈ lot) && split R lot p) nm
    (fun ρ => ∃ x, ρ = [some (.dict kvs), some (tn names), some L, x]) (xs := names) (fun p _ ρ ⟨x, e⟩ => by
      subst e
      refine ⟨[some (.dict kvs), some (tn names), some L, some (nm p)], rfl, fun hp => ?_, fun hp => ⟨[some (.dict kvs), some (tn names), some L, some (nm p)], ?_, _, rfl⟩⟩
      · rw [Bool.and_eq_true] at hp
        have n1 := hL.nin p
        rw [hp.1] at n1
        have n2 := is_split_eq K hL h0 hl p
        rw [hp.2] at n2
        simp [gIf, fAnd, tst, b2, rd, n1, cN, aC, aN, n2, gRet]
      · have n1 := hL.nin p
        cases hq : (!decide (p ∈ lot)) with
        | false =>
          rw [hq] at n1
          simp [gIf, fAnd, tst, b2, rd, n1, gN]
        | true =>
          rw [hq] at n1
          rw [hq, Bool.true_and] at hp
          have n2 := is_split_eq K hL h0 hl p
          rw [hp] at n2
          simp [gIf, fAnd, tst, b2, rd, n1, cN, aC, aN, n2, gN]) (ρ := [some (.dict kvs), some (tn names), some L, none]) ⟨none, rfl⟩
  have hi : iE (rd 1) [some (.dict kvs), some (tn names), some L, none] S0 = some (names.map nm, S0) := by simp [iE, rd, tn, items]
  rcases hf with ⟨p, h1, h2⟩ | ⟨h1, ρ', h2, x, rfl⟩
  · have : splitter R names lot = some p := h1
    rw [this, gSeq_rt (S1 := S0) (d := nm p) (by unfold gFor; rw [hi]; exact h2)]
    rfl
  · have : splitter R names lot = none := h1
    rw [this, gSeq_nx (ρ1 := [some (.dict kvs), some (tn names), some L, x]) (S1 := S0) (by unfold gFor; rw [hi]; exact h2)]
    rfl
section
variable {zs : List Post} {ts : List (Nat × Nat)} {L : D} {lot : List Nat}
theorem isN_opt : ∀ o : Option Nat, isN (optD o) = o.isNone
  | none => rfl
  | some _ => rfl
theorem is_part_eq (hz : zs.length ≤ 1000) (ht : ts.length ≤ 10000) (hL : IsLot L lot) (h0 : lot ≠ []) (hl : lot.length ≤ 1000) : m_is_part [wb zs ts, L] = some (.bool (splitter (tied ts) (zs.map (·.1)) lot).isNone) := by
  obtain ⟨kvs, e1, K⟩ := known_eq (zs := zs) ht
  have e2 := names_of_eq (zs := zs) (ts := ts) hz
  have e3 := first_splitter_eq (names := zs.map (·.1)) K hL h0 hl
  simp [m_is_part, runP, g_is_part, gRet, b2, cN, aC, aN, rd, cst, e1, e2, e3, dIsN, isN_opt]
def toldD (o : Option Nat) : D := match o with
  | none => .tuple [.str "part"]
  | some p => .tuple [.str "split", nm p]
theorem part_told_eq (hz : zs.length ≤ 1000) (ht : ts.length ≤ 10000) (hL : IsLot L lot) (h0 : lot ≠ []) (hl : lot.length ≤ 1000) : m_part_told [wb zs ts, L] = some (toldD (splitter (tied ts) (zs.map (·.1)) lot)) := by
  obtain ⟨kvs, e1, K⟩ := known_eq (zs := zs) ht
  have e2 := names_of_eq (zs := zs) (ts := ts) hz
  have e3 := first_splitter_eq (names := zs.map (·.1)) K hL h0 hl
  unfold m_part_told runP g_part_told
  rw [show (List.map some [wb zs ts, L] ++ List.replicate (3 - [wb zs ts, L].length) none) = [some (wb zs ts), some L, none] from rfl]
  have e4 : gSet 2 (cN m_first_splitter (aC (cN m_known_ties (aC (rd 0) aN)) (aC (cN m_names_of (aC (rd 0) aN)) (aC (rd 1) aN)))) [some (wb zs ts), some L, none] S0 = some (.nx [some (wb zs ts), some L, some (optD (splitter (tied ts) (zs.map (·.1)) lot))] S0) := by
    simp [gSet, cN, aC, aN, rd, e1, e2, e3]
  rw [gSeq_nx e4]
  cases hs : splitter (tied ts) (zs.map (·.1)) lot with
  | none => rfl
  | some p => rfl
end
end LW

set_option Elab.async false
set_option linter.all false
set_option maxRecDepth 100000
set_option maxHeartbeats 4000000
namespace LW
open PySem PySem.Spec PyProof.Rows L2 TL

/-! ### drawing -/
theorem pick_eq (S : Src) {m : Int} (hm : m < 2 ^ 30) : ∃ r S', m__law_pick [.int m] S = some (.int r, S') ∧ 0 ≤ r ∧ r < (if m > 1 then m else 1) := pick_run S hm
theorem of_eq {α : Type} (enc : α → D) (xs : List α) (h0 : xs ≠ []) (hl : xs.length ≤ 100000) (S : Src) : ∃ x S', m__law_of [.list (xs.map enc)] S = some (enc x, S') ∧ x ∈ xs := by
  obtain ⟨r, S', e, h1, h2⟩ := pick_eq S (m := (xs.length : Int)) (by omega)
  have hp : 0 < xs.length := List.length_pos_iff.mpr h0
  have hr : r.toNat < xs.length := by split at h2 <;> omega
  refine ⟨xs[r.toNat], S', ?_, List.getElem_mem hr⟩
  have e1 : dSub2 (.list (xs.map enc)) (.int r) = some (enc xs[r.toNat]) := by
    show atI (xs.map enc) r = _
    have := atI_nat (xs := xs.map enc) (j := r.toNat) (v := enc xs[r.toNat]) (by rw [List.getElem?_map, List.getElem?_eq_getElem hr]; rfl)
    rwa [Int.toNat_of_nonneg h1] at this
  simp [m__law_of, runS, g__law_of, gRet, b2, rd, cS, aC, aN, cN, dLen, e, e1]
theorem erase_map {α β : Type} (f : α → β) : ∀ (xs : List α) (i : Nat), (xs.map f).eraseIdx i = (xs.eraseIdx i).map f
  | [], i => by cases i <;> rfl
  | x :: xs, 0 => rfl
  | x :: xs, i + 1 => by
    rw [List.map_cons, List.eraseIdx_cons_succ, List.eraseIdx_cons_succ, List.map_cons, erase_map f xs i]
theorem perm_erase {α : Type} : ∀ (xs : List α) (i : Nat) (x : α), xs[i]? = some x → (x :: xs.eraseIdx i).Perm xs
  | [], i, x, h => by simp at h
  | y :: ys, 0, x, h => by cases h; exact .refl _
  | y :: ys, i + 1, x, h => by
    rw [List.eraseIdx_cons_succ]
    exact (List.Perm.swap y x _).trans (List.Perm.cons y (perm_erase ys i x (by simpa using h)))
/-- a list of pairs -/
def lp (xs : List (Nat × Nat)) : D := .list (xs.map pr)
end LW

set_option Elab.async false
set_option linter.all false
set_option maxRecDepth 100000
set_option maxHeartbeats 4000000
namespace LW
open PySem PySem.Spec PyProof.Rows L2 TL

/-! ### lots -/
def grow1 (acc : List (List Nat)) (n : Nat) : List (List Nat) := acc ++ acc.map fun l => l ++ [n]
def subs (xs : List Nat) : List (List Nat) := xs.foldl grow1 [[]]
theorem subs_snoc (xs : List Nat) (x : Nat) : subs (xs ++ [x]) = grow1 (subs xs) x := by
  unfold subs
  rw [List.foldl_append]
  rfl
theorem subs_len (xs : List Nat) : (subs xs).length = 2 ^ xs.length := by
  suffices h : ∀ (xs : List Nat) (acc : List (List Nat)), (xs.foldl grow1 acc).length = acc.length * 2 ^ xs.length by
    have := h xs [[]]
    simpa [subs] using this
  intro xs
  induction xs with
  | nil => intro acc; simp
  | cons x xs ih =>
    intro acc
    rw [List.foldl_cons, ih]
    unfold grow1
    rw [List.length_append, List.length_map, List.length_cons, Nat.pow_succ]
    rw [← Nat.two_mul, Nat.mul_comm 2, Nat.mul_assoc, Nat.mul_comm 2]
theorem mem_subs {L : List Nat} : ∀ {n : Nat}, L ∈ subs (List.range n) ↔ ∃ p : Nat → Bool, L = (List.range n).filter p
  | 0 => by
    constructor
    · intro h
      have h : L ∈ [[]] := h
      exact ⟨fun _ => true, by simpa using h⟩
    · rintro ⟨p, rfl⟩
      show [] ∈ [[]]
      simp
  | n + 1 => by
    rw [List.range_succ, subs_snoc]
    unfold grow1
    rw [List.mem_append, List.mem_map]
    have keep : ∀ (p : Nat → Bool) (b : Bool), (List.range n ++ [n]).filter (fun x => if x = n then b else p x) = (List.range n).filter p ++ if b = true then [n] else [] := fun p b => by
      rw [List.filter_append]
      congr 1
      · refine List.filter_congr fun x hx => ?_
        have : x < n := List.mem_range.mp hx
        rw [if_neg (by omega)]
      · rw [List.filter_cons, List.filter_nil]
        simp
    constructor
    · rintro (h | ⟨l, h, rfl⟩)
      · obtain ⟨p, rfl⟩ := mem_subs.mp h
        exact ⟨fun x => if x = n then false else p x, by rw [keep]; simp⟩
      · obtain ⟨p, rfl⟩ := mem_subs.mp h
        exact ⟨fun x => if x = n then true else p x, by rw [keep]; simp⟩
    · rintro ⟨p, rfl⟩
      have e : (List.range n ++ [n]).filter p = (List.range n).filter p ++ if p n = true then [n] else [] := by
        rw [List.filter_append, List.filter_cons, List.filter_nil]
      rw [e]
      cases hp : p n with
      | false => exact .inl (by simpa using mem_subs.mpr ⟨p, rfl⟩)
      | true => exact .inr ⟨_, mem_subs.mpr ⟨p, rfl⟩, by simp⟩
def lotsOf (n : Nat) : List (List Nat) := (subs (List.range n)).filter fun l => !decide (l = [])
theorem mem_lots {L : List Nat} {n : Nat} : L ∈ lotsOf n ↔ L ≠ [] ∧ ∃ p : Nat → Bool, L = (List.range n).filter p := by
  unfold lotsOf
  rw [List.mem_filter, mem_subs]
  simp [and_comm]
theorem lots_len {n : Nat} (h : n ≤ 8) : (lotsOf n).length ≤ 256 := by
  refine Nat.le_trans (List.length_filter_le _ _) ?_
  rw [subs_len, List.length_range]
  exact Nat.le_trans (Nat.pow_le_pow_right (by decide) h) (by decide)
/-- a list of lots -/
def ll (xs : List (List Nat)) : D := .list (xs.map tn)
end LW

set_option Elab.async false
set_option linter.all false
set_option maxRecDepth 100000
set_option maxHeartbeats 4000000
namespace LW
open PySem PySem.Spec PyProof.Rows L2 TL

/-! ### the law's own splitter -/
theorem split_false {R : Nat → Nat → Bool} {lot : List Nat} {p : Nat} : split R lot p = false ↔ ∀ x ∈ lot, ∀ y ∈ lot, R p x = R p y := by
  cases lot with
  | nil => simp [split]
  | cons a r =>
    unfold split
    rw [List.headD_cons, List.any_eq_false]
    constructor
    · intro h
      have h' : ∀ x ∈ a :: r, R p x = R p a := fun x hx => by simpa using h x hx
      intro x hx y hy
      rw [h' x hx, h' y hy]
    · intro h x hx
      have := h x hx a (List.mem_cons_self ..)
      simp [this]
theorem split_count {R : Nat → Nat → Bool} {lot : List Nat} {p : Nat} (h0 : lot ≠ []) : (decide (0 < (lot.filter (R p)).length) && decide ((lot.filter (R p)).length < lot.length)) = split R lot p := by
  cases hs : split R lot p with
  | false =>
    have h := split_false.mp hs
    cases lot with
    | nil => exact absurd rfl h0
    | cons a r =>
      have all : ∀ x ∈ a :: r, R p x = R p a := fun x hx => h x hx a (List.mem_cons_self ..)
      cases ha : R p a with
      | false =>
        have : (a :: r).filter (R p) = [] := by
          rw [List.filter_eq_nil_iff]
          intro x hx
          rw [all x hx, ha]
          exact Bool.false_ne_true
        rw [this]
        rfl
      | true =>
        have : (a :: r).filter (R p) = a :: r := by
          rw [List.filter_eq_self]
          intro x hx
          rw [all x hx, ha]
        rw [this]
        simp
  | true =>
    rw [Bool.and_eq_true, decide_eq_true_eq, decide_eq_true_eq]
    have hn : ¬ ∀ x ∈ lot, ∀ y ∈ lot, R p x = R p y := fun h => by
      rw [split_false.mpr h] at hs
      cases hs
    constructor
    · apply Nat.pos_of_ne_zero
      intro e
      have e := List.length_eq_zero_iff.mp e
      rw [List.filter_eq_nil_iff] at e
      apply hn
      intro x hx y hy
      have h1 := e x hx
      have h2 := e y hy
      rw [Bool.not_eq_true] at h1 h2
      rw [h1, h2]
    · apply Nat.lt_of_le_of_ne (List.length_filter_le _ _)
      intro e
      have e : lot.filter (R p) = lot := List.filter_sublist.eq_of_length e
      rw [List.filter_eq_self] at e
      apply hn
      intro x hx y hy
      rw [e x hx, e y hy]
/-! ### least parts -/
def isPart (R : Nat → Nat → Bool) (names P : List Nat) : Prop := ∀ p ∈ names, p ∉ P → ∀ x ∈ P, ∀ y ∈ P, R p x = R p y
theorem splitter_none {R : Nat → Nat → Bool} {names P : List Nat} : splitter R names P = none ↔ isPart R names P := by
  unfold splitter isPart
  rw [List.find?_eq_none]
  constructor
  · intro h p hp hn
    have := h p hp
    rw [Bool.and_eq_true, not_and, Bool.not_eq_true'] at this
    exact split_false.mp (by simpa using this (by simpa using hn))
  · intro h p hp
    rw [Bool.and_eq_true]
    rintro ⟨h1, h2⟩
    rw [split_false.mpr (h p hp (by simpa using h1))] at h2
    cases h2
theorem splitter_some {R : Nat → Nat → Bool} {names P : List Nat} {p : Nat} (h : splitter R names P = some p) : p ∈ names ∧ p ∉ P ∧ ¬ ∀ x ∈ P, ∀ y ∈ P, R p x = R p y := by
  unfold splitter at h
  have h1 := List.find?_some h
  rw [Bool.and_eq_true] at h1
  refine ⟨List.mem_of_find?_eq_some h, by simpa using h1.1, fun z => ?_⟩
  have h2 := h1.2
  rw [split_false.mpr z] at h2
  cases h2
theorem isPart_same {R : Nat → Nat → Bool} {names P Q : List Nat} (h : ∀ x, x ∈ P ↔ x ∈ Q) (hp : isPart R names P) : isPart R names Q := fun p pn pq x hx y hy => hp p pn (fun z => pq ((h p).mp z)) x ((h x).mpr hx) y ((h y).mpr hy)
section
variable {zs : List Post} {ts : List (Nat × Nat)}
theorem least_loop {R : Nat → Nat → Bool} {kvs : List (D × D)} {names : List Nat} {w L0 : D} (K : Kn R kvs) (hn : names.length ≤ 8) : ∀ (n : Nat) (lot : List Nat), lot ≠ [] → lot.Nodup → (∀ x ∈ lot, x ∈ names) → names.length + 1 ≤ lot.length + n →
    ∃ lot', gWh (tst (b2 dNotN (rd 5) (cst .none))) (gSeq (gApp 4 (rd 5)) (gSet 5 (cI m_first_splitter (aC (rd 2) (aC (rd 3) (aC (rd 4) aN)))))) n [some w, some L0, some (.dict kvs), some (tn names), some (ln lot), some (optD (splitter R names lot))] S0 =
      some (.nx [some w, some L0, some (.dict kvs), some (tn names), some (ln lot'), some (optD (splitter R names lot'))] S0) ∧ splitter R names lot' = none ∧ lot'.Nodup ∧ (∀ x ∈ lot, x ∈ lot') ∧ (∀ x ∈ lot', x ∈ names) ∧
      ∀ P, isPart R names P → (∀ x ∈ lot, x ∈ P) → ∀ x ∈ lot', x ∈ P := by
  have sub_len : ∀ l : List Nat, l.Nodup → (∀ x ∈ l, x ∈ names) → l.length ≤ names.length := fun l nd h => nodup_len nd h
  intro n
  induction n with
  | zero =>
    intro lot h0 nd hs hl
    have := sub_len lot nd hs
    omega
  | succ n ih =>
    intro lot h0 nd hs hl
    have hlen := sub_len lot nd hs
    cases hq : splitter R names lot with
    | none =>
      refine ⟨lot, ?_, hq, nd, fun x hx => hx, hs, fun P _ h => h⟩
      rw [hq]
      exact gWh_f rfl
    | some p =>
      obtain ⟨p1, p2, p3⟩ := splitter_some hq
      have nd' : (lot ++ [p]).Nodup := by
        rw [List.nodup_append]
        refine ⟨nd, by simp, fun a ha b hb => ?_⟩
        rw [List.mem_singleton] at hb
        subst hb
        exact fun e => p2 (e ▸ ha)
      have hs' : ∀ x ∈ lot ++ [p], x ∈ names := fun x hx => (List.mem_append.mp hx).elim (hs x) fun z => by rw [List.mem_singleton.mp z]; exact p1
      obtain ⟨lot', e1, e2, e3, e4, e5, e6⟩ := ih (lot ++ [p]) (by simp) nd' hs' (by rw [List.length_append, List.length_singleton]; omega)
      refine ⟨lot', ?_, e2, e3, fun x hx => e4 x (List.mem_append_left _ hx), e5, fun P hP h x hx => e6 P hP (fun y hy => ?_) x hx⟩
      · have ea : gApp 4 (rd 5) [some w, some L0, some (.dict kvs), some (tn names), some (ln lot), some (nm p)] S0 = some (.nx [some w, some L0, some (.dict kvs), some (tn names), some (ln (lot ++ [p])), some (nm p)] S0) := by
          have hz : (lot.map nm).length < sizeLine := by
            rw [List.length_map]
            exact small1000 (by omega)
          unfold gApp
          simp only [rd, List.getElem?_cons_succ, List.getElem?_cons_zero, ln]
          rw [if_pos hz, List.map_append]
          rfl
        have hfs := first_splitter_eq (names := names) K (lot_ln (lot ++ [p])) (by simp) (by rw [List.length_append, List.length_singleton]; omega)
        have hi : TL.imm (optD (splitter R names (lot ++ [p]))) = true := by
          cases splitter R names (lot ++ [p]) <;> rfl
        have eb : gSet 5 (cI m_first_splitter (aC (rd 2) (aC (rd 3) (aC (rd 4) aN)))) [some w, some L0, some (.dict kvs), some (tn names), some (ln (lot ++ [p])), some (nm p)] S0 =
            some (.nx [some w, some L0, some (.dict kvs), some (tn names), some (ln (lot ++ [p])), some (optD (splitter R names (lot ++ [p])))] S0) := by
          simp only [gSet, cI, aC, aN, rd, List.getElem?_cons_succ, List.getElem?_cons_zero, hfs]
          rw [if_pos hi]
          rfl
        have et : tst (b2 dNotN (rd 5) (cst .none)) [some w, some L0, some (.dict kvs), some (tn names), some (ln lot), some (nm p)] S0 = some (true, S0) := rfl
        exact (gWh_t (n := n) et ((gSeq_nx ea).trans eb)).trans e1
      · rcases List.mem_append.mp hy with hy | hy
        · exact h y hy
        · rw [List.mem_singleton.mp hy]
          apply Classical.byContradiction
          intro hpP
          exact p3 fun a ha b hb => hP p p1 hpP a (h a ha) b (h b hb)
end
end LW

set_option Elab.async false
set_option linter.all false
set_option maxRecDepth 100000
set_option maxHeartbeats 4000000
namespace LW
open PySem PySem.Spec PyProof.Rows L2 TL

theorem least_eq {zs : List Post} {ts : List (Nat × Nat)} {n : Nat} {lot : List Nat} {LD : D} (hLD : IsLot LD lot) (hz : zs.map (·.1) = List.range n) (hn : n ≤ 8) (ht : ts.length ≤ 10000) (h0 : lot ≠ []) (nd : lot.Nodup) (hs : ∀ x ∈ lot, x < n) :
    ∃ lot', m_least_part [wb zs ts, LD] = some (tn ((List.range n).filter fun x => decide (x ∈ lot'))) ∧ isPart (tied ts) (List.range n) lot' ∧ (∀ x ∈ lot, x ∈ lot') ∧ (∀ x ∈ lot', x < n) ∧ ∀ P, isPart (tied ts) (List.range n) P → (∀ x ∈ lot, x ∈ P) → ∀ x ∈ lot', x ∈ P := by
  have hzl : zs.length ≤ 1000 := by
    have := congrArg List.length hz
    rw [List.length_map, List.length_range] at this
    omega
  obtain ⟨kvs, e1, K⟩ := known_eq (zs := zs) ht
  have e2 := names_of_eq (zs := zs) (ts := ts) hzl
  rw [hz] at e2
  have hlen : (List.range n).length ≤ 8 := by rw [List.length_range]; exact hn
  have hs' : ∀ x ∈ lot, x ∈ List.range n := fun x hx => List.mem_range.mpr (hs x hx)
  have hll : lot.length ≤ 8 := Nat.le_trans (nodup_len nd hs') hlen
  obtain ⟨lot', l1, l2, l3, l4, l5, l6⟩ := least_loop (w := wb zs ts) (L0 := LD) K hlen 20 lot h0 nd hs' (by rw [List.length_range]; omega)
  refine ⟨lot', ?_, splitter_none.mp l2, l4, fun x hx => List.mem_range.mp (l5 x hx), l6⟩
  have fs := first_splitter_eq (names := List.range n) K (lot_ln lot) h0 (by omega)
  have hi : TL.imm (optD (splitter (tied ts) (List.range n) lot)) = true := by
    cases splitter (tied ts) (List.range n) lot <;> rfl
  have hperm : lot'.Perm ((List.range n).filter fun x => decide (x ∈ lot')) := by
    refine (List.perm_ext_iff_of_nodup l3 (List.nodup_range.sublist List.filter_sublist)).mpr fun x => ?_
    rw [List.mem_filter, decide_eq_true_eq]
    exact ⟨fun h => ⟨l5 x h, h⟩, fun h => h.2⟩
  have hsort := sort_nm hperm (List.pairwise_lt_range.sublist List.filter_sublist)
  refine runP_rt (ρ := [some (wb zs ts), some (LD), none, none, none, none]) (S := S0) rfl ?_
  unfold g_least_part
  have q1 : gPar [2, 3] (aC (cN m_known_ties (aC (rd 0) aN)) (aC (cN m_names_of (aC (rd 0) aN)) aN)) [some (wb zs ts), some (LD), none, none, none, none] S0 = some (.nx [some (wb zs ts), some (LD), some (.dict kvs), some (tn (List.range n)), none, none] S0) :=
    gPar_val (aC_val (cN_val (aC1 (d := wb zs ts) rfl) e1) (aC1 (cN_val (aC1 (d := wb zs ts) rfl) e2)))
  have q2 : gOwn 4 (cN dListA (aC (rd 1) aN)) [some (wb zs ts), some (LD), some (.dict kvs), some (tn (List.range n)), none, none] S0 = some (.nx [some (wb zs ts), some (LD), some (.dict kvs), some (tn (List.range n)), some (ln lot), none] S0) := gOwn_val (d := ln lot) (cN_val (aC1 (d := LD) rfl) hLD.lst)
  have q3 : gSet 5 (cI m_first_splitter (aC (rd 2) (aC (rd 3) (aC (rd 4) aN)))) [some (wb zs ts), some (LD), some (.dict kvs), some (tn (List.range n)), some (ln lot), none] S0 = some (.nx [some (wb zs ts), some (LD), some (.dict kvs), some (tn (List.range n)), some (ln lot), some (optD (splitter (tied ts) (List.range n) lot))] S0) := by
    refine gSet_val ?_
    simp only [cI, aC, aN, rd, List.getElem?_cons_succ, List.getElem?_cons_zero, fs]
    exact if_pos hi
  refine (gSeq_nx q1).trans ((gSeq_nx q2).trans ((gSeq_nx q3).trans ((gSeq_nx l1).trans (gRet_val (cN_val (aC1 (cN_val (aC1 (d := ln lot') rfl) hsort)) rfl)))))
/-! ### crossed -/
def crossed (a b : List Nat) : Bool := decide (0 < (a.filter fun x => decide (x ∈ b)).length) && decide ((a.filter fun x => decide (x ∈ b)).length < min a.length b.length)
theorem crossed_eq {a b : List Nat} (ha : a.length ≤ 1000) : m_are_crossed [tn a, tn b] = some (.bool (crossed a b)) := by
  have e1 : gSet 2 (lcE [3] (iE (rd 0)) (sN 3) (tst (b2 dInD (rd 3) (rd 1))) (rd 3)) [some (tn a), some (tn b), none, none] S0 = some (.nx [some (tn a), some (tn b), some (ln (a.filter fun x => decide (x ∈ b))), none] S0) :=
    gSet_val (d := ln (a.filter fun x => decide (x ∈ b))) (lc_map (ρ := [some (tn a), some (tn b), none, none]) (vs := [3]) (fI := iE (rd 0)) (S0 := S0) nm (fun x => decide (x ∈ b)) nm (S := S0) (xs := a) rfl (by omega) fun x hx => ⟨_, rfl, tst_val (b2_val (S1 := S0) (S2 := S0) (a := nm x) (b := tn b) rfl rfl good_nm.tup), fun _ => rfl⟩)
  refine runP_rt (ρ := [some (tn a), some (tn b), none, none]) (S := S0) rfl ((gSeq_nx e1).trans (gRet_val ?_))
  have ec : cN dLen (aC (rd 2) aN) [some (tn a), some (tn b), some (ln (a.filter fun x => decide (x ∈ b))), none] S0 = some (.int (a.filter fun x => decide (x ∈ b)).length, S0) := cN_val (aC1 (d := ln _) rfl) (lot_ln _).len
  have el : cN dMinA (aC (cN dLen (aC (rd 0) aN)) (aC (cN dLen (aC (rd 1) aN)) aN)) [some (tn a), some (tn b), some (ln (a.filter fun x => decide (x ∈ b))), none] S0 = some (.int (if (b.length : Int) < a.length then b.length else a.length), S0) :=
    cN_val (aC_val (cN_val (aC1 (d := tn a) rfl) (lot_tn a).len) (aC1 (cN_val (aC1 (d := tn b) rfl) (lot_tn b).len))) rfl
  unfold ch crossed
  rw [show cst (.int 0) [some (tn a), some (tn b), some (ln (a.filter fun x => decide (x ∈ b))), none] S0 = some (.int 0, S0) from rfl]
  dsimp only
  rw [ec]
  dsimp only [dLt]
  by_cases c1 : 0 < (a.filter fun x => decide (x ∈ b)).length
  · rw [decide_eq_true (show (0 : Int) < ((a.filter fun x => decide (x ∈ b)).length : Int) by omega), decide_eq_true c1]
    dsimp only
    rw [el]
    dsimp only [dLt]
    rw [Bool.true_and]
    congr 3
    apply decide_eq_decide.mpr
    rw [Nat.lt_min]
    split <;> omega
  · rw [decide_eq_false (show ¬ (0 : Int) < ((a.filter fun x => decide (x ∈ b)).length : Int) by omega), decide_eq_false c1]
    rfl
/-! ### webs that are drawn -/
theorem range_map_get {n i : Nat} (h : i < n) : ((List.range n).map nm)[i]? = some (nm i) := by
  rw [List.getElem?_map, List.getElem?_range h]
  rfl
theorem drop_cut {ds : List D} {i : Nat} (hi : i ≤ ds.length) : dSl (.list ds) (some (i : Int)) none = some (.list (ds.drop i)) := by
  show some (PyData.list (TL.cutD ds (some (i : Int)) none)) = _
  unfold TL.cutD
  rw [HT.sIx_nat, HT.sIx_none]
  congr 2
  rw [Nat.min_eq_left hi]
  exact List.take_of_length_le (by rw [List.length_drop]; exact Nat.le_refl _)
theorem take_cut {ds : List D} {i : Nat} : dSl (.list ds) none (some (i : Int)) = some (.list (ds.take i)) := by
  show some (PyData.list (TL.cutD ds none (some (i : Int)))) = _
  unfold TL.cutD
  rw [HT.sIx_nat, HT.sIx_none]
  congr 2
  rw [List.drop_zero, Nat.sub_zero]
  by_cases h : i ≤ ds.length
  · rw [Nat.min_eq_left h]
  · rw [Nat.min_eq_right (by omega), List.take_of_length_le (Nat.le_refl _), List.take_of_length_le (by omega)]
end LW

set_option Elab.async false
set_option linter.all false
set_option maxRecDepth 100000
set_option maxHeartbeats 4000000
namespace LW
open PySem PySem.Spec PyProof.Rows L2 TL

/-! ### what is told as a text -/
theorem repr_of {d : D} (h1 : d.showable = true) (h2 : d.plain = true) (h3 : wt d ≤ 1000) (h4 : d.depth ≤ 60) : dRepr [d] = some (.str d.shown) := by
  unfold dRepr
  dsimp only
  exact if_pos ⟨h1, h2, Nat.le_trans h3 (by decide), h4⟩
theorem repr_bool (b : Bool) : dRepr [.bool b] = some (.str (PyData.bool b).shown) := repr_of rfl rfl (by rw [wt]; decide) (Nat.zero_le _)
theorem wt_nm {x : Nat} (h : x < 8) : wt (nm x) ≤ 20 := by
  have : x = 0 ∨ x = 1 ∨ x = 2 ∨ x = 3 ∨ x = 4 ∨ x = 5 ∨ x = 6 ∨ x = 7 := by omega
  rcases this with rfl | rfl | rfl | rfl | rfl | rfl | rfl | rfl <;> (unfold nm; rw [wt]; decide +kernel)
theorem repr_tn : ∀ {xs : List Nat}, (∀ x ∈ xs, x < 8) → xs.length ≤ 8 → dRepr [tn xs] = some (.str (tn xs).shown) := fun {xs} h hl => by
  have hw : ∀ {ys : List Nat}, (∀ x ∈ ys, x < 8) → wtL (ys.map nm) ≤ 22 * ys.length := fun {ys} => by
    induction ys with
    | nil => intro _; exact Nat.zero_le _
    | cons y ys ih =>
      intro h
      rw [List.map_cons, wtL, List.length_cons]
      have h1 := wt_nm (h y (List.mem_cons_self ..))
      have h2 := ih fun x hx => h x (List.mem_cons_of_mem _ hx)
      omega
  have hs : ∀ ys : List Nat, PyData.showableAll (ys.map nm) = true := fun ys => by
    induction ys with
    | nil => rfl
    | cons y ys ih =>
      rw [List.map_cons, PyData.showableAll, ih]
      rfl
  have := hw h
  have g := good_tn.flat xs
  exact repr_of (by unfold tn; rw [PyData.showable]; exact hs xs) (good_tn.plain xs) (by unfold tn; rw [wt]; omega) (by omega)
theorem repr_told {o : Option Nat} (h : ∀ p, o = some p → p < 8) : ∃ t, dRepr [toldD o] = some (.str t) := by
  cases o with
  | none => exact ⟨_, repr_of rfl rfl (by unfold toldD; rw [wt]; decide +kernel) (by decide)⟩
  | some p =>
    have hp := wt_nm (h p rfl)
    refine ⟨_, repr_of rfl rfl ?_ (by simp [toldD, nm, PyData.depth, PyData.depthAll])⟩
    unfold toldD
    rw [wt, wtL, wtL, wtL]
    have : wt (.str "split") ≤ 20 := by rw [wt]; decide +kernel
    omega
theorem ne_same (t : Str) : dNe (.str t) (.str t) = some (.bool false) := by
  rw [good_str.ne]
  simp
/-! ### parts -/
theorem splitter_perm {R : Nat → Nat → Bool} {names a b : List Nat} (h : ∀ x, x ∈ a ↔ x ∈ b) : splitter R names a = splitter R names b := by
  have hs : ∀ p, split R a p = split R b p := fun p => by
    cases e : split R b p with
    | false =>
      have := split_false.mp e
      exact split_false.mpr fun x hx y hy => this x ((h x).mp hx) y ((h y).mp hy)
    | true =>
      cases e' : split R a p with
      | true => rfl
      | false =>
        have := split_false.mp e'
        rw [split_false.mpr fun x hx y hy => this x ((h x).mpr hx) y ((h y).mpr hy)] at e
        cases e
  unfold splitter
  congr 1
  funext p
  rw [hs p]
  congr 2
  exact decide_eq_decide.mpr (h p)
theorem tied_sym (ts : List (Nat × Nat)) (i j : Nat) : tied ts i j = tied ts j i := by
  unfold tied
  rw [Bool.or_comm]
def parts (ts : List (Nat × Nat)) (n : Nat) : List (List Nat) := (lotsOf n).filter fun l => (splitter (tied ts) (List.range n) l).isNone
theorem mem_parts {ts : List (Nat × Nat)} {n : Nat} {P : List Nat} : P ∈ parts ts n ↔ P ∈ lotsOf n ∧ isPart (tied ts) (List.range n) P := by
  unfold parts
  rw [List.mem_filter, Option.isNone_iff_eq_none, splitter_none]
structure Lot (n : Nat) (L : List Nat) : Prop where
  ne : L ≠ []
  nd : L.Nodup
  lt : ∀ x ∈ L, x < n
  len : L.length ≤ n
  canon : L = (List.range n).filter fun x => decide (x ∈ L)
theorem filter_canon (n : Nat) (p : Nat → Bool) : (List.range n).filter p = (List.range n).filter fun x => decide (x ∈ (List.range n).filter p) :=
  List.filter_congr fun x hx => by
    cases hp : p x with
    | true => exact (decide_eq_true (List.mem_filter.mpr ⟨hx, hp⟩)).symm
    | false => exact (decide_eq_false fun z => by rw [(List.mem_filter.mp z).2] at hp; cases hp).symm
theorem lot_of {n : Nat} {L : List Nat} (h : L ∈ lotsOf n) : Lot n L := by
  obtain ⟨h0, p, rfl⟩ := mem_lots.mp h
  exact ⟨h0, List.nodup_range.sublist List.filter_sublist, fun x hx => List.mem_range.mp (List.mem_filter.mp hx).1, Nat.le_trans (List.length_filter_le _ _) (by rw [List.length_range]; exact Nat.le_refl _), filter_canon n p⟩
theorem to_parts {ts : List (Nat × Nat)} {n : Nat} {p : Nat → Bool} (h0 : (List.range n).filter p ≠ []) (h : isPart (tied ts) (List.range n) ((List.range n).filter p)) : (List.range n).filter p ∈ parts ts n := mem_parts.mpr ⟨mem_lots.mpr ⟨h0, p, rfl⟩, h⟩
theorem whole_part {ts : List (Nat × Nat)} {n : Nat} (h1 : 1 ≤ n) : List.range n ∈ parts ts n := by
  have e : List.range n = (List.range n).filter fun _ => true := (filter_all _).symm
  have := to_parts (ts := ts) (n := n) (p := fun _ => true) (by rw [← e]; intro z; have := congrArg List.length z; rw [List.length_range] at this; simp at this; omega) (by
    rw [← e]
    intro p hp hn
    exact absurd hp hn)
  rwa [← e] at this
/-- crossed parts give parts -/
theorem crossing {ts : List (Nat × Nat)} {n : Nat} {A B : List Nat} (hA : isPart (tied ts) (List.range n) A) (hB : isPart (tied ts) (List.range n) B) (lA : ∀ x ∈ A, x < n) (lB : ∀ x ∈ B, x < n)
    {z u v : Nat} (hz : z ∈ A ∧ z ∈ B) (hu : u ∈ A ∧ u ∉ B) (hv : v ∈ B ∧ v ∉ A) {P : List Nat} (hP : (∀ x, x ∈ P ↔ x ∈ A ∨ x ∈ B) ∨ (∀ x, x ∈ P ↔ x ∈ A ∧ x ∈ B) ∨ (∀ x, x ∈ P ↔ x ∈ A ∧ x ∉ B) ∨ (∀ x, x ∈ P ↔ x ∈ B ∧ x ∉ A) ∨ (∀ x, x ∈ P ↔ (x ∈ A ∧ x ∉ B) ∨ (x ∈ B ∧ x ∉ A))) :
    isPart (tied ts) (List.range n) P := by
  have sym := tied_sym ts
  have mA : ∀ x ∈ A, x ∈ List.range n := fun x hx => List.mem_range.mpr (lA x hx)
  have mB : ∀ x ∈ B, x ∈ List.range n := fun x hx => List.mem_range.mpr (lB x hx)
  have dAB : ∀ p, p ∈ A → p ∈ B → ∀ x y, x ∈ A → x ∉ B → y ∈ A → y ∉ B → tied ts p x = tied ts p y := fun p pA pB x y xA xB yA yB => by
    rw [sym p x, hB x (mA x xA) xB p pB v hv.1, sym x v, hA v (mB v hv.1) hv.2 x xA y yA, sym v y, hB y (mA y yA) yB v hv.1 p pB, sym y p]
  have dBA : ∀ p, p ∈ A → p ∈ B → ∀ x y, x ∈ B → x ∉ A → y ∈ B → y ∉ A → tied ts p x = tied ts p y := fun p pA pB x y xB xA yB yA => by
    rw [sym p x, hA x (mB x xB) xA p pA u hu.1, sym x u, hB u (mA u hu.1) hu.2 x xB y yB, sym u y, hA y (mB y yB) yA u hu.1 p pA, sym y p]
  have un : ∀ p ∈ List.range n, p ∉ A → p ∉ B → ∀ x y, (x ∈ A ∨ x ∈ B) → (y ∈ A ∨ y ∈ B) → tied ts p x = tied ts p y := fun p pn pA pB x y hx hy => by
    have one : ∀ x, (x ∈ A ∨ x ∈ B) → tied ts p x = tied ts p z := fun x hx => hx.elim (fun h => hA p pn pA x h z hz.1) fun h => hB p pn pB x h z hz.2
    rw [one x hx, one y hy]
  intro p pn pP x hx y hy
  rcases hP with h | h | h | h | h
  · rw [h] at pP hx hy
    rw [not_or] at pP
    exact un p pn pP.1 pP.2 x y hx hy
  · rw [h] at pP hx hy
    by_cases pA : p ∈ A
    · exact hB p pn (fun z => pP ⟨pA, z⟩) x hx.2 y hy.2
    · exact hA p pn pA x hx.1 y hy.1
  · rw [h] at pP hx hy
    by_cases pA : p ∈ A
    · have pB : p ∈ B := Classical.byContradiction fun z => pP ⟨pA, z⟩
      exact dAB p pA pB x y hx.1 hx.2 hy.1 hy.2
    · exact hA p pn pA x hx.1 y hy.1
  · rw [h] at pP hx hy
    by_cases pB : p ∈ B
    · have pA : p ∈ A := Classical.byContradiction fun z => pP ⟨pB, z⟩
      exact dBA p pA pB x y hx.1 hx.2 hy.1 hy.2
    · exact hB p pn pB x hx.1 y hy.1
  · rw [h] at pP hx hy
    by_cases pA : p ∈ A
    · have pB : p ∈ B := Classical.byContradiction fun z => pP (.inl ⟨pA, z⟩)
      have cr : ∀ a b, a ∈ A → a ∉ B → b ∈ B → b ∉ A → tied ts p a = tied ts p b := fun a b aA aB bB bA => by
        rw [sym p a, hB a (mA a aA) aB p pB b bB, sym a b, hA b (mB b bB) bA a aA p pA, sym b p]
      rcases hx with hx | hx <;> rcases hy with hy | hy
      · exact dAB p pA pB x y hx.1 hx.2 hy.1 hy.2
      · exact cr x y hx.1 hx.2 hy.1 hy.2
      · exact (cr y x hy.1 hy.2 hx.1 hx.2).symm
      · exact dBA p pA pB x y hx.1 hx.2 hy.1 hy.2
    · have pB : p ∉ B := fun z => pP (.inr ⟨z, pA⟩)
      exact un p pn pA pB x y (hx.elim (fun h => .inl h.1) fun h => .inr h.1) (hy.elim (fun h => .inl h.1) fun h => .inr h.1)
/-- the law's word for crossed -/
theorem crossed_word {n : Nat} {A B : List Nat} (hA : Lot n A) (hB : Lot n B) : crossed A B = (!decide (((List.range n).filter fun x => decide (x ∈ A) && decide (x ∈ B)) = []) && (!decide ((A.filter fun x => !decide (x ∈ B)) = []) && !decide ((B.filter fun x => !decide (x ∈ A)) = []))) := by
  have c1 : 0 < (A.filter fun x => decide (x ∈ B)).length ↔ ((List.range n).filter fun x => decide (x ∈ A) && decide (x ∈ B)) ≠ [] := by
    rw [List.length_pos_iff]
    constructor
    · intro h e
      apply h
      rw [List.filter_eq_nil_iff] at e ⊢
      intro x hx hb
      exact e x (List.mem_range.mpr (hA.lt x hx)) (by rw [decide_eq_true hx]; simpa using hb)
    · intro h e
      apply h
      rw [List.filter_eq_nil_iff] at e ⊢
      intro x _ hb
      rw [Bool.and_eq_true, decide_eq_true_eq] at hb
      exact e x hb.1 hb.2
  have part : ∀ (X Y : List Nat), (X.filter fun x => decide (x ∈ Y)).length < X.length ↔ (X.filter fun x => !decide (x ∈ Y)) ≠ [] := fun X Y => by
    constructor
    · intro h e
      rw [List.filter_eq_nil_iff] at e
      have : X.filter (fun x => decide (x ∈ Y)) = X := by
        rw [List.filter_eq_self]
        intro x hx
        have := e x hx
        simpa using this
      rw [this] at h
      omega
    · intro h
      refine Nat.lt_of_le_of_ne (List.length_filter_le _ _) fun e => h ?_
      have e := List.filter_sublist.eq_of_length e
      rw [List.filter_eq_self] at e
      rw [List.filter_eq_nil_iff]
      intro x hx
      have := e x hx
      simpa using this
  have both : (A.filter fun x => decide (x ∈ B)).length = (B.filter fun x => decide (x ∈ A)).length := by
    refine List.Perm.length_eq ((List.perm_ext_iff_of_nodup (hA.nd.sublist List.filter_sublist) (hB.nd.sublist List.filter_sublist)).mpr fun x => ?_)
    rw [List.mem_filter, List.mem_filter, decide_eq_true_eq, decide_eq_true_eq]
    exact And.comm
  have c2 := part A B
  have c3 := part B A
  rw [← both] at c3
  unfold crossed
  rw [Bool.eq_iff_iff, Bool.and_eq_true, Bool.and_eq_true, Bool.and_eq_true, decide_eq_true_eq, decide_eq_true_eq, Bool.not_eq_true', Bool.not_eq_true', Bool.not_eq_true', decide_eq_false_iff_not, decide_eq_false_iff_not, decide_eq_false_iff_not, Nat.lt_min, c1, c2, c3]
end LW

set_option Elab.async false
set_option linter.all false
set_option maxRecDepth 100000
set_option maxHeartbeats 4000000
namespace LW
open PySem PySem.Spec PyProof.Rows L2 TL

abbrev OD := Option D
theorem bE_val {f : FB} {ρ : Rho} {S S1 : Src} {b : Bool} (e : f ρ S = some (b, S1)) : bE f ρ S = some (.bool b, S1) := by
  unfold bE
  rw [e]
theorem tn_flat (xs : List Nat) : (tn xs).depth ≤ 40 := by
  have : ∀ ys : List Nat, PyData.depthAll (ys.map nm) ≤ 30 := fun ys => by
    induction ys with
    | nil => exact Nat.zero_le _
    | cons y ys ih =>
      rw [List.map_cons, PyData.depthAll]
      exact Nat.max_le.mpr ⟨Nat.zero_le _, ih⟩
  unfold tn
  rw [PyData.depth]
  have := this xs
  omega
theorem good_ll : Good ll := good_tn.lsts tn_flat
theorem dEq_ln {xs ys : List Nat} : dEq (ln xs) (ln ys) = some (.bool (decide (xs = ys))) := good_ln.eq
theorem dNe_ln {xs ys : List Nat} : dNe (ln xs) (ln ys) = some (.bool (!decide (xs = ys))) := good_ln.ne
theorem dNe_tn {xs ys : List Nat} : dNe (tn xs) (tn ys) = some (.bool (!decide (xs = ys))) := good_tn.ne
theorem dNe_ll {xs ys : List (List Nat)} : dNe (ll xs) (ll ys) = some (.bool (!decide (xs = ys))) := good_ll.ne
theorem dEq_ll {xs ys : List (List Nat)} : dEq (ll xs) (ll ys) = some (.bool (decide (xs = ys))) := good_ll.eq
section
variable {ts : List (Nat × Nat)} {n : Nat}
theorem parts_len (h : n ≤ 8) : (parts ts n).length ≤ 256 := Nat.le_trans (List.length_filter_le _ _) (lots_len h)
theorem parts_lot {P : List Nat} (h : P ∈ parts ts n) : Lot n P := lot_of (mem_parts.mp h).1
theorem lots_ne (h : 1 ≤ n) : lotsOf n ≠ [] := fun e => by
  have := (mem_parts.mp (whole_part (ts := []) h)).1
  rw [e] at this
  cases this
theorem parts_ne (h : 1 ≤ n) : parts ts n ≠ [] := fun e => by
  have := whole_part (ts := ts) h
  rw [e] at this
  cases this
def heldOf (ts : List (Nat × Nat)) (n : Nat) (L : List Nat) : List (List Nat) := (parts ts n).filter fun P => decide ((L.filter fun x => !decide (x ∈ P)) = [])
def commonOf (ts : List (Nat × Nat)) (n : Nat) (L : List Nat) : List Nat := (List.range n).filter fun x => decide (((heldOf ts n L).filter fun P => !decide (x ∈ P)) = [])
theorem mem_held {L P : List Nat} : P ∈ heldOf ts n L ↔ P ∈ parts ts n ∧ ∀ x ∈ L, x ∈ P := by
  unfold heldOf
  rw [List.mem_filter, decide_eq_true_eq, List.filter_eq_nil_iff]
  constructor
  · rintro ⟨h1, h2⟩
    exact ⟨h1, fun x hx => by simpa using h2 x hx⟩
  · rintro ⟨h1, h2⟩
    exact ⟨h1, fun x hx => by simpa using h2 x hx⟩
theorem least_held {L lot' : List Nat} (h1 : isPart (tied ts) (List.range n) lot') (h2 : ∀ x ∈ L, x ∈ lot') (h3 : ∀ x ∈ lot', x < n) (h0 : L ≠ []) : (List.range n).filter (fun x => decide (x ∈ lot')) ∈ heldOf ts n L := by
  have hmem : ∀ y, y ∈ (List.range n).filter (fun x => decide (x ∈ lot')) ↔ y ∈ lot' := fun y => by
    rw [List.mem_filter, decide_eq_true_eq, List.mem_range]
    exact ⟨fun z => z.2, fun z => ⟨h3 y z, z⟩⟩
  refine mem_held.mpr ⟨to_parts ?_ (isPart_same (fun y => (hmem y).symm) h1), fun y hy => (hmem y).mpr (h2 y hy)⟩
  obtain ⟨a, r, rfl⟩ : ∃ a r, L = a :: r := by
    cases L with
    | nil => exact absurd rfl h0
    | cons a r => exact ⟨a, r, rfl⟩
  intro e
  have := (hmem a).mpr (h2 a (List.mem_cons_self ..))
  rw [e] at this
  cases this
def bothL (n : Nat) (A B : List Nat) : List Nat := (List.range n).filter fun x => decide (x ∈ A) && decide (x ∈ B)
def lessL (A B : List Nat) : List Nat := A.filter fun x => !decide (x ∈ B)
def anyL (n : Nat) (A B : List Nat) : List Nat := (List.range n).filter fun x => decide (x ∈ A) || decide (x ∈ B)
def xorL (n : Nat) (A B : List Nat) : List Nat := (List.range n).filter fun x => !decide (decide (x ∈ A) = decide (x ∈ B))
theorem lessL_range {A B : List Nat} (hA : Lot n A) : lessL A B = (List.range n).filter fun x => !decide (x ∈ B) && decide (x ∈ A) := by
  have : lessL A B = ((List.range n).filter fun x => decide (x ∈ A)).filter fun x => !decide (x ∈ B) := by
    unfold lessL
    rw [← hA.canon]
  rw [this, List.filter_filter]
theorem five {A B : List Nat} (hA : A ∈ parts ts n) (hB : B ∈ parts ts n) (h : crossed A B = true) : ∀ Q ∈ [anyL n A B, bothL n A B, lessL A B, lessL B A, xorL n A B], Q ∈ parts ts n := by
  have lA := parts_lot hA
  have lB := parts_lot hB
  have pA := (mem_parts.mp hA).2
  have pB := (mem_parts.mp hB).2
  rw [crossed_word lA lB, Bool.and_eq_true, Bool.and_eq_true, Bool.not_eq_true', Bool.not_eq_true', Bool.not_eq_true', decide_eq_false_iff_not, decide_eq_false_iff_not, decide_eq_false_iff_not] at h
  obtain ⟨h1, h2, h3⟩ := h
  obtain ⟨z, hz⟩ := List.exists_mem_of_ne_nil _ h1
  obtain ⟨u, hu⟩ := List.exists_mem_of_ne_nil _ h2
  obtain ⟨v, hv⟩ := List.exists_mem_of_ne_nil _ h3
  rw [List.mem_filter, Bool.and_eq_true, decide_eq_true_eq, decide_eq_true_eq] at hz
  rw [List.mem_filter, Bool.not_eq_true', decide_eq_false_iff_not] at hu hv
  have rA : ∀ x ∈ A, x ∈ List.range n := fun x hx => List.mem_range.mpr (lA.lt x hx)
  have rB : ∀ x ∈ B, x ∈ List.range n := fun x hx => List.mem_range.mpr (lB.lt x hx)
  have cr := fun P hP => crossing (ts := ts) (n := n) pA pB lA.lt lB.lt hz.2 hu hv (P := P) hP
  have mk : ∀ (p : Nat → Bool) (w : Nat), w ∈ (List.range n).filter p → ((∀ x, x ∈ (List.range n).filter p ↔ x ∈ A ∨ x ∈ B) ∨ (∀ x, x ∈ (List.range n).filter p ↔ x ∈ A ∧ x ∈ B) ∨ (∀ x, x ∈ (List.range n).filter p ↔ x ∈ A ∧ x ∉ B) ∨ (∀ x, x ∈ (List.range n).filter p ↔ x ∈ B ∧ x ∉ A) ∨ (∀ x, x ∈ (List.range n).filter p ↔ (x ∈ A ∧ x ∉ B) ∨ (x ∈ B ∧ x ∉ A))) → (List.range n).filter p ∈ parts ts n := fun p w hw hP =>
    to_parts (fun e => by rw [e] at hw; cases hw) (cr _ hP)
  intro Q hQ
  simp only [List.mem_cons, List.not_mem_nil, or_false] at hQ
  rcases hQ with rfl | rfl | rfl | rfl | rfl
  · refine mk _ z (List.mem_filter.mpr ⟨hz.1, by rw [decide_eq_true hz.2.1]; rfl⟩) (.inl fun x => ?_)
    rw [List.mem_filter, Bool.or_eq_true, decide_eq_true_eq, decide_eq_true_eq]
    exact ⟨fun q => q.2, fun q => ⟨q.elim (rA x) (rB x), q⟩⟩
  · refine mk _ z (List.mem_filter.mpr ⟨hz.1, by rw [decide_eq_true hz.2.1, decide_eq_true hz.2.2]; rfl⟩) (.inr (.inl fun x => ?_))
    rw [List.mem_filter, Bool.and_eq_true, decide_eq_true_eq, decide_eq_true_eq]
    exact ⟨fun q => q.2, fun q => ⟨rA x q.1, q⟩⟩
  · rw [lessL_range lA]
    refine mk _ u (List.mem_filter.mpr ⟨rA u hu.1, by rw [decide_eq_true hu.1, decide_eq_false hu.2]; rfl⟩) (.inr (.inr (.inl fun x => ?_)))
    rw [List.mem_filter, Bool.and_eq_true, decide_eq_true_eq, Bool.not_eq_true', decide_eq_false_iff_not]
    exact ⟨fun q => ⟨q.2.2, q.2.1⟩, fun q => ⟨rA x q.1, q.2, q.1⟩⟩
  · rw [lessL_range lB]
    refine mk _ v (List.mem_filter.mpr ⟨rB v hv.1, by rw [decide_eq_true hv.1, decide_eq_false hv.2]; rfl⟩) (.inr (.inr (.inr (.inl fun x => ?_))))
    rw [List.mem_filter, Bool.and_eq_true, decide_eq_true_eq, Bool.not_eq_true', decide_eq_false_iff_not]
    exact ⟨fun q => ⟨q.2.2, q.2.1⟩, fun q => ⟨rB x q.1, q.2, q.1⟩⟩
  · refine mk _ u (List.mem_filter.mpr ⟨rA u hu.1, by rw [decide_eq_true hu.1, decide_eq_false hu.2]; rfl⟩) (.inr (.inr (.inr (.inr fun x => ?_))))
    rw [List.mem_filter, Bool.not_eq_true', decide_eq_false_iff_not]
    by_cases a : x ∈ A <;> by_cases b : x ∈ B
    · simp [a, b]
    · simp [a, b, lA.lt x a]
    · simp [a, b, lB.lt x b]
    · simp [a, b]
end
end LW

set_option Elab.async false
set_option linter.all false
set_option maxRecDepth 100000
set_option maxHeartbeats 4000000
namespace LW
open PySem PySem.Spec PyProof.Rows L2 TL

theorem pick_ix {n : Nat} (h : 0 < n) (hn : n ≤ 100000) (S : Src) : ∃ (j : Nat) (S' : Src), m__law_pick [.int (n : Int)] S = some (.int (j : Nat), S') ∧ j < n := by
  obtain ⟨r, S', e, h1, h2⟩ := pick_eq S (m := (n : Int)) (by omega)
  have hr : r.toNat < n := by split at h2 <;> omega
  refine ⟨r.toNat, S', ?_, hr⟩
  rw [e, Int.toNat_of_nonneg h1]
theorem nP_val {i j : Nat} {f : FE} {ρ : Rho} {S S1 : Src} {ds : List D} {d : D} (ef : f ρ S = some (.int (j : Nat), S1)) (e : ρ[i]? = some (some (.list ds))) (hd : ds[j]? = some d) (hl : ds.length ≤ 100000) : nP i f ρ S = some (d, ρ.set i (some (.list (ds.eraseIdx j))), S1) := by
  have hj : j < ds.length := (List.getElem?_eq_some_iff.mp hd).1
  have hix : seqIndex? (j : Int) ds.length = some j := by
    unfold seqIndex?
    have c1 : ¬ (j : Int) < 0 := by omega
    simp only [c1, if_false]
    have : (0 ≤ (j : Int) && decide ((j : Int) < (ds.length : Int))) = true := by
      rw [Bool.and_eq_true, decide_eq_true_eq, decide_eq_true_eq]
      omega
    rw [if_pos this]
    rfl
  have hbd : -(2 ^ 63 : Int) ≤ (j : Int) ∧ (j : Int) < 2 ^ 63 := by omega
  unfold nP
  rw [ef]
  dsimp only
  rw [e]
  dsimp only
  rw [if_pos hbd, hix]
  dsimp only
  rw [hd]
theorem gAppN_val {i : Nat} {f : FN} {ρ ρ1 : Rho} {S S1 : Src} {d : D} {ds : List D} (e : f ρ S = some (d, ρ1, S1)) (h : ρ1[i]? = some (some (.list ds))) (hl : ds.length ≤ 100000) : gAppN i f ρ S = some (.nx (ρ1.set i (some (.list (ds ++ [d])))) S1) := by
  unfold gAppN
  rw [e]
  dsimp only
  rw [h]
  exact if_pos (Nat.lt_of_le_of_lt hl (by decide))
theorem gSetN_val {i : Nat} {f : FN} {ρ ρ1 : Rho} {S S1 : Src} {d : D} (e : f ρ S = some (d, ρ1, S1)) : gSetN i f ρ S = some (.nx (ρ1.set i (some d)) S1) := by
  unfold gSetN
  rw [e]
theorem gUnp_val {st : FG} {f : FE} {ρ ρ1 : Rho} {S S1 : Src} {d : D} (e : f ρ S = some (d, S1)) (h : st d ρ = some ρ1) : gUnp st f ρ S = some (.nx ρ1 S1) := by
  unfold gUnp
  rw [e]
  dsimp only
  rw [h]
/-- pops of all items of an own list -/
theorem pop_comp {k v : Nat} (hkv : k ≠ v) {rest0 : List Nat} : ∀ (m : Nat) (rest : List Nat) (ds : List D) (ρ : Rho) (S : Src), rest.length = m → ds.length = m → m ≤ 100000 → ρ[k]? = some (some (ln rest)) → ρ[v]? = some none →
    ∃ (ys : List Nat) (S' : Src), compN [v] (sN v) bT (nP k (cS m__law_pick (aC (cN dLen (aC (rd k) aN)) aN))) ds ρ S = some (ys.map nm, ρ.set k (some (ln [])), S') ∧ ys.Perm rest
  | 0, rest, ds, ρ, S, h1, h2, _, e1, e2 => by
    have q1 : rest = [] := List.length_eq_zero_iff.mp h1
    have q2 : ds = [] := List.length_eq_zero_iff.mp h2
    subst q1 q2
    refine ⟨[], S, ?_, .nil⟩
    rw [compN]
    have : ρ.set k (some (ln [])) = ρ := by
      apply List.ext_getElem?
      intro i
      rw [List.getElem?_set]
      split
      · rename_i h
        subst h
        rw [e1]
        have := (List.getElem?_eq_some_iff.mp e1).1
        simp [this]
      · rfl
    rw [this]
    rfl
  | m + 1, rest, [], ρ, S, h1, h2, h3, e1, e2 => by cases h2
  | m + 1, rest, d :: ds, ρ, S, h1, h2, h3, e1, e2 => by
    obtain ⟨j, S1, e, hj⟩ := pick_ix (n := rest.length) (by omega) (by omega) S
    have hv : v < ρ.length := (List.getElem?_eq_some_iff.mp e2).1
    have hk : k < ρ.length := (List.getElem?_eq_some_iff.mp e1).1
    have ek : (ρ.set v (some d))[k]? = some (some (ln rest)) := by rw [List.getElem?_set_ne (Ne.symm hkv)]; exact e1
    have en : nP k (cS m__law_pick (aC (cN dLen (aC (rd k) aN)) aN)) (ρ.set v (some d)) S = some (nm rest[j], (ρ.set v (some d)).set k (some (.list ((rest.map nm).eraseIdx j))), S1) := by
      refine nP_val (cS_val (aC1 (cN_val (aC1 (d := ln rest) ?_) (lot_ln rest).len)) e) ek (by rw [List.getElem?_map, List.getElem?_eq_getElem hj]; rfl) (by rw [List.length_map]; omega)
      unfold rd
      rw [ek]
    have ew : wipeR ((ρ.set v (some d)).set k (some (.list ((rest.map nm).eraseIdx j)))) [v] = ρ.set k (some (ln (rest.eraseIdx j))) := by
      show ((ρ.set v (some d)).set k _).set v none = _
      rw [List.set_comm _ _ (Ne.symm hkv), List.set_set, List.set_comm _ _ hkv]
      have : ρ.set v none = ρ := by
        apply List.ext_getElem?
        intro i
        rw [List.getElem?_set]
        split
        · rename_i h
          subst h
          rw [e2]
        · rfl
      rw [this, erase_map]
      rfl
    obtain ⟨ys, S', e3, hp⟩ := pop_comp hkv (rest0 := rest0) m (rest.eraseIdx j) ds (ρ.set k (some (ln (rest.eraseIdx j)))) S1 (by rw [List.length_eraseIdx]; split <;> omega) (by simpa using h2) (by omega) (by rw [List.getElem?_set_self hk]) (by rw [List.getElem?_set_ne hkv]; exact e2)
    refine ⟨rest[j] :: ys, S', ?_, (List.Perm.cons _ hp).trans (perm_erase rest j _ (List.getElem?_eq_getElem hj))⟩
    have es : sN v d ρ = some (ρ.set v (some d)) := by
      unfold sN
      first
        | rfl
        | rw [if_pos hv]
    rw [compN, es]
    dsimp only
    rw [show bT (ρ.set v (some d)) S = some (true, S) from rfl]
    dsimp only
    rw [en]
    dsimp only
    rw [ew, e3]
    dsimp only
    rw [List.set_set]
    rfl
/-! ### tests that draw -/
def Tot (f : FB) (ρ : Rho) : Prop := ∀ S, ∃ b S', f ρ S = some (b, S')
theorem Tot.and {f g : FB} {ρ : Rho} (h1 : Tot f ρ) (h2 : Tot g ρ) : Tot (fAnd f g) ρ := fun S => by
  obtain ⟨b, S1, e⟩ := h1 S
  unfold fAnd
  rw [e]
  cases b with
  | true => exact h2 S1
  | false => exact ⟨false, S1, rfl⟩
theorem Tot.or {f g : FB} {ρ : Rho} (h1 : Tot f ρ) (h2 : Tot g ρ) : Tot (fOr f g) ρ := fun S => by
  obtain ⟨b, S1, e⟩ := h1 S
  unfold fOr
  rw [e]
  cases b with
  | true => exact ⟨true, S1, rfl⟩
  | false => exact h2 S1
theorem Tot.not {f : FB} {ρ : Rho} (h1 : Tot f ρ) : Tot (fNot f) ρ := fun S => by
  obtain ⟨b, S1, e⟩ := h1 S
  exact ⟨!b, S1, by unfold fNot; rw [e]⟩
theorem Tot.val {f : FE} {ρ : Rho} (h : ∀ S, ∃ b S', f ρ S = some (.bool b, S')) : Tot (tst f) ρ := fun S => by
  obtain ⟨b, S1, e⟩ := h S
  exact ⟨b, S1, tst_val e⟩
/-- a drawn number against another -/
theorem Tot.pick {op : D → D → Option D} {m c : Int} {ρ : Rho} (hm : m < 2 ^ 30) (h : ∀ r : Int, ∃ b, op (.int r) (.int c) = some (.bool b)) : Tot (tst (b2 op (cS m__law_pick (aC (cst (.int m)) aN)) (cst (.int c)))) ρ := .val fun S => by
  obtain ⟨r, S1, e, _⟩ := pick_eq S hm
  obtain ⟨b, hb⟩ := h r
  exact ⟨b, S1, b2_val (S1 := S1) (a := .int r) (b := .int c) (cS_val rfl e) rfl hb⟩
theorem Tot.pure {f : FE} {ρ : Rho} {b : Bool} (h : ∀ S, f ρ S = some (.bool b, S)) : Tot (tst f) ρ := .val fun S => ⟨b, S, h S⟩
theorem gIf_tot {c : FB} {g h : FS} {ρ : Rho} {S : Src} (t : Tot c ρ) : ∃ S1, gIf c g h ρ S = g ρ S1 ∨ gIf c g h ρ S = h ρ S1 := by
  obtain ⟨b, S1, e⟩ := t S
  refine ⟨S1, ?_⟩
  cases b with
  | true => exact .inl (gIf_t e)
  | false => exact .inr (gIf_f e)
/-! ### sorted(dict(..)) of pairs -/
theorem keys_puts {α : Type} [DecidableEq α] {enc : α → D} (he : ∀ a b, PyData.eqv (enc a) (enc b) = decide (a = b)) (v : α → D) : ∀ (xs us : List α) (acc : List (D × D)), acc.map (·.1) = us.map enc → us.Nodup →
    ∃ us' : List α, (putsD acc (xs.map fun x => (enc x, v x))).map (·.1) = us'.map enc ∧ us'.Nodup ∧ (∀ x, x ∈ us' ↔ x ∈ us ∨ x ∈ xs) ∧ us'.length ≤ us.length + xs.length
  | [], us, acc, e, nd => ⟨us, e, nd, fun x => by simp, by simp⟩
  | x :: xs, us, acc, e, nd => by
    have hany : (acc.any fun p => PyData.eqv p.1 (enc x)) = decide (x ∈ us) := by
      have : ∀ (acc : List (D × D)) (us : List α), acc.map (·.1) = us.map enc → (acc.any fun p => PyData.eqv p.1 (enc x)) = decide (x ∈ us) := by
        intro acc
        induction acc with
        | nil =>
          intro us e
          cases us with
          | nil => simp
          | cons a b => simp at e
        | cons p acc ih =>
          intro us e
          cases us with
          | nil => simp at e
          | cons a us =>
            rw [List.map_cons, List.map_cons, List.cons.injEq] at e
            rw [List.any_cons, ih us e.2, e.1, he]
            by_cases h : a = x
            · simp [h]
            · have h' : ¬ x = a := fun q => h q.symm
              simp [h, h']
      exact this acc us e
    show ∃ us', (putsD (putD acc (enc x) (v x)) (xs.map fun x => (enc x, v x))).map (·.1) = _ ∧ _
    by_cases hx : x ∈ us
    · have e1 : (putD acc (enc x) (v x)).map (·.1) = us.map enc := by
        unfold putD
        rw [hany, if_pos (by simp [hx]), List.map_map, ← e]
        apply List.map_congr_left
        intro p _
        show (if _ then _ else _ : D × D).1 = p.1
        split <;> rfl
      obtain ⟨us', h1, h2, h3, h4⟩ := keys_puts he v xs us _ e1 nd
      refine ⟨us', h1, h2, fun y => ?_, by rw [List.length_cons]; omega⟩
      rw [h3, List.mem_cons]
      constructor
      · rintro (q | q)
        · exact .inl q
        · exact .inr (.inr q)
      · rintro (q | rfl | q)
        · exact .inl q
        · exact .inl hx
        · exact .inr q
    · have e1 : (putD acc (enc x) (v x)).map (·.1) = (us ++ [x]).map enc := by
        unfold putD
        rw [hany, if_neg (by simp [hx]), List.map_append, e, List.map_append]
        rfl
      obtain ⟨us', h1, h2, h3, h4⟩ := keys_puts he v xs (us ++ [x]) _ e1 (by
        rw [List.nodup_append]
        refine ⟨nd, by simp, fun a ha b hb => ?_⟩
        rw [List.mem_singleton] at hb
        subst hb
        exact fun e => hx (e ▸ ha))
      refine ⟨us', h1, h2, fun y => ?_, by rw [List.length_cons]; rw [List.length_append] at h4; simp at h4; omega⟩
      rw [h3, List.mem_append, List.mem_singleton, List.mem_cons, or_assoc]
theorem pairs_enc {α : Type} {enc : α → D} {v : α → D} : ∀ xs : List α, pairsD (xs.map fun x => .tuple [enc x, v x]) = some (xs.map fun x => (enc x, v x))
  | [] => rfl
  | x :: xs => by
    rw [List.map_cons, pairsD, pairs_enc xs]
    rfl
/-- ties, each once -/
theorem ties_once (fs : List (Nat × Nat)) : ∃ us : List (Nat × Nat), us.Nodup ∧ (∀ p, p ∈ us ↔ p ∈ fs) ∧ us.length ≤ fs.length ∧ ∃ kvs, dDictT [.list (fs.map fun p => .tuple [pr p, .int 0])] = some (.dict kvs) ∧ dSortedB [.dict kvs] = some (.list (us.map pr)) := by
  have hk : ((fs.map fun p => (pr p, PyData.int 0)).all fun p => isTk p.1) = true := by
    rw [List.all_map, List.all_eq_true]
    intro p _
    rfl
  obtain ⟨us, h1, h2, h3, h4⟩ := keys_puts (enc := pr) (fun a b => good_pr.eqv a b) (fun _ => .int 0) fs [] [] rfl .nil
  obtain ⟨ys, hp, hs⟩ := sort_pr us
  refine ⟨ys, hp.nodup_iff.mpr h2, fun p => by rw [hp.mem_iff, h3]; simp, by rw [hp.length_eq]; simpa using h4, putsD [(.none, .none)] (fs.map fun p => (pr p, .int 0)), ?_, ?_⟩
  · unfold dDictT
    dsimp only
    rw [pairs_enc fs]
    dsimp only
    rw [if_pos hk]
  · rw [puts_T hk]
    have : keysD ((PyData.none, PyData.none) :: putsD [] (fs.map fun p => (pr p, PyData.int 0))) = us.map pr := by
      unfold keysD
      rw [show isT ((PyData.none, PyData.none) :: putsD [] (fs.map fun p => (pr p, PyData.int 0))) = true from rfl, if_pos rfl, List.tail_cons, h1]
    show (if isT ((PyData.none, PyData.none) :: putsD [] (fs.map fun p => (pr p, PyData.int 0))) = true ∨ (keysD ((PyData.none, PyData.none) :: putsD [] (fs.map fun p => (pr p, PyData.int 0)))).all isStr = true then dSorted [.list (keysD ((PyData.none, PyData.none) :: putsD [] (fs.map fun p => (pr p, PyData.int 0))))] else none) = _
    rw [if_pos (.inl rfl), this, hs]
/-- names, each once, ascending -/
theorem names_once (fs : List Nat) {n : Nat} (hf : ∀ x ∈ fs, x < n) : ∃ kvs, dDictK [.list (fs.map fun p => .tuple [nm p, .int 0])] = some (.dict kvs) ∧ dSortedB [.dict kvs] = some (ln ((List.range n).filter fun x => decide (x ∈ fs))) := by
  have hk : ((fs.map fun p => (nm p, PyData.int 0)).all fun p => isKk p.1) = true := by
    rw [List.all_map, List.all_eq_true]
    intro p _
    rfl
  obtain ⟨us, h1, h2, h3, h4⟩ := keys_puts (enc := nm) (fun a b => good_nm.eqv a b) (fun _ => .int 0) fs [] [] rfl .nil
  have hperm : us.Perm ((List.range n).filter fun x => decide (x ∈ fs)) := by
    refine (List.perm_ext_iff_of_nodup h2 (List.nodup_range.sublist List.filter_sublist)).mpr fun x => ?_
    rw [List.mem_filter, decide_eq_true_eq, h3, List.mem_range]
    simp only [List.not_mem_nil, false_or]
    exact ⟨fun h => ⟨hf x h, h⟩, fun h => h.2⟩
  have hs := sort_nm hperm (List.pairwise_lt_range.sublist List.filter_sublist)
  refine ⟨putsD [] (fs.map fun p => (nm p, .int 0)), ?_, ?_⟩
  · unfold dDictK
    dsimp only
    rw [pairs_enc fs]
    dsimp only
    rw [if_pos hk]
  · have ek : isT (putsD [] (fs.map fun p => (nm p, PyData.int 0))) = false := by
      cases us with
      | nil =>
        have : putsD [] (fs.map fun p => (nm p, PyData.int 0)) = [] := by simpa using h1
        rw [this]
        rfl
      | cons a us =>
        cases q : putsD [] (fs.map fun p => (nm p, PyData.int 0)) with
        | nil => rfl
        | cons p r =>
          rw [q, List.map_cons, List.map_cons, List.cons.injEq] at h1
          obtain ⟨pk, pv⟩ := p
          have e := h1.1
          dsimp only at e
          subst e
          rfl
    have e2 : keysD (putsD [] (fs.map fun p => (nm p, PyData.int 0))) = us.map nm := by
      unfold keysD
      rw [ek, if_neg Bool.false_ne_true, h1]
    show (if isT (putsD [] (fs.map fun p => (nm p, PyData.int 0))) = true ∨ (keysD (putsD [] (fs.map fun p => (nm p, PyData.int 0)))).all isStr = true then dSorted [.list (keysD (putsD [] (fs.map fun p => (nm p, PyData.int 0))))] else none) = _
    have hall : (us.map nm).all isStr = true := by
      rw [List.all_map, List.all_eq_true]
      intro p _
      rfl
    rw [e2, if_pos (.inr hall), hs]
    rfl
/-! ### sorted posts -/
def PostOk (z : Post) : Prop := ∃ (k : Str) (a b : Int), z.2 = (.str k, .int a, .int b)
theorem post_alike {x y : Post} (hx : PostOk x) (hy : PostOk y) : W.alike (postD x) (postD y) = true := by
  obtain ⟨k, a, b, e⟩ := hx
  obtain ⟨k', a', b', e'⟩ := hy
  obtain ⟨i, r⟩ := x
  obtain ⟨j, r'⟩ := y
  dsimp only at e e'
  subst e e'
  simp [postD, nm, W.alike, W.alikeAll]
theorem post_le {x y : Post} (h : W.dataLe false id (postD x) (postD y) = true) : x.1 ≤ y.1 := by
  by_cases hxy : x.1 ≤ y.1
  · exact hxy
  · have h2 : W.dataLe false id (postD x) (postD y) = !W.dataLt (postD y) (postD x) := rfl
    rw [h2] at h
    have h3 : W.dataLt (postD y) (postD x) = true := by
      unfold postD W.dataLt
      rw [W.keyToks, W.keyToks]
      have ha : W.alike (nm y.1) (nm x.1) = true := by unfold nm; rw [W.alike]
      have := W.dataLt_cons ha [y.2.1, y.2.2.1, y.2.2.2] [x.2.1, x.2.2.1, x.2.2.2]
      have hne : PyData.eqv (nm y.1) (nm x.1) = false := by
        rw [good_nm.eqv]
        exact decide_eq_false (by omega)
      rw [hne, if_neg Bool.false_ne_true] at this
      have h4 := nm_le x.1 y.1
      have h5 : W.dataLe false id (nm x.1) (nm y.1) = !W.dataLt (nm y.1) (nm x.1) := rfl
      rw [h5, decide_eq_false hxy] at h4
      have h6 : W.dataLt (nm y.1) (nm x.1) = true := by simpa using h4
      rw [h6] at this
      first
        | exact this
        | simpa using this
    rw [h3] at h
    cases h
theorem sort_posts {zs : List Post} {n : Nat} (hz : ∀ z ∈ zs, PostOk z) (hp : (zs.map (·.1)).Perm (List.range n)) : ∃ zs' : List Post, dSorted [.list (zs.map postD)] = some (.list (zs'.map postD)) ∧ zs'.map (·.1) = List.range n ∧ zs'.Perm zs := by
  refine ⟨zs.mergeSort fun a b => W.dataLe false id (postD a) (postD b), ?_, ?_, List.mergeSort_perm zs _⟩
  · unfold dSorted
    dsimp only
    refine (if_pos ⟨fun d hd e he => ?_, .inl fun d hd => ?_, fun d hd => ?_⟩).trans ?_
    · have e1 : sortD (zs.map postD) = (zs.mergeSort fun a b => W.dataLe false id (postD a) (postD b)).map postD := (List.map_mergeSort (f := postD) (s := W.dataLe false id) fun a _ b _ => rfl).symm
      rw [e1]
    · obtain ⟨a, ha, rfl⟩ := List.mem_map.mp hd
      obtain ⟨b, hb, rfl⟩ := List.mem_map.mp he
      exact post_alike (hz a ha) (hz b hb)
    · obtain ⟨a, _, rfl⟩ := List.mem_map.mp hd
      rfl
    · obtain ⟨a, ha, rfl⟩ := List.mem_map.mp hd
      obtain ⟨k, x, y, e⟩ := hz a ha
      obtain ⟨i, r⟩ := a
      dsimp only at e
      subst e
      simp [postD, nm, PyData.depth, PyData.depthAll]
  · have htr : ∀ a b c : Post, W.dataLe false id (postD a) (postD b) = true → W.dataLe false id (postD b) (postD c) = true → W.dataLe false id (postD a) (postD c) = true := fun a b c h1 h2 => (W.sortLe_total (listOrd itemOrd) false fun z : Post => W.keyToks (postD z)).trans a b c h1 h2
    have hto : ∀ a b : Post, (W.dataLe false id (postD a) (postD b) || W.dataLe false id (postD b) (postD a)) = true := fun a b => by
      rw [Bool.or_eq_true]
      exact (W.sortLe_total (listOrd itemOrd) false fun z : Post => W.keyToks (postD z)).total a b
    have hs := List.pairwise_mergeSort (le := fun a b : Post => W.dataLe false id (postD a) (postD b)) htr hto zs
    have hm : (zs.mergeSort fun a b => W.dataLe false id (postD a) (postD b)).Pairwise fun a b => a.1 ≤ b.1 := hs.imp fun h => post_le h
    refine (perm_sorted ?_ List.pairwise_lt_range (List.pairwise_map.mpr hm)).symm
    exact hp.symm.trans ((List.mergeSort_perm zs _).symm.map _)
end LW

set_option Elab.async false
set_option linter.all false
set_option maxRecDepth 100000
set_option maxHeartbeats 4000000
namespace LW
open PySem PySem.Spec PyProof.Rows L2 TL
def topS (i : Nat) : Stmt := PySem.Challenge.pw_forcedarrows_k14_least_parts_by_all_lots.main.body.getD i (.Pass ⟨0, 0, 0, 0⟩)
abbrev s_names_of : Stmt := topS 1
abbrev s_known_ties : Stmt := topS 3
abbrev s_is_split : Stmt := topS 4
abbrev s_first_splitter : Stmt := topS 5
abbrev s_is_part : Stmt := topS 6
abbrev s_part_told : Stmt := topS 7
abbrev s_least_part : Stmt := topS 8
abbrev s_are_crossed : Stmt := topS 9
abbrev s__law_source : Stmt := topS 11
abbrev s__law_pick : Stmt := topS 12
abbrev s__law_of : Stmt := topS 13
abbrev s__law_posts : Stmt := topS 14
abbrev s__law_ties : Stmt := topS 15
abbrev s__law_is_tied : Stmt := topS 16
abbrev s__law_splitter : Stmt := topS 17
abbrev s__law_lots : Stmt := topS 18
abbrev s_law : Stmt := topS 19
theorem sc_names_of : FnScope ["web", "post"] ["web"] (defScope s_names_of) := ⟨rfl, rfl, rfl, by decide +kernel, rfl, by decide +kernel, by decide +kernel⟩
theorem ok_names_of {P : Program} {w : World} {K : PySem.W.Frag} {mg : Str → Option Value} {base : Heap} (F : DefG K mg "names_of" s_names_of ["web"])  (b_tuple : mg "tuple" = none) :
  CalG P w K mg base 1 "names_of" (spP 1 m_names_of) :=
  cal_P (kb := kdL []) (kd := kdL []) (kd' := kdL []) F sc_names_of rfl (by decide) fun f cdv A outer s H Z room gd =>
    (p_one (p_ret (ps_ret (f2s (x_ty c_tuple (by rfl) b_tuple bt_tuple (a_cons (f2s (x_lc rfl sc_names_of.nd (i_seq (x_sub room.units (x2s (xv 0 (pv 0))) (f2s x_int) (fun _ _ => rfl) (fun _ _ => rfl))) (blk_by (own := [("post", 1)]) (by kernel_rfl)) (not_in rfl) (sub_in rfl) (fun _ _ _ _ _ => (g_name (pg_name (i := 1) sc_names_of.nd rfl (by first | exact .inl rfl | exact .inr rfl)))) (fun _ _ _ _ _ => ts_nil) (fun _ _ _ _ _ => (x_sub room.units (x2s (xv 1 (pv 1))) (f2s x_int) (fun _ _ => rfl) (fun _ _ => rfl))))) a_nil))))))
theorem sc_known_ties : FnScope ["web", "found", "one", "other"] ["web"] (defScope s_known_ties) := ⟨rfl, rfl, rfl, by decide +kernel, rfl, by decide +kernel, by decide +kernel⟩
theorem ok_known_ties {P : Program} {w : World} {K : PySem.W.Frag} {mg : Str → Option Value} {base : Heap} (F : DefG K mg "known_ties" s_known_ties ["web"])   :
  CalG P w K mg base 1 "known_ties" (spP 1 m_known_ties) :=
  cal_P (kb := kdL []) (kd := kdL [1]) (kd' := kdL []) F sc_known_ties rfl (by decide) fun f cdv A outer s H Z room gd =>
    (p_cons (p_own (ps_set (i := 1) sc_known_ties.nd rfl (by first | exact .inl rfl | exact .inr rfl) x_newT))
    (p_cons (p_for PassesOwn.never rfl (i_seq (x_sub room.units (x2s (xv 0 (pv 0))) (f2s x_int) (fun _ _ => rfl) (fun _ _ => rfl))) (g_tup rfl (gs_cons (g_name (pg_name (i := 2) sc_known_ties.nd rfl (by first | exact .inl rfl | exact .inr rfl))) (gs_cons (g_name (pg_name (i := 3) sc_known_ties.nd rfl (by first | exact .inl rfl | exact .inr rfl))) gs_nil)) (sC_len (sC_len s0_len))) (p_one (p_m (ps_asg (f2x (x_tup (ax_cons (f2x x_bl) (ax_cons (f2x x_bl) ax_nil)))) (mg_tup rfl (ms_cons (mg_put (pg_sub (pv 1) (f2s (x_tup (ax_cons (xv 2 (pv 2)) (ax_cons (xv 3 (pv 3)) ax_nil)))) (pset_dic room.units))) (ms_cons (mg_put (pg_sub (pv 1) (f2s (x_tup (ax_cons (xv 3 (pv 3)) (ax_cons (xv 2 (pv 2)) ax_nil)))) (pset_dic room.units))) ms_nil)) (mC_len (mC_len m0_len)))))))
    (p_freeze (kd2 := kdL []) (kdL_sub rfl) (p_one (p_ret (ps_ret (x2s (xv 1 (pv 1)))))))))
theorem sc_is_split : FnScope ["known", "lot", "post", "first", "one"] ["known", "lot", "post"] (defScope s_is_split) := ⟨rfl, rfl, rfl, by decide +kernel, rfl, by decide +kernel, by decide +kernel⟩
theorem ok_is_split {P : Program} {w : World} {K : PySem.W.Frag} {mg : Str → Option Value} {base : Heap} (F : DefG K mg "is_split" s_is_split ["known", "lot", "post"])  (b_any : mg "any" = none) :
  CalG P w K mg base 1 "is_split" (spP 3 m_is_split) :=
  cal_P (kb := kdL []) (kd := kdL []) (kd' := kdL []) F sc_is_split rfl (by decide) fun f cdv A outer s H Z room gd =>
    (p_cons (p_set (asg_f2x (ps_set (i := 3) sc_is_split.nd rfl (by first | exact .inl rfl | exact .inr rfl) (x_cmp (o_inD room.units) (f2s (x_tup (ax_cons (xv 2 (pv 2)) (ax_cons (x_sub room.units (x2s (xv 1 (pv 1))) (f2s x_int) (fun _ _ => rfl) (fun _ _ => rfl)) ax_nil)))) (x2s (xv 0 (pv 0))) (by with_unfolding_all rfl)))))
    (p_one (p_ret (ps_ret (f2s (x_fn (c_any rfl) (by rfl) b_any bt_any (a_cons (f2s (x_lc rfl sc_is_split.nd (i_seq (xv 1 (pv 1))) (blk_by (own := [("one", 4)]) (by kernel_rfl)) (not_in rfl) (sub_in rfl) (fun _ _ _ _ _ => (g_name (pg_name (i := 4) sc_is_split.nd rfl (by first | exact .inl rfl | exact .inr rfl)))) (fun _ _ _ _ _ => ts_nil) (fun _ _ _ _ _ => (f2x (x_cmp (o_ne room.units) (f2s (x_cmp (o_inD room.units) (f2s (x_tup (ax_cons (xv 2 (pv 2)) (ax_cons (xv 4 (pv 4)) ax_nil)))) (x2s (xv 0 (pv 0))) (by with_unfolding_all rfl))) (x2s (xv 3 (pv 3))) (nomark _)))))) a_nil)))))))
theorem sc_first_splitter : FnScope ["known", "names", "lot", "post"] ["known", "names", "lot"] (defScope s_first_splitter) := ⟨rfl, rfl, rfl, by decide +kernel, rfl, by decide +kernel, by decide +kernel⟩
theorem ok_first_splitter {P : Program} {w : World} {K : PySem.W.Frag} {mg : Str → Option Value} {base : Heap} (F : DefG K mg "first_splitter" s_first_splitter ["known", "names", "lot"]) (c_is_split : CalG P w K mg base 1 "is_split" (spP 3 m_is_split))  :
  CalG P w K mg base 2 "first_splitter" (spP 3 m_first_splitter) :=
  cal_P (kb := kdL []) (kd := kdL []) (kd' := kdL []) F sc_first_splitter rfl (by decide) fun f cdv A outer s H Z room gd =>
    (p_cons (p_for PassesOwn.never rfl (i_seq (xv 1 (pv 1))) (g_name (pg_name (i := 3) sc_first_splitter.nd rfl (by first | exact .inl rfl | exact .inr rfl))) (p_one (p_if (PW.pt (w_and (t_cmp (o_notinD room.units) (x2s (xv 3 (pv 3))) (x2s (xv 2 (pv 2))) (by with_unfolding_all rfl)) (w_and1 (t_val (x2s (y_P c_is_split gd room (ax_cons (xv 0 (pv 0)) (ax_cons (xv 2 (pv 2)) (ax_cons (xv 3 (pv 3)) ax_nil))))))))) (p_one (p_ret (ps_ret (x2s (xv 3 (pv 3)))))) p_nil)))
    (p_one (p_ret (ps_ret (f2s x_non)))))
theorem sc_is_part : FnScope ["web", "lot"] ["web", "lot"] (defScope s_is_part) := ⟨rfl, rfl, rfl, by decide +kernel, rfl, by decide +kernel, by decide +kernel⟩
theorem ok_is_part {P : Program} {w : World} {K : PySem.W.Frag} {mg : Str → Option Value} {base : Heap} (F : DefG K mg "is_part" s_is_part ["web", "lot"]) (c_known_ties : CalG P w K mg base 1 "known_ties" (spP 1 m_known_ties)) (c_names_of : CalG P w K mg base 1 "names_of" (spP 1 m_names_of)) (c_first_splitter : CalG P w K mg base 2 "first_splitter" (spP 3 m_first_splitter))  :
  CalG P w K mg base 3 "is_part" (spP 2 m_is_part) :=
  cal_P (kb := kdL []) (kd := kdL []) (kd' := kdL []) F sc_is_part rfl (by decide) fun f cdv A outer s H Z room gd =>
    (p_one (p_ret (ps_ret (f2s (x_cmp o_is (x2s (y_P c_first_splitter gd room (ax_cons (y_P c_known_ties gd room (ax_cons (xv 0 (pv 0)) ax_nil)) (ax_cons (y_P c_names_of gd room (ax_cons (xv 0 (pv 0)) ax_nil)) (ax_cons (xv 1 (pv 1)) ax_nil))))) (f2s x_non) (nomark _))))))
theorem sc_part_told : FnScope ["web", "lot", "post"] ["web", "lot"] (defScope s_part_told) := ⟨rfl, rfl, rfl, by decide +kernel, rfl, by decide +kernel, by decide +kernel⟩
theorem ok_part_told {P : Program} {w : World} {K : PySem.W.Frag} {mg : Str → Option Value} {base : Heap} (F : DefG K mg "part_told" s_part_told ["web", "lot"]) (c_known_ties : CalG P w K mg base 1 "known_ties" (spP 1 m_known_ties)) (c_names_of : CalG P w K mg base 1 "names_of" (spP 1 m_names_of)) (c_first_splitter : CalG P w K mg base 2 "first_splitter" (spP 3 m_first_splitter))  :
  CalG P w K mg base 3 "part_told" (spP 2 m_part_told) :=
  cal_P (kb := kdL []) (kd := kdL []) (kd' := kdL []) F sc_part_told rfl (by decide) fun f cdv A outer s H Z room gd =>
    (p_cons (p_set (ps_set (i := 2) sc_part_told.nd rfl (by first | exact .inl rfl | exact .inr rfl) (y_P c_first_splitter gd room (ax_cons (y_P c_known_ties gd room (ax_cons (xv 0 (pv 0)) ax_nil)) (ax_cons (y_P c_names_of gd room (ax_cons (xv 0 (pv 0)) ax_nil)) (ax_cons (xv 1 (pv 1)) ax_nil))))))
    (p_one (p_ret (ps_ret (f2s (x_ifF (t_cmp o_is (x2s (xv 2 (pv 2))) (f2s x_non) (nomark _)) (x_tup (ax_cons (f2x x_str) ax_nil)) (x_tup (ax_cons (f2x x_str) (ax_cons (xv 2 (pv 2)) ax_nil)))))))))
theorem sc_least_part : FnScope ["web", "lot", "known", "names", "found", "post"] ["web", "lot"] (defScope s_least_part) := ⟨rfl, rfl, rfl, by decide +kernel, rfl, by decide +kernel, by decide +kernel⟩
theorem ok_least_part {P : Program} {w : World} {K : PySem.W.Frag} {mg : Str → Option Value} {base : Heap} (F : DefG K mg "least_part" s_least_part ["web", "lot"]) (c_names_of : CalG P w K mg base 1 "names_of" (spP 1 m_names_of)) (c_known_ties : CalG P w K mg base 1 "known_ties" (spP 1 m_known_ties)) (c_first_splitter : CalG P w K mg base 2 "first_splitter" (spP 3 m_first_splitter)) (b_list : mg "list" = none) (b_sorted : mg "sorted" = none) (b_tuple : mg "tuple" = none) :
  CalG P w K mg base 3 "least_part" (spP 2 m_least_part) :=
  cal_P (kb := kdL []) (kd := kdL [4]) (kd' := kdL []) F sc_least_part rfl (by decide) fun f cdv A outer s H Z room gd =>
    (p_cons (p_par (sto_par (ps_par (i := 2) (j := 3) rfl sc_least_part.nd rfl rfl (by decide) rfl rfl (m_cl (y_P c_known_ties gd room (ax_cons (xv 0 (pv 0)) ax_nil)) (m_cl (y_P c_names_of gd room (ax_cons (xv 0 (pv 0)) ax_nil)) m_nil)) rfl)))
    (p_cons (p_own (ps_set (i := 4) sc_least_part.nd rfl (by first | exact .inl rfl | exact .inr rfl) (x_ty (c_listA rfl) (by rfl) b_list bt_list (a_cons (x2s (xv 1 (pv 1))) a_nil))))
    (p_cons (p_set (asg_f2x (ps_set (i := 5) sc_least_part.nd rfl (by first | exact .inl rfl | exact .inr rfl) (y_I c_first_splitter gd room (a_cons (x2s (xv 2 (pv 2))) (a_cons (x2s (xv 3 (pv 3))) (a_cons (xo 4 (pv 4)) a_nil)))))))
    (p_cons (p_while 20 PassesOwn.never (t_cmp o_isnot (x2s (xv 5 (pv 5))) (f2s x_non) (nomark _)) (p_cons (p_app (ps_expr (pe_bm PySem.F.plainAttrs_list PySem.F.slot_list_append PySem.F.type_list_append mt_append (pv 4) (pa_cons (xv 5 (pv 5)) pa_nil))))
      (p_one (p_set (asg_f2x (ps_set (i := 5) sc_least_part.nd rfl (by first | exact .inl rfl | exact .inr rfl) (y_I c_first_splitter gd room (a_cons (x2s (xv 2 (pv 2))) (a_cons (x2s (xv 3 (pv 3))) (a_cons (xo 4 (pv 4)) a_nil))))))))))
    (p_freeze (kd2 := kdL []) (kdL_sub rfl) (p_one (p_ret (ps_ret (f2s (x_ty c_tuple (by rfl) b_tuple bt_tuple (a_cons (f2s (x_fn (c_sortedB room.units rfl) (by rfl) b_sorted bt_sorted (a_cons (x2s (xv 4 (pv 4))) a_nil))) a_nil)))))))))))
theorem sc_are_crossed : FnScope ["one", "other", "common", "post"] ["one", "other"] (defScope s_are_crossed) := ⟨rfl, rfl, rfl, by decide +kernel, rfl, by decide +kernel, by decide +kernel⟩
theorem ok_are_crossed {P : Program} {w : World} {K : PySem.W.Frag} {mg : Str → Option Value} {base : Heap} (F : DefG K mg "are_crossed" s_are_crossed ["one", "other"])  (b_len : mg "len" = none) (b_min : mg "min" = none) :
  CalG P w K mg base 1 "are_crossed" (spP 2 m_are_crossed) :=
  cal_P (kb := kdL []) (kd := kdL []) (kd' := kdL []) F sc_are_crossed rfl (by decide) fun f cdv A outer s H Z room gd =>
    (p_cons (p_set (asg_f2x (asg_lc (ps_setLc (i := 2) rfl sc_are_crossed.nd rfl rfl rfl (i_seq (xv 0 (pv 0))) (blk_by (own := [("post", 3)]) (by kernel_rfl)) (fun _ _ _ _ _ => (g_name (pg_name (i := 3) sc_are_crossed.nd rfl (by first | exact .inl rfl | exact .inr rfl)))) (fun _ _ _ _ _ => (ts_one (t_cmp (o_inD room.units) (x2s (xv 3 (pv 3))) (x2s (xv 1 (pv 1))) (by with_unfolding_all rfl)))) (fun _ _ _ _ _ => (xv 3 (pv 3)))) (not_in rfl) (sub_in rfl))))
    (p_one (p_ret (ps_ret (f2s (x_chain o_lt o_lt (f2s x_int) (f2s (x_fn c_len (by rfl) b_len bt_len (a_cons (x2s (xv 2 (pv 2))) a_nil))) (f2s (x_fn (c_minA room.units rfl) (by rfl) b_min bt_min (a_cons (f2s (x_fn c_len (by rfl) b_len bt_len (a_cons (x2s (xv 0 (pv 0))) a_nil))) (a_cons (f2s (x_fn c_len (by rfl) b_len bt_len (a_cons (x2s (xv 1 (pv 1))) a_nil))) a_nil))))))))))
theorem sc__law_source : FnScope ["script", "mixed", "cell"] ["script"] (defScope s__law_source) := ⟨rfl, rfl, rfl, by decide +kernel, rfl, by decide +kernel, by decide +kernel⟩
theorem ok__law_source {P : Program} {w : World} {K : PySem.W.Frag} {mg : Str → Option Value} {base : Heap} (F : DefG K mg "_law_source" s__law_source ["script"]) (b_abs : mg "abs" = none) (b_int : mg "int" = none) :
  CalG P w K mg base 1 "_law_source" (spSrc K 63) := by
  obtain ⟨f, fd, hF, h1, h2⟩ := F.ex
  refine ⟨f, fd, ["script"], fnG_of (k := 0) hF sc__law_source (fun vs H Q E ⟨a, ns, e, _⟩ => by rw [e]; rfl) (fun cdv A outer s H vs Q room gd h => ⟨_,
    pss_cons (ps_set (i := 1) sc__law_source.nd rfl (.inl rfl) pe_int)
    (pss_cons (ps_for PassesOwn.never rfl (pi_list (pv 0)) (pg_name (i := 2) sc__law_source.nd rfl (.inl rfl))
      (pss_one (ps_set (i := 1) sc__law_source.nd rfl (.inl rfl) (pe_op op_mod (pe_callTy call_int1 (by rfl) b_int bt_int (pa_cons (pe_op op_add (pe_op op_add (pe_op op_mul (pv 1) pe_int) (pe_op op_mul (pv 2) pe_int)) pe_int) pa_nil)) pe_int))))
    (pss_one (ps_ret (pe_disp (pps_cons pe_str (pe_revL (pe_lc rfl sc__law_source.nd (pi_list (pv 0)) (blk_by (own := [("cell", 2)]) (by kernel_rfl)) (fun _ _ _ _ _ => pg_name (i := 2) sc__law_source.nd rfl (.inl rfl)) (fun _ _ _ _ _ => pts_nil)
        (fun _ _ _ _ _ => pe_callB call_abs (by rfl) b_abs bt_abs (pa_cons (pv 2) pa_nil))))
      (pps_cons pe_str pe_int (pps_cons pe_str (pv 1) (pps_cons pe_str pe_int pps_nil)))) rfl rfl (fun z => nomatch z) (by decide))))), ?_⟩), h1, hF.kp, h2⟩
  obtain ⟨a, ns, rfl, sq, hl, bits, q⟩ := h
  exact source_run sq hl bits q
theorem sc__law_pick : FnScope ["source", "many", "left", "mixed"] ["source", "many"] (defScope s__law_pick) := ⟨rfl, rfl, rfl, by decide +kernel, rfl, by decide +kernel, by decide +kernel⟩
theorem ok__law_pick {P : Program} {w : World} {K : PySem.W.Frag} {mg : Str → Option Value} {base : Heap} (F : DefG K mg "_law_pick" s__law_pick ["source", "many"])  (b_len : mg "len" = none) (b_max : mg "max" = none) (b_int : mg "int" = none) :
  CalG P w K mg base 1 "_law_pick" (spS 1 m__law_pick) :=
  cal_S (kb := kdL []) (kd := kdL []) (kd' := kdL []) F sc__law_pick rfl (by decide) fun f cdv A outer s H Z x c room gd =>
    (p_cons (p_while 65 PassesOwn.never (PW.pt (w_and (t_cmp o_gt (x2s (xv 1 (pv 1))) (f2s x_int) (nomark _)) (w_and (t_cmp o_lt (f2s (x_sL ⟨_, rfl⟩ (pe_dget (hu_of room) (pv 0) pe_str (fun _ _ => rfl)))) (f2s x_int) (nomark _)) (w_and1 (t_cmp o_gt (f2s (x_sN ⟨_, rfl⟩ (pe_callB call_len_seq (by rfl) b_len PySem.boot_len (pa_cons (pe_dget (hu_of room) (pv 0) pe_str (fun _ _ => rfl)) pa_nil)))) (f2s x_int) (nomark _)))))) (p_one (p_sPull ⟨_, rfl⟩ (ps_dput (hu_of room) (pv 0) pe_str (pe_bm0 PySem.F.plainAttrs_list PySem.F.slot_list_pop PySem.F.type_list_pop mt_pop (pe_dget (hu_of room) (pv 0) pe_str (fun _ _ => rfl))) rfl))))
    (p_cons (p_set (asg_f2x (ps_set (i := 2) sc__law_pick.nd rfl (by first | exact .inl rfl | exact .inr rfl) (x_sL ⟨_, rfl⟩ (pe_dget (hu_of room) (pv 0) pe_str (fun _ _ => rfl))))))
    (p_cons (p_if (PW.pt (w_or (t_cmp o_lt (x2s (xv 1 (pv 1))) (f2s x_int) (nomark _)) (w_or1 (t_cmp o_gt (x2s (xv 2 (pv 2))) (f2s x_int) (nomark _))))) (p_cons (p_sL ⟨_, rfl⟩ (ps_dput (hu_of room) (pv 0) pe_str (f2x (x_bin o_fdiv (x2s (xv 2 (pv 2))) (f2s (x_fn (c_max rfl) (by rfl) b_max bt_max (a_cons (f2s x_int) (a_cons (x2s (xv 1 (pv 1))) a_nil)))))) rfl))
      (p_one (p_ret (ps_ret (f2s (x_bin o_mod (f2s (x_ty c_int (by rfl) b_int bt_int (a_cons (x2s (xv 2 (pv 2))) a_nil))) (f2s (x_fn (c_max rfl) (by rfl) b_max bt_max (a_cons (f2s x_int) (a_cons (x2s (xv 1 (pv 1))) a_nil)))))))))) p_nil)
    (p_cons (p_sT ⟨_, rfl⟩ (ps_dput (hu_of room) (pv 0) pe_str (f2x (x_bin o_add (f2s (x_sT ⟨_, rfl⟩ (pe_dget (hu_of room) (pv 0) pe_str (fun _ _ => rfl)))) (f2s x_int))) rfl))
    (p_cons (p_set (asg_f2x (ps_set (i := 3) sc__law_pick.nd rfl (by first | exact .inl rfl | exact .inr rfl) (x_bin o_mod (f2s (x_ty c_int (by rfl) b_int bt_int (a_cons (f2s (x_bin o_add (f2s (x_sM ⟨_, rfl⟩ (pe_dget (hu_of room) (pv 0) pe_str (fun _ _ => rfl)))) (f2s (x_bin o_mul (f2s (x_sT ⟨_, rfl⟩ (pe_dget (hu_of room) (pv 0) pe_str (fun _ _ => rfl)))) (f2s x_int))))) a_nil))) (f2s x_int)))))
    (p_cons (p_set (asg_f2x (ps_set (i := 3) sc__law_pick.nd rfl (by first | exact .inl rfl | exact .inr rfl) (x_bin o_mod (f2s (x_ty c_int (by rfl) b_int bt_int (a_cons (f2s (x_bin o_add (f2s (x_bin o_mul (x2s (xv 3 (pv 3))) (x2s (xv 3 (pv 3))))) (f2s (x_bin o_mul (f2s (x_sT ⟨_, rfl⟩ (pe_dget (hu_of room) (pv 0) pe_str (fun _ _ => rfl)))) (f2s x_int))))) a_nil))) (f2s x_int)))))
    (p_cons (p_sM ⟨_, rfl⟩ (ps_dput (hu_of room) (pv 0) pe_str (xv 3 (pv 3)) rfl))
    (p_one (p_ret (ps_ret (f2s (x_bin o_mod (f2s (x_ty c_int (by rfl) b_int bt_int (a_cons (f2s (x_bin o_fdiv (x2s (xv 3 (pv 3))) (f2s x_int))) a_nil))) (x2s (xv 1 (pv 1)))))))))))))))
theorem sc__law_of : FnScope ["source", "some"] ["source", "some"] (defScope s__law_of) := ⟨rfl, rfl, rfl, by decide +kernel, rfl, by decide +kernel, by decide +kernel⟩
theorem ok__law_of {P : Program} {w : World} {K : PySem.W.Frag} {mg : Str → Option Value} {base : Heap} (F : DefG K mg "_law_of" s__law_of ["source", "some"]) (c__law_pick : CalG P w K mg base 1 "_law_pick" (spS 1 m__law_pick)) (b_len : mg "len" = none) :
  CalG P w K mg base 2 "_law_of" (spS 1 m__law_of) :=
  cal_S (kb := kdL []) (kd := kdL []) (kd' := kdL []) F sc__law_of rfl (by decide) fun f cdv A outer s H Z x c room gd =>
    (p_one (p_ret (ps_ret (x2s (x_sub room.units (x2s (xv 1 (pv 1))) (x2s (y_S c__law_pick ⟨_, rfl⟩ gd room (as_cons (by intro z; cases z) (pv 0) (ax_cons (f2x (x_fn c_len (by rfl) b_len bt_len (a_cons (x2s (xv 1 (pv 1))) a_nil))) ax_nil)))) (fun _ _ => rfl) (fun _ _ => rfl))))))
theorem sc__law_posts : FnScope ["source", "names", "found", "name", "some", "a", "b", "kind"] ["source", "names"] (defScope s__law_posts) := ⟨rfl, rfl, rfl, by decide +kernel, rfl, by decide +kernel, by decide +kernel⟩
def g__law_posts : FS :=
  (gSeq (gOwn 2 (mkL aN))
  (gSeq (gFor (iE (rd 1)) (sN 3) (gSeq (gSet 4 (mkL (aC (mkT (aC (cst (.int 0)) (aC (cst (.int 1)) aN))) (aC (mkT (aC (cst (.int 0)) (aC (cst (.int 1)) aN))) (aC (mkT (aC (cst (.int 1)) (aC (cst (.int 1)) aN))) (aC (mkT (aC (cst (.int 0)) (aC (cst (.int 2)) aN))) (aC (mkT (aC (cst (.int 2)) (aC (cst (.int 1)) aN))) (aC (mkT (aC (cst (.int 1)) (aC (cst (.int 3)) aN))) (aC (mkT (aC (cst (.int 0)) (aC (cst (.int 3)) aN))) (aC (mkT (aC (cst (.int 3)) (aC (cst (.int 2)) aN))) aN))))))))))
    (gSeq (gUnp (sT (sC (sN 5) (sC (sN 6) s0))) (cS m__law_of (aC (rd 4) aN)))
    (gSeq (gSet 7 (ifE (tst (b2 dEq (mkT (aC (rd 5) (aC (rd 6) aN))) (mkT (aC (cst (.int 0)) (aC (cst (.int 1)) aN))))) (cst (.str "apart")) (cS m__law_of (aC (mkL (aC (cst (.str "apart")) (aC (cst (.str "tied")) aN))) aN))))
    (gApp 2 (mkT (aC (rd 3) (aC (rd 7) (aC (rd 5) (aC (rd 6) aN))))))))))
  (gRet (rd 2))))
def m__law_posts : List D → Src → Option (D × Src) := runS 8 g__law_posts
theorem ok__law_posts {P : Program} {w : World} {K : PySem.W.Frag} {mg : Str → Option Value} {base : Heap} (F : DefG K mg "_law_posts" s__law_posts ["source", "names"]) (c__law_of : CalG P w K mg base 2 "_law_of" (spS 1 m__law_of))  :
  CalG P w K mg base 3 "_law_posts" (spS 1 m__law_posts) :=
  cal_S (kb := kdL []) (kd := kdL [2]) (kd' := kdL []) F sc__law_posts rfl (by decide) fun f cdv A outer s H Z x c room gd =>
    (p_cons (p_own (ps_set (i := 2) sc__law_posts.nd rfl (by first | exact .inl rfl | exact .inr rfl) (x_lst ax_nil)))
    (p_cons (p_for PassesOwn.never rfl (i_seq (xv 1 (pv 1))) (g_name (pg_name (i := 3) sc__law_posts.nd rfl (by first | exact .inl rfl | exact .inr rfl))) (p_cons (p_set (asg_f2x (ps_set (i := 4) sc__law_posts.nd rfl (by first | exact .inl rfl | exact .inr rfl) (x_lst (ax_cons (f2x (x_tup (ax_cons (f2x x_int) (ax_cons (f2x x_int) ax_nil)))) (ax_cons (f2x (x_tup (ax_cons (f2x x_int) (ax_cons (f2x x_int) ax_nil)))) (ax_cons (f2x (x_tup (ax_cons (f2x x_int) (ax_cons (f2x x_int) ax_nil)))) (ax_cons (f2x (x_tup (ax_cons (f2x x_int) (ax_cons (f2x x_int) ax_nil)))) (ax_cons (f2x (x_tup (ax_cons (f2x x_int) (ax_cons (f2x x_int) ax_nil)))) (ax_cons (f2x (x_tup (ax_cons (f2x x_int) (ax_cons (f2x x_int) ax_nil)))) (ax_cons (f2x (x_tup (ax_cons (f2x x_int) (ax_cons (f2x x_int) ax_nil)))) (ax_cons (f2x (x_tup (ax_cons (f2x x_int) (ax_cons (f2x x_int) ax_nil)))) ax_nil))))))))))))
      (p_cons (p_unp (ps_asg (y_S c__law_of ⟨_, rfl⟩ gd room (as_cons (by intro z; cases z) (pv 0) (ax_cons (xv 4 (pv 4)) ax_nil))) (g_tup rfl (gs_cons (g_name (pg_name (i := 5) sc__law_posts.nd rfl (by first | exact .inl rfl | exact .inr rfl))) (gs_cons (g_name (pg_name (i := 6) sc__law_posts.nd rfl (by first | exact .inl rfl | exact .inr rfl))) gs_nil)) (sC_len (sC_len s0_len)))))
      (p_cons (p_set (ps_set (i := 7) sc__law_posts.nd rfl (by first | exact .inl rfl | exact .inr rfl) (x_if (t_cmp (o_eq room.units) (f2s (x_tup (ax_cons (xv 5 (pv 5)) (ax_cons (xv 6 (pv 6)) ax_nil)))) (f2s (x_tup (ax_cons (f2x x_int) (ax_cons (f2x x_int) ax_nil)))) (nomark _)) (f2x x_str) (y_S c__law_of ⟨_, rfl⟩ gd room (as_cons (by intro z; cases z) (pv 0) (ax_cons (f2x (x_lst (ax_cons (f2x x_str) (ax_cons (f2x x_str) ax_nil)))) ax_nil))))))
      (p_one (p_app (ps_expr (pe_bm PySem.F.plainAttrs_list PySem.F.slot_list_append PySem.F.type_list_append mt_append (pv 2) (pa_cons (f2x (x_tup (ax_cons (xv 3 (pv 3)) (ax_cons (xv 7 (pv 7)) (ax_cons (xv 5 (pv 5)) (ax_cons (xv 6 (pv 6)) ax_nil)))))) pa_nil)))))))))
    (p_freeze (kd2 := kdL []) (kdL_sub rfl) (p_one (p_ret (ps_ret (x2s (xv 2 (pv 2)))))))))
theorem sc__law_ties : FnScope ["source", "names", "way", "found", "k", "late", "one", "tie"] ["source", "names"] (defScope s__law_ties) := ⟨rfl, rfl, rfl, by decide +kernel, rfl, by decide +kernel, by decide +kernel⟩
def g__law_ties : FS :=
  (gSeq (gPar [2, 3] (aC (cS m__law_pick (aC (cst (.int 5)) aN)) (aM (mkL aN) aN)))
  (gSeq (gFor (iEn (aC (rd 1) aN)) (sT (sC (sN 4) (sC (sN 5) s0))) (gSeq (gFor (iE (sl3 (rd 1) pN (pS (rd 4)))) (sN 6) (gIf (fOr (fAnd (tst (b2 dEq (rd 2) (cst (.int 0)))) (tst (b2 dGt (cS m__law_pick (aC (cst (.int 4)) aN)) (cst (.int 0))))) (fAnd (tst (b2 dInD (rd 2) (mkT (aC (cst (.int 1)) (aC (cst (.int 2)) aN))))) (tst (b2 dEq (cS m__law_pick (aC (cst (.int 2)) aN)) (cst (.int 0)))))) (gApp 3 (mkT (aC (rd 6) (aC (rd 5) aN)))) gN))
    (gSeq (gIf (fAnd (tst (b2 dEq (rd 2) (cst (.int 3)))) (tst (b2 dGt (rd 4) (cst (.int 0))))) (gApp 3 (mkT (aC (b2 dSub2 (rd 1) (b2 dSub (rd 4) (cst (.int 1)))) (aC (rd 5) aN)))) gN)
    (gIf (fAnd (tst (b2 dEq (rd 2) (cst (.int 4)))) (fAnd (tst (b2 dGt (rd 4) (cst (.int 0)))) (tst (b2 dGt (cS m__law_pick (aC (cst (.int 3)) aN)) (cst (.int 0)))))) (gOwn 3 (b2 dAdd (rd 3) (lcE [6] (iE (sl3 (rd 1) pN (pS (rd 4)))) (sN 6) bT (mkT (aC (rd 6) (aC (rd 5) aN)))))) gN))))
  (gRet (lcE [7] (iE (rd 3)) (sN 7) bT (cN dTuple (aC (cN dSortedB (aC (rd 7) aN)) aN))))))
def m__law_ties : List D → Src → Option (D × Src) := runS 8 g__law_ties
theorem ok__law_ties {P : Program} {w : World} {K : PySem.W.Frag} {mg : Str → Option Value} {base : Heap} (F : DefG K mg "_law_ties" s__law_ties ["source", "names"]) (c__law_pick : CalG P w K mg base 1 "_law_pick" (spS 1 m__law_pick)) (b_enumerate : mg "enumerate" = none) (b_sorted : mg "sorted" = none) (b_tuple : mg "tuple" = none) :
  CalG P w K mg base 2 "_law_ties" (spS 1 m__law_ties) :=
  cal_S (kb := kdL []) (kd := kdL [3]) (kd' := kdL []) F sc__law_ties rfl (by decide) fun f cdv A outer s H Z x c room gd =>
    (p_cons (p_par (sto_par (ps_par (i := 2) (j := 3) rfl sc__law_ties.nd rfl rfl (by decide) rfl rfl (m_cl (y_S c__law_pick ⟨_, rfl⟩ gd room (as_cons (by intro z; cases z) (pv 0) (ax_cons (f2x x_int) ax_nil))) (m_own (x_lst ax_nil) m_nil)) rfl)))
    (p_cons (p_for PassesOwn.never rfl (i_enum (by rfl) b_enumerate (ax_cons (xv 1 (pv 1)) ax_nil)) (g_tup rfl (gs_cons (g_name (pg_name (i := 4) sc__law_ties.nd rfl (by first | exact .inl rfl | exact .inr rfl))) (gs_cons (g_name (pg_name (i := 5) sc__law_ties.nd rfl (by first | exact .inl rfl | exact .inr rfl))) gs_nil)) (sC_len (sC_len s0_len))) (p_cons (p_for PassesOwn.never rfl (i_seq (f2x (x_sl (x2s (xv 1 (pv 1))) p_none (p_some (x2s (xv 4 (pv 4))))))) (g_name (pg_name (i := 6) sc__law_ties.nd rfl (by first | exact .inl rfl | exact .inr rfl))) (p_one (p_if (PW.pt (w_or (PW.pt (w_and (t_cmp (o_eq room.units) (x2s (xv 2 (pv 2))) (f2s x_int) (nomark _)) (w_and1 (t_cmp o_gt (x2s (y_S c__law_pick ⟨_, rfl⟩ gd room (as_cons (by intro z; cases z) (pv 0) (ax_cons (f2x x_int) ax_nil)))) (f2s x_int) (nomark _))))) (w_or1 (PW.pt (w_and (t_cmp (o_inD room.units) (x2s (xv 2 (pv 2))) (f2s (x_tup (ax_cons (f2x x_int) (ax_cons (f2x x_int) ax_nil)))) (by with_unfolding_all rfl)) (w_and1 (t_cmp (o_eq room.units) (x2s (y_S c__law_pick ⟨_, rfl⟩ gd room (as_cons (by intro z; cases z) (pv 0) (ax_cons (f2x x_int) ax_nil)))) (f2s x_int) (nomark _)))))))) (p_one (p_app (ps_expr (pe_bm PySem.F.plainAttrs_list PySem.F.slot_list_append PySem.F.type_list_append mt_append (pv 3) (pa_cons (f2x (x_tup (ax_cons (xv 6 (pv 6)) (ax_cons (xv 5 (pv 5)) ax_nil)))) pa_nil))))) p_nil)))
      (p_cons (p_if (PW.pt (w_and (t_cmp (o_eq room.units) (x2s (xv 2 (pv 2))) (f2s x_int) (nomark _)) (w_and1 (t_cmp o_gt (x2s (xv 4 (pv 4))) (f2s x_int) (nomark _))))) (p_one (p_app (ps_expr (pe_bm PySem.F.plainAttrs_list PySem.F.slot_list_append PySem.F.type_list_append mt_append (pv 3) (pa_cons (f2x (x_tup (ax_cons (x_sub room.units (x2s (xv 1 (pv 1))) (f2s (x_bin o_sub (x2s (xv 4 (pv 4))) (f2s x_int))) (fun _ _ => rfl) (fun _ _ => rfl)) (ax_cons (xv 5 (pv 5)) ax_nil)))) pa_nil))))) p_nil)
      (p_one (p_if (PW.pt (w_and (t_cmp (o_eq room.units) (x2s (xv 2 (pv 2))) (f2s x_int) (nomark _)) (w_and (t_cmp o_gt (x2s (xv 4 (pv 4))) (f2s x_int) (nomark _)) (w_and1 (t_cmp o_gt (x2s (y_S c__law_pick ⟨_, rfl⟩ gd room (as_cons (by intro z; cases z) (pv 0) (ax_cons (f2x x_int) ax_nil)))) (f2s x_int) (nomark _)))))) (p_one (p_own (ps_set (i := 3) sc__law_ties.nd rfl (by first | exact .inl rfl | exact .inr rfl) (x_bin o_add (xo 3 (pv 3)) (f2s (x_lc rfl sc__law_ties.nd (i_seq (f2x (x_sl (x2s (xv 1 (pv 1))) p_none (p_some (x2s (xv 4 (pv 4))))))) (blk_by (own := [("one", 6)]) (by kernel_rfl)) (not_in rfl) (sub_in rfl) (fun _ _ _ _ _ => (g_name (pg_name (i := 6) sc__law_ties.nd rfl (by first | exact .inl rfl | exact .inr rfl)))) (fun _ _ _ _ _ => ts_nil) (fun _ _ _ _ _ => (f2x (x_tup (ax_cons (xv 6 (pv 6)) (ax_cons (xv 5 (pv 5)) ax_nil))))))))))) p_nil)))))
    (p_freeze (kd2 := kdL []) (kdL_sub rfl) (p_one (p_ret (ps_ret (f2s (x_lc rfl sc__law_ties.nd (i_seq (xv 3 (pv 3))) (blk_by (own := [("tie", 7)]) (by kernel_rfl)) (not_in rfl) (sub_in rfl) (fun _ _ _ _ _ => (g_name (pg_name (i := 7) sc__law_ties.nd rfl (by first | exact .inl rfl | exact .inr rfl)))) (fun _ _ _ _ _ => ts_nil) (fun _ _ _ _ _ => (f2x (x_ty c_tuple (by rfl) b_tuple bt_tuple (a_cons (f2s (x_fn (c_sortedB room.units rfl) (by rfl) b_sorted bt_sorted (a_cons (x2s (xv 7 (pv 7))) a_nil))) a_nil))))))))))))
theorem sc__law_is_tied : FnScope ["ties", "one", "other"] ["ties", "one", "other"] (defScope s__law_is_tied) := ⟨rfl, rfl, rfl, by decide +kernel, rfl, by decide +kernel, by decide +kernel⟩
def g__law_is_tied : FS :=
  (gRet (b2 dInD (mkT (aC (cN dMinA (aC (rd 1) (aC (rd 2) aN))) (aC (cN dMaxA (aC (rd 1) (aC (rd 2) aN))) aN))) (rd 0)))
def m__law_is_tied : List D → Option D := runP 3 g__law_is_tied
theorem ok__law_is_tied {P : Program} {w : World} {K : PySem.W.Frag} {mg : Str → Option Value} {base : Heap} (F : DefG K mg "_law_is_tied" s__law_is_tied ["ties", "one", "other"])  (b_max : mg "max" = none) (b_min : mg "min" = none) :
  CalG P w K mg base 1 "_law_is_tied" (spP 3 m__law_is_tied) :=
  cal_P (kb := kdL []) (kd := kdL []) (kd' := kdL []) F sc__law_is_tied rfl (by decide) fun f cdv A outer s H Z room gd =>
    (p_one (p_ret (ps_ret (f2s (x_cmp (o_inD room.units) (f2s (x_tup (ax_cons (f2x (x_fn (c_minA room.units rfl) (by rfl) b_min bt_min (a_cons (x2s (xv 1 (pv 1))) (a_cons (x2s (xv 2 (pv 2))) a_nil)))) (ax_cons (f2x (x_fn (c_maxA room.units rfl) (by rfl) b_max bt_max (a_cons (x2s (xv 1 (pv 1))) (a_cons (x2s (xv 2 (pv 2))) a_nil)))) ax_nil)))) (x2s (xv 0 (pv 0))) (by with_unfolding_all rfl))))))
theorem sc__law_splitter : FnScope ["names", "ties", "lot", "post", "looks", "one"] ["names", "ties", "lot"] (defScope s__law_splitter) := ⟨rfl, rfl, rfl, by decide +kernel, rfl, by decide +kernel, by decide +kernel⟩
def g__law_splitter : FS :=
  (gSeq (gFor (iE (cN dSortedB (aC (rd 0) aN))) (sN 3) (gSeq (gSet 4 (lcE [5] (iE (rd 2)) (sN 5) bT (cN m__law_is_tied (aC (rd 1) (aC (rd 3) (aC (rd 5) aN))))))
    (gIf (fAnd (tst (b2 dNotInD (rd 3) (rd 2))) (fAnd (tst (b2 dInD (cst (.bool true)) (rd 4))) (tst (b2 dInD (cst (.bool false)) (rd 4))))) (gRet (rd 3)) gN)))
  (gRet (cst .none)))
def m__law_splitter : List D → Option D := runP 6 g__law_splitter
theorem ok__law_splitter {P : Program} {w : World} {K : PySem.W.Frag} {mg : Str → Option Value} {base : Heap} (F : DefG K mg "_law_splitter" s__law_splitter ["names", "ties", "lot"]) (c__law_is_tied : CalG P w K mg base 1 "_law_is_tied" (spP 3 m__law_is_tied)) (b_sorted : mg "sorted" = none) :
  CalG P w K mg base 2 "_law_splitter" (spP 3 m__law_splitter) :=
  cal_P (kb := kdL []) (kd := kdL []) (kd' := kdL []) F sc__law_splitter rfl (by decide) fun f cdv A outer s H Z room gd =>
    (p_cons (p_for PassesOwn.never rfl (i_seq (f2x (x_fn (c_sortedB room.units rfl) (by rfl) b_sorted bt_sorted (a_cons (x2s (xv 0 (pv 0))) a_nil)))) (g_name (pg_name (i := 3) sc__law_splitter.nd rfl (by first | exact .inl rfl | exact .inr rfl))) (p_cons (p_set (asg_f2x (asg_lc (ps_setLc (i := 4) rfl sc__law_splitter.nd rfl rfl rfl (i_seq (xv 2 (pv 2))) (blk_by (own := [("one", 5)]) (by kernel_rfl)) (fun _ _ _ _ _ => (g_name (pg_name (i := 5) sc__law_splitter.nd rfl (by first | exact .inl rfl | exact .inr rfl)))) (fun _ _ _ _ _ => ts_nil) (fun _ _ _ _ _ => (y_P c__law_is_tied gd room (ax_cons (xv 1 (pv 1)) (ax_cons (xv 3 (pv 3)) (ax_cons (xv 5 (pv 5)) ax_nil)))))) (not_in rfl) (sub_in rfl))))
      (p_one (p_if (PW.pt (w_and (t_cmp (o_notinD room.units) (x2s (xv 3 (pv 3))) (x2s (xv 2 (pv 2))) (by with_unfolding_all rfl)) (w_and (t_cmp (o_inD room.units) (f2s x_bl) (x2s (xv 4 (pv 4))) (by with_unfolding_all rfl)) (w_and1 (t_cmp (o_inD room.units) (f2s x_bl) (x2s (xv 4 (pv 4))) (by with_unfolding_all rfl)))))) (p_one (p_ret (ps_ret (x2s (xv 3 (pv 3)))))) p_nil))))
    (p_one (p_ret (ps_ret (f2s x_non)))))
theorem sc__law_lots : FnScope ["names", "found", "name", "lot"] ["names"] (defScope s__law_lots) := ⟨rfl, rfl, rfl, by decide +kernel, rfl, by decide +kernel, by decide +kernel⟩
def g__law_lots : FS :=
  (gSeq (gSet 1 (mkL (aC (mkT aN) aN)))
  (gSeq (gFor (iE (cN dSortedB (aC (rd 0) aN))) (sN 2) (gSet 1 (b2 dAdd (rd 1) (lcE [3] (iE (rd 1)) (sN 3) bT (b2 dAdd (rd 3) (mkT (aC (rd 2) aN)))))))
  (gRet (lcE [3] (iE (rd 1)) (sN 3) (tst (b2 dNe (rd 3) (mkT aN))) (rd 3)))))
def m__law_lots : List D → Option D := runP 4 g__law_lots
theorem ok__law_lots {P : Program} {w : World} {K : PySem.W.Frag} {mg : Str → Option Value} {base : Heap} (F : DefG K mg "_law_lots" s__law_lots ["names"])  (b_sorted : mg "sorted" = none) :
  CalG P w K mg base 1 "_law_lots" (spP 1 m__law_lots) :=
  cal_P (kb := kdL []) (kd := kdL []) (kd' := kdL []) F sc__law_lots rfl (by decide) fun f cdv A outer s H Z room gd =>
    (p_cons (p_set (asg_f2x (ps_set (i := 1) sc__law_lots.nd rfl (by first | exact .inl rfl | exact .inr rfl) (x_lst (ax_cons (f2x (x_tup ax_nil)) ax_nil)))))
    (p_cons (p_for PassesOwn.never rfl (i_seq (f2x (x_fn (c_sortedB room.units rfl) (by rfl) b_sorted bt_sorted (a_cons (x2s (xv 0 (pv 0))) a_nil)))) (g_name (pg_name (i := 2) sc__law_lots.nd rfl (by first | exact .inl rfl | exact .inr rfl))) (p_one (p_set (asg_f2x (ps_set (i := 1) sc__law_lots.nd rfl (by first | exact .inl rfl | exact .inr rfl) (x_bin o_add (x2s (xv 1 (pv 1))) (f2s (x_lc rfl sc__law_lots.nd (i_seq (xv 1 (pv 1))) (blk_by (own := [("lot", 3)]) (by kernel_rfl)) (not_in rfl) (sub_in rfl) (fun _ _ _ _ _ => (g_name (pg_name (i := 3) sc__law_lots.nd rfl (by first | exact .inl rfl | exact .inr rfl)))) (fun _ _ _ _ _ => ts_nil) (fun _ _ _ _ _ => (f2x (x_bin o_add (x2s (xv 3 (pv 3))) (f2s (x_tup (ax_cons (xv 2 (pv 2)) ax_nil))))))))))))))
    (p_one (p_ret (ps_ret (f2s (x_lc rfl sc__law_lots.nd (i_seq (xv 1 (pv 1))) (blk_by (own := [("lot", 3)]) (by kernel_rfl)) (not_in rfl) (sub_in rfl) (fun _ _ _ _ _ => (g_name (pg_name (i := 3) sc__law_lots.nd rfl (by first | exact .inl rfl | exact .inr rfl)))) (fun _ _ _ _ _ => (ts_one (t_cmp (o_ne room.units) (x2s (xv 3 (pv 3))) (f2s (x_tup ax_nil)) (nomark _)))) (fun _ _ _ _ _ => (xv 3 (pv 3))))))))))
theorem sc_law : FnScope ["script", "source", "line", "names", "lap", "ties", "tie", "web", "lots", "parts", "lot", "late", "k", "post", "due", "told", "around", "part", "one", "other", "common", "alone", "some"] ["script"] (defScope s_law) := ⟨rfl, rfl, rfl, by decide +kernel, rfl, by decide +kernel, by decide +kernel⟩
def g_law : FS :=
  (gSeq (gPar [2, 3] (aM (sl3 (mkL (aC (cst (.str "a")) (aC (cst (.str "b")) (aC (cst (.str "c")) (aC (cst (.str "d")) (aC (cst (.str "e")) (aC (cst (.str "f")) (aC (cst (.str "g")) aN)))))))) pN (pS (b2 dAdd (cst (.int 1)) (cS m__law_pick (aC (cst (.int 7)) aN))))) (aM (mkL aN) aN)))
  (gSeq (gFor (iR1 (aC (cN dLen (aC (rd 2) aN)) aN)) (sN 4) (gAppN 3 (nP 2 (cS m__law_pick (aC (cN dLen (aC (rd 2) aN)) aN)))))
  (gSeq (gSet 5 (cN dSortedB (aC (cN dDictT (aC (lcE [6] (iE (cS m__law_ties (aC (rd 3) aN))) (sN 6) bT (mkT (aC (rd 6) (aC (cst (.int 0)) aN)))) aN)) aN)))
  (gSeq (gSet 7 (mkT (aC (cN dTuple (aC (cN dSortedB (aC (cS m__law_posts (aC (rd 3) aN)) aN)) aN)) (aC (cN dTuple (aC (rd 5) aN)) aN))))
  (gSeq (gSet 8 (cN m__law_lots (aC (rd 3) aN)))
  (gSeq (gSet 9 (lcE [10] (iE (rd 8)) (sN 10) (tst (b2 dIsN (cN m__law_splitter (aC (rd 3) (aC (rd 5) (aC (rd 10) aN)))) (cst .none))) (rd 10)))
  (gThaw [10] (gSeq (gFor (iR1 (aC (cst (.int 6)) aN)) (sN 4) (gSeq (gOwn 10 (cN dListA (aC (cS m__law_of (aC (rd 8) aN)) aN)))
    (gSeq (gSetN 11 (lcN [12] (iR1 (aC (cN dLen (aC (rd 10) aN)) aN)) (sN 12) bT (nP 10 (cS m__law_pick (aC (cN dLen (aC (rd 10) aN)) aN)))))
    (gSeq (gSet 13 (cN m__law_splitter (aC (rd 3) (aC (rd 5) (aC (rd 11) aN)))))
    (gSeq (gSet 14 (ifE (tst (b2 dIsN (rd 13) (cst .none))) (mkT (aC (cst (.str "part")) aN)) (mkT (aC (cst (.str "split")) (aC (rd 13) aN)))))
    (gSeq (gIf (fOr (tst (b2 dNe (cN dRepr (aC (cN m_part_told (aC (rd 7) (aC (rd 11) aN))) aN)) (cN dRepr (aC (rd 14) aN)))) (tst (b2 dNe (cN dRepr (aC (cN m_is_part (aC (rd 7) (aC (cN dTuple (aC (rd 11) aN)) aN))) aN)) (cN dRepr (aC (b2 dIsN (rd 13) (cst .none)) aN))))) (gRet (cst (.bool false))) gN)
    (gSeq (gSet 15 (cN m_least_part (aC (rd 7) (aC (rd 11) aN))))
    (gSeq (gSet 16 (lcE [17] (iE (rd 9)) (sN 17) (tst (b2 dEq (lcE [18] (iE (rd 11)) (sN 18) (tst (b2 dNotInD (rd 18) (rd 17))) (rd 18)) (mkL aN))) (rd 17)))
    (gSeq (gIf (fOr (tst (b2 dNotInD (rd 15) (rd 16))) (tst (b2 dNe (lcE [17] (iE (rd 16)) (sN 17) (tst (b2 dNe (lcE [18] (iE (rd 15)) (sN 18) (tst (b2 dNotInD (rd 18) (rd 17))) (rd 18)) (mkL aN))) (rd 17)) (mkL aN)))) (gRet (cst (.bool false))) gN)
    (gIf (tst (b2 dNe (cN dRepr (aC (cN m_least_part (aC (rd 7) (aC (rd 15) aN))) aN)) (cN dRepr (aC (rd 15) aN)))) (gRet (cst (.bool false))) gN))))))))))
  (gSeq (gPar [18, 19] (aC (cS m__law_of (aC (rd 9) aN)) (aC (cS m__law_of (aC (rd 9) aN)) aN)))
  (gSeq (gSet 20 (cN dTuple (aC (lcE [13] (iE (rd 18)) (sN 13) (tst (b2 dInD (rd 13) (rd 19))) (rd 13)) aN)))
  (gSeq (gSet 21 (lcE [10] (iE (mkT (aC (rd 18) (aC (rd 19) aN)))) (sN 10) bT (cN dTuple (aC (lcE [13] (iE (rd 10)) (sN 13) (tst (b2 dNotInD (rd 13) (rd 20))) (rd 13)) aN))))
  (gSeq (gIf (tst (b2 dNe (cN dRepr (aC (cN m_are_crossed (aC (rd 18) (aC (rd 19) aN))) aN)) (cN dRepr (aC (bE (fAnd (tst (b2 dNe (rd 20) (mkT aN))) (fAnd (tst (b2 dNe (b2 dSub2 (rd 21) (cst (.int 0))) (mkT aN))) (tst (b2 dNe (b2 dSub2 (rd 21) (cst (.int 1))) (mkT aN)))))) aN)))) (gRet (cst (.bool false))) gN)
  (gSeq (gIf (tst (b2 dNe (rd 20) (mkT aN))) (gSeq (gSet 22 (mkL (aC (rd 20) (aC (cN dTuple (aC (cN dSortedB (aC (cN dDictK (aC (lcE [13] (iE (b2 dAdd (rd 18) (rd 19))) (sN 13) bT (mkT (aC (rd 13) (aC (cst (.int 0)) aN)))) aN)) aN)) aN)) aN))))
    (gSeq (gIf (tst (cN m_are_crossed (aC (rd 18) (aC (rd 19) aN)))) (gSet 22 (b2 dAdd (b2 dAdd (rd 22) (rd 21)) (mkL (aC (cN dTuple (aC (cN dSortedB (aC (b2 dAdd (b2 dSub2 (rd 21) (cst (.int 0))) (b2 dSub2 (rd 21) (cst (.int 1)))) aN)) aN)) aN)))) gN)
    (gIf (tst (b2 dNe (lcE [10] (iE (rd 22)) (sN 10) (fNot (tst (cN m_is_part (aC (rd 7) (aC (rd 10) aN))))) (rd 10)) (mkL aN))) (gRet (cst (.bool false))) gN))) gN)
  (gRet (b2 dEq (lcE [17] (iE (rd 9)) (sN 17) (fNot (tst (cN m_is_part (aC (rd 7) (aC (rd 17) aN))))) (rd 17)) (mkL aN))))))))))))))))
theorem ok_law {P : Program} {w : World} {K : PySem.W.Frag} {mg : Str → Option Value} {base : Heap} {f : Addr} {fd : FuncData} (F : Fun K "law" "law" s_law f fd) (c__law_source : CalG P w K mg base 1 "_law_source" (spSrc K 63)) (c__law_pick : CalG P w K mg base 1 "_law_pick" (spS 1 m__law_pick)) (c__law_ties : CalG P w K mg base 2 "_law_ties" (spS 1 m__law_ties)) (c__law_posts : CalG P w K mg base 3 "_law_posts" (spS 1 m__law_posts)) (c__law_lots : CalG P w K mg base 1 "_law_lots" (spP 1 m__law_lots)) (c__law_splitter : CalG P w K mg base 2 "_law_splitter" (spP 3 m__law_splitter)) (c__law_of : CalG P w K mg base 2 "_law_of" (spS 1 m__law_of)) (c_part_told : CalG P w K mg base 3 "part_told" (spP 2 m_part_told)) (c_is_part : CalG P w K mg base 3 "is_part" (spP 2 m_is_part)) (c_least_part : CalG P w K mg base 3 "least_part" (spP 2 m_least_part)) (c_are_crossed : CalG P w K mg base 1 "are_crossed" (spP 2 m_are_crossed)) (b_len : mg "len" = none) (b_range : mg "range" = none) (b_dict : mg "dict" = none) (b_sorted : mg "sorted" = none) (b_tuple : mg "tuple" = none) (b_list : mg "list" = none) (b_repr : mg "repr" = none)
  (tr : ∀ T : Src, ∃ T', g_law (List.replicate 23 none) T = some (.rt (.bool true) T')) : FnG P w K mg base 5 f fd ["script"] (spLaw K 63) :=
  cal_L (kb := kdL []) (kd := kdL [2, 3]) (kd' := kdL []) F sc_law rfl (by decide) (fun cdv A outer s H room gd => ps_set (i := 1) sc_law.nd rfl (by first | exact .inl rfl | exact .inr rfl) (y_src c__law_source gd room (pa_cons (pv 0) pa_nil)))
   (fun cdv A outer s H H1 Z x c room gd =>
    (p_cons (p_par (is := [2, 3]) (sto_cell (n := 2) (ps_asg (pe_tup (m_own (x_sl (f2s (x_lst (ax_cons (f2x x_str) (ax_cons (f2x x_str) (ax_cons (f2x x_str) (ax_cons (f2x x_str) (ax_cons (f2x x_str) (ax_cons (f2x x_str) (ax_cons (f2x x_str) ax_nil))))))))) p_none (p_some (f2s (x_bin o_add (f2s x_int) (x2s (y_S c__law_pick ⟨_, rfl⟩ gd room (as_cons (by intro z; cases z) (pv 1) (ax_cons (f2x x_int) ax_nil)))))))) (m_own (x_lst ax_nil) m_nil))) (pg_tup rfl (pgs_cons (pg_name (i := 2) sc_law.nd rfl (by first | exact .inl rfl | exact .inr rfl)) (pgs_cons (pg_name (i := 3) sc_law.nd rfl (by first | exact .inl rfl | exact .inr rfl)) pgs_nil)) rfl rfl))))
    (p_cons (p_for PassesOwn.never rfl (i_rng1 (by rfl) b_range (a_cons (f2s (x_fn c_len (by rfl) b_len bt_len (a_cons (xo 2 (pv 2)) a_nil))) a_nil)) (g_name (pg_name (i := 4) sc_law.nd rfl (by first | exact .inl rfl | exact .inr rfl))) (p_one (p_appN (ps_expr (pe_bm PySem.F.plainAttrs_list PySem.F.slot_list_append PySem.F.type_list_append mt_append (pv 3) (pa_cons (n_popAt (i := 2) (pe_bm PySem.F.plainAttrs_list PySem.F.slot_list_pop PySem.F.type_list_pop mt_popAt (pv 2) (pa_cons (x2s (y_S c__law_pick ⟨_, rfl⟩ gd room (as_cons (by intro z; cases z) (pv 1) (ax_cons (f2x (x_fn c_len (by rfl) b_len bt_len (a_cons (xo 2 (pv 2)) a_nil))) ax_nil)))) pa_nil))) pa_nil))) nP_hl)))
    (p_freeze (kd2 := kdL []) (kdL_sub rfl) (p_cons (p_set (asg_f2x (ps_set (i := 5) sc_law.nd rfl (by first | exact .inl rfl | exact .inr rfl) (x_fn (c_sortedB room.units rfl) (by rfl) b_sorted bt_sorted (a_cons (f2s (x_ty (c_dictT room.units rfl) (by rfl) b_dict bt_dict (a_cons (f2s (x_lc rfl sc_law.nd (i_seq (y_S c__law_ties ⟨_, rfl⟩ gd room (as_cons (by intro z; cases z) (pv 1) (ax_cons (xv 3 (pv 3)) ax_nil)))) (blk_by (own := [("tie", 6)]) (by kernel_rfl)) (not_in rfl) (sub_in rfl) (fun _ _ _ _ _ => (g_name (pg_name (i := 6) sc_law.nd rfl (by first | exact .inl rfl | exact .inr rfl)))) (fun _ _ _ _ _ => ts_nil) (fun _ _ _ _ _ => (f2x (x_tup (ax_cons (xv 6 (pv 6)) (ax_cons (f2x x_int) ax_nil))))))) a_nil))) a_nil)))))
    (p_cons (p_set (asg_f2x (ps_set (i := 7) sc_law.nd rfl (by first | exact .inl rfl | exact .inr rfl) (x_tup (ax_cons (f2x (x_ty c_tuple (by rfl) b_tuple bt_tuple (a_cons (f2s (x_fn (c_sortedB room.units rfl) (by rfl) b_sorted bt_sorted (a_cons (x2s (y_S c__law_posts ⟨_, rfl⟩ gd room (as_cons (by intro z; cases z) (pv 1) (ax_cons (xv 3 (pv 3)) ax_nil)))) a_nil))) a_nil))) (ax_cons (f2x (x_ty c_tuple (by rfl) b_tuple bt_tuple (a_cons (x2s (xv 5 (pv 5))) a_nil))) ax_nil))))))
    (p_cons (p_set (ps_set (i := 8) sc_law.nd rfl (by first | exact .inl rfl | exact .inr rfl) (y_P c__law_lots gd room (ax_cons (xv 3 (pv 3)) ax_nil))))
    (p_cons (p_set (asg_f2x (asg_lc (ps_setLc (i := 9) rfl sc_law.nd rfl rfl rfl (i_seq (xv 8 (pv 8))) (blk_by (own := [("lot", 10)]) (by kernel_rfl)) (fun _ _ _ _ _ => (g_name (pg_name (i := 10) sc_law.nd rfl (by first | exact .inl rfl | exact .inr rfl)))) (fun _ _ _ _ _ => (ts_one (t_cmp o_is (x2s (y_P c__law_splitter gd room (ax_cons (xv 3 (pv 3)) (ax_cons (xv 5 (pv 5)) (ax_cons (xv 10 (pv 10)) ax_nil))))) (f2s x_non) (nomark _)))) (fun _ _ _ _ _ => (xv 10 (pv 10)))) (not_in rfl) (sub_in rfl))))
    (p_thaw (kd := kdL []) (kd2 := kdL ([] ++ [10])) (is := [10]) thaw_sub thaw_sup (p_cons (p_for PassesOwn.never rfl (i_rng1 (by rfl) b_range (a_cons (f2s x_int) a_nil)) (g_name (pg_name (i := 4) sc_law.nd rfl (by first | exact .inl rfl | exact .inr rfl))) (p_cons (p_own (ps_set (i := 10) sc_law.nd rfl (by first | exact .inl rfl | exact .inr rfl) (x_ty (c_listA rfl) (by rfl) b_list bt_list (a_cons (x2s (y_S c__law_of ⟨_, rfl⟩ gd room (as_cons (by intro z; cases z) (pv 1) (ax_cons (xv 8 (pv 8)) ax_nil)))) a_nil))))
      (p_cons (p_setN (ps_set (i := 11) sc_law.nd rfl (by first | exact .inl rfl | exact .inr rfl) (x_lcN rfl sc_law.nd (i_rng1 (by rfl) b_range (a_cons (f2s (x_fn c_len (by rfl) b_len bt_len (a_cons (xo 10 (pv 10)) a_nil))) a_nil)) (blk_by (own := [("k", 12)]) (by kernel_rfl)) (not_in rfl) (sub_in rfl) (fun _ _ _ _ _ => (g_name (pg_name (i := 12) sc_law.nd rfl (by first | exact .inl rfl | exact .inr rfl)))) (fun _ _ _ _ _ => ts_nil) (fun _ _ _ _ _ => (n_popAt (i := 10) (pe_bm PySem.F.plainAttrs_list PySem.F.slot_list_pop PySem.F.type_list_pop mt_popAt (pv 10) (pa_cons (x2s (y_S c__law_pick ⟨_, rfl⟩ gd room (as_cons (by intro z; cases z) (pv 1) (ax_cons (f2x (x_fn c_len (by rfl) b_len bt_len (a_cons (xo 10 (pv 10)) a_nil))) ax_nil)))) pa_nil)))))))
      (p_cons (p_set (ps_set (i := 13) sc_law.nd rfl (by first | exact .inl rfl | exact .inr rfl) (y_P c__law_splitter gd room (ax_cons (xv 3 (pv 3)) (ax_cons (xv 5 (pv 5)) (ax_cons (xv 11 (pv 11)) ax_nil))))))
      (p_cons (p_set (asg_f2x (ps_set (i := 14) sc_law.nd rfl (by first | exact .inl rfl | exact .inr rfl) (x_ifF (t_cmp o_is (x2s (xv 13 (pv 13))) (f2s x_non) (nomark _)) (x_tup (ax_cons (f2x x_str) ax_nil)) (x_tup (ax_cons (f2x x_str) (ax_cons (xv 13 (pv 13)) ax_nil)))))))
      (p_cons (p_if (PW.pt (w_or (t_cmp (o_ne room.units) (f2s (x_fn (c_repr gd room.units) (by rfl) b_repr bt_repr (a_cons (x2s (y_P c_part_told gd room (ax_cons (xv 7 (pv 7)) (ax_cons (xv 11 (pv 11)) ax_nil)))) a_nil))) (f2s (x_fn (c_repr gd room.units) (by rfl) b_repr bt_repr (a_cons (x2s (xv 14 (pv 14))) a_nil))) (nomark _)) (w_or1 (t_cmp (o_ne room.units) (f2s (x_fn (c_repr gd room.units) (by rfl) b_repr bt_repr (a_cons (x2s (y_P c_is_part gd room (ax_cons (xv 7 (pv 7)) (ax_cons (f2x (x_ty c_tuple (by rfl) b_tuple bt_tuple (a_cons (x2s (xv 11 (pv 11))) a_nil))) ax_nil)))) a_nil))) (f2s (x_fn (c_repr gd room.units) (by rfl) b_repr bt_repr (a_cons (f2s (x_cmp o_is (x2s (xv 13 (pv 13))) (f2s x_non) (nomark _))) a_nil))) (nomark _))))) (p_one (p_ret (ps_ret (f2s x_bl)))) p_nil)
      (p_cons (p_set (ps_set (i := 15) sc_law.nd rfl (by first | exact .inl rfl | exact .inr rfl) (y_P c_least_part gd room (ax_cons (xv 7 (pv 7)) (ax_cons (xv 11 (pv 11)) ax_nil)))))
      (p_cons (p_set (asg_f2x (asg_lc (ps_setLc (i := 16) rfl sc_law.nd rfl rfl rfl (i_seq (xv 9 (pv 9))) (blk_by (own := [("part", 17)]) (by kernel_rfl)) (fun _ _ _ _ _ => (g_name (pg_name (i := 17) sc_law.nd rfl (by first | exact .inl rfl | exact .inr rfl)))) (fun _ _ _ _ _ => (ts_one (t_cmp (o_eq room.units) (f2s (x_lc rfl sc_law.nd (i_seq (xv 11 (pv 11))) (blk_by (own := [("one", 18)]) (by kernel_rfl)) (not_in rfl) (sub_in rfl) (fun _ _ _ _ _ => (g_name (pg_name (i := 18) sc_law.nd rfl (by first | exact .inl rfl | exact .inr rfl)))) (fun _ _ _ _ _ => (ts_one (t_cmp (o_notinD room.units) (x2s (xv 18 (pv 18))) (x2s (xv 17 (pv 17))) (by with_unfolding_all rfl)))) (fun _ _ _ _ _ => (xv 18 (pv 18))))) (f2s (x_lst ax_nil)) (nomark _)))) (fun _ _ _ _ _ => (xv 17 (pv 17)))) (not_in rfl) (sub_in rfl))))
      (p_cons (p_if (PW.pt (w_or (t_cmp (o_notinD room.units) (x2s (xv 15 (pv 15))) (x2s (xv 16 (pv 16))) (by with_unfolding_all rfl)) (w_or1 (t_cmp (o_ne room.units) (f2s (x_lc rfl sc_law.nd (i_seq (xv 16 (pv 16))) (blk_by (own := [("part", 17)]) (by kernel_rfl)) (not_in rfl) (sub_in rfl) (fun _ _ _ _ _ => (g_name (pg_name (i := 17) sc_law.nd rfl (by first | exact .inl rfl | exact .inr rfl)))) (fun _ _ _ _ _ => (ts_one (t_cmp (o_ne room.units) (f2s (x_lc rfl sc_law.nd (i_seq (xv 15 (pv 15))) (blk_by (own := [("one", 18)]) (by kernel_rfl)) (not_in rfl) (sub_in rfl) (fun _ _ _ _ _ => (g_name (pg_name (i := 18) sc_law.nd rfl (by first | exact .inl rfl | exact .inr rfl)))) (fun _ _ _ _ _ => (ts_one (t_cmp (o_notinD room.units) (x2s (xv 18 (pv 18))) (x2s (xv 17 (pv 17))) (by with_unfolding_all rfl)))) (fun _ _ _ _ _ => (xv 18 (pv 18))))) (f2s (x_lst ax_nil)) (nomark _)))) (fun _ _ _ _ _ => (xv 17 (pv 17))))) (f2s (x_lst ax_nil)) (nomark _))))) (p_one (p_ret (ps_ret (f2s x_bl)))) p_nil)
      (p_one (p_if (t_cmp (o_ne room.units) (f2s (x_fn (c_repr gd room.units) (by rfl) b_repr bt_repr (a_cons (x2s (y_P c_least_part gd room (ax_cons (xv 7 (pv 7)) (ax_cons (xv 15 (pv 15)) ax_nil)))) a_nil))) (f2s (x_fn (c_repr gd room.units) (by rfl) b_repr bt_repr (a_cons (x2s (xv 15 (pv 15))) a_nil))) (nomark _)) (p_one (p_ret (ps_ret (f2s x_bl)))) p_nil)))))))))))
    (p_freeze (kd2 := kdL []) (kdL_sub rfl) (p_cons (p_par (is := [18, 19]) (sto_cell (n := 2) (ps_asg (pe_tup (m_cl (y_S c__law_of ⟨_, rfl⟩ gd room (as_cons (by intro z; cases z) (pv 1) (ax_cons (xv 9 (pv 9)) ax_nil))) (m_cl (y_S c__law_of ⟨_, rfl⟩ gd room (as_cons (by intro z; cases z) (pv 1) (ax_cons (xv 9 (pv 9)) ax_nil))) m_nil))) (pg_tup rfl (pgs_cons (pg_name (i := 18) sc_law.nd rfl (by first | exact .inl rfl | exact .inr rfl)) (pgs_cons (pg_name (i := 19) sc_law.nd rfl (by first | exact .inl rfl | exact .inr rfl)) pgs_nil)) rfl rfl))))
    (p_cons (p_set (asg_f2x (ps_set (i := 20) sc_law.nd rfl (by first | exact .inl rfl | exact .inr rfl) (x_ty c_tuple (by rfl) b_tuple bt_tuple (a_cons (f2s (x_lc rfl sc_law.nd (i_seq (xv 18 (pv 18))) (blk_by (own := [("post", 13)]) (by kernel_rfl)) (not_in rfl) (sub_in rfl) (fun _ _ _ _ _ => (g_name (pg_name (i := 13) sc_law.nd rfl (by first | exact .inl rfl | exact .inr rfl)))) (fun _ _ _ _ _ => (ts_one (t_cmp (o_inD room.units) (x2s (xv 13 (pv 13))) (x2s (xv 19 (pv 19))) (by with_unfolding_all rfl)))) (fun _ _ _ _ _ => (xv 13 (pv 13))))) a_nil)))))
    (p_cons (p_set (asg_f2x (asg_lc (ps_setLc (i := 21) rfl sc_law.nd rfl rfl rfl (i_seq (f2x (x_tup (ax_cons (xv 18 (pv 18)) (ax_cons (xv 19 (pv 19)) ax_nil))))) (blk_by (own := [("lot", 10)]) (by kernel_rfl)) (fun _ _ _ _ _ => (g_name (pg_name (i := 10) sc_law.nd rfl (by first | exact .inl rfl | exact .inr rfl)))) (fun _ _ _ _ _ => ts_nil) (fun _ _ _ _ _ => (f2x (x_ty c_tuple (by rfl) b_tuple bt_tuple (a_cons (f2s (x_lc rfl sc_law.nd (i_seq (xv 10 (pv 10))) (blk_by (own := [("post", 13)]) (by kernel_rfl)) (not_in rfl) (sub_in rfl) (fun _ _ _ _ _ => (g_name (pg_name (i := 13) sc_law.nd rfl (by first | exact .inl rfl | exact .inr rfl)))) (fun _ _ _ _ _ => (ts_one (t_cmp (o_notinD room.units) (x2s (xv 13 (pv 13))) (x2s (xv 20 (pv 20))) (by with_unfolding_all rfl)))) (fun _ _ _ _ _ => (xv 13 (pv 13))))) a_nil))))) (not_in rfl) (sub_in rfl))))
    (p_cons (p_if (t_cmp (o_ne room.units) (f2s (x_fn (c_repr gd room.units) (by rfl) b_repr bt_repr (a_cons (x2s (y_P c_are_crossed gd room (ax_cons (xv 18 (pv 18)) (ax_cons (xv 19 (pv 19)) ax_nil)))) a_nil))) (f2s (x_fn (c_repr gd room.units) (by rfl) b_repr bt_repr (a_cons (f2s (v_and (v_of (x_cmp (o_ne room.units) (x2s (xv 20 (pv 20))) (f2s (x_tup ax_nil)) (nomark _))) (v_and (v_of (x_cmp (o_ne room.units) (x2s (x_sub room.units (x2s (xv 21 (pv 21))) (f2s x_int) (fun _ _ => rfl) (fun _ _ => rfl))) (f2s (x_tup ax_nil)) (nomark _))) (v_one (v_of (x_cmp (o_ne room.units) (x2s (x_sub room.units (x2s (xv 21 (pv 21))) (f2s x_int) (fun _ _ => rfl) (fun _ _ => rfl))) (f2s (x_tup ax_nil)) (nomark _))))))) a_nil))) (nomark _)) (p_one (p_ret (ps_ret (f2s x_bl)))) p_nil)
    (p_cons (p_if (t_cmp (o_ne room.units) (x2s (xv 20 (pv 20))) (f2s (x_tup ax_nil)) (nomark _)) (p_cons (p_set (asg_f2x (ps_set (i := 22) sc_law.nd rfl (by first | exact .inl rfl | exact .inr rfl) (x_lst (ax_cons (xv 20 (pv 20)) (ax_cons (f2x (x_ty c_tuple (by rfl) b_tuple bt_tuple (a_cons (f2s (x_fn (c_sortedB room.units rfl) (by rfl) b_sorted bt_sorted (a_cons (f2s (x_ty (c_dictK rfl) (by rfl) b_dict bt_dict (a_cons (f2s (x_lc rfl sc_law.nd (i_seq (f2x (x_bin o_add (x2s (xv 18 (pv 18))) (x2s (xv 19 (pv 19)))))) (blk_by (own := [("post", 13)]) (by kernel_rfl)) (not_in rfl) (sub_in rfl) (fun _ _ _ _ _ => (g_name (pg_name (i := 13) sc_law.nd rfl (by first | exact .inl rfl | exact .inr rfl)))) (fun _ _ _ _ _ => ts_nil) (fun _ _ _ _ _ => (f2x (x_tup (ax_cons (xv 13 (pv 13)) (ax_cons (f2x x_int) ax_nil))))))) a_nil))) a_nil))) a_nil))) ax_nil))))))
      (p_cons (p_if (t_val (x2s (y_P c_are_crossed gd room (ax_cons (xv 18 (pv 18)) (ax_cons (xv 19 (pv 19)) ax_nil))))) (p_one (p_set (asg_f2x (ps_set (i := 22) sc_law.nd rfl (by first | exact .inl rfl | exact .inr rfl) (x_bin o_add (f2s (x_bin o_add (x2s (xv 22 (pv 22))) (x2s (xv 21 (pv 21))))) (f2s (x_lst (ax_cons (f2x (x_ty c_tuple (by rfl) b_tuple bt_tuple (a_cons (f2s (x_fn (c_sortedB room.units rfl) (by rfl) b_sorted bt_sorted (a_cons (f2s (x_bin o_add (x2s (x_sub room.units (x2s (xv 21 (pv 21))) (f2s x_int) (fun _ _ => rfl) (fun _ _ => rfl))) (x2s (x_sub room.units (x2s (xv 21 (pv 21))) (f2s x_int) (fun _ _ => rfl) (fun _ _ => rfl))))) a_nil))) a_nil))) ax_nil)))))))) p_nil)
      (p_one (p_if (t_cmp (o_ne room.units) (f2s (x_lc rfl sc_law.nd (i_seq (xv 22 (pv 22))) (blk_by (own := [("lot", 10)]) (by kernel_rfl)) (not_in rfl) (sub_in rfl) (fun _ _ _ _ _ => (g_name (pg_name (i := 10) sc_law.nd rfl (by first | exact .inl rfl | exact .inr rfl)))) (fun _ _ _ _ _ => (ts_one (t_not (t_val (x2s (y_P c_is_part gd room (ax_cons (xv 7 (pv 7)) (ax_cons (xv 10 (pv 10)) ax_nil)))))))) (fun _ _ _ _ _ => (xv 10 (pv 10))))) (f2s (x_lst ax_nil)) (nomark _)) (p_one (p_ret (ps_ret (f2s x_bl)))) p_nil)))) p_nil)
    (p_one (p_ret (ps_ret (f2s (x_cmp (o_eq room.units) (f2s (x_lc rfl sc_law.nd (i_seq (xv 9 (pv 9))) (blk_by (own := [("part", 17)]) (by kernel_rfl)) (not_in rfl) (sub_in rfl) (fun _ _ _ _ _ => (g_name (pg_name (i := 17) sc_law.nd rfl (by first | exact .inl rfl | exact .inr rfl)))) (fun _ _ _ _ _ => (ts_one (t_not (t_val (x2s (y_P c_is_part gd room (ax_cons (xv 7 (pv 7)) (ax_cons (xv 17 (pv 17)) ax_nil)))))))) (fun _ _ _ _ _ => (xv 17 (pv 17))))) (f2s (x_lst ax_nil)) (nomark _)))))))))))))))))))))) tr
end LW

set_option Elab.async false
set_option linter.all false
set_option maxRecDepth 100000
set_option maxHeartbeats 4000000
namespace LW
open PySem PySem.Spec PyProof.Rows L2 TL

/-! ### drawn ties -/
structure NamesOk (n : Nat) (ns : List Nat) : Prop where
  perm : ns.Perm (List.range n)
  few : n ≤ 7
theorem NamesOk.len {n : Nat} {ns : List Nat} (h : NamesOk n ns) : ns.length = n := by rw [h.perm.length_eq, List.length_range]
theorem NamesOk.nd {n : Nat} {ns : List Nat} (h : NamesOk n ns) : ns.Nodup := h.perm.nodup_iff.mpr List.nodup_range
theorem NamesOk.lt {n : Nat} {ns : List Nat} (h : NamesOk n ns) {x : Nat} (hx : x ∈ ns) : x < n := List.mem_range.mp (h.perm.mem_iff.mp hx)
def FsOk (n : Nat) (fs : List (Nat × Nat)) : Prop := ∀ p ∈ fs, p.1 ≠ p.2 ∧ p.1 < n ∧ p.2 < n
/-- the state of _law_ties -/
def ty (ns : List Nat) (w : Int) (fs : List (Nat × Nat)) (a b c d : OD) : Rho := [none, some (ln ns), some (.int w), some (lp fs), a, b, c, d]
theorem appT {ns : List Nat} {w : Int} {fs : List (Nat × Nat)} {i j : Nat} {f : FE} {a b c d : OD} {S : Src} (hl : fs.length ≤ 1000) (ef : f (ty ns w fs a b c d) S = some (pr (i, j), S)) : gApp 3 f (ty ns w fs a b c d) S = some (.nx (ty ns w (fs ++ [(i, j)]) a b c d) S) := by
  have := gApp_val (i := 3) (f := f) (ρ := ty ns w fs a b c d) (S := S) (S1 := S) (d := pr (i, j)) (ds := fs.map pr) ef rfl (by rw [List.length_map]; omega)
  rw [this]
  unfold ty lp
  rw [List.map_append]
  rfl
def tInner : FB := fOr (fAnd (tst (b2 dEq (rd 2) (cst (.int 0)))) (tst (b2 dGt (cS m__law_pick (aC (cst (.int 4)) aN)) (cst (.int 0))))) (fAnd (tst (b2 dInD (rd 2) (mkT (aC (cst (.int 1)) (aC (cst (.int 2)) aN))))) (tst (b2 dEq (cS m__law_pick (aC (cst (.int 2)) aN)) (cst (.int 0)))))
theorem eqI {i j : Int} : dEq (.int i) (.int j) = some (.bool (decide (i = j))) := good_int.eq
theorem tInner_tot {ns : List Nat} {w : Int} {fs : List (Nat × Nat)} {a b c d : OD} : Tot tInner (ty ns w fs a b c d) :=
  .or (.and (.pure fun S => b2_val (S1 := S) (a := .int w) (b := .int 0) rfl rfl eqI) (.pick (by decide) fun r => ⟨_, rfl⟩))
    (.and (.pure fun S => b2_val (S1 := S) (a := .int w) (b := .tuple [.int 1, .int 2]) rfl rfl (good_int.tup (xs := [(1 : Int), 2]) (inst := inferInstance))) (.pick (by decide) fun r => ⟨_, eqI⟩))
theorem FsOk.app {n : Nat} {fs gs : List (Nat × Nat)} (h1 : FsOk n fs) (h2 : FsOk n gs) : FsOk n (fs ++ gs) := fun p hp => (List.mem_append.mp hp).elim (h1 p) (h2 p)
theorem ties_in {n : Nat} {ns : List Nat} {w : Int} {k late : Nat} (xs : List Nat) (hx : ∀ x ∈ xs, x ≠ late ∧ x < n) (hlt : late < n) {fs : List (Nat × Nat)} (hf : FsOk n fs) {a c d : OD} {S : Src} (hl : fs.length + xs.length ≤ 1000) :
    ∃ ρ' S', forL (sN 6) (gIf tInner (gApp 3 (mkT (aC (rd 6) (aC (rd 5) aN)))) gN) (xs.map nm) (ty ns w fs a (some (nm late)) c d) S = some (.nx ρ' S') ∧
      ∃ fs' c', ρ' = ty ns w fs' a (some (nm late)) c' d ∧ fs'.length ≤ fs.length + xs.length ∧ FsOk n fs' := by
  obtain ⟨ρ', S', h1, fs', c', h2, h3, h4⟩ := forL_inv (st := sN 6) (g := gIf tInner (gApp 3 (mkT (aC (rd 6) (aC (rd 5) aN)))) gN) (ds := xs.map nm)
    (fun i ρ S => ∃ fs' c', ρ = ty ns w fs' a (some (nm late)) c' d ∧ fs'.length ≤ fs.length + i ∧ FsOk n fs') (fun i x ρ S hd ⟨fs', c', e1, e2, e3⟩ => by
      subst e1
      rw [List.getElem?_map] at hd
      cases hj : xs[i]? with
      | none => rw [hj] at hd; cases hd
      | some j =>
        rw [hj] at hd
        cases hd
        have hi : i < xs.length := (List.getElem?_eq_some_iff.mp hj).1
        have hjx := hx j (List.mem_of_getElem? hj)
        refine ⟨ty ns w fs' a (some (nm late)) (some (nm j)) d, rfl, ?_⟩
        obtain ⟨S1, e | e⟩ := gIf_tot (c := tInner) (g := gApp 3 (mkT (aC (rd 6) (aC (rd 5) aN)))) (h := gN) (ρ := ty ns w fs' a (some (nm late)) (some (nm j)) d) (S := S) tInner_tot
        · exact ⟨_, S1, e.trans (appT (i := j) (j := late) (by omega) rfl), _, _, rfl, by rw [List.length_append, List.length_singleton]; omega, e3.app fun p hp => by
            rw [List.mem_singleton.mp hp]
            exact ⟨hjx.1, hjx.2, hlt⟩⟩
        · exact ⟨_, S1, e.trans rfl, _, _, rfl, by omega, e3⟩) (ρ := ty ns w fs a (some (nm late)) c d) (S := S) ⟨fs, c, rfl, by omega, hf⟩
  exact ⟨ρ', S', h1, fs', c', h2, by rw [List.length_map] at h3; exact h3, h4⟩
def bInner : FS := gFor (iE (sl3 (rd 1) pN (pS (rd 4)))) (sN 6) (gIf tInner (gApp 3 (mkT (aC (rd 6) (aC (rd 5) aN)))) gN)
def bRow : FS := gIf (fAnd (tst (b2 dEq (rd 2) (cst (.int 3)))) (tst (b2 dGt (rd 4) (cst (.int 0))))) (gApp 3 (mkT (aC (b2 dSub2 (rd 1) (b2 dSub (rd 4) (cst (.int 1)))) (aC (rd 5) aN)))) gN
def bAll : FS := gIf (fAnd (tst (b2 dEq (rd 2) (cst (.int 4)))) (fAnd (tst (b2 dGt (rd 4) (cst (.int 0)))) (tst (b2 dGt (cS m__law_pick (aC (cst (.int 3)) aN)) (cst (.int 0)))))) (gOwn 3 (b2 dAdd (rd 3) (lcE [6] (iE (sl3 (rd 1) pN (pS (rd 4)))) (sN 6) bT (mkT (aC (rd 6) (aC (rd 5) aN)))))) gN
theorem ties_turn {n : Nat} {ns : List Nat} (hn : NamesOk n ns) {w : Int} {k late : Nat} (hk : ns[k]? = some late) {fs : List (Nat × Nat)} (hf : FsOk n fs) {c d : OD} {S : Src} (hl : fs.length ≤ 30 * k) :
    ∃ fs' c' S', gSeq bInner (gSeq bRow bAll) (ty ns w fs (some (.int (k : Nat))) (some (nm late)) c d) S = some (.nx (ty ns w fs' (some (.int (k : Nat))) (some (nm late)) c' d) S') ∧ fs'.length ≤ 30 * (k + 1) ∧ FsOk n fs' := by
  have hnl := hn.len
  have hfew := hn.few
  have hkn : k < ns.length := (List.getElem?_eq_some_iff.mp hk).1
  have hlt : late < n := hn.lt (List.mem_of_getElem? hk)
  have hne : ∀ x ∈ ns.take k, x ≠ late ∧ x < n := fun x hx => by
    refine ⟨fun e => ?_, hn.lt (List.mem_of_mem_take hx)⟩
    subst e
    obtain ⟨i, hi⟩ := List.getElem?_of_mem hx
    rw [List.getElem?_take] at hi
    split at hi
    · rename_i hik
      have hil : i < ns.length := (List.getElem?_eq_some_iff.mp hi).1
      have h1 : ns[i] = x := by simpa [List.getElem?_eq_getElem hil] using hi
      have h2 : ns[k] = x := by simpa [List.getElem?_eq_getElem hkn] using hk
      exact (List.pairwise_iff_getElem.mp hn.nd) i k hil hkn hik (h1.trans h2.symm)
    · cases hi
  have htl : (ns.take k).length ≤ 7 := by rw [List.length_take]; omega
  have hcut : ∀ {fs : List (Nat × Nat)} {c d : OD} {S : Src}, iE (sl3 (rd 1) pN (pS (rd 4))) (ty ns w fs (some (.int (k : Nat))) (some (nm late)) c d) S = some ((ns.take k).map nm, S) := fun {fs c d S} => by
    have hs : sl3 (rd 1) pN (pS (rd 4)) (ty ns w fs (some (.int (k : Nat))) (some (nm late)) c d) S = some (.list ((ns.map nm).take k), S) := sl3_val (a := ln ns) (l := none) (h := some (k : Int)) rfl rfl rfl take_cut
    rw [List.map_take]
    exact iE_val hs rfl
  obtain ⟨ρ1, S1, e1, fs1, c1, rfl, l1, f1⟩ := ties_in (n := n) (ns := ns) (w := w) (k := k) (late := late) (ns.take k) hne hlt hf (a := some (.int (k : Nat))) (c := c) (d := d) (S := S) (by omega)
  have q1 : bInner (ty ns w fs (some (.int (k : Nat))) (some (nm late)) c d) S = some (.nx (ty ns w fs1 (some (.int (k : Nat))) (some (nm late)) c1 d) S1) := (gFor_val hcut).trans e1
  -- a row
  obtain ⟨fs2, q2, l2, f2⟩ : ∃ fs2, bRow (ty ns w fs1 (some (.int (k : Nat))) (some (nm late)) c1 d) S1 = some (.nx (ty ns w fs2 (some (.int (k : Nat))) (some (nm late)) c1 d) S1) ∧ fs2.length ≤ fs1.length + 1 ∧ FsOk n fs2 := by
    have et := fAnd_val (S := S1) (ρ := ty ns w fs1 (some (.int (k : Nat))) (some (nm late)) c1 d) (tst_val (b2_val (S1 := S1) (a := .int w) (b := .int 3) (fa := rd 2) (fb := cst (.int 3)) rfl rfl eqI)) (tst_val (b2_val (S1 := S1) (a := .int (k : Nat)) (b := .int 0) (fa := rd 4) (fb := cst (.int 0)) (f := dGt) rfl rfl rfl))
    cases hc : (decide (w = 3) && decide ((0 : Int) < (k : Nat))) with
    | false =>
      rw [hc] at et
      exact ⟨fs1, (gIf_f et).trans rfl, by omega, f1⟩
    | true =>
      rw [hc] at et
      rw [Bool.and_eq_true, decide_eq_true_eq, decide_eq_true_eq] at hc
      have hk1 : k - 1 < ns.length := by omega
      have hb : ns[k - 1] ∈ ns.take k := by
        rw [List.mem_take_iff_getElem]
        exact ⟨k - 1, by omega, rfl⟩
      have hx := hne _ hb
      have eg : b2 dSub2 (rd 1) (b2 dSub (rd 4) (cst (.int 1))) (ty ns w fs1 (some (.int (k : Nat))) (some (nm late)) c1 d) S1 = some (nm ns[k - 1], S1) := by
        refine b2_val (S1 := S1) (a := ln ns) (b := .int ((k - 1 : Nat) : Int)) rfl (b2_val (S1 := S1) (a := .int (k : Nat)) (b := .int 1) rfl rfl ?_) ?_
        · show some (PyData.int ((k : Int) - 1)) = _
          congr 2
          omega
        · show atI (ns.map nm) _ = _
          exact atI_nat (by rw [List.getElem?_map, List.getElem?_eq_getElem hk1]; rfl)
      exact ⟨fs1 ++ [(ns[k - 1], late)], (gIf_t et).trans (appT (by omega) (mkT_val (aC_val eg (aC1 (S1 := S1) (d := nm late) rfl)))), by rw [List.length_append, List.length_singleton]; omega, f1.app fun p hp => by
        rw [List.mem_singleton.mp hp]
        exact ⟨hx.1, hx.2, hlt⟩⟩
  -- all
  obtain ⟨S3, q3⟩ := gIf_tot (c := fAnd (tst (b2 dEq (rd 2) (cst (.int 4)))) (fAnd (tst (b2 dGt (rd 4) (cst (.int 0)))) (tst (b2 dGt (cS m__law_pick (aC (cst (.int 3)) aN)) (cst (.int 0))))))
    (g := gOwn 3 (b2 dAdd (rd 3) (lcE [6] (iE (sl3 (rd 1) pN (pS (rd 4)))) (sN 6) bT (mkT (aC (rd 6) (aC (rd 5) aN)))))) (h := gN) (ρ := ty ns w fs2 (some (.int (k : Nat))) (some (nm late)) c1 d) (S := S1)
    (.and (.pure fun S => b2_val (S1 := S) (a := .int w) (b := .int 4) rfl rfl eqI) (.and (.pure fun S => b2_val (S1 := S) (a := .int (k : Nat)) (b := .int 0) (f := dGt) rfl rfl rfl) (.pick (by decide) fun r => ⟨_, rfl⟩)))
  rcases q3.symm with q3 | q3
  · exact ⟨fs2, c1, S3, (gSeq_nx q1).trans ((gSeq_nx q2).trans (q3.trans rfl)), by omega, f2⟩
  · have hz : (100000 : Nat) ≤ sizeLine := by decide
    have hlc := lc_map (vs := [6]) (st := sN 6) (t := bT) (e := mkT (aC (rd 6) (aC (rd 5) aN))) (fI := iE (sl3 (rd 1) pN (pS (rd 4)))) (ρ := ty ns w fs2 (some (.int (k : Nat))) (some (nm late)) c1 d) (S0 := S3) nm (fun _ => true) (fun x => pr (x, late)) (S := S3) (xs := ns.take k) hcut (by omega) fun x hx => ⟨_, rfl, rfl, fun _ => rfl⟩
    rw [filter_all] at hlc
    have ha : dAdd (lp fs2) (.list ((ns.take k).map fun x => pr (x, late))) = some (lp (fs2 ++ (ns.take k).map fun x => (x, late))) := by
      unfold lp
      rw [List.map_append, List.map_map]
      refine if_pos ?_
      rw [List.length_map, List.length_map]
      omega
    have q4 : gOwn 3 (b2 dAdd (rd 3) (lcE [6] (iE (sl3 (rd 1) pN (pS (rd 4)))) (sN 6) bT (mkT (aC (rd 6) (aC (rd 5) aN))))) (ty ns w fs2 (some (.int (k : Nat))) (some (nm late)) c1 d) S3 = some (.nx (ty ns w (fs2 ++ (ns.take k).map fun x => (x, late)) (some (.int (k : Nat))) (some (nm late)) c1 d) S3) :=
      gOwn_val (d := lp (fs2 ++ (ns.take k).map fun x => (x, late))) (b2_val (S1 := S3) (a := lp fs2) rfl hlc ha)
    refine ⟨_, c1, S3, (gSeq_nx q1).trans ((gSeq_nx q2).trans (q3.trans q4)), by rw [List.length_append, List.length_map]; omega, f2.app fun p hp => ?_⟩
    obtain ⟨x, hx, rfl⟩ := List.mem_map.mp hp
    exact ⟨(hne x hx).1, (hne x hx).2, hlt⟩
def up (p : Nat × Nat) : Nat × Nat := if p.1 ≤ p.2 then p else (p.2, p.1)
theorem sort_pair (p : Nat × Nat) : cN dTuple (aC (cN dSortedB (aC (rd 7) aN)) aN) = cN dTuple (aC (cN dSortedB (aC (rd 7) aN)) aN) ∧ dSortedB [pr p] = some (.list [nm (up p).1, nm (up p).2]) := by
  refine ⟨rfl, ?_⟩
  show dSorted [.list [nm p.1, nm p.2]] = _
  by_cases h : p.1 = p.2
  · have hu : up p = p := by unfold up; rw [if_pos (by omega)]
    rw [hu]
    have al : ∀ a b, W.alike (nm a) (nm b) = true := fun a b => by unfold nm; rw [W.alike]
    unfold dSorted
    dsimp only
    refine (if_pos ⟨fun d hd e he => ?_, .inr fun d hd => ?_, fun d hd => ?_⟩).trans ?_
    · unfold sortD
      rw [show [nm p.1, nm p.2] = [p.1, p.2].map nm from rfl]
      have e1 : ([p.1, p.2].map nm).mergeSort (W.dataLe false id) = ([p.1, p.2].mergeSort fun a b => decide (a ≤ b)).map nm := (List.map_mergeSort fun a _ b _ => (nm_le a b).symm).symm
      rw [e1]
      have e2 : [p.1, p.2].mergeSort (fun a b => decide (a ≤ b)) = [p.1, p.2] := List.mergeSort_of_pairwise (by simp; omega)
      rw [e2]
    · rw [show [nm p.1, nm p.2] = [p.1, p.2].map nm from rfl] at hd he
      obtain ⟨a, _, rfl⟩ := List.mem_map.mp hd
      obtain ⟨b, _, rfl⟩ := List.mem_map.mp he
      exact al a b
    · rw [show [nm p.1, nm p.2] = [p.1, p.2].map nm from rfl] at hd
      obtain ⟨a, _, rfl⟩ := List.mem_map.mp hd
      rfl
    · rw [show [nm p.1, nm p.2] = [p.1, p.2].map nm from rfl] at hd
      obtain ⟨a, _, rfl⟩ := List.mem_map.mp hd
      exact Nat.zero_le _
  · have hp : [p.1, p.2].Perm [(up p).1, (up p).2] := by
      unfold up
      split
      · exact .refl _
      · exact .swap _ _ _
    have hs : [(up p).1, (up p).2].Pairwise (· < ·) := by
      unfold up
      split <;> simp <;> omega
    exact sort_nm (xs := [p.1, p.2]) (zs := [(up p).1, (up p).2]) hp hs
theorem lp_lc' {fs : List (Nat × Nat)} {ns : List Nat} {w : Int} {a b c : OD} {S : Src} (hl : fs.length ≤ 1000) : lcE [7] (iE (rd 3)) (sN 7) bT (cN dTuple (aC (cN dSortedB (aC (rd 7) aN)) aN)) (ty ns w fs a b c none) S = some (.list ((fs.map up).map pr), S) := by
  have := lc_map (vs := [7]) (st := sN 7) (t := bT) (e := cN dTuple (aC (cN dSortedB (aC (rd 7) aN)) aN)) (fI := iE (rd 3)) (ρ := ty ns w fs a b c none) (S0 := S) pr (fun _ => true) (fun p => pr (up p)) (S := S) (xs := fs) rfl (by omega) fun p hp => ⟨_, rfl, rfl, fun _ => cN_val (aC1 (cN_val (aC1 (d := pr p) rfl) (sort_pair p).2)) rfl⟩
  rw [filter_all] at this
  rw [this, List.map_map]
  rfl
theorem ties_eq {n : Nat} {ns : List Nat} (hn : NamesOk n ns) (S : Src) : ∃ (fs : List (Nat × Nat)) (S' : Src), m__law_ties [ln ns] S = some (.list (fs.map pr), S') ∧ fs.length ≤ 300 ∧ ∀ p ∈ fs, p.1 < p.2 ∧ p.2 < n := by
  have hnl := hn.len
  have hfew := hn.few
  obtain ⟨w, S1, p1, p2, p3⟩ := pick_eq S (m := 5) (by decide)
  have q1 : gPar [2, 3] (aC (cS m__law_pick (aC (cst (.int 5)) aN)) (aM (mkL aN) aN)) [none, some (ln ns), none, none, none, none, none, none] S = some (.nx (ty ns w [] none none none none) S1) :=
    gPar_val (ds := [.int w, .list []]) (aC_val (cS_val rfl p1) rfl)
  have hlen : (enumD 0 (ns.map nm)).length = n := by rw [enumD_len, List.length_map, hnl]
  obtain ⟨ρ', S2, e2, fs, a, b, c, rfl, l2, f2⟩ := forL_inv (st := sT (sC (sN 4) (sC (sN 5) s0))) (g := gSeq bInner (gSeq bRow bAll)) (ds := enumD 0 (ns.map nm))
    (fun i ρ S => ∃ fs a b c, ρ = ty ns w fs a b c none ∧ fs.length ≤ 30 * i ∧ FsOk n fs) (fun i x ρ S hx ⟨fs, a, b, c, e1, e2, e3⟩ => by
      subst e1
      have hi : i < n := by
        have := (List.getElem?_eq_some_iff.mp hx).1
        rwa [hlen] at this
      have hg : ns[i]? = some ns[i] := List.getElem?_eq_getElem (by omega)
      rw [enumD_get _ 0 i (nm ns[i]) (by rw [List.getElem?_map, hg]; rfl)] at hx
      cases hx
      obtain ⟨fs', c', S', e4, e5, e6⟩ := ties_turn hn (w := w) hg e3 (c := c) (d := none) (S := S) e2
      refine ⟨ty ns w fs (some (.int ((0 + i : Nat) : Int))) (some (nm ns[i])) c none, rfl, _, S', ?_, fs', some (.int (i : Nat)), some (nm ns[i]), c', rfl, e5, e6⟩
      rw [Nat.zero_add]
      exact e4) (ρ := ty ns w [] none none none none) (S := S1) ⟨[], none, none, none, rfl, by simp, fun p hp => by cases hp⟩
  have ei : iEn (aC (rd 1) aN) (ty ns w [] none none none none) S1 = some (enumD 0 (ns.map nm), S1) := rfl
  have hlc := lp_lc' (fs := fs) (ns := ns) (w := w) (a := a) (b := b) (c := c) (S := S2) (by rw [hlen] at l2; omega)
  refine ⟨fs.map up, S2, ?_, by rw [List.length_map]; rw [hlen] at l2; omega, fun p hp => ?_⟩
  · exact runS_rt (ρ := [none, some (ln ns), none, none, none, none, none, none]) rfl ((gSeq_nx q1).trans ((gSeq_nx ((gFor_val ei).trans e2)).trans (gRet_val hlc)))
  · obtain ⟨q, hq, rfl⟩ := List.mem_map.mp hp
    have := f2 q hq
    unfold up
    split <;> omega
end LW

set_option Elab.async false
set_option linter.all false
set_option maxRecDepth 100000
set_option maxHeartbeats 4000000
namespace LW
open PySem PySem.Spec PyProof.Rows L2 TL

/-! ### drawn posts -/
theorem postOk_of {i : Nat} {k : Str} {a b : Int} : PostOk (i, .str k, .int a, .int b) := ⟨k, a, b, rfl⟩
def pairI (p : Int × Int) : D := .tuple [.int p.1, .int p.2]
theorem good_pairI : Good pairI := ⟨fun _ => rfl, fun x => by simp [pairI, PyData.depth, PyData.depthAll], fun x y => by
  have h := good_int.eqvs [x.1, x.2] [y.1, y.2]
  unfold pairI
  rw [PyData.eqv]
  rw [show [PyData.int x.1, PyData.int x.2] = [x.1, x.2].map PyData.int from rfl, show [PyData.int y.1, PyData.int y.2] = [y.1, y.2].map PyData.int from rfl, h]
  by_cases h1 : x.1 = y.1 <;> by_cases h2 : x.2 = y.2 <;> simp [h1, h2, Prod.ext_iff]⟩
/-- the state of _law_posts -/
def py (ns : List Nat) (zs : List Post) (a b c d e : OD) : Rho := [none, some (ln ns), some (.list (zs.map postD)), a, b, c, d, e]
def bPost : FS := gSeq (gSet 4 (mkL (aC (mkT (aC (cst (.int 0)) (aC (cst (.int 1)) aN))) (aC (mkT (aC (cst (.int 0)) (aC (cst (.int 1)) aN))) (aC (mkT (aC (cst (.int 1)) (aC (cst (.int 1)) aN))) (aC (mkT (aC (cst (.int 0)) (aC (cst (.int 2)) aN))) (aC (mkT (aC (cst (.int 2)) (aC (cst (.int 1)) aN))) (aC (mkT (aC (cst (.int 1)) (aC (cst (.int 3)) aN))) (aC (mkT (aC (cst (.int 0)) (aC (cst (.int 3)) aN))) (aC (mkT (aC (cst (.int 3)) (aC (cst (.int 2)) aN))) aN))))))))))
    (gSeq (gUnp (sT (sC (sN 5) (sC (sN 6) s0))) (cS m__law_of (aC (rd 4) aN)))
    (gSeq (gSet 7 (ifE (tst (b2 dEq (mkT (aC (rd 5) (aC (rd 6) aN))) (mkT (aC (cst (.int 0)) (aC (cst (.int 1)) aN))))) (cst (.str "apart")) (cS m__law_of (aC (mkL (aC (cst (.str "apart")) (aC (cst (.str "tied")) aN))) aN))))
    (gApp 2 (mkT (aC (rd 3) (aC (rd 7) (aC (rd 5) (aC (rd 6) aN))))))))
theorem bPost_eq {ns : List Nat} {zs : List Post} {i : Nat} {b c d e : OD} {S : Src} (hl : zs.length ≤ 1000) : ∃ (z : Post) (b' c' d' e' : OD) (S' : Src), bPost (py ns zs (some (nm i)) b c d e) S = some (.nx (py ns (zs ++ [z]) (some (nm i)) b' c' d' e') S') ∧ z.1 = i ∧ PostOk z := by
  have q1 : gSet 4 (mkL (aC (mkT (aC (cst (.int 0)) (aC (cst (.int 1)) aN))) (aC (mkT (aC (cst (.int 0)) (aC (cst (.int 1)) aN))) (aC (mkT (aC (cst (.int 1)) (aC (cst (.int 1)) aN))) (aC (mkT (aC (cst (.int 0)) (aC (cst (.int 2)) aN))) (aC (mkT (aC (cst (.int 2)) (aC (cst (.int 1)) aN))) (aC (mkT (aC (cst (.int 1)) (aC (cst (.int 3)) aN))) (aC (mkT (aC (cst (.int 0)) (aC (cst (.int 3)) aN))) (aC (mkT (aC (cst (.int 3)) (aC (cst (.int 2)) aN))) aN)))))))))
      (py ns zs (some (nm i)) b c d e) S = some (.nx (py ns zs (some (nm i)) (some (.list ([((0 : Int), (1 : Int)), (0, 1), (1, 1), (0, 2), (2, 1), (1, 3), (0, 3), (3, 2)].map pairI))) c d e) S) := rfl
  obtain ⟨p, S1, e1, _⟩ := of_eq pairI [((0 : Int), (1 : Int)), (0, 1), (1, 1), (0, 2), (2, 1), (1, 3), (0, 3), (3, 2)] (by simp) (by simp) S
  have q2 : gUnp (sT (sC (sN 5) (sC (sN 6) s0))) (cS m__law_of (aC (rd 4) aN)) (py ns zs (some (nm i)) (some (.list ([((0 : Int), (1 : Int)), (0, 1), (1, 1), (0, 2), (2, 1), (1, 3), (0, 3), (3, 2)].map pairI))) c d e) S =
      some (.nx (py ns zs (some (nm i)) (some (.list ([((0 : Int), (1 : Int)), (0, 1), (1, 1), (0, 2), (2, 1), (1, 3), (0, 3), (3, 2)].map pairI))) (some (.int p.1)) (some (.int p.2)) e) S1) :=
    gUnp_val (cS_val (aC1 (d := .list ([((0 : Int), (1 : Int)), (0, 1), (1, 1), (0, 2), (2, 1), (1, 3), (0, 3), (3, 2)].map pairI)) rfl) e1) rfl
  have et : tst (b2 dEq (mkT (aC (rd 5) (aC (rd 6) aN))) (mkT (aC (cst (.int 0)) (aC (cst (.int 1)) aN)))) (py ns zs (some (nm i)) (some (.list ([((0 : Int), (1 : Int)), (0, 1), (1, 1), (0, 2), (2, 1), (1, 3), (0, 3), (3, 2)].map pairI))) (some (.int p.1)) (some (.int p.2)) e) S1 = some (decide (p = ((0 : Int), (1 : Int))), S1) :=
    tst_val (b2_val (S1 := S1) (a := pairI p) (b := pairI (0, 1)) rfl rfl good_pairI.eq)
  obtain ⟨k, S2, q3⟩ : ∃ (k : Str) (S2 : Src), gSet 7 (ifE (tst (b2 dEq (mkT (aC (rd 5) (aC (rd 6) aN))) (mkT (aC (cst (.int 0)) (aC (cst (.int 1)) aN))))) (cst (.str "apart")) (cS m__law_of (aC (mkL (aC (cst (.str "apart")) (aC (cst (.str "tied")) aN))) aN)))
      (py ns zs (some (nm i)) (some (.list ([((0 : Int), (1 : Int)), (0, 1), (1, 1), (0, 2), (2, 1), (1, 3), (0, 3), (3, 2)].map pairI))) (some (.int p.1)) (some (.int p.2)) e) S1 =
      some (.nx (py ns zs (some (nm i)) (some (.list ([((0 : Int), (1 : Int)), (0, 1), (1, 1), (0, 2), (2, 1), (1, 3), (0, 3), (3, 2)].map pairI))) (some (.int p.1)) (some (.int p.2)) (some (.str k))) S2) := by
    cases hc : decide (p = ((0 : Int), (1 : Int))) with
    | true =>
      rw [hc] at et
      exact ⟨"apart", S1, gSet_val (d := .str "apart") ((ifE_t et).trans rfl)⟩
    | false =>
      rw [hc] at et
      obtain ⟨k, S2, e2, _⟩ := of_eq PyData.str [("apart" : Str), "tied"] (by simp) (by simp) S1
      exact ⟨k, S2, gSet_val (d := .str k) ((ifE_f et).trans (cS_val (aC1 (d := .list ([("apart" : Str), "tied"].map PyData.str)) rfl) e2))⟩
  have q4 := gApp_val (i := 2) (f := mkT (aC (rd 3) (aC (rd 7) (aC (rd 5) (aC (rd 6) aN))))) (ρ := py ns zs (some (nm i)) (some (.list ([((0 : Int), (1 : Int)), (0, 1), (1, 1), (0, 2), (2, 1), (1, 3), (0, 3), (3, 2)].map pairI))) (some (.int p.1)) (some (.int p.2)) (some (.str k))) (S := S2) (S1 := S2)
    (d := postD (i, .str k, .int p.1, .int p.2)) (ds := zs.map postD) rfl rfl (by rw [List.length_map]; omega)
  refine ⟨(i, .str k, .int p.1, .int p.2), some (.list ([((0 : Int), (1 : Int)), (0, 1), (1, 1), (0, 2), (2, 1), (1, 3), (0, 3), (3, 2)].map pairI)), some (.int p.1), some (.int p.2), some (.str k), S2, (gSeq_nx q1).trans ((gSeq_nx q2).trans ((gSeq_nx q3).trans (q4.trans ?_))), rfl, postOk_of⟩
  unfold py
  rw [List.map_append]
  rfl
theorem posts_eq {n : Nat} {ns : List Nat} (hn : NamesOk n ns) (S : Src) : ∃ (zs : List Post) (S' : Src), m__law_posts [ln ns] S = some (.list (zs.map postD), S') ∧ zs.map (·.1) = ns ∧ ∀ z ∈ zs, PostOk z := by
  have hnl := hn.len
  have hfew := hn.few
  obtain ⟨ρ', S', e, zs, a, b, c, d, f, rfl, h1, h2⟩ := forL_inv (st := sN 3) (g := bPost) (ds := ns.map nm)
    (fun i ρ S => ∃ zs a b c d e, ρ = py ns zs a b c d e ∧ zs.map (·.1) = ns.take i ∧ ∀ z ∈ zs, PostOk z) (fun i x ρ S hx ⟨zs, a, b, c, d, e, e1, e2, e3⟩ => by
      subst e1
      rw [List.getElem?_map] at hx
      cases hj : ns[i]? with
      | none => rw [hj] at hx; cases hx
      | some j =>
        rw [hj] at hx
        cases hx
        have hi : i < ns.length := (List.getElem?_eq_some_iff.mp hj).1
        obtain ⟨z, b', c', d', e', S', e4, e5, e6⟩ := bPost_eq (ns := ns) (zs := zs) (i := j) (b := b) (c := c) (d := d) (e := e) (S := S) (by
          have := congrArg List.length e2
          rw [List.length_map, List.length_take] at this
          omega)
        refine ⟨_, rfl, _, S', e4, zs ++ [z], some (nm j), b', c', d', e', rfl, ?_, fun y hy => ?_⟩
        · rw [List.map_append, e2, List.take_add_one, hj]
          simp [e5]
        · rcases List.mem_append.mp hy with hy | hy
          · exact e3 y hy
          · rw [List.mem_singleton.mp hy]
            exact e6) (ρ := py ns [] none none none none none) (S := S) ⟨[], _, _, _, _, _, rfl, by simp, fun z hz => by cases hz⟩
  rw [List.length_map, List.take_length] at h1
  refine ⟨zs, S', ?_, h1, h2⟩
  exact runS_rt (ρ := [none, some (ln ns), none, none, none, none, none, none]) rfl ((gSeq_nx (ρ1 := py ns [] none none none none none) (S1 := S) rfl).trans ((gSeq_nx ((gFor_val (S1 := S) (ds := ns.map nm) rfl).trans e)).trans (gRet_val rfl)))
/-! ### the law's own splitter -/
def TsOk (n : Nat) (ts : List (Nat × Nat)) : Prop := ∀ p ∈ ts, p.1 < p.2 ∧ p.2 < n
theorem min_nm (x y : Nat) : dMinA [nm x, nm y] = some (nm (min x y)) := by
  show some (if W.dataLt (nm y) (nm x) = true then nm y else nm x) = _
  have h := nm_le x y
  have h5 : W.dataLe false id (nm x) (nm y) = !W.dataLt (nm y) (nm x) := rfl
  rw [h5] at h
  by_cases hxy : x ≤ y
  · rw [decide_eq_true hxy] at h
    rw [if_neg (by simpa using h), Nat.min_eq_left hxy]
  · rw [decide_eq_false hxy] at h
    rw [if_pos (by simpa using h), Nat.min_eq_right (by omega)]
theorem max_nm (x y : Nat) : dMaxA [nm x, nm y] = some (nm (max x y)) := by
  show some (if W.dataLt (nm x) (nm y) = true then nm y else nm x) = _
  have h := nm_le y x
  have h5 : W.dataLe false id (nm y) (nm x) = !W.dataLt (nm x) (nm y) := rfl
  rw [h5] at h
  by_cases hxy : y ≤ x
  · rw [decide_eq_true hxy] at h
    rw [if_neg (by simpa using h), Nat.max_eq_left hxy]
  · rw [decide_eq_false hxy] at h
    rw [if_pos (by simpa using h), Nat.max_eq_right (by omega)]
theorem tied_minmax {n : Nat} {ts : List (Nat × Nat)} (h : TsOk n ts) (x y : Nat) : decide ((min x y, max x y) ∈ ts) = tied ts x y := by
  unfold tied
  rcases Nat.lt_trichotomy x y with q | q | q
  · rw [Nat.min_eq_left (by omega), Nat.max_eq_right (by omega)]
    have : ¬ (y, x) ∈ ts := fun z => by have := h _ z; dsimp only at this; omega
    simp [this]
  · subst q
    rw [Nat.min_self, Nat.max_self, Bool.or_self]
  · rw [Nat.min_eq_right (by omega), Nat.max_eq_left (by omega)]
    have : ¬ (x, y) ∈ ts := fun z => by have := h _ z; dsimp only at this; omega
    simp [this]
theorem is_tied_eq {n : Nat} {ts : List (Nat × Nat)} (h : TsOk n ts) (x y : Nat) : m__law_is_tied [.list (ts.map pr), nm x, nm y] = some (.bool (tied ts x y)) := by
  rw [← tied_minmax h]
  refine runP_rt (ρ := [some (.list (ts.map pr)), some (nm x), some (nm y)]) (S := S0) rfl (gRet_val (b2_val (S1 := S0) (a := pr (min x y, max x y)) (b := .list (ts.map pr)) ?_ rfl (good_pr.lst (x := (min x y, max x y)) (inst := inferInstance))))
  exact mkT_val (aC_val (cN_val (ds := [nm x, nm y]) rfl (min_nm x y)) (aC1 (cN_val (ds := [nm x, nm y]) rfl (max_nm x y))))
theorem bools_in (b : Bool) (xs : List Bool) : dInD (.bool b) (.list (xs.map PyData.bool)) = some (.bool (decide (b ∈ xs))) := good_bool.lst
theorem both_split {R : Nat → Nat → Bool} {lot : List Nat} {p : Nat} : (decide (true ∈ lot.map (R p)) && decide (false ∈ lot.map (R p))) = split R lot p := by
  cases hs : split R lot p with
  | false =>
    have h := split_false.mp hs
    rw [Bool.and_eq_false_iff, decide_eq_false_iff_not, decide_eq_false_iff_not]
    cases lot with
    | nil => left; simp
    | cons a r =>
      cases ha : R p a with
      | true =>
        right
        intro hm
        obtain ⟨x, hx, e⟩ := List.mem_map.mp hm
        rw [h x hx a (List.mem_cons_self ..), ha] at e
        cases e
      | false =>
        left
        intro hm
        obtain ⟨x, hx, e⟩ := List.mem_map.mp hm
        rw [h x hx a (List.mem_cons_self ..), ha] at e
        cases e
  | true =>
    rw [Bool.and_eq_true, decide_eq_true_eq, decide_eq_true_eq]
    have hn : ¬ ∀ x ∈ lot, ∀ y ∈ lot, R p x = R p y := fun h => by
      rw [split_false.mpr h] at hs
      cases hs
    constructor
    · apply Classical.byContradiction
      intro hm
      apply hn
      have all : ∀ x ∈ lot, R p x = false := fun x hx => by
        cases e : R p x with
        | false => rfl
        | true => exact absurd (List.mem_map.mpr ⟨x, hx, e⟩) hm
      intro x hx y hy
      rw [all x hx, all y hy]
    · apply Classical.byContradiction
      intro hm
      apply hn
      have all : ∀ x ∈ lot, R p x = true := fun x hx => by
        cases e : R p x with
        | true => rfl
        | false => exact absurd (List.mem_map.mpr ⟨x, hx, e⟩) hm
      intro x hx y hy
      rw [all x hx, all y hy]
theorem sorted_names {n : Nat} {ns : List Nat} (hn : NamesOk n ns) : dSortedB [ln ns] = some (ln (List.range n)) := sort_nm hn.perm List.pairwise_lt_range
theorem own_splitter {n : Nat} {ns : List Nat} (hn : NamesOk n ns) {ts : List (Nat × Nat)} (ht : TsOk n ts) {L : D} {lot : List Nat} (hL : IsLot L lot) (hl : lot.length ≤ 1000) : m__law_splitter [ln ns, .list (ts.map pr), L] = some (optD (splitter (tied ts) (List.range n) lot)) := by
  have inner : ∀ (p : Nat) (x : OD), lcE [5] (iE (rd 2)) (sN 5) bT (cN m__law_is_tied (aC (rd 1) (aC (rd 3) (aC (rd 5) aN)))) [some (ln ns), some (.list (ts.map pr)), some L, some (nm p), x, none] S0 = some (.list ((lot.map (tied ts p)).map PyData.bool), S0) := fun p x => by
    have := lc_map (vs := [5]) (st := sN 5) (t := bT) (e := cN m__law_is_tied (aC (rd 1) (aC (rd 3) (aC (rd 5) aN)))) (fI := iE (rd 2)) (ρ := [some (ln ns), some (.list (ts.map pr)), some L, some (nm p), x, none]) (S0 := S0) nm (fun _ => true) (fun q => .bool (tied ts p q)) (S := S0) (xs := lot) (iE_val (d := L) rfl hL.it) (by omega) fun q hq => ⟨_, rfl, rfl, fun _ => cN_val (ds := [.list (ts.map pr), nm p, nm q]) rfl (is_tied_eq ht p q)⟩
    rw [filter_all] at this
    rw [this, List.map_map]
    rfl
  have hf := forL_find (st := sN 3) (g := gSeq (gSet 4 (lcE [5] (iE (rd 2)) (sN 5) bT (cN m__law_is_tied (aC (rd 1) (aC (rd 3) (aC (rd 5) aN))))))
      (gIf (fAnd (tst (b2 dNotInD (rd 3) (rd 2))) (fAnd (tst (b2 dInD (cst (.bool true)) (rd 4))) (tst (b2 dInD (cst (.bool false)) (rd 4))))) (gRet (rd 3)) gN)) (S := S0) (enc := nm) (fun p => !decide (p ∈ lot) && split (tied ts) lot p) nm
    (fun ρ => ∃ w x, ρ = [some (ln ns), some (.list (ts.map pr)), some L, w, x, none]) (xs := List.range n) (fun p _ ρ ⟨w, x, e⟩ => by
      subst e
      have e1 : gSet 4 (lcE [5] (iE (rd 2)) (sN 5) bT (cN m__law_is_tied (aC (rd 1) (aC (rd 3) (aC (rd 5) aN))))) [some (ln ns), some (.list (ts.map pr)), some L, some (nm p), x, none] S0 = some (.nx [some (ln ns), some (.list (ts.map pr)), some L, some (nm p), some (.list ((lot.map (tied ts p)).map PyData.bool)), none] S0) := gSet_val (inner p x)
      have et := fAnd_val (S := S0) (ρ := [some (ln ns), some (.list (ts.map pr)), some L, some (nm p), some (.list ((lot.map (tied ts p)).map PyData.bool)), none]) (tst_val (b2_val (S1 := S0) (a := nm p) (b := L) (fa := rd 3) (fb := rd 2) rfl rfl (hL.nin p)))
        (fAnd_val (tst_val (b2_val (S1 := S0) (a := .bool true) (fa := cst (.bool true)) (fb := rd 4) rfl rfl (bools_in true (lot.map (tied ts p))))) (tst_val (b2_val (S1 := S0) (a := .bool false) (fa := cst (.bool false)) (fb := rd 4) rfl rfl (bools_in false (lot.map (tied ts p))))))
      rw [both_split] at et
      refine ⟨[some (ln ns), some (.list (ts.map pr)), some L, some (nm p), x, none], rfl, fun hp => ?_, fun hp => ⟨[some (ln ns), some (.list (ts.map pr)), some L, some (nm p), some (.list ((lot.map (tied ts p)).map PyData.bool)), none], ?_, _, _, rfl⟩⟩
      · rw [hp] at et
        exact (gSeq_nx e1).trans ((gIf_t et).trans rfl)
      · rw [hp] at et
        exact (gSeq_nx e1).trans ((gIf_f et).trans rfl)) (ρ := [some (ln ns), some (.list (ts.map pr)), some L, none, none, none]) ⟨none, none, rfl⟩
  have hi : iE (cN dSortedB (aC (rd 0) aN)) [some (ln ns), some (.list (ts.map pr)), some L, none, none, none] S0 = some ((List.range n).map nm, S0) := iE_val (cN_val (aC1 (d := ln ns) rfl) (sorted_names hn)) rfl
  rcases hf with ⟨p, h1, h2⟩ | ⟨h1, ρ', h2, w, x, rfl⟩
  · have : splitter (tied ts) (List.range n) lot = some p := h1
    rw [this]
    exact runP_rt (ρ := [some (ln ns), some (.list (ts.map pr)), some L, none, none, none]) (S := S0) rfl (gSeq_rt ((gFor_val hi).trans h2))
  · have : splitter (tied ts) (List.range n) lot = none := h1
    rw [this]
    exact runP_rt (ρ := [some (ln ns), some (.list (ts.map pr)), some L, none, none, none]) (S := S0) rfl ((gSeq_nx ((gFor_val hi).trans h2)).trans rfl)
theorem lots_eq {n : Nat} {ns : List Nat} (hn : NamesOk n ns) (h : n ≤ 8) : m__law_lots [ln ns] = some (ll (lotsOf n)) := by
  have z : (100000 : Nat) ≤ sizeLine := by decide
  have hi : ∀ {a b c : OD}, iE (cN dSortedB (aC (rd 0) aN)) [some (ln ns), a, b, c] S0 = some ((List.range n).map nm, S0) := iE_val (cN_val (aC1 (d := ln ns) rfl) (sorted_names hn)) rfl
  have small : ∀ i, i ≤ n → (subs ((List.range n).take i)).length ≤ 256 := fun i hi => by
    rw [subs_len, List.length_take, List.length_range]
    exact Nat.le_trans (Nat.pow_le_pow_right (by decide) (Nat.le_trans (Nat.min_le_left _ _) (Nat.le_trans hi h))) (by decide)
  have inner : ∀ (acc : List (List Nat)) (i : Nat) (x : Option D), acc.length ≤ 256 → (∀ l ∈ acc, l.length ≤ 8) → lcE [3] (iE (rd 1)) (sN 3) bT (b2 dAdd (rd 3) (mkT (aC (rd 2) aN))) [some (ln ns), some (ll acc), some (nm i), x] S0 = some (ll (acc.map fun l => l ++ [i]), S0) := by
    intro acc i x hl h8
    have := lc_map (ρ := [some (ln ns), some (ll acc), some (nm i), x]) (st := sN 3) (t := bT) (e := b2 dAdd (rd 3) (mkT (aC (rd 2) aN))) (vs := [3]) (fI := iE (rd 1)) (S0 := S0) tn (fun _ => true) (fun l => tn (l ++ [i])) (S := S0) (xs := acc) rfl (by omega) fun l hll => ⟨_, rfl, rfl, fun _ => by
      have hs : (l.map nm).length + [nm i].length ≤ sizeLine := by
        rw [List.length_map]
        have := h8 l hll
        show l.length + 1 ≤ _
        omega
      have : dAdd (tn l) (.tuple [nm i]) = some (tn (l ++ [i])) := by
        unfold tn
        rw [List.map_append]
        exact if_pos hs
      exact b2_val (S1 := S0) (a := tn l) (b := .tuple [nm i]) rfl rfl this⟩
    rw [filter_all] at this
    rw [this]
    unfold ll
    rw [List.map_map]
    rfl
  obtain ⟨ρ', S', e, x, y, rfl, rfl⟩ := forL_inv (st := sN 2) (g := gSet 1 (b2 dAdd (rd 1) (lcE [3] (iE (rd 1)) (sN 3) bT (b2 dAdd (rd 3) (mkT (aC (rd 2) aN)))))) (ds := (List.range n).map nm)
    (fun k ρ S => ∃ x y, ρ = [some (ln ns), some (ll (subs ((List.range n).take k))), x, y] ∧ S = S0) (fun k d ρ S hd ⟨x, y, e1, e2⟩ => by
      subst e1 e2
      rw [List.getElem?_map] at hd
      have hk : k < n := by
        by_cases q : k < n
        · exact q
        · rw [List.getElem?_eq_none (by rw [List.length_range]; omega)] at hd
          cases hd
      rw [List.getElem?_range hk] at hd
      cases hd
      refine ⟨[some (ln ns), some (ll (subs ((List.range n).take k))), some (nm k), y], rfl, _, S0, ?_, some (nm k), y, rfl, rfl⟩
      have e3 := inner (subs ((List.range n).take k)) k y (small k (by omega)) (fun l hll => by
        rw [List.take_range, Nat.min_eq_left (by omega)] at hll
        obtain ⟨p, rfl⟩ := mem_subs.mp hll
        exact Nat.le_trans (List.length_filter_le _ _) (by rw [List.length_range]; omega))
      have e4 : subs ((List.range n).take (k + 1)) = subs ((List.range n).take k) ++ (subs ((List.range n).take k)).map fun l => l ++ [k] := by
        rw [List.take_add_one, List.getElem?_range hk]
        exact subs_snoc _ _
      have e5 : dAdd (ll (subs ((List.range n).take k))) (ll ((subs ((List.range n).take k)).map fun l => l ++ [k])) = some (ll (subs ((List.range n).take (k + 1)))) := by
        rw [e4]
        unfold ll
        rw [List.map_append]
        refine if_pos ?_
        have := small k (by omega)
        rw [List.length_map, List.length_map, List.length_map]
        omega
      have e6 : b2 dAdd (rd 1) (lcE [3] (iE (rd 1)) (sN 3) bT (b2 dAdd (rd 3) (mkT (aC (rd 2) aN)))) [some (ln ns), some (ll (subs ((List.range n).take k))), some (nm k), y] S0 = some (ll (subs ((List.range n).take (k + 1))), S0) := b2_val rfl e3 e5
      unfold gSet
      rw [e6]
      rfl) (ρ := [some (ln ns), some (ll [[]]), none, none]) (S := S0) ⟨none, none, rfl, rfl⟩
  have hlen : ((List.range n).map nm).length = n := by rw [List.length_map, List.length_range]
  rw [hlen, List.take_of_length_le (by rw [List.length_range]; exact Nat.le_refl _)] at e
  have e7 : lcE [3] (iE (rd 1)) (sN 3) (tst (b2 dNe (rd 3) (mkT aN))) (rd 3) [some (ln ns), some (ll (subs (List.range n))), x, y] S0 = some (ll (lotsOf n), S0) := by
    have hs : (subs (List.range n)).length ≤ 256 := by
      rw [subs_len, List.length_range]
      exact Nat.le_trans (Nat.pow_le_pow_right (by decide) h) (by decide)
    exact lc_map (ρ := [some (ln ns), some (ll (subs (List.range n))), x, y]) (vs := [3]) (fI := iE (rd 1)) (S0 := S0) tn (fun l => !decide (l = [])) tn (S := S0) (xs := subs (List.range n)) rfl (by omega) fun l hll => ⟨_, rfl, by
      have : b2 dNe (rd 3) (mkT aN) (((wipeR [some (ln ns), some (ll (subs (List.range n))), x, y] [3]).set 3 (some (tn l)))) S0 = some (.bool (!decide (l = [])), S0) := b2_val (a := tn l) (b := tn []) rfl rfl good_tn.ne
      unfold tst
      rw [this], fun _ => rfl⟩
  refine runP_rt (ρ := [some (ln ns), none, none, none]) (S := S0) rfl ?_
  refine (gSeq_nx (g := gSet 1 (mkL (aC (mkT aN) aN))) (ρ1 := [some (ln ns), some (ll [[]]), none, none]) (S1 := S0) rfl).trans ?_
  refine (gSeq_nx (ρ1 := [some (ln ns), some (ll (subs (List.range n))), x, y]) (S1 := S0) ((gFor_val hi).trans e)).trans ?_
  unfold gRet
  rw [e7]
end LW

set_option Elab.async false
set_option linter.all false
set_option maxRecDepth 100000
set_option maxHeartbeats 4000000
namespace LW
open PySem PySem.Spec PyProof.Rows L2 TL

structure W14 (n : Nat) (ns : List Nat) (ts : List (Nat × Nat)) (zs : List Post) : Prop where
  nm : NamesOk n ns
  one : 1 ≤ n
  t : TsOk n ts
  tl : ts.length ≤ 300
  z : zs.map (·.1) = List.range n
section
variable {n : Nat} {ns : List Nat} {ts : List (Nat × Nat)} {zs : List Post}
theorem W14.few (h : W14 n ns ts zs) : n ≤ 7 := h.nm.few
theorem W14.zl (h : W14 n ns ts zs) : zs.length ≤ 1000 := by
  have := congrArg List.length h.z
  rw [List.length_map, List.length_range] at this
  have := h.few
  omega
def er (n : Nat) (ns : List Nat) (ts : List (Nat × Nat)) (zs : List Post) (a4 a10 a11 a13 a14 a15 a16 a18 a19 a20 a21 a22 : OD) : Rho :=
  [none, none, some (ln []), some (ln ns), a4, some (.list (ts.map pr)), none, some (wb zs ts), some (ll (lotsOf n)), some (ll (parts ts n)), a10, a11, none, a13, a14, a15, a16, none, a18, a19, a20, a21, a22]
/-! ### a lap -/
def s10 : FS := gOwn 10 (cN dListA (aC (cS m__law_of (aC (rd 8) aN)) aN))
def s11 : FS := gSetN 11 (lcN [12] (iR1 (aC (cN dLen (aC (rd 10) aN)) aN)) (sN 12) bT (nP 10 (cS m__law_pick (aC (cN dLen (aC (rd 10) aN)) aN))))
def s13 : FS := gSet 13 (cN m__law_splitter (aC (rd 3) (aC (rd 5) (aC (rd 11) aN))))
def s14 : FS := gSet 14 (ifE (tst (b2 dIsN (rd 13) (cst .none))) (mkT (aC (cst (.str "part")) aN)) (mkT (aC (cst (.str "split")) (aC (rd 13) aN))))
def j1 : FS := gIf (fOr (tst (b2 dNe (cN dRepr (aC (cN m_part_told (aC (rd 7) (aC (rd 11) aN))) aN)) (cN dRepr (aC (rd 14) aN)))) (tst (b2 dNe (cN dRepr (aC (cN m_is_part (aC (rd 7) (aC (cN dTuple (aC (rd 11) aN)) aN))) aN)) (cN dRepr (aC (b2 dIsN (rd 13) (cst .none)) aN))))) (gRet (cst (.bool false))) gN
def s15 : FS := gSet 15 (cN m_least_part (aC (rd 7) (aC (rd 11) aN)))
def s16 : FS := gSet 16 (lcE [17] (iE (rd 9)) (sN 17) (tst (b2 dEq (lcE [18] (iE (rd 11)) (sN 18) (tst (b2 dNotInD (rd 18) (rd 17))) (rd 18)) (mkL aN))) (rd 17))
def j2 : FS := gIf (fOr (tst (b2 dNotInD (rd 15) (rd 16))) (tst (b2 dNe (lcE [17] (iE (rd 16)) (sN 17) (tst (b2 dNe (lcE [18] (iE (rd 15)) (sN 18) (tst (b2 dNotInD (rd 18) (rd 17))) (rd 18)) (mkL aN))) (rd 17)) (mkL aN)))) (gRet (cst (.bool false))) gN
def j3 : FS := gIf (tst (b2 dNe (cN dRepr (aC (cN m_least_part (aC (rd 7) (aC (rd 15) aN))) aN)) (cN dRepr (aC (rd 15) aN)))) (gRet (cst (.bool false))) gN
def lap : FS := gSeq s10 (gSeq s11 (gSeq s13 (gSeq s14 (gSeq j1 (gSeq s15 (gSeq s16 (gSeq j2 j3)))))))
theorem s16_eq (h : W14 n ns ts zs) {ys : List Nat} (hy : ys.length ≤ 1000) {a4 a10 a13 a14 a15 a16 a19 a20 a21 a22 : OD} {S : Src} : s16 (er n ns ts zs a4 a10 (some (ln ys)) a13 a14 a15 a16 none a19 a20 a21 a22) S = some (.nx (er n ns ts zs a4 a10 (some (ln ys)) a13 a14 a15 (some (ll (heldOf ts n ys))) none a19 a20 a21 a22) S) := by
  have hl := parts_len (ts := ts) (n := n) (by have := h.few; omega)
  refine gSet_val (d := ll (heldOf ts n ys)) (lc_map (vs := [17]) (fI := iE (rd 9)) (S0 := S) tn (fun P => decide ((ys.filter fun x => !decide (x ∈ P)) = [])) tn (S := S) (xs := parts ts n) rfl (by omega) fun P hP => ?_)
  refine ⟨(er n ns ts zs a4 a10 (some (ln ys)) a13 a14 a15 a16 none a19 a20 a21 a22).set 17 (some (tn P)), rfl, ?_, fun _ => rfl⟩
  have inner := lc_map (vs := [18]) (fI := iE (rd 11)) (S0 := S) (st := sN 18) (t := tst (b2 dNotInD (rd 18) (rd 17))) (e := rd 18) (ρ := (er n ns ts zs a4 a10 (some (ln ys)) a13 a14 a15 a16 none a19 a20 a21 a22).set 17 (some (tn P))) nm (fun x => !decide (x ∈ P)) nm (S := S) (xs := ys) rfl (by omega) fun x hx =>
    ⟨((er n ns ts zs a4 a10 (some (ln ys)) a13 a14 a15 a16 none a19 a20 a21 a22).set 17 (some (tn P))).set 18 (some (nm x)), rfl, tst_val (b2_val (S1 := S) (a := nm x) (b := tn P) rfl rfl good_nm.ntup), fun _ => rfl⟩
  exact tst_val (b2_val (S1 := S) (b := ln []) inner rfl dEq_ln)
theorem j2_eq (h : W14 n ns ts zs) {ys C : List Nat} (hC : C ∈ heldOf ts n ys) (hm : ∀ P ∈ heldOf ts n ys, ∀ x ∈ C, x ∈ P) {a4 a10 a11 a13 a14 a19 a20 a21 a22 : OD} {S : Src} : j2 (er n ns ts zs a4 a10 a11 a13 a14 (some (tn C)) (some (ll (heldOf ts n ys))) none a19 a20 a21 a22) S = some (.nx (er n ns ts zs a4 a10 a11 a13 a14 (some (tn C)) (some (ll (heldOf ts n ys))) none a19 a20 a21 a22) S) := by
  have hf := h.few
  have hl : (heldOf ts n ys).length ≤ 256 := Nat.le_trans (List.length_filter_le _ _) (parts_len (ts := ts) (n := n) (by omega))
  have hCl := (parts_lot (mem_held.mp hC).1).len
  have e1 := tst_val (b2_val (S1 := S) (S2 := S) (a := tn C) (b := ll (heldOf ts n ys)) (fa := rd 15) (fb := rd 16) (ρ := er n ns ts zs a4 a10 a11 a13 a14 (some (tn C)) (some (ll (heldOf ts n ys))) none a19 a20 a21 a22) rfl rfl (good_tn.nlst (x := C) (xs := heldOf ts n ys) (inst := inferInstance)))
  rw [decide_eq_true hC] at e1
  have e2 := lc_map (vs := [17]) (fI := iE (rd 16)) (S0 := S) (st := sN 17) (t := tst (b2 dNe (lcE [18] (iE (rd 15)) (sN 18) (tst (b2 dNotInD (rd 18) (rd 17))) (rd 18)) (mkL aN))) (e := rd 17) (ρ := er n ns ts zs a4 a10 a11 a13 a14 (some (tn C)) (some (ll (heldOf ts n ys))) none a19 a20 a21 a22) tn (fun _ => false) tn (S := S) (xs := heldOf ts n ys) rfl (by omega) fun P hP => by
    refine ⟨(er n ns ts zs a4 a10 a11 a13 a14 (some (tn C)) (some (ll (heldOf ts n ys))) none a19 a20 a21 a22).set 17 (some (tn P)), rfl, ?_, fun z => nomatch z⟩
    have inner := lc_map (vs := [18]) (fI := iE (rd 15)) (S0 := S) (st := sN 18) (t := tst (b2 dNotInD (rd 18) (rd 17))) (e := rd 18) (ρ := (er n ns ts zs a4 a10 a11 a13 a14 (some (tn C)) (some (ll (heldOf ts n ys))) none a19 a20 a21 a22).set 17 (some (tn P))) nm (fun x => !decide (x ∈ P)) nm (S := S) (xs := C) rfl (by omega) fun x hx =>
      ⟨((er n ns ts zs a4 a10 a11 a13 a14 (some (tn C)) (some (ll (heldOf ts n ys))) none a19 a20 a21 a22).set 17 (some (tn P))).set 18 (some (nm x)), rfl, tst_val (b2_val (S1 := S) (a := nm x) (b := tn P) rfl rfl good_nm.ntup), fun _ => rfl⟩
    have ee : (C.filter fun x => !decide (x ∈ P)) = [] := by
      rw [List.filter_eq_nil_iff]
      intro x hx
      simp [hm P hP x hx]
    rw [ee] at inner
    exact tst_val (b2_val (S1 := S) (a := ln []) (b := ln []) inner rfl dNe_ln)
  have e3 : (heldOf ts n ys).filter (fun _ => false) = [] := by simp
  rw [e3] at e2
  have e4 := tst_val (b2_val (S1 := S) (a := ln []) (b := ln []) e2 (show mkL aN _ S = some (ln [], S) from rfl) dNe_ln)
  exact (gIf_f (fOr_val e1 e4)).trans rfl
theorem lap_eq (h : W14 n ns ts zs) {a4 a10 a11 a13 a14 a15 a16 : OD} (S : Src) : ∃ b10 b11 b13 b14 b15 b16 S', lap (er n ns ts zs a4 a10 a11 a13 a14 a15 a16 none none none none none) S = some (.nx (er n ns ts zs a4 b10 b11 b13 b14 b15 b16 none none none none none) S') := by
  have hf := h.few
  have htl := h.tl
  obtain ⟨L, S1, e1, hm⟩ := of_eq tn (lotsOf n) (lots_ne h.one) (by have := lots_len (n := n) (by omega); omega) S
  have hL := lot_of hm
  have hLl := hL.len
  have q1 : s10 (er n ns ts zs a4 a10 a11 a13 a14 a15 a16 none none none none none) S = some (.nx (er n ns ts zs a4 (some (ln L)) a11 a13 a14 a15 a16 none none none none none) S1) := gOwn_val (d := ln L) (cN_val (aC1 (cS_val (aC1 (d := ll (lotsOf n)) rfl) e1)) (lot_tn L).lst)
  have hu : (upto 0 L.length).length = L.length := by unfold upto; rw [List.length_map, List.length_range]
  obtain ⟨ys, S2, e2, hp⟩ := pop_comp (k := 10) (v := 12) (by decide) (rest0 := L) L.length L (upto 0 L.length) (er n ns ts zs a4 (some (ln L)) a11 a13 a14 a15 a16 none none none none none) S1 rfl hu (by omega) rfl rfl
  have q2 : s11 (er n ns ts zs a4 (some (ln L)) a11 a13 a14 a15 a16 none none none none none) S1 = some (.nx (er n ns ts zs a4 (some (ln [])) (some (ln ys)) a13 a14 a15 a16 none none none none none) S2) := by
    have ei : iR1 (aC (cN dLen (aC (rd 10) aN)) aN) (er n ns ts zs a4 (some (ln L)) a11 a13 a14 a15 a16 none none none none none) S1 = some (upto 0 L.length, S1) := by
      have hb : (-(2 ^ 62) : Int) ≤ (L.length : Int) ∧ (L.length : Int) < 2 ^ 62 := by omega
      have ea : aC (cN dLen (aC (rd 10) aN)) aN (er n ns ts zs a4 (some (ln L)) a11 a13 a14 a15 a16 none none none none none) S1 = some ([.int (L.length : Int)], S1) := aC1 (cN_val (aC1 (d := ln L) rfl) (lot_ln L).len)
      unfold iR1
      rw [ea]
      dsimp only
      rw [if_pos hb]
      rfl
    exact gSetN_val (lcN_val ei (by rw [hu]; omega) e2)
  have hy0 : ys ≠ [] := fun e => hL.ne (List.perm_nil.mp (e ▸ hp).symm)
  have hyl : ys.length ≤ 1000 := by rw [hp.length_eq]; omega
  obtain ⟨σ, hσ⟩ : ∃ σ, σ = splitter (tied ts) (List.range n) ys := ⟨_, rfl⟩
  have k0 := own_splitter h.nm h.t (lot_ln ys) hyl
  have k1 := part_told_eq (zs := zs) (ts := ts) h.zl (by omega) (lot_ln ys) hy0 hyl
  have k2 := is_part_eq (zs := zs) (ts := ts) h.zl (by omega) (lot_tn ys) hy0 hyl
  rw [h.z] at k1 k2
  rw [← hσ] at k0 k1 k2
  have hlt : ∀ p, σ = some p → p < 8 := fun p e => by
    have := List.mem_range.mp (splitter_some (hσ.symm.trans e)).1
    omega
  obtain ⟨t, ht⟩ := repr_told hlt
  have q3 : s13 (er n ns ts zs a4 (some (ln [])) (some (ln ys)) a13 a14 a15 a16 none none none none none) S2 = some (.nx (er n ns ts zs a4 (some (ln [])) (some (ln ys)) (some (optD σ)) a14 a15 a16 none none none none none) S2) := gSet_val (cN_val (ds := [ln ns, .list (ts.map pr), ln ys]) rfl k0)
  have is13 : ∀ {a14 a15 a16 : OD}, b2 dIsN (rd 13) (cst .none) (er n ns ts zs a4 (some (ln [])) (some (ln ys)) (some (optD σ)) a14 a15 a16 none none none none none) S2 = some (.bool σ.isNone, S2) := fun {a14 a15 a16} => b2_val (S1 := S2) (a := optD σ) (b := .none) rfl rfl (by show some (PyData.bool (isN (optD σ))) = _; rw [isN_opt])
  have q4 : s14 (er n ns ts zs a4 (some (ln [])) (some (ln ys)) (some (optD σ)) a14 a15 a16 none none none none none) S2 = some (.nx (er n ns ts zs a4 (some (ln [])) (some (ln ys)) (some (optD σ)) (some (toldD σ)) a15 a16 none none none none none) S2) := by
    refine gSet_val (d := toldD σ) ?_
    have et := tst_val (is13 (a14 := a14) (a15 := a15) (a16 := a16))
    cases σ with
    | none => exact (ifE_t et).trans rfl
    | some p => exact (ifE_f et).trans rfl
  have q5 : j1 (er n ns ts zs a4 (some (ln [])) (some (ln ys)) (some (optD σ)) (some (toldD σ)) a15 a16 none none none none none) S2 = some (.nx (er n ns ts zs a4 (some (ln [])) (some (ln ys)) (some (optD σ)) (some (toldD σ)) a15 a16 none none none none none) S2) := by
    have e1 := tst_val (b2_val (S1 := S2) (ρ := er n ns ts zs a4 (some (ln [])) (some (ln ys)) (some (optD σ)) (some (toldD σ)) a15 a16 none none none none none) (fa := cN dRepr (aC (cN m_part_told (aC (rd 7) (aC (rd 11) aN))) aN)) (fb := cN dRepr (aC (rd 14) aN)) (cN_val (aC1 (cN_val (ds := [wb zs ts, ln ys]) rfl k1)) ht) (cN_val (aC1 (d := toldD σ) rfl) ht) (ne_same t))
    have e2 := tst_val (b2_val (S1 := S2) (ρ := er n ns ts zs a4 (some (ln [])) (some (ln ys)) (some (optD σ)) (some (toldD σ)) a15 a16 none none none none none) (fa := cN dRepr (aC (cN m_is_part (aC (rd 7) (aC (cN dTuple (aC (rd 11) aN)) aN))) aN)) (fb := cN dRepr (aC (b2 dIsN (rd 13) (cst .none)) aN)) (cN_val (aC1 (cN_val (ds := [wb zs ts, tn ys]) (aC_val rfl (aC1 (cN_val (aC1 (d := ln ys) rfl) (lot_ln ys).tup))) k2)) (repr_bool _)) (cN_val (aC1 is13) (repr_bool _)) (ne_same _))
    exact (gIf_f (fOr_val e1 e2)).trans rfl
  have hynd := hp.nodup_iff.mpr hL.nd
  have hylt : ∀ x ∈ ys, x < n := fun x hx => hL.lt x (hp.mem_iff.mp hx)
  obtain ⟨lot', l1, l2, l3, l4, l5⟩ := least_eq (zs := zs) (ts := ts) (n := n) (lot := ys) (lot_ln ys) h.z (by omega) (by omega) hy0 hynd hylt
  obtain ⟨C, hC⟩ : ∃ C, C = (List.range n).filter fun x => decide (x ∈ lot') := ⟨_, rfl⟩
  rw [← hC] at l1
  have hheld : C ∈ heldOf ts n ys := by rw [hC]; exact least_held l2 l3 l4 hy0
  have hCm : ∀ y, y ∈ C ↔ y ∈ lot' := fun y => by
    rw [hC, List.mem_filter, decide_eq_true_eq, List.mem_range]
    exact ⟨fun z => z.2, fun z => ⟨l4 y z, z⟩⟩
  have hmin : ∀ P ∈ heldOf ts n ys, ∀ x ∈ C, x ∈ P := fun P hP x hx => l5 P (mem_parts.mp (mem_held.mp hP).1).2 (mem_held.mp hP).2 x ((hCm x).mp hx)
  have lC := parts_lot (mem_held.mp hheld).1
  have lCl := lC.len
  have q6 : s15 (er n ns ts zs a4 (some (ln [])) (some (ln ys)) (some (optD σ)) (some (toldD σ)) a15 a16 none none none none none) S2 = some (.nx (er n ns ts zs a4 (some (ln [])) (some (ln ys)) (some (optD σ)) (some (toldD σ)) (some (tn C)) a16 none none none none none) S2) := gSet_val (cN_val (ds := [wb zs ts, ln ys]) rfl l1)
  have q7 := s16_eq h hyl (a4 := a4) (a10 := some (ln [])) (a13 := some (optD σ)) (a14 := some (toldD σ)) (a15 := some (tn C)) (a16 := a16) (a19 := none) (a20 := none) (a21 := none) (a22 := none) (S := S2)
  have q8 := j2_eq h hheld hmin (a4 := a4) (a10 := some (ln [])) (a11 := some (ln ys)) (a13 := some (optD σ)) (a14 := some (toldD σ)) (a19 := none) (a20 := none) (a21 := none) (a22 := none) (S := S2)
  -- the least part of the least part
  obtain ⟨lot2, m1, m2, m3, m4, m5⟩ := least_eq (zs := zs) (ts := ts) (n := n) (lot := C) (lot_tn C) h.z (by omega) (by omega) lC.ne lC.nd lC.lt
  have hsame : (List.range n).filter (fun x => decide (x ∈ lot2)) = C := by
    rw [hC]
    refine List.filter_congr fun x hx => decide_eq_decide.mpr ?_
    rw [← hCm]
    exact ⟨fun z => m5 C (mem_parts.mp (mem_held.mp hheld).1).2 (fun y hy => hy) x z, fun z => m3 x z⟩
  rw [hsame] at m1
  have hr : dRepr [tn C] = some (.str (tn C).shown) := repr_tn (fun x hx => by have := lC.lt x hx; omega) (by omega)
  have q9 : j3 (er n ns ts zs a4 (some (ln [])) (some (ln ys)) (some (optD σ)) (some (toldD σ)) (some (tn C)) (some (ll (heldOf ts n ys))) none none none none none) S2 = some (.nx (er n ns ts zs a4 (some (ln [])) (some (ln ys)) (some (optD σ)) (some (toldD σ)) (some (tn C)) (some (ll (heldOf ts n ys))) none none none none none) S2) :=
    (gIf_f (S1 := S2) (tst_val (b2_val (S1 := S2) (cN_val (aC1 (cN_val (ds := [wb zs ts, tn C]) rfl m1)) hr) (cN_val (aC1 (d := tn C) rfl) hr) (ne_same _)))).trans rfl
  exact ⟨_, _, _, _, _, _, S2, (gSeq_nx q1).trans ((gSeq_nx q2).trans ((gSeq_nx q3).trans ((gSeq_nx q4).trans ((gSeq_nx q5).trans ((gSeq_nx q6).trans ((gSeq_nx q7).trans ((gSeq_nx q8).trans q9)))))))⟩
theorem laps (h : W14 n ns ts zs) {a4 : OD} (S : Src) : ∃ b4 b10 b11 b13 b14 b15 b16 S', gFor (iR1 (aC (cst (.int 6)) aN)) (sN 4) lap (er n ns ts zs a4 none none none none none none none none none none none) S = some (.nx (er n ns ts zs b4 b10 b11 b13 b14 b15 b16 none none none none none) S') := by
  obtain ⟨ρ', S', e, b4, b10, b11, b13, b14, b15, b16, rfl⟩ := forL_inv (st := sN 4) (g := lap) (ds := upto 0 6)
    (fun i ρ S => ∃ b4 b10 b11 b13 b14 b15 b16, ρ = er n ns ts zs b4 b10 b11 b13 b14 b15 b16 none none none none none) (fun i d ρ S hd ⟨b4, b10, b11, b13, b14, b15, b16, e⟩ => by
      subst e
      obtain ⟨c10, c11, c13, c14, c15, c16, S', e⟩ := lap_eq h (a4 := some d) (a10 := b10) (a11 := b11) (a13 := b13) (a14 := b14) (a15 := b15) (a16 := b16) S
      exact ⟨_, rfl, _, S', e, some d, c10, c11, c13, c14, c15, c16, rfl⟩) (ρ := er n ns ts zs a4 none none none none none none none none none none none) (S := S) ⟨a4, none, none, none, none, none, none, rfl⟩
  exact ⟨_, _, _, _, _, _, _, S', (gFor_val (S1 := S) (ds := upto 0 6) rfl).trans e⟩
end
end LW

set_option Elab.async false
set_option linter.all false
set_option maxRecDepth 100000
set_option maxHeartbeats 4000000
namespace LW
open PySem PySem.Spec PyProof.Rows L2 TL

section
variable {n : Nat} {ns : List Nat} {ts : List (Nat × Nat)} {zs : List Post}
theorem both_filter {A B : List Nat} (hA : Lot n A) : A.filter (fun x => decide (x ∈ B)) = bothL n A B := by
  have e : A.filter (fun x => decide (x ∈ B)) = ((List.range n).filter fun x => decide (x ∈ A)).filter fun x => decide (x ∈ B) := by rw [← hA.canon]
  rw [e, List.filter_filter]
  unfold bothL
  exact List.filter_congr fun x _ => Bool.and_comm _ _
theorem mem_both {A B : List Nat} (hA : Lot n A) {x : Nat} : x ∈ bothL n A B ↔ x ∈ A ∧ x ∈ B := by
  rw [← both_filter hA, List.mem_filter, decide_eq_true_eq]
theorem less_both1 {A B : List Nat} (hA : Lot n A) : A.filter (fun x => !decide (x ∈ bothL n A B)) = lessL A B :=
  List.filter_congr fun x hx => by
    congr 1
    exact decide_eq_decide.mpr (by rw [mem_both hA]; exact ⟨fun z => z.2, fun z => ⟨hx, z⟩⟩)
theorem less_both2 {A B : List Nat} (hA : Lot n A) : B.filter (fun x => !decide (x ∈ bothL n A B)) = lessL B A :=
  List.filter_congr fun x hx => by
    congr 1
    exact decide_eq_decide.mpr (by rw [mem_both hA]; exact ⟨fun z => z.1, fun z => ⟨z, hx⟩⟩)
theorem two_parts {A B : List Nat} (hA : A ∈ parts ts n) (hB : B ∈ parts ts n) (h0 : bothL n A B ≠ []) : bothL n A B ∈ parts ts n ∧ anyL n A B ∈ parts ts n := by
  have lA := parts_lot hA
  have lB := parts_lot hB
  cases hc : crossed A B with
  | true =>
    have := five hA hB hc
    exact ⟨this _ (by simp), this _ (by simp)⟩
  | false =>
    rw [crossed_word lA lB, Bool.and_eq_false_iff, Bool.and_eq_false_iff] at hc
    have sub : ∀ X Y : List Nat, (!decide ((X.filter fun x => !decide (x ∈ Y)) = [])) = false → ∀ x ∈ X, x ∈ Y := fun X Y h x hx => by
      have : (X.filter fun x => !decide (x ∈ Y)) = [] := by simpa using h
      rw [List.filter_eq_nil_iff] at this
      simpa using this x hx
    rcases hc with hc | hc | hc
    · have : bothL n A B = [] := by
        rw [Bool.not_eq_false', decide_eq_true_eq] at hc
        exact hc
      exact absurd this h0
    · have s := sub A B hc
      have e1 : bothL n A B = A := by
        rw [← both_filter lA]
        exact List.filter_eq_self.mpr fun x hx => decide_eq_true (s x hx)
      have e2 : anyL n A B = B := by
        conv => rhs; rw [lB.canon]
        exact List.filter_congr fun x _ => by
          by_cases a : x ∈ A
          · simp [a, s x a]
          · simp [a]
      rw [e1, e2]
      exact ⟨hA, hB⟩
    · have s := sub B A hc
      have e1 : bothL n A B = B := by
        unfold bothL
        conv => rhs; rw [lB.canon]
        exact List.filter_congr fun x _ => by
          by_cases b : x ∈ B
          · simp [b, s x b]
          · simp [b]
      have e2 : anyL n A B = A := by
        unfold anyL
        conv => rhs; rw [lA.canon]
        exact List.filter_congr fun x _ => by
          by_cases b : x ∈ B
          · simp [b, s x b]
          · simp [b]
      rw [e1, e2]
      exact ⟨hB, hA⟩
theorem sort_xor {A B : List Nat} (hA : Lot n A) (hB : Lot n B) : dSortedB [tn (lessL A B ++ lessL B A)] = some (ln (xorL n A B)) := by
  refine sort_nm (xs := lessL A B ++ lessL B A) (zs := xorL n A B) ?_ (List.pairwise_lt_range.sublist List.filter_sublist)
  refine (List.perm_ext_iff_of_nodup ?_ (List.nodup_range.sublist List.filter_sublist)).mpr fun x => ?_
  · rw [List.nodup_append]
    refine ⟨hA.nd.sublist List.filter_sublist, hB.nd.sublist List.filter_sublist, fun a ha b hb e => ?_⟩
    subst e
    have h1 := (List.mem_filter.mp ha).1
    have h2 := (List.mem_filter.mp hb).2
    simp [h1] at h2
  · rw [List.mem_append]
    unfold lessL
    rw [List.mem_filter, List.mem_filter, List.mem_filter, List.mem_range]
    by_cases a : x ∈ A <;> by_cases b : x ∈ B
    · simp [a, b]
    · simp [a, b, hA.lt x a]
    · simp [a, b, hB.lt x b]
    · simp [a, b]
/-! ### behind the laps -/
def r18 : FS := gPar [18, 19] (aC (cS m__law_of (aC (rd 9) aN)) (aC (cS m__law_of (aC (rd 9) aN)) aN))
def r20 : FS := gSet 20 (cN dTuple (aC (lcE [13] (iE (rd 18)) (sN 13) (tst (b2 dInD (rd 13) (rd 19))) (rd 13)) aN))
def r21 : FS := gSet 21 (lcE [10] (iE (mkT (aC (rd 18) (aC (rd 19) aN)))) (sN 10) bT (cN dTuple (aC (lcE [13] (iE (rd 10)) (sN 13) (tst (b2 dNotInD (rd 13) (rd 20))) (rd 13)) aN)))
def k1' : FS := gIf (tst (b2 dNe (cN dRepr (aC (cN m_are_crossed (aC (rd 18) (aC (rd 19) aN))) aN)) (cN dRepr (aC (bE (fAnd (tst (b2 dNe (rd 20) (mkT aN))) (fAnd (tst (b2 dNe (b2 dSub2 (rd 21) (cst (.int 0))) (mkT aN))) (tst (b2 dNe (b2 dSub2 (rd 21) (cst (.int 1))) (mkT aN)))))) aN)))) (gRet (cst (.bool false))) gN
def r22 : FS := gSet 22 (mkL (aC (rd 20) (aC (cN dTuple (aC (cN dSortedB (aC (cN dDictK (aC (lcE [13] (iE (b2 dAdd (rd 18) (rd 19))) (sN 13) bT (mkT (aC (rd 13) (aC (cst (.int 0)) aN)))) aN)) aN)) aN)) aN)))
def k3 : FS := gIf (tst (cN m_are_crossed (aC (rd 18) (aC (rd 19) aN)))) (gSet 22 (b2 dAdd (b2 dAdd (rd 22) (rd 21)) (mkL (aC (cN dTuple (aC (cN dSortedB (aC (b2 dAdd (b2 dSub2 (rd 21) (cst (.int 0))) (b2 dSub2 (rd 21) (cst (.int 1)))) aN)) aN)) aN)))) gN
def k4 : FS := gIf (tst (b2 dNe (lcE [10] (iE (rd 22)) (sN 10) (fNot (tst (cN m_is_part (aC (rd 7) (aC (rd 10) aN))))) (rd 10)) (mkL aN))) (gRet (cst (.bool false))) gN
def k2 : FS := gIf (tst (b2 dNe (rd 20) (mkT aN))) (gSeq r22 (gSeq k3 k4)) gN
def rEnd : FS := gRet (b2 dEq (lcE [17] (iE (rd 9)) (sN 17) (fNot (tst (cN m_is_part (aC (rd 7) (aC (rd 17) aN))))) (rd 17)) (mkL aN))
theorem fNot_val {f : FB} {ρ : Rho} {S S1 : Src} {b : Bool} (e : f ρ S = some (b, S1)) : fNot f ρ S = some (!b, S1) := by
  unfold fNot
  rw [e]
theorem part_true (h : W14 n ns ts zs) {Q : List Nat} (hQ : Q ∈ parts ts n) : m_is_part [wb zs ts, tn Q] = some (.bool true) := by
  have hl := parts_lot hQ
  have hf := h.few
  have htl := h.tl
  have k := is_part_eq (zs := zs) (ts := ts) h.zl (by omega) (lot_tn Q) hl.ne (by have := hl.len; omega)
  rw [h.z, splitter_none.mpr (mem_parts.mp hQ).2] at k
  exact k
section
variable {A B : List Nat} {a4 a10 a11 a13 a14 a15 a16 a18 a19 a20 a21 a22 : OD} {S : Src}
theorem r20_eq (hA : Lot n A) (h : W14 n ns ts zs) : r20 (er n ns ts zs a4 a10 a11 a13 a14 a15 a16 (some (tn A)) (some (tn B)) a20 a21 a22) S = some (.nx (er n ns ts zs a4 a10 a11 a13 a14 a15 a16 (some (tn A)) (some (tn B)) (some (tn (bothL n A B))) a21 a22) S) := by
  have hf := h.few
  have hl := hA.len
  have := lc_map (vs := [13]) (fI := iE (rd 18)) (S0 := S) (st := sN 13) (t := tst (b2 dInD (rd 13) (rd 19))) (e := rd 13) (ρ := er n ns ts zs a4 a10 a11 a13 a14 a15 a16 (some (tn A)) (some (tn B)) a20 a21 a22) nm (fun x => decide (x ∈ B)) nm (S := S) (xs := A) rfl (by omega) fun x hx =>
    ⟨_, rfl, tst_val (b2_val (S1 := S) (a := nm x) (b := tn B) rfl rfl good_nm.tup), fun _ => rfl⟩
  rw [both_filter hA] at this
  exact gSet_val (d := tn (bothL n A B)) (cN_val (aC1 this) (lot_ln _).tup)
theorem r21_eq (hA : Lot n A) (hB : Lot n B) (h : W14 n ns ts zs) : r21 (er n ns ts zs a4 a10 a11 a13 a14 a15 a16 (some (tn A)) (some (tn B)) (some (tn (bothL n A B))) a21 a22) S = some (.nx (er n ns ts zs a4 a10 a11 a13 a14 a15 a16 (some (tn A)) (some (tn B)) (some (tn (bothL n A B))) (some (.list [tn (lessL A B), tn (lessL B A)])) a22) S) := by
  have hf := h.few
  have hl := hA.len
  have hl2 := hB.len
  have := lc_map (vs := [10]) (fI := iE (mkT (aC (rd 18) (aC (rd 19) aN)))) (S0 := S) (st := sN 10) (t := bT) (e := cN dTuple (aC (lcE [13] (iE (rd 10)) (sN 13) (tst (b2 dNotInD (rd 13) (rd 20))) (rd 13)) aN)) (ρ := er n ns ts zs a4 a10 a11 a13 a14 a15 a16 (some (tn A)) (some (tn B)) (some (tn (bothL n A B))) a21 a22) tn (fun _ => true) (fun X => tn (X.filter fun x => !decide (x ∈ bothL n A B))) (S := S) (xs := [A, B]) rfl (by simp) fun X hX => by
    refine ⟨er n ns ts zs a4 (some (tn X)) a11 a13 a14 a15 a16 (some (tn A)) (some (tn B)) (some (tn (bothL n A B))) a21 a22, rfl, rfl, fun _ => ?_⟩
    have hXl : X.length ≤ 7 := by
      simp only [List.mem_cons, List.not_mem_nil, or_false] at hX
      rcases hX with rfl | rfl <;> omega
    have := lc_map (vs := [13]) (fI := iE (rd 10)) (S0 := S) (st := sN 13) (t := tst (b2 dNotInD (rd 13) (rd 20))) (e := rd 13) (ρ := er n ns ts zs a4 (some (tn X)) a11 a13 a14 a15 a16 (some (tn A)) (some (tn B)) (some (tn (bothL n A B))) a21 a22) nm (fun x => !decide (x ∈ bothL n A B)) nm (S := S) (xs := X) rfl (by omega) fun x hx =>
      ⟨_, rfl, tst_val (b2_val (S1 := S) (a := nm x) (b := tn (bothL n A B)) rfl rfl good_nm.ntup), fun _ => rfl⟩
    exact cN_val (aC1 this) (lot_ln _).tup
  rw [filter_all] at this
  rw [List.map_cons, List.map_cons, List.map_nil, less_both1 hA, less_both2 hA] at this
  exact gSet_val this
theorem k1_eq (hA : Lot n A) (hB : Lot n B) (h : W14 n ns ts zs) : k1' (er n ns ts zs a4 a10 a11 a13 a14 a15 a16 (some (tn A)) (some (tn B)) (some (tn (bothL n A B))) (some (.list [tn (lessL A B), tn (lessL B A)])) a22) S = some (.nx (er n ns ts zs a4 a10 a11 a13 a14 a15 a16 (some (tn A)) (some (tn B)) (some (tn (bothL n A B))) (some (.list [tn (lessL A B), tn (lessL B A)])) a22) S) := by
  have hf := h.few
  have hl := hA.len
  have e1 := bE_val (fAnd_val (S := S) (ρ := er n ns ts zs a4 a10 a11 a13 a14 a15 a16 (some (tn A)) (some (tn B)) (some (tn (bothL n A B))) (some (.list [tn (lessL A B), tn (lessL B A)])) a22) (tst_val (b2_val (S1 := S) (a := tn (bothL n A B)) (b := tn []) (fa := rd 20) (fb := mkT aN) rfl rfl dNe_tn))
    (fAnd_val (tst_val (b2_val (S1 := S) (a := tn (lessL A B)) (b := tn []) (fa := b2 dSub2 (rd 21) (cst (.int 0))) (fb := mkT aN) (b2_val (S1 := S) (a := .list [tn (lessL A B), tn (lessL B A)]) (b := .int 0) rfl rfl ixl0) rfl dNe_tn))
      (tst_val (b2_val (S1 := S) (a := tn (lessL B A)) (b := tn []) (fa := b2 dSub2 (rd 21) (cst (.int 1))) (fb := mkT aN) (b2_val (S1 := S) (a := .list [tn (lessL A B), tn (lessL B A)]) (b := .int 1) rfl rfl ixl1) rfl dNe_tn))))
  have hw : (!decide (bothL n A B = []) && (!decide (lessL A B = []) && !decide (lessL B A = []))) = crossed A B := (crossed_word hA hB).symm
  rw [hw] at e1
  exact (gIf_f (S1 := S) (tst_val (b2_val (S1 := S) (cN_val (aC1 (cN_val (ds := [tn A, tn B]) rfl (crossed_eq (by omega)))) (repr_bool _)) (cN_val (aC1 e1) (repr_bool _)) (ne_same _)))).trans rfl
theorem k4_eq (h : W14 n ns ts zs) {Qs : List (List Nat)} (hq : ∀ Q ∈ Qs, Q ∈ parts ts n) (hl : Qs.length ≤ 10) : k4 (er n ns ts zs a4 a10 a11 a13 a14 a15 a16 a18 a19 a20 a21 (some (ll Qs))) S = some (.nx (er n ns ts zs a4 a10 a11 a13 a14 a15 a16 a18 a19 a20 a21 (some (ll Qs))) S) := by
  have := lc_map (vs := [10]) (fI := iE (rd 22)) (S0 := S) (st := sN 10) (t := fNot (tst (cN m_is_part (aC (rd 7) (aC (rd 10) aN))))) (e := rd 10) (ρ := er n ns ts zs a4 a10 a11 a13 a14 a15 a16 a18 a19 a20 a21 (some (ll Qs))) tn (fun _ => false) tn (S := S) (xs := Qs) rfl (by omega) fun Q hQ =>
    ⟨er n ns ts zs a4 (some (tn Q)) a11 a13 a14 a15 a16 a18 a19 a20 a21 (some (ll Qs)), rfl, fNot_val (tst_val (cN_val (ds := [wb zs ts, tn Q]) rfl (part_true h (hq Q hQ)))), fun z => nomatch z⟩
  rw [show Qs.filter (fun _ => false) = [] from by simp] at this
  exact (gIf_f (S1 := S) (tst_val (b2_val (S1 := S) (a := ln []) (b := ln []) this rfl dNe_ln))).trans rfl
theorem rEnd_eq (h : W14 n ns ts zs) : rEnd (er n ns ts zs a4 a10 a11 a13 a14 a15 a16 a18 a19 a20 a21 a22) S = some (.rt (.bool true) S) := by
  have hl := parts_len (ts := ts) (n := n) (by have := h.few; omega)
  have := lc_map (vs := [17]) (fI := iE (rd 9)) (S0 := S) (st := sN 17) (t := fNot (tst (cN m_is_part (aC (rd 7) (aC (rd 17) aN))))) (e := rd 17) (ρ := er n ns ts zs a4 a10 a11 a13 a14 a15 a16 a18 a19 a20 a21 a22) tn (fun _ => false) tn (S := S) (xs := parts ts n) rfl (by omega) fun Q hQ =>
    ⟨(er n ns ts zs a4 a10 a11 a13 a14 a15 a16 a18 a19 a20 a21 a22).set 17 (some (tn Q)), rfl, fNot_val (tst_val (cN_val (ds := [wb zs ts, tn Q]) rfl (part_true h hQ))), fun z => nomatch z⟩
  rw [show (parts ts n).filter (fun _ => false) = [] from by simp] at this
  exact gRet_val (b2_val (S1 := S) (a := ln []) (b := ln []) this rfl dEq_ln)
theorem k2_eq (hA : A ∈ parts ts n) (hB : B ∈ parts ts n) (h : W14 n ns ts zs) : ∃ c22, k2 (er n ns ts zs a4 a10 a11 a13 a14 a15 a16 (some (tn A)) (some (tn B)) (some (tn (bothL n A B))) (some (.list [tn (lessL A B), tn (lessL B A)])) a22) S = some (.nx (er n ns ts zs a4 a10 a11 a13 a14 a15 a16 (some (tn A)) (some (tn B)) (some (tn (bothL n A B))) (some (.list [tn (lessL A B), tn (lessL B A)])) c22) S) := by
  have lA := parts_lot hA
  have lB := parts_lot hB
  have hf := h.few
  have hl1 := lA.len
  have hl2 := lB.len
  have hz : (100000 : Nat) ≤ sizeLine := by decide
  have et := tst_val (b2_val (S1 := S) (S2 := S) (a := tn (bothL n A B)) (b := tn []) (fa := rd 20) (fb := mkT aN) (ρ := er n ns ts zs a4 a10 a11 a13 a14 a15 a16 (some (tn A)) (some (tn B)) (some (tn (bothL n A B))) (some (.list [tn (lessL A B), tn (lessL B A)])) a22) rfl rfl dNe_tn)
  by_cases h0 : bothL n A B = []
  · rw [show (!decide (bothL n A B = [])) = false from by simp [h0]] at et
    exact ⟨a22, (gIf_f et).trans rfl⟩
  · rw [show (!decide (bothL n A B = [])) = true from by simp [h0]] at et
    obtain ⟨p1, p2⟩ := two_parts hA hB h0
    -- the two
    have q1 : r22 (er n ns ts zs a4 a10 a11 a13 a14 a15 a16 (some (tn A)) (some (tn B)) (some (tn (bothL n A B))) (some (.list [tn (lessL A B), tn (lessL B A)])) a22) S = some (.nx (er n ns ts zs a4 a10 a11 a13 a14 a15 a16 (some (tn A)) (some (tn B)) (some (tn (bothL n A B))) (some (.list [tn (lessL A B), tn (lessL B A)])) (some (ll [bothL n A B, anyL n A B]))) S) := by
      have ha : dAdd (tn A) (tn B) = some (tn (A ++ B)) := by
        unfold tn
        rw [List.map_append]
        refine if_pos ?_
        rw [List.length_map, List.length_map]
        omega
      have hlc := lc_map (vs := [13]) (fI := iE (b2 dAdd (rd 18) (rd 19))) (S0 := S) (st := sN 13) (t := bT) (e := mkT (aC (rd 13) (aC (cst (.int 0)) aN))) (ρ := er n ns ts zs a4 a10 a11 a13 a14 a15 a16 (some (tn A)) (some (tn B)) (some (tn (bothL n A B))) (some (.list [tn (lessL A B), tn (lessL B A)])) a22) nm (fun _ => true) (fun x => .tuple [nm x, .int 0]) (S := S) (xs := A ++ B)
        (iE_val (b2_val (S1 := S) (a := tn A) (b := tn B) rfl rfl ha) rfl) (by rw [List.length_append]; omega) fun x hx => ⟨_, rfl, rfl, fun _ => rfl⟩
      rw [filter_all] at hlc
      obtain ⟨kvs, d1, d2⟩ := names_once (A ++ B) (n := n) (fun x hx => (List.mem_append.mp hx).elim (lA.lt x) (lB.lt x))
      have ee : (List.range n).filter (fun x => decide (x ∈ A ++ B)) = anyL n A B := List.filter_congr fun x _ => by
        by_cases a : x ∈ A <;> by_cases b : x ∈ B <;> simp [a, b]
      rw [ee] at d2
      exact gSet_val (d := ll [bothL n A B, anyL n A B]) (mkL_val (aC_val (S1 := S) (d := tn (bothL n A B)) rfl (aC1 (cN_val (aC1 (cN_val (aC1 (cN_val (aC1 hlc) d1)) d2)) (lot_ln _).tup))))
    -- the crossed ones
    have ec := tst_val (S' := S) (f := cN m_are_crossed (aC (rd 18) (aC (rd 19) aN))) (ρ := er n ns ts zs a4 a10 a11 a13 a14 a15 a16 (some (tn A)) (some (tn B)) (some (tn (bothL n A B))) (some (.list [tn (lessL A B), tn (lessL B A)])) (some (ll [bothL n A B, anyL n A B]))) (cN_val (S1 := S) (ds := [tn A, tn B]) rfl (crossed_eq (a := A) (b := B) (by omega)))
    cases hc : crossed A B with
    | false =>
      rw [hc] at ec
      have q2 : k3 (er n ns ts zs a4 a10 a11 a13 a14 a15 a16 (some (tn A)) (some (tn B)) (some (tn (bothL n A B))) (some (.list [tn (lessL A B), tn (lessL B A)])) (some (ll [bothL n A B, anyL n A B]))) S = some (.nx (er n ns ts zs a4 a10 a11 a13 a14 a15 a16 (some (tn A)) (some (tn B)) (some (tn (bothL n A B))) (some (.list [tn (lessL A B), tn (lessL B A)])) (some (ll [bothL n A B, anyL n A B]))) S) := (gIf_f ec).trans rfl
      exact ⟨_, (gIf_t et).trans ((gSeq_nx q1).trans ((gSeq_nx q2).trans (k4_eq h (fun Q hQ => by
        simp only [List.mem_cons, List.not_mem_nil, or_false] at hQ
        rcases hQ with rfl | rfl
        · exact p1
        · exact p2) (by simp))))⟩
    | true =>
      rw [hc] at ec
      have h5 := five hA hB hc
      have ha1 : dAdd (tn (lessL A B)) (tn (lessL B A)) = some (tn (lessL A B ++ lessL B A)) := by
        unfold tn
        rw [List.map_append]
        refine if_pos ?_
        rw [List.length_map, List.length_map]
        have i1 : (lessL A B).length ≤ A.length := List.length_filter_le _ _
        have i2 : (lessL B A).length ≤ B.length := List.length_filter_le _ _
        omega
      have ha2 : dAdd (ll [bothL n A B, anyL n A B]) (.list [tn (lessL A B), tn (lessL B A)]) = some (ll [bothL n A B, anyL n A B, lessL A B, lessL B A]) := by
        show (if 2 + 2 ≤ sizeLine then some (PyData.list [tn (bothL n A B), tn (anyL n A B), tn (lessL A B), tn (lessL B A)]) else none) = _
        exact if_pos (by decide)
      have ha3 : dAdd (ll [bothL n A B, anyL n A B, lessL A B, lessL B A]) (.list [tn (xorL n A B)]) = some (ll [bothL n A B, anyL n A B, lessL A B, lessL B A, xorL n A B]) := by
        show (if 4 + 1 ≤ sizeLine then some (PyData.list [tn (bothL n A B), tn (anyL n A B), tn (lessL A B), tn (lessL B A), tn (xorL n A B)]) else none) = _
        exact if_pos (by decide)
      have q2 : k3 (er n ns ts zs a4 a10 a11 a13 a14 a15 a16 (some (tn A)) (some (tn B)) (some (tn (bothL n A B))) (some (.list [tn (lessL A B), tn (lessL B A)])) (some (ll [bothL n A B, anyL n A B]))) S = some (.nx (er n ns ts zs a4 a10 a11 a13 a14 a15 a16 (some (tn A)) (some (tn B)) (some (tn (bothL n A B))) (some (.list [tn (lessL A B), tn (lessL B A)])) (some (ll [bothL n A B, anyL n A B, lessL A B, lessL B A, xorL n A B]))) S) :=
        (gIf_t ec).trans (gSet_val (b2_val (S1 := S) (b2_val (S1 := S) (a := ll [bothL n A B, anyL n A B]) (b := .list [tn (lessL A B), tn (lessL B A)]) rfl rfl ha2)
          (mkL_val (aC1 (S1 := S) (d := tn (xorL n A B)) (cN_val (aC1 (cN_val (aC1 (b2_val (S1 := S) (a := tn (lessL A B)) (b := tn (lessL B A)) (b2_val (S1 := S) (a := .list [tn (lessL A B), tn (lessL B A)]) (b := .int 0) rfl rfl ixl0) (b2_val (S1 := S) (a := .list [tn (lessL A B), tn (lessL B A)]) (b := .int 1) rfl rfl ixl1) ha1)) (sort_xor lA lB))) (lot_ln _).tup))) ha3))
      exact ⟨_, (gIf_t et).trans ((gSeq_nx q1).trans ((gSeq_nx q2).trans (k4_eq h (fun Q hQ => h5 Q (by
        simp only [List.mem_cons, List.not_mem_nil, or_false] at hQ ⊢
        rcases hQ with rfl | rfl | rfl | rfl | rfl <;> simp)) (by simp))))⟩
end
/-! ### the draws -/
def ln7 : List D := [.str "a", .str "b", .str "c", .str "d", .str "e", .str "f", .str "g"]
def e0 (n : Nat) (rest ns : List Nat) (a4 : OD) : Rho := [none, none, some (ln rest), some (ln ns), a4, none, none, none, none, none, none, none, none, none, none, none, none, none, none, none, none, none, none]
theorem mixing {n : Nat} (hn : n ≤ 7) (S : Src) : ∃ ns a4 S', gFor (iR1 (aC (cN dLen (aC (rd 2) aN)) aN)) (sN 4) (gAppN 3 (nP 2 (cS m__law_pick (aC (cN dLen (aC (rd 2) aN)) aN)))) (e0 n (List.range n) [] none) S = some (.nx (e0 n [] ns a4) S') ∧ ns.Perm (List.range n) := by
  have hu : (upto 0 n).length = n := by unfold upto; rw [List.length_map, List.length_range]
  obtain ⟨ρ', S', e, rest, ns, a4, rfl, h1, h2⟩ := forL_inv (st := sN 4) (g := gAppN 3 (nP 2 (cS m__law_pick (aC (cN dLen (aC (rd 2) aN)) aN)))) (ds := upto 0 n)
    (fun i ρ S => ∃ rest ns a4, ρ = e0 n rest ns a4 ∧ rest.length = n - i ∧ (ns ++ rest).Perm (List.range n)) (fun i d ρ S hd ⟨rest, ns, a4, e, h1, h2⟩ => by
      subst e
      have hi : i < n := by
        have := (List.getElem?_eq_some_iff.mp hd).1
        rwa [hu] at this
      obtain ⟨j, S1, e1, hj⟩ := pick_ix (n := rest.length) (by omega) (by omega) S
      have en := nP_val (i := 2) (f := cS m__law_pick (aC (cN dLen (aC (rd 2) aN)) aN)) (ρ := e0 n rest ns (some d)) (S := S) (cS_val (aC1 (cN_val (aC1 (d := ln rest) rfl) (lot_ln rest).len)) e1) (ds := rest.map nm) rfl (d := nm rest[j]) (by rw [List.getElem?_map, List.getElem?_eq_getElem hj]; rfl) (by rw [List.length_map]; omega)
      have hlen : ns.length ≤ 100 := by
        have := h2.length_eq
        rw [List.length_append, List.length_range] at this
        omega
      have ea := gAppN_val (i := 3) en (ds := ns.map nm) rfl (by rw [List.length_map]; omega)
      refine ⟨e0 n rest ns (some d), rfl, _, S1, ea, rest.eraseIdx j, ns ++ [rest[j]], some d, ?_, ?_, ?_⟩
      · unfold e0 ln
        rw [erase_map, List.map_append]
        rfl
      · rw [List.length_eraseIdx]
        split <;> omega
      · rw [List.append_assoc]
        exact (List.Perm.append_left ns (perm_erase rest j _ (List.getElem?_eq_getElem hj))).trans h2) (ρ := e0 n (List.range n) [] none) (S := S) ⟨List.range n, [], none, rfl, by rw [List.length_range]; omega, .refl _⟩
  rw [hu] at h1
  have : rest = [] := List.length_eq_zero_iff.mp (by omega)
  subst this
  rw [List.append_nil] at h2
  refine ⟨ns, a4, S', (gFor_val (S1 := S) (ds := upto 0 n) ?_).trans e, h2⟩
  have hb : (-(2 ^ 62) : Int) ≤ (n : Int) ∧ (n : Int) < 2 ^ 62 := by omega
  have ea : aC (cN dLen (aC (rd 2) aN)) aN (e0 n (List.range n) [] none) S = some ([.int (n : Int)], S) := by
    have := (lot_ln (List.range n)).len
    rw [List.length_range] at this
    exact aC1 (cN_val (aC1 (d := ln (List.range n)) rfl) this)
  unfold iR1
  rw [ea]
  dsimp only
  rw [if_pos hb]
  rfl
theorem law_true (T : Src) : ∃ T', g_law (List.replicate 23 none) T = some (.rt (.bool true) T') := by
  obtain ⟨r, S1, p1, p2, p3⟩ := pick_eq T (m := 7) (by decide)
  have hr : r < 7 := by simpa using p3
  obtain ⟨m, rfl⟩ : ∃ m : Nat, r = m := ⟨r.toNat, by omega⟩
  have w1 : gPar [2, 3] (aM (sl3 (mkL (aC (cst (.str "a")) (aC (cst (.str "b")) (aC (cst (.str "c")) (aC (cst (.str "d")) (aC (cst (.str "e")) (aC (cst (.str "f")) (aC (cst (.str "g")) aN)))))))) pN (pS (b2 dAdd (cst (.int 1)) (cS m__law_pick (aC (cst (.int 7)) aN))))) (aM (mkL aN) aN)) (List.replicate 23 none) T =
      some (.nx (e0 (1 + m) (List.range (1 + m)) [] none) S1) := by
    have hs : sl3 (mkL (aC (cst (.str "a")) (aC (cst (.str "b")) (aC (cst (.str "c")) (aC (cst (.str "d")) (aC (cst (.str "e")) (aC (cst (.str "f")) (aC (cst (.str "g")) aN)))))))) pN (pS (b2 dAdd (cst (.int 1)) (cS m__law_pick (aC (cst (.int 7)) aN)))) (List.replicate 23 none) T = some (.list ((ln7).take (1 + m)), S1) :=
      sl3_val (a := .list ln7) (l := none) (h := some ((1 + m : Nat) : Int)) rfl rfl (pS_val (b2_val (S1 := T) (a := .int 1) (b := .int m) rfl (cS_val rfl p1) (by show some (PyData.int (1 + (m : Int))) = _; rw [Int.natCast_add]; rfl))) take_cut
    have h7 : ln7.take (1 + m) = (List.range (1 + m)).map TL.nm := by
      have : m = 0 ∨ m = 1 ∨ m = 2 ∨ m = 3 ∨ m = 4 ∨ m = 5 ∨ m = 6 := by omega
      rcases this with rfl | rfl | rfl | rfl | rfl | rfl | rfl <;> rfl
    rw [h7] at hs
    exact gPar_val (ds := [ln (List.range (1 + m)), .list []]) (aM_val hs rfl)
  obtain ⟨ns, a4, S2, w2, hp⟩ := mixing (n := 1 + m) (by omega) S1
  have hn : NamesOk (1 + m) ns := ⟨hp, by omega⟩
  obtain ⟨fs, S3, t1, t2, t3⟩ := ties_eq hn S2
  obtain ⟨ts, u1, u2, u3, kvs, u4, u5⟩ := ties_once fs
  have w3 : gSet 5 (cN dSortedB (aC (cN dDictT (aC (lcE [6] (iE (cS m__law_ties (aC (rd 3) aN))) (sN 6) bT (mkT (aC (rd 6) (aC (cst (.int 0)) aN)))) aN)) aN)) (e0 (1 + m) [] ns a4) S2 = some (.nx ((e0 (1 + m) [] ns a4).set 5 (some (.list (ts.map pr)))) S3) := by
    have hlc := lc_map (vs := [6]) (fI := iE (cS m__law_ties (aC (rd 3) aN))) (S0 := S2) (st := sN 6) (t := bT) (e := mkT (aC (rd 6) (aC (cst (.int 0)) aN))) (ρ := e0 (1 + m) [] ns a4) pr (fun _ => true) (fun p => .tuple [pr p, .int 0]) (S := S3) (xs := fs)
      (iE_val (cS_val (aC1 (d := ln ns) rfl) t1) rfl) (by omega) fun p hp => ⟨_, rfl, rfl, fun _ => rfl⟩
    rw [filter_all] at hlc
    exact gSet_val (cN_val (aC1 (cN_val (aC1 hlc) u4)) u5)
  obtain ⟨zs0, S4, z1, z2, z3⟩ := posts_eq hn S3
  obtain ⟨zs, y1, y2, y3⟩ := sort_posts (n := 1 + m) z3 (by rw [z2]; exact hp)
  have hW : W14 (1 + m) ns ts zs := ⟨hn, by omega, fun p hp => t3 p ((u2 p).mp hp), by omega, y2⟩
  have w4 : gSet 7 (mkT (aC (cN dTuple (aC (cN dSortedB (aC (cS m__law_posts (aC (rd 3) aN)) aN)) aN)) (aC (cN dTuple (aC (rd 5) aN)) aN))) ((e0 (1 + m) [] ns a4).set 5 (some (.list (ts.map pr)))) S3 = some (.nx (((e0 (1 + m) [] ns a4).set 5 (some (.list (ts.map pr)))).set 7 (some (wb zs ts))) S4) :=
    gSet_val (d := wb zs ts) (mkT_val (aC_val (cN_val (aC1 (cN_val (aC1 (cS_val (aC1 (d := ln ns) rfl) z1)) y1)) rfl) (aC1 (cN_val (aC1 (d := .list (ts.map pr)) rfl) rfl))))
  have w5 : gSet 8 (cN m__law_lots (aC (rd 3) aN)) (((e0 (1 + m) [] ns a4).set 5 (some (.list (ts.map pr)))).set 7 (some (wb zs ts))) S4 = some (.nx ((((e0 (1 + m) [] ns a4).set 5 (some (.list (ts.map pr)))).set 7 (some (wb zs ts))).set 8 (some (ll (lotsOf (1 + m))))) S4) := gSet_val (cN_val (aC1 (d := ln ns) rfl) (lots_eq hn (by omega)))
  have w6 : gSet 9 (lcE [10] (iE (rd 8)) (sN 10) (tst (b2 dIsN (cN m__law_splitter (aC (rd 3) (aC (rd 5) (aC (rd 10) aN)))) (cst .none))) (rd 10)) ((((e0 (1 + m) [] ns a4).set 5 (some (.list (ts.map pr)))).set 7 (some (wb zs ts))).set 8 (some (ll (lotsOf (1 + m))))) S4 =
      some (.nx (er (1 + m) ns ts zs a4 none none none none none none none none none none none) S4) := by
    refine gSet_val (d := ll (parts ts (1 + m))) (lc_map (vs := [10]) (fI := iE (rd 8)) (S0 := S4) (st := sN 10) (t := tst (b2 dIsN (cN m__law_splitter (aC (rd 3) (aC (rd 5) (aC (rd 10) aN)))) (cst .none))) (e := rd 10) tn (fun l => (splitter (tied ts) (List.range (1 + m)) l).isNone) tn (S := S4) (xs := lotsOf (1 + m)) rfl (by have := lots_len (n := 1 + m) (by omega); omega) fun L hL => ?_)
    have hl := (lot_of hL).len
    refine ⟨_, rfl, tst_val (b2_val (S1 := S4) (a := optD (splitter (tied ts) (List.range (1 + m)) L)) (b := .none) (cN_val (ds := [ln ns, .list (ts.map pr), tn L]) rfl (own_splitter hn hW.t (lot_tn L) (by omega))) rfl (by show some (PyData.bool (isN _)) = _; rw [isN_opt])), fun _ => rfl⟩
  obtain ⟨b4, b10, b11, b13, b14, b15, b16, S5, w7⟩ := laps hW (a4 := a4) S4
  have hpl := parts_len (ts := ts) (n := 1 + m) (by omega)
  obtain ⟨A, S6, e1, mA⟩ := of_eq tn (parts ts (1 + m)) (parts_ne hW.one) (by omega) S5
  obtain ⟨B, S7, e2, mB⟩ := of_eq tn (parts ts (1 + m)) (parts_ne hW.one) (by omega) S6
  have w8 : r18 (er (1 + m) ns ts zs b4 b10 b11 b13 b14 b15 b16 none none none none none) S5 = some (.nx (er (1 + m) ns ts zs b4 b10 b11 b13 b14 b15 b16 (some (tn A)) (some (tn B)) none none none) S7) :=
    gPar_val (ds := [tn A, tn B]) (aC_val (cS_val (aC1 (d := ll (parts ts (1 + m))) rfl) e1) (aC1 (cS_val (aC1 (d := ll (parts ts (1 + m))) rfl) e2)))
  obtain ⟨c22, w12⟩ := k2_eq mA mB hW (a4 := b4) (a10 := b10) (a11 := b11) (a13 := b13) (a14 := b14) (a15 := b15) (a16 := b16) (a22 := none) (S := S7)
  exact ⟨S7, (gSeq_nx w1).trans ((gSeq_nx w2).trans ((gSeq_nx w3).trans ((gSeq_nx w4).trans ((gSeq_nx w5).trans ((gSeq_nx w6).trans ((gSeq_nx w7).trans ((gSeq_nx w8).trans ((gSeq_nx (r20_eq (parts_lot mA) hW)).trans ((gSeq_nx (r21_eq (parts_lot mA) (parts_lot mB) hW)).trans
    ((gSeq_nx (k1_eq (parts_lot mA) (parts_lot mB) hW)).trans ((gSeq_nx w12).trans (rEnd_eq hW))))))))))))⟩
end
end LW

set_option Elab.async false
set_option maxRecDepth 100000
open PySem PySem.W PyProof.Rows
set_option maxHeartbeats 0 in
theorem PySem.Challenge.cw_forcedarrows_k14_least_parts_by_all_lots_holds : PySem.Challenge.rw_forcedarrows_k14_least_parts_by_all_lots.Holds := by
  w_on; o_law; k_head; (case hw => w_witness2)
  k_fill
  refine TL.walkG (l := PySem.Challenge.rw_forcedarrows_k14_least_parts_by_all_lots) (n := 63) (k := 5) (x := "script") rfl (by decide) rfl ⟨rfl, by decide, by decide⟩ (fun w h Y => PySem.W.kIn_of Y) ?F
  case F =>
    intro w mg fa h KX G hmg
    refine' TL.def_then (x := "names_of") (st := LW.s_names_of) (ps := ["web"]) KX G (fun _ _ _ _ _ _ us hl => match us, hl with | [_], _ => rfl) ?a0 ?l0 ?c0 ?k0 ?n0
    (case a0 => k_is); (case l0 => k_is); (case c0 => k_is); (case k0 => k_is)
    intro F_names_of
    refine' TL.def_then (x := "known_ties") (st := LW.s_known_ties) (ps := ["web"]) KX G (fun _ _ _ _ _ _ us hl => match us, hl with | [_], _ => rfl) ?a1 ?l1 ?c1 ?k1 ?n1
    (case a1 => k_is); (case l1 => k_is); (case c1 => k_is); (case k1 => k_is)
    intro F_known_ties
    refine' TL.def_then (x := "is_split") (st := LW.s_is_split) (ps := ["known", "lot", "post"]) KX G (fun _ _ _ _ _ _ us hl => match us, hl with | [_, _, _], _ => rfl) ?a2 ?l2 ?c2 ?k2 ?n2
    (case a2 => k_is); (case l2 => k_is); (case c2 => k_is); (case k2 => k_is)
    intro F_is_split
    refine' TL.def_then (x := "first_splitter") (st := LW.s_first_splitter) (ps := ["known", "names", "lot"]) KX G (fun _ _ _ _ _ _ us hl => match us, hl with | [_, _, _], _ => rfl) ?a3 ?l3 ?c3 ?k3 ?n3
    (case a3 => k_is); (case l3 => k_is); (case c3 => k_is); (case k3 => k_is)
    intro F_first_splitter
    refine' TL.def_then (x := "is_part") (st := LW.s_is_part) (ps := ["web", "lot"]) KX G (fun _ _ _ _ _ _ us hl => match us, hl with | [_, _], _ => rfl) ?a4 ?l4 ?c4 ?k4 ?n4
    (case a4 => k_is); (case l4 => k_is); (case c4 => k_is); (case k4 => k_is)
    intro F_is_part
    refine' TL.def_then (x := "part_told") (st := LW.s_part_told) (ps := ["web", "lot"]) KX G (fun _ _ _ _ _ _ us hl => match us, hl with | [_, _], _ => rfl) ?a5 ?l5 ?c5 ?k5 ?n5
    (case a5 => k_is); (case l5 => k_is); (case c5 => k_is); (case k5 => k_is)
    intro F_part_told
    refine' TL.def_then (x := "least_part") (st := LW.s_least_part) (ps := ["web", "lot"]) KX G (fun _ _ _ _ _ _ us hl => match us, hl with | [_, _], _ => rfl) ?a6 ?l6 ?c6 ?k6 ?n6
    (case a6 => k_is); (case l6 => k_is); (case c6 => k_is); (case k6 => k_is)
    intro F_least_part
    refine' TL.def_then (x := "are_crossed") (st := LW.s_are_crossed) (ps := ["one", "other"]) KX G (fun _ _ _ _ _ _ us hl => match us, hl with | [_, _], _ => rfl) ?a7 ?l7 ?c7 ?k7 ?n7
    (case a7 => k_is); (case l7 => k_is); (case c7 => k_is); (case k7 => k_is)
    intro F_are_crossed
    refine' TL.def_then (x := "_law_source") (st := LW.s__law_source) (ps := ["script"]) KX G (fun _ _ _ _ _ _ us hl => match us, hl with | [_], _ => rfl) ?a8 ?l8 ?c8 ?k8 ?n8
    (case a8 => k_is); (case l8 => k_is); (case c8 => k_is); (case k8 => k_is)
    intro F__law_source
    refine' TL.def_then (x := "_law_pick") (st := LW.s__law_pick) (ps := ["source", "many"]) KX G (fun _ _ _ _ _ _ us hl => match us, hl with | [_, _], _ => rfl) ?a9 ?l9 ?c9 ?k9 ?n9
    (case a9 => k_is); (case l9 => k_is); (case c9 => k_is); (case k9 => k_is)
    intro F__law_pick
    refine' TL.def_then (x := "_law_of") (st := LW.s__law_of) (ps := ["source", "some"]) KX G (fun _ _ _ _ _ _ us hl => match us, hl with | [_, _], _ => rfl) ?a10 ?l10 ?c10 ?k10 ?n10
    (case a10 => k_is); (case l10 => k_is); (case c10 => k_is); (case k10 => k_is)
    intro F__law_of
    refine' TL.def_then (x := "_law_posts") (st := LW.s__law_posts) (ps := ["source", "names"]) KX G (fun _ _ _ _ _ _ us hl => match us, hl with | [_, _], _ => rfl) ?a11 ?l11 ?c11 ?k11 ?n11
    (case a11 => k_is); (case l11 => k_is); (case c11 => k_is); (case k11 => k_is)
    intro F__law_posts
    refine' TL.def_then (x := "_law_ties") (st := LW.s__law_ties) (ps := ["source", "names"]) KX G (fun _ _ _ _ _ _ us hl => match us, hl with | [_, _], _ => rfl) ?a12 ?l12 ?c12 ?k12 ?n12
    (case a12 => k_is); (case l12 => k_is); (case c12 => k_is); (case k12 => k_is)
    intro F__law_ties
    refine' TL.def_then (x := "_law_is_tied") (st := LW.s__law_is_tied) (ps := ["ties", "one", "other"]) KX G (fun _ _ _ _ _ _ us hl => match us, hl with | [_, _, _], _ => rfl) ?a13 ?l13 ?c13 ?k13 ?n13
    (case a13 => k_is); (case l13 => k_is); (case c13 => k_is); (case k13 => k_is)
    intro F__law_is_tied
    refine' TL.def_then (x := "_law_splitter") (st := LW.s__law_splitter) (ps := ["names", "ties", "lot"]) KX G (fun _ _ _ _ _ _ us hl => match us, hl with | [_, _, _], _ => rfl) ?a14 ?l14 ?c14 ?k14 ?n14
    (case a14 => k_is); (case l14 => k_is); (case c14 => k_is); (case k14 => k_is)
    intro F__law_splitter
    refine' TL.def_then (x := "_law_lots") (st := LW.s__law_lots) (ps := ["names"]) KX G (fun _ _ _ _ _ _ us hl => match us, hl with | [_], _ => rfl) ?a15 ?l15 ?c15 ?k15 ?n15
    (case a15 => k_is); (case l15 => k_is); (case c15 => k_is); (case k15 => k_is)
    intro F__law_lots
    refine' TL.def_then (x := "law") (st := LW.s_law) (ps := ["script"]) KX G (fun _ _ _ _ _ _ us hl => match us, hl with | [_], _ => rfl) ?a16 ?l16 ?c16 ?k16 ?n16
    (case a16 => k_is); (case l16 => k_is); (case c16 => k_is); (case k16 => k_is)
    intro F_law
    have b_tuple : mg "tuple" = none := PySem.W.mg_none_of KX G (by k_is)
    have b_any : mg "any" = none := PySem.W.mg_none_of KX G (by k_is)
    have b_list : mg "list" = none := PySem.W.mg_none_of KX G (by k_is)
    have b_sorted : mg "sorted" = none := PySem.W.mg_none_of KX G (by k_is)
    have b_len : mg "len" = none := PySem.W.mg_none_of KX G (by k_is)
    have b_min : mg "min" = none := PySem.W.mg_none_of KX G (by k_is)
    have b_abs : mg "abs" = none := PySem.W.mg_none_of KX G (by k_is)
    have b_int : mg "int" = none := PySem.W.mg_none_of KX G (by k_is)
    have b_max : mg "max" = none := PySem.W.mg_none_of KX G (by k_is)
    have b_enumerate : mg "enumerate" = none := PySem.W.mg_none_of KX G (by k_is)
    have b_range : mg "range" = none := PySem.W.mg_none_of KX G (by k_is)
    have b_dict : mg "dict" = none := PySem.W.mg_none_of KX G (by k_is)
    have b_repr : mg "repr" = none := PySem.W.mg_none_of KX G (by k_is)
    obtain ⟨fd, hF, hb⟩ := F_law.law hmg
    refine ⟨fd, hb, fun base _ _ => ?_⟩
    have c__law_source := LW.ok__law_source (P := PySem.Challenge.pw_forcedarrows_k14_least_parts_by_all_lots) (w := w) (base := base) F__law_source b_abs b_int
    have c_names_of := LW.ok_names_of (P := PySem.Challenge.pw_forcedarrows_k14_least_parts_by_all_lots) (w := w) (base := base) F_names_of  b_tuple
    have c_known_ties := LW.ok_known_ties (P := PySem.Challenge.pw_forcedarrows_k14_least_parts_by_all_lots) (w := w) (base := base) F_known_ties  
    have c_is_split := LW.ok_is_split (P := PySem.Challenge.pw_forcedarrows_k14_least_parts_by_all_lots) (w := w) (base := base) F_is_split  b_any
    have c_first_splitter := LW.ok_first_splitter (P := PySem.Challenge.pw_forcedarrows_k14_least_parts_by_all_lots) (w := w) (base := base) F_first_splitter c_is_split 
    have c_is_part := LW.ok_is_part (P := PySem.Challenge.pw_forcedarrows_k14_least_parts_by_all_lots) (w := w) (base := base) F_is_part c_known_ties c_names_of c_first_splitter 
    have c_part_told := LW.ok_part_told (P := PySem.Challenge.pw_forcedarrows_k14_least_parts_by_all_lots) (w := w) (base := base) F_part_told c_known_ties c_names_of c_first_splitter 
    have c_least_part := LW.ok_least_part (P := PySem.Challenge.pw_forcedarrows_k14_least_parts_by_all_lots) (w := w) (base := base) F_least_part c_names_of c_known_ties c_first_splitter b_list b_sorted b_tuple
    have c_are_crossed := LW.ok_are_crossed (P := PySem.Challenge.pw_forcedarrows_k14_least_parts_by_all_lots) (w := w) (base := base) F_are_crossed  b_len b_min
    have c__law_pick := LW.ok__law_pick (P := PySem.Challenge.pw_forcedarrows_k14_least_parts_by_all_lots) (w := w) (base := base) F__law_pick  b_len b_max b_int
    have c__law_of := LW.ok__law_of (P := PySem.Challenge.pw_forcedarrows_k14_least_parts_by_all_lots) (w := w) (base := base) F__law_of c__law_pick b_len
    have c__law_posts := LW.ok__law_posts (P := PySem.Challenge.pw_forcedarrows_k14_least_parts_by_all_lots) (w := w) (base := base) F__law_posts c__law_of 
    have c__law_ties := LW.ok__law_ties (P := PySem.Challenge.pw_forcedarrows_k14_least_parts_by_all_lots) (w := w) (base := base) F__law_ties c__law_pick b_enumerate b_sorted b_tuple
    have c__law_is_tied := LW.ok__law_is_tied (P := PySem.Challenge.pw_forcedarrows_k14_least_parts_by_all_lots) (w := w) (base := base) F__law_is_tied  b_max b_min
    have c__law_splitter := LW.ok__law_splitter (P := PySem.Challenge.pw_forcedarrows_k14_least_parts_by_all_lots) (w := w) (base := base) F__law_splitter c__law_is_tied b_sorted
    have c__law_lots := LW.ok__law_lots (P := PySem.Challenge.pw_forcedarrows_k14_least_parts_by_all_lots) (w := w) (base := base) F__law_lots  b_sorted
    exact LW.ok_law hF c__law_source c__law_pick c__law_ties c__law_posts c__law_lots c__law_splitter c__law_of c_part_told c_is_part c_least_part c_are_crossed b_len b_range b_dict b_sorted b_tuple b_list b_repr LW.law_true

import PyProof.Rows.All
import Wide.All
import OpenK.AllK
import Wide.FinOn
import PySem.Challenge.RW_forcedarrows_k37_whole_later_and_at
import HandS.ForMost
import HandS.EndBits
import HandS.Wide
import HandS.Style
import HandS.Deep
import HandS.DictTup
import HandS.Flow
import HandS.Zip
import KE.SortData
import KE.DataMinMax
import KE.DataEq
import KE.KDictKeyed
import HandS.TupAny
import HandS.Codes
import PyProof.ReprLen
import PyProof.ListStr
import PyProof.ReprReads
import KE.KDictPairs
import HandS.Conv
import HandS.More
import HandS.Star
import HandS.WideBits
import KE.GoesMore
import KE.GoesEnumKw
import KE.KTurns
import HandS.SortKw
import KE.GoesEnum
import HandS.Text
import PyProof.StrOps2
set_option Elab.async false
set_option linter.all false
set_option maxRecDepth 100000
set_option maxHeartbeats 4000000
namespace TL
open PySem PySem.Spec PyProof.Rows L2

abbrev D := PyData
abbrev Zn := Addr → Prop

def keyD : Key → D
  | .inl i => .int i
  | .inr x => .str x
def tkeyD (k : List Key) : D := .tuple (k.map keyD)
/-- a dict at a, its keys as data, its values; that with tuples as keys has None ahead of them -/
def DicAt (H : Hp) (a : Addr) (ks : List D) (vs : List V) : Prop :=
  (∃ kk : List Key, ks = kk.map keyD ∧ kk.length = vs.length ∧ H a = some (.dK (kk.zip vs))) ∨
  (∃ kk : List (List Key), ks = .none :: kk.map tkeyD ∧ kk.length + 1 = vs.length ∧ H a = some (.dT (kk.zip vs.tail)))

mutual
def Rep (H : Hp) (Z : Zn) : D → V → Prop
  | .none, v => v = .non
  | .bool b, v => v = .bl b
  | .int i, v => v = .int i
  | .str x, v => v = .str x
  | .tuple ds, v => ∃ a vs, v = .ref a ∧ H a = some (.tup vs) ∧ RepL H Z ds vs
  | .list ds, v => ∃ a vs, v = .ref a ∧ H a = some (.lst vs) ∧ ¬ Z a ∧ RepL H Z ds vs
  | .dict kvs, v => ∃ a vs, v = .ref a ∧ DicAt H a (kvs.map (·.1)) vs ∧ ¬ Z a ∧ RepV H Z kvs vs
def RepL (H : Hp) (Z : Zn) : List D → List V → Prop
  | [], vs => vs = []
  | d :: ds, vs => ∃ w ws, vs = w :: ws ∧ Rep H Z d w ∧ RepL H Z ds ws
def RepV (H : Hp) (Z : Zn) : List (D × D) → List V → Prop
  | [], vs => vs = []
  | (_, d) :: kvs, vs => ∃ w ws, vs = w :: ws ∧ Rep H Z d w ∧ RepV H Z kvs ws
end

/-- what stands outside Z stands; tuples and locked things stand everywhere -/
structure Kp (Z : Zn) (H H' : Hp) : Prop where
  ob : ∀ a o, H a = some o → ¬ Z a → H' a = some o
  tp : ∀ a xs, H a = some (.tup xs) → H' a = some (.tup xs)
  fz : ∀ a o u, H a = some (.frz o u) → H' a = some (.frz o u)
theorem Kp.refl {Z : Zn} {H : Hp} : Kp Z H H := ⟨fun _ _ e _ => e, fun _ _ e => e, fun _ _ _ e => e⟩
theorem Kp.trans {Z : Zn} {H H1 H2 : Hp} (a : Kp Z H H1) (b : Kp Z H1 H2) : Kp Z H H2 :=
  ⟨fun c o e n => b.ob c o (a.ob c o e n) n, fun c xs e => b.tp c xs (a.tp c xs e), fun c o u e => b.fz c o u (a.fz c o u e)⟩
theorem Kp.mono {Z Z' : Zn} {H H' : Hp} (k : Kp Z H H') (h : ∀ a, Z a → Z' a) : Kp Z' H H' :=
  ⟨fun c o e n => k.ob c o e fun z => n (h c z), k.tp, k.fz⟩
theorem Kp.upd {Z : Zn} {H : Hp} {p : Addr} {o : HO} (h : H p = none) : Kp Z H (upd H p o) :=
  ⟨fun c u e _ => by rw [upd_ne (ne_of_none e h)]; exact e, fun c u e => by rw [upd_ne (ne_of_none e h)]; exact e, fun c u w e => by rw [upd_ne (ne_of_none e h)]; exact e⟩
/-- a list or dict at p in Z is changed -/
theorem Kp.wr {Z : Zn} {H : Hp} {p : Addr} {o : HO} (hz : Z p) (h1 : ∀ xs, H p ≠ some (.tup xs)) (h2 : ∀ o u, H p ≠ some (.frz o u)) : Kp Z H (L2.upd H p o) :=
  ⟨fun c u e n => by rw [upd_ne (fun q : c = p => n (by rw [q]; exact hz))]; exact e, fun c u e => by rw [upd_ne (fun q : c = p => h1 u (by rw [← q]; exact e))]; exact e,
    fun c u w e => by rw [upd_ne (fun q : c = p => h2 u w (by rw [← q]; exact e))]; exact e⟩
abbrev Z0 : Zn := fun _ => False
theorem Kp.z0 {Z : Zn} {H H' : Hp} (k : Kp Z0 H H') : Kp Z H H' := k.mono fun _ z => z.elim

theorem DicAt.kp {Z : Zn} {H H' : Hp} {a : Addr} {ks : List D} {vs : List V} (k : Kp Z H H') (n : ¬ Z a) (h : DicAt H a ks vs) : DicAt H' a ks vs := by
  rcases h with ⟨kk, h1, h2, h3⟩ | ⟨kk, h1, h2, h3⟩
  · exact .inl ⟨kk, h1, h2, k.ob _ _ h3 n⟩
  · exact .inr ⟨kk, h1, h2, k.ob _ _ h3 n⟩

mutual
theorem Rep.kp {Z : Zn} {H H' : Hp} (k : Kp Z H H') : ∀ {d : D} {v : V}, Rep H Z d v → Rep H' Z d v
  | .none, _, h => by rw [Rep] at h ⊢; exact h
  | .bool _, _, h => by rw [Rep] at h ⊢; exact h
  | .int _, _, h => by rw [Rep] at h ⊢; exact h
  | .str _, _, h => by rw [Rep] at h ⊢; exact h
  | .tuple ds, _, h => by
    rw [Rep] at h ⊢
    obtain ⟨a, vs, e, h1, h2⟩ := h
    exact ⟨a, vs, e, k.tp _ _ h1, RepL.kp k h2⟩
  | .list ds, _, h => by
    rw [Rep] at h ⊢
    obtain ⟨a, vs, e, h1, n, h2⟩ := h
    exact ⟨a, vs, e, k.ob _ _ h1 n, n, RepL.kp k h2⟩
  | .dict kvs, _, h => by
    rw [Rep] at h ⊢
    obtain ⟨a, vs, e, h1, n, h2⟩ := h
    exact ⟨a, vs, e, h1.kp k n, n, RepV.kp k h2⟩
theorem RepL.kp {Z : Zn} {H H' : Hp} (k : Kp Z H H') : ∀ {ds : List D} {vs : List V}, RepL H Z ds vs → RepL H' Z ds vs
  | [], _, h => by rw [RepL] at h ⊢; exact h
  | d :: ds, _, h => by
    rw [RepL] at h ⊢
    obtain ⟨w, ws, e, h1, h2⟩ := h
    exact ⟨w, ws, e, Rep.kp k h1, RepL.kp k h2⟩
theorem RepV.kp {Z : Zn} {H H' : Hp} (k : Kp Z H H') : ∀ {ds : List (D × D)} {vs : List V}, RepV H Z ds vs → RepV H' Z ds vs
  | [], _, h => by rw [RepV] at h ⊢; exact h
  | (_, d) :: ds, _, h => by
    rw [RepV] at h ⊢
    obtain ⟨w, ws, e, h1, h2⟩ := h
    exact ⟨w, ws, e, Rep.kp k h1, RepV.kp k h2⟩
end
mutual
theorem Rep.less {Z Z' : Zn} {H : Hp} (k : ∀ a, Z' a → Z a) : ∀ {d : D} {v : V}, Rep H Z d v → Rep H Z' d v
  | .none, _, h => by rw [Rep] at h ⊢; exact h
  | .bool _, _, h => by rw [Rep] at h ⊢; exact h
  | .int _, _, h => by rw [Rep] at h ⊢; exact h
  | .str _, _, h => by rw [Rep] at h ⊢; exact h
  | .tuple ds, _, h => by
    rw [Rep] at h ⊢
    obtain ⟨a, vs, e, h1, h2⟩ := h
    exact ⟨a, vs, e, h1, RepL.less k h2⟩
  | .list ds, _, h => by
    rw [Rep] at h ⊢
    obtain ⟨a, vs, e, h1, n, h2⟩ := h
    exact ⟨a, vs, e, h1, fun z => n (k _ z), RepL.less k h2⟩
  | .dict kvs, _, h => by
    rw [Rep] at h ⊢
    obtain ⟨a, vs, e, h1, n, h2⟩ := h
    exact ⟨a, vs, e, h1, fun z => n (k _ z), RepV.less k h2⟩
theorem RepL.less {Z Z' : Zn} {H : Hp} (k : ∀ a, Z' a → Z a) : ∀ {ds : List D} {vs : List V}, RepL H Z ds vs → RepL H Z' ds vs
  | [], _, h => by rw [RepL] at h ⊢; exact h
  | d :: ds, _, h => by
    rw [RepL] at h ⊢
    obtain ⟨w, ws, e, h1, h2⟩ := h
    exact ⟨w, ws, e, Rep.less k h1, RepL.less k h2⟩
theorem RepV.less {Z Z' : Zn} {H : Hp} (k : ∀ a, Z' a → Z a) : ∀ {ds : List (D × D)} {vs : List V}, RepV H Z ds vs → RepV H Z' ds vs
  | [], _, h => by rw [RepV] at h ⊢; exact h
  | (_, d) :: ds, _, h => by
    rw [RepV] at h ⊢
    obtain ⟨w, ws, e, h1, h2⟩ := h
    exact ⟨w, ws, e, Rep.less k h1, RepV.less k h2⟩
end
mutual
theorem Rep.more {Z Z' : Zn} {H : Hp} (k : ∀ a, Z' a → Z a ∨ H a = none) : ∀ {d : D} {v : V}, Rep H Z d v → Rep H Z' d v
  | .none, _, h => by rw [Rep] at h ⊢; exact h
  | .bool _, _, h => by rw [Rep] at h ⊢; exact h
  | .int _, _, h => by rw [Rep] at h ⊢; exact h
  | .str _, _, h => by rw [Rep] at h ⊢; exact h
  | .tuple ds, _, h => by
    rw [Rep] at h ⊢
    obtain ⟨a, vs, e, h1, h2⟩ := h
    exact ⟨a, vs, e, h1, RepL.more k h2⟩
  | .list ds, _, h => by
    rw [Rep] at h ⊢
    obtain ⟨a, vs, e, h1, n, h2⟩ := h
    exact ⟨a, vs, e, h1, fun z => (k a z).elim n (fun q => by rw [h1] at q; cases q), RepL.more k h2⟩
  | .dict kvs, _, h => by
    rw [Rep] at h ⊢
    obtain ⟨a, vs, e, h1, n, h2⟩ := h
    refine ⟨a, vs, e, h1, fun z => (k a z).elim n fun q => ?_, RepV.more k h2⟩
    rcases h1 with ⟨kk, _, _, e⟩ | ⟨kk, _, _, e⟩ <;> (rw [q] at e; cases e)
theorem RepL.more {Z Z' : Zn} {H : Hp} (k : ∀ a, Z' a → Z a ∨ H a = none) : ∀ {ds : List D} {vs : List V}, RepL H Z ds vs → RepL H Z' ds vs
  | [], _, h => by rw [RepL] at h ⊢; exact h
  | d :: ds, _, h => by
    rw [RepL] at h ⊢
    obtain ⟨w, ws, e, h1, h2⟩ := h
    exact ⟨w, ws, e, Rep.more k h1, RepL.more k h2⟩
theorem RepV.more {Z Z' : Zn} {H : Hp} (k : ∀ a, Z' a → Z a ∨ H a = none) : ∀ {ds : List (D × D)} {vs : List V}, RepV H Z ds vs → RepV H Z' ds vs
  | [], _, h => by rw [RepV] at h ⊢; exact h
  | (_, d) :: ds, _, h => by
    rw [RepV] at h ⊢
    obtain ⟨w, ws, e, h1, h2⟩ := h
    exact ⟨w, ws, e, Rep.more k h1, RepV.more k h2⟩
end
theorem RepL.nil {H : Hp} {Z : Zn} : RepL H Z [] [] := by rw [RepL]
theorem RepL.cons {H : Hp} {Z : Zn} {d : D} {ds : List D} {v : V} {vs : List V} (h : Rep H Z d v) (t : RepL H Z ds vs) : RepL H Z (d :: ds) (v :: vs) := by
  rw [RepL]
  exact ⟨v, vs, rfl, h, t⟩
theorem RepL.len {H : Hp} {Z : Zn} : ∀ {ds : List D} {vs : List V}, RepL H Z ds vs → vs.length = ds.length
  | [], _, h => by
    rw [RepL] at h
    subst h
    rfl
  | d :: ds, _, h => by
    rw [RepL] at h
    obtain ⟨w, ws, rfl, _, h2⟩ := h
    rw [List.length_cons, List.length_cons, RepL.len h2]
theorem RepL.app {H : Hp} {Z : Zn} : ∀ {ds es : List D} {vs ws : List V}, RepL H Z ds vs → RepL H Z es ws → RepL H Z (ds ++ es) (vs ++ ws)
  | [], _, _, _, h, q => by
    rw [RepL] at h
    subst h
    exact q
  | d :: ds, _, _, _, h, q => by
    rw [RepL] at h
    obtain ⟨w, ws, rfl, h1, h2⟩ := h
    exact .cons h1 (RepL.app h2 q)
theorem RepL.get {H : Hp} {Z : Zn} : ∀ {ds : List D} {vs : List V} {i : Nat} {d : D}, RepL H Z ds vs → ds[i]? = some d → ∃ v, vs[i]? = some v ∧ Rep H Z d v
  | [], _, _, _, _, e => by simp at e
  | d :: ds, _, 0, _, h, e => by
    rw [RepL] at h
    obtain ⟨w, ws, rfl, h1, h2⟩ := h
    cases e
    exact ⟨w, rfl, h1⟩
  | d :: ds, _, i + 1, _, h, e => by
    rw [RepL] at h
    obtain ⟨w, ws, rfl, h1, h2⟩ := h
    obtain ⟨v, e1, r⟩ := RepL.get (i := i) h2 (by simpa using e)
    exact ⟨v, by simpa using e1, r⟩
theorem RepL.got {H : Hp} {Z : Zn} : ∀ {ds : List D} {vs : List V} {i : Nat} {v : V}, RepL H Z ds vs → vs[i]? = some v → ∃ d, ds[i]? = some d ∧ Rep H Z d v
  | [], _, _, _, h, e => by
    rw [RepL] at h
    subst h
    simp at e
  | d :: ds, _, 0, _, h, e => by
    rw [RepL] at h
    obtain ⟨w, ws, rfl, h1, h2⟩ := h
    cases e
    exact ⟨d, rfl, h1⟩
  | d :: ds, _, i + 1, _, h, e => by
    rw [RepL] at h
    obtain ⟨w, ws, rfl, h1, h2⟩ := h
    obtain ⟨v, e1, r⟩ := RepL.got (i := i) h2 (by simpa using e)
    exact ⟨v, by simpa using e1, r⟩
theorem RepL.take {H : Hp} {Z : Zn} : ∀ {ds : List D} {vs : List V} (n : Nat), RepL H Z ds vs → RepL H Z (ds.take n) (vs.take n)
  | _, _, 0, _ => .nil
  | [], _, _ + 1, h => by
    rw [RepL] at h
    subst h
    exact .nil
  | d :: ds, _, n + 1, h => by
    rw [RepL] at h
    obtain ⟨w, ws, rfl, h1, h2⟩ := h
    exact .cons h1 (RepL.take n h2)
theorem RepL.drop {H : Hp} {Z : Zn} : ∀ {ds : List D} {vs : List V} (n : Nat), RepL H Z ds vs → RepL H Z (ds.drop n) (vs.drop n)
  | _, _, 0, h => h
  | [], _, _ + 1, h => by
    rw [RepL] at h
    subst h
    exact .nil
  | d :: ds, _, n + 1, h => by
    rw [RepL] at h
    obtain ⟨w, ws, rfl, h1, h2⟩ := h
    exact RepL.drop n h2
theorem RepL.rev {H : Hp} {Z : Zn} : ∀ {ds : List D} {vs : List V}, RepL H Z ds vs → RepL H Z ds.reverse vs.reverse
  | [], _, h => by
    rw [RepL] at h
    subst h
    exact .nil
  | d :: ds, _, h => by
    rw [RepL] at h
    obtain ⟨w, ws, rfl, h1, h2⟩ := h
    rw [List.reverse_cons, List.reverse_cons]
    exact (RepL.rev h2).app (.cons h1 .nil)
theorem RepL.erase {H : Hp} {Z : Zn} : ∀ {ds : List D} {vs : List V} (n : Nat), RepL H Z ds vs → RepL H Z (ds.eraseIdx n) (vs.eraseIdx n)
  | [], _, _, h => by
    rw [RepL] at h
    subst h
    exact .nil
  | d :: ds, _, 0, h => by
    rw [RepL] at h
    obtain ⟨w, ws, rfl, h1, h2⟩ := h
    exact h2
  | d :: ds, _, n + 1, h => by
    rw [RepL] at h
    obtain ⟨w, ws, rfl, h1, h2⟩ := h
    exact .cons h1 (RepL.erase n h2)

/-! ### the library's reading of data -/
mutual
def flat : D → Bool
  | .none => true
  | .bool _ => true
  | .int _ => true
  | .str _ => true
  | .tuple ds => flatL ds
  | .list ds => flatL ds
  | .dict _ => false
def flatL : List D → Bool
  | [] => true
  | d :: ds => flat d && flatL ds
end
section
variable {X : Cx} {pins : List (Addr × Obj)} {σ : L2.St} {H : Hp} {s : Shared} {Z : Zn}
mutual
theorem Rep.dp {K : PySem.W.Frag} : ∀ (d : D) {v : V}, flat d = true → Rep H Z d v → Dp K H v d
  | .none, _, _, h => by
    rw [Rep] at h
    subst h
    exact .non
  | .bool _, _, _, h => by
    rw [Rep] at h
    subst h
    exact .bl _
  | .int _, _, _, h => by
    rw [Rep] at h
    subst h
    exact .int _
  | .str _, _, _, h => by
    rw [Rep] at h
    subst h
    exact .str _
  | .tuple ds, _, f, h => by
    rw [Rep] at h
    obtain ⟨a, vs, rfl, h1, h2⟩ := h
    rw [flat] at f
    exact .tup (.of h1) (RepL.dp ds f h2)
  | .list ds, _, f, h => by
    rw [Rep] at h
    obtain ⟨a, vs, rfl, h1, _, h2⟩ := h
    rw [flat] at f
    exact .lst (.of h1) (RepL.dp ds f h2)
  | .dict _, _, f, _ => by
    rw [flat] at f
    cases f
theorem RepL.dp {K : PySem.W.Frag} : ∀ (ds : List D) {vs : List V}, flatL ds = true → RepL H Z ds vs → DpAll K H vs ds
  | [], _, _, h => by
    rw [RepL] at h
    subst h
    exact .nil
  | d :: ds, _, f, h => by
    rw [RepL] at h
    obtain ⟨w, ws, rfl, h1, h2⟩ := h
    rw [flatL, Bool.and_eq_true] at f
    exact .cons (Rep.dp d f.1 h1) (RepL.dp ds f.2 h2)
end
end
end TL

set_option Elab.async false
set_option linter.all false
set_option maxRecDepth 100000
set_option maxHeartbeats 4000000
namespace TL
open PySem PySem.Spec PyProof.Rows L2

/-! ### the drawing object -/
structure Src0 where
  cells : List Int
  left : Int
  mixed : Int
  turn : Int
def lim : Nat := 2 ^ 1048577
def Src0.Ok (S : Src0) : Prop :=
  (∀ c ∈ S.cells, 0 ≤ c ∧ c.natAbs < lim) ∧ S.cells.length ≤ 63 ∧ 0 ≤ S.left ∧ S.left.natAbs < lim ∧ 0 ≤ S.mixed ∧ S.mixed < 1099511627776
structure Src extends Src0 where
  ok : toSrc0.Ok
def SrcAt (H : Hp) (x c : Addr) (S : Src) : Prop :=
  x ≠ c ∧ H x = some (.dK [(.inr "cells", .ref c), (.inr "left", .int S.left), (.inr "mixed", .int S.mixed), (.inr "turn", .int S.turn)]) ∧ H c = some (.lst (S.cells.map V.int)) ∧ S.toSrc0.Ok

/-- what is fixed while a def runs -/
structure Cf where
  Z : Zn
  H0 : Hp
  src : Option (Addr × Addr)
  /-- its slot -/
  sx : Nat
def Cf.foot (C : Cf) : Zn := fun a => match C.src with
  | none => False
  | some p => a = p.1 ∨ a = p.2
def SrcOk (C : Cf) (S : Src) (H : Hp) : Prop := match C.src with
  | none => True
  | some p => SrcAt H p.1 p.2 S
theorem SrcOk.foot {C : Cf} {S : Src} {H : Hp} (h : SrcOk C S H) {a : Addr} (f : C.foot a) : Mut (H a) := by
  unfold SrcOk at h
  unfold Cf.foot at f
  cases e : C.src with
  | none => rw [e] at f; exact f.elim
  | some p =>
    rw [e] at h f
    obtain ⟨_, h1, h2, _⟩ := h
    rcases f with rfl | rfl
    · rw [h1]; trivial
    · rw [h2]; trivial

abbrev Rho := List (Option D)
/-- a def's own lists and dicts, by slot; lists in the making -/
structure Ow where
  sl : Nat → Option Addr
  ex : List Addr
def Own (ow : Ow) : Zn := fun a => (∃ i, ow.sl i = some a) ∨ a ∈ ow.ex
def ZO (C : Cf) (ow : Ow) : Zn := fun a => C.Z a ∨ Own ow a
/-- what a statement may change -/
def chg (C : Cf) (ow : Ow) : Zn := fun a => C.foot a ∨ ∃ i, ow.sl i = some a
/-- a list or a dict at a, whatever a is -/
def Sh (C : Cf) (ow : Ow) (H : Hp) : D → Addr → Prop
  | .list ds, a => ∃ vs, H a = some (.lst vs) ∧ RepL H (ZO C ow) ds vs
  | .dict kvs, a => ∃ vs, DicAt H a (kvs.map (·.1)) vs ∧ RepV H (ZO C ow) kvs vs
  | _, _ => False
def RepS (C : Cf) (ow : Ow) (H : Hp) (d : D) (v : V) : Prop := Rep H (ZO C ow) d v ∨ ∃ a, v = .ref a ∧ ¬ C.Z a ∧ Sh C ow H d a
def RepSL (C : Cf) (ow : Ow) (H : Hp) : List D → List V → Prop
  | [], vs => vs = []
  | d :: ds, vs => ∃ w ws, vs = w :: ws ∧ RepS C ow H d w ∧ RepSL C ow H ds ws

structure Rel (C : Cf) (kd : Nat → Bool) (ow : Ow) (σ : L2.St) (ρ : Rho) (S : Src) (H : Hp) : Prop where
  dom : ∀ a, C.Z a → C.H0 a ≠ none
  ft : ∀ a, C.foot a → C.Z a
  base : Kp C.foot C.H0 H
  src : SrcOk C S H
  len : ρ.length = σ.length
  sr : ∀ p, C.src = some p → σ[C.sx]? = some (some (.ref p.1)) ∧ ρ[C.sx]? = some none
  cl : ∀ i d, kd i = false → ρ[i]? = some (some d) → ∃ v, σ[i]? = some (some v) ∧ Rep H (ZO C ow) d v
  own : ∀ i d, kd i = true → ρ[i]? = some (some d) → ∃ a, ow.sl i = some a ∧ σ[i]? = some (some (.ref a)) ∧ Sh C ow H d a
  inj : ∀ i j a, ow.sl i = some a → ow.sl j = some a → i = j
  dj : ∀ i a, ow.sl i = some a → a ∉ ow.ex
  new : ∀ a, Own ow a → C.H0 a = none ∧ Mut (H a)

section
variable {C : Cf} {kd : Nat → Bool} {ow ow' : Ow} {σ : L2.St} {ρ : Rho} {S S' : Src} {H H' H2 : Hp} {d : D} {v : V} {a p : Addr}
theorem Rel.fz (R : Rel C kd ow σ ρ S H) : ∀ a, C.foot a → ZO C ow a := fun a f => .inl (R.ft a f)
theorem Rel.nf (R : Rel C kd ow σ ρ S H) (e : Own ow a) : ¬ C.foot a := fun f => R.dom a (R.ft a f) (R.new a e).1
theorem Rel.nz (R : Rel C kd ow σ ρ S H) (e : Own ow a) : ¬ C.Z a := fun f => R.dom a f (R.new a e).1
theorem Rel.cz (R : Rel C kd ow σ ρ S H) : ∀ a, chg C ow a → ZO C ow a := fun a h => h.elim (R.fz a) fun z => .inr (.inl z)
/-- what is outside is there -/
theorem Rel.there (R : Rel C kd ow σ ρ S H) (h : ZO C ow p) : H p ≠ none := by
  rcases h with h | h
  · by_cases f : C.foot p
    · have m := R.src.foot f
      intro e
      rw [e] at m
      exact m
    · cases q : C.H0 p with
      | none => exact absurd q (R.dom p h)
      | some o =>
        rw [R.base.ob p o q f]
        exact fun z => nomatch z
  · have m := (R.new p h).2
    intro e
    rw [e] at m
    exact m
theorem Rel.fresh (R : Rel C kd ow σ ρ S H) (h : H p = none) : ¬ ZO C ow p := fun z => R.there z h
theorem Sh.kp {Z : Zn} (k : Kp Z H H') (hz : ∀ b, Z b → ZO C ow b) (e : ∀ o, H a = some o → H' a = some o) : Sh C ow H d a → Sh C ow H' d a := by
  intro h
  cases d <;> first
    | exact h.elim
    | (obtain ⟨vs, h1, h2⟩ := h
       exact ⟨vs, e _ h1, RepL.kp (k.mono hz) h2⟩)
    | (obtain ⟨vs, h1, h2⟩ := h
       refine ⟨vs, ?_, RepV.kp (k.mono hz) h2⟩
       rcases h1 with ⟨kk, q1, q2, q3⟩ | ⟨kk, q1, q2, q3⟩
       · exact .inl ⟨kk, q1, q2, e _ q3⟩
       · exact .inr ⟨kk, q1, q2, e _ q3⟩)
/-- all stands but the drawing object -/
theorem Rel.step (R : Rel C kd ow σ ρ S H) (k : Kp C.foot H H') (s : SrcOk C S' H') : Rel C kd ow σ ρ S' H' := by
  have stay : ∀ a, Own ow a → ∀ o, H a = some o → H' a = some o := fun a e o q => k.ob a o q (R.nf e)
  refine ⟨R.dom, R.ft, R.base.trans k, s, R.len, R.sr, fun i d h1 h2 => ?_, fun i d h1 h2 => ?_, R.inj, R.dj, fun a e => ⟨(R.new a e).1, ?_⟩⟩
  · obtain ⟨v, e, r⟩ := R.cl i d h1 h2
    exact ⟨v, e, r.kp (k.mono R.fz)⟩
  · obtain ⟨a, e, q, r⟩ := R.own i d h1 h2
    exact ⟨a, e, q, r.kp k R.fz (stay a (.inl ⟨i, e⟩))⟩
  · have m := (R.new a e).2
    cases q : H a with
    | none => rw [q] at m; exact m.elim
    | some o => rw [stay a e o q, ← q]; exact m
theorem RepS.kp (R : Rel C kd ow σ ρ S H) (k : Kp C.foot H H') (h : RepS C ow H d v) : RepS C ow H' d v := by
  rcases h with h | ⟨a, e, n, h⟩
  · exact .inl (h.kp (k.mono R.fz))
  · exact .inr ⟨a, e, n, h.kp k R.fz fun o q => k.ob a o q fun f => n (R.ft a f)⟩
theorem RepSL.kp (R : Rel C kd ow σ ρ S H) (k : Kp C.foot H H') : ∀ {ds : List D} {vs : List V}, RepSL C ow H ds vs → RepSL C ow H' ds vs
  | [], _, h => h
  | _ :: _, _, ⟨w, ws, e, h1, h2⟩ => ⟨w, ws, e, h1.kp R k, RepSL.kp R k h2⟩
theorem RepSL.len : ∀ {ds : List D} {vs : List V}, RepSL C ow H ds vs → vs.length = ds.length
  | [], _, h => by
    have h' : _ = [] := h
    subst h'
    rfl
  | _ :: _, _, ⟨w, ws, e, h1, h2⟩ => by
    subst e
    rw [List.length_cons, List.length_cons, RepSL.len h2]
theorem RepSL.one (h : RepSL C ow H [d] vs) : ∃ w, vs = [w] ∧ RepS C ow H d w := by
  obtain ⟨w, ws, e, h1, h2⟩ := h
  have h2 : ws = [] := h2
  subst h2
  exact ⟨w, e, h1⟩
theorem RepSL.two {d e : D} (h : RepSL C ow H [d, e] vs) : ∃ w x, vs = [w, x] ∧ RepS C ow H d w ∧ RepS C ow H e x := by
  obtain ⟨w, ws, rfl, h1, h2⟩ := h
  obtain ⟨x, rfl, h3⟩ := RepSL.one h2
  exact ⟨w, x, rfl, h1, h3⟩
/-! what a value is, by its datum -/
theorem RepS.int {i : Int} (h : RepS C ow H (.int i) v) : v = .int i := by
  rcases h with h | ⟨a, e, n, h⟩
  · rw [Rep] at h; exact h
  · exact h.elim
theorem RepS.str {x : Str} (h : RepS C ow H (.str x) v) : v = .str x := by
  rcases h with h | ⟨a, e, n, h⟩
  · rw [Rep] at h; exact h
  · exact h.elim
theorem RepS.bl {x : Bool} (h : RepS C ow H (.bool x) v) : v = .bl x := by
  rcases h with h | ⟨a, e, n, h⟩
  · rw [Rep] at h; exact h
  · exact h.elim
theorem RepS.non (h : RepS C ow H .none v) : v = .non := by
  rcases h with h | ⟨a, e, n, h⟩
  · rw [Rep] at h; exact h
  · exact h.elim
theorem RepS.tup {ds : List D} (h : RepS C ow H (.tuple ds) v) : ∃ a vs, v = .ref a ∧ H a = some (.tup vs) ∧ RepL H (ZO C ow) ds vs := by
  rcases h with h | ⟨a, e, n, h⟩
  · rw [Rep] at h; exact h
  · exact h.elim
theorem RepS.lst {ds : List D} (h : RepS C ow H (.list ds) v) : ∃ a vs, v = .ref a ∧ H a = some (.lst vs) ∧ ¬ C.Z a ∧ RepL H (ZO C ow) ds vs := by
  rcases h with h | ⟨a, e, n, vs, h1, h2⟩
  · rw [Rep] at h
    obtain ⟨a, vs, e, h1, n, h2⟩ := h
    exact ⟨a, vs, e, h1, fun z => n (.inl z), h2⟩
  · exact ⟨a, vs, e, h1, n, h2⟩
theorem RepS.dic {kvs : List (D × D)} (h : RepS C ow H (.dict kvs) v) : ∃ a vs, v = .ref a ∧ DicAt H a (kvs.map (·.1)) vs ∧ ¬ C.Z a ∧ RepV H (ZO C ow) kvs vs := by
  rcases h with h | ⟨a, e, n, vs, h1, h2⟩
  · rw [Rep] at h
    obtain ⟨a, vs, e, h1, n, h2⟩ := h
    exact ⟨a, vs, e, h1, fun z => n (.inl z), h2⟩
  · exact ⟨a, vs, e, h1, n, h2⟩
/-- a value that may be handed out -/
theorem RepS.out (h : RepS C ow H d v) : Rep H C.Z d v := by
  rcases h with h | ⟨a, e, n, h⟩
  · exact h.less fun a z => .inl z
  · cases d <;> first
      | exact h.elim
      | (obtain ⟨vs, h1, h2⟩ := h
         rw [Rep]
         exact ⟨a, vs, e, h1, n, RepL.less (fun a z => .inl z) h2⟩)
      | (obtain ⟨vs, h1, h2⟩ := h
         rw [Rep]
         exact ⟨a, vs, e, h1, n, RepV.less (fun a z => .inl z) h2⟩)
end

/-! ### judgements -/
abbrev FE := Rho → Src → Option (D × Src)
abbrev FA := Rho → Src → Option (List D × Src)
def isMut : D → Bool
  | .list _ => true
  | .dict _ => true
  | _ => false
/-- what may be changed is new, and in none of its own parts -/
def New (Z : Zn) (H H' : Hp) (d : D) (v : V) : Prop := isMut d = true → ∃ a, v = .ref a ∧ H a = none ∧ (match d with
  | .list ds => ∃ vs, H' a = some (.lst vs) ∧ RepL H' (fun b => Z b ∨ b = a) ds vs
  | .dict kvs => ∃ vs, DicAt H' a (kvs.map (·.1)) vs ∧ RepV H' (fun b => Z b ∨ b = a) kvs vs
  | _ => False)
/-- clean values; values whose own list may be a def's own; clean new ones -/
def tX (C : Cf) (kd : Nat → Bool) (f : FE) : TE := fun σ H Q => ∃ ow ρ S d S', Rel C kd ow σ ρ S H ∧ f ρ S = some (d, S') ∧
  ∀ v H', Kp C.foot H H' → SrcOk C S' H' → Rep H' (ZO C ow) d v → Q v H'
def tS (C : Cf) (kd : Nat → Bool) (f : FE) : TE := fun σ H Q => ∃ ow ρ S d S', Rel C kd ow σ ρ S H ∧ f ρ S = some (d, S') ∧
  ∀ v H', Kp C.foot H H' → SrcOk C S' H' → RepS C ow H' d v → Q v H'
def tF (C : Cf) (kd : Nat → Bool) (f : FE) : TE := fun σ H Q => ∃ ow ρ S d S', Rel C kd ow σ ρ S H ∧ f ρ S = some (d, S') ∧
  ∀ v H', Kp C.foot H H' → SrcOk C S' H' → Rep H' (ZO C ow) d v → New (ZO C ow) H H' d v → Q v H'
def tA (C : Cf) (kd : Nat → Bool) (n : Nat) (f : FA) : TA := fun σ H Q => ∃ ow ρ S ds S', Rel C kd ow σ ρ S H ∧ f ρ S = some (ds, S') ∧
  ∀ vs H', Kp C.foot H H' → SrcOk C S' H' → RepSL C ow H' ds vs → ds.length = n → Q vs H'
def tAX (C : Cf) (kd : Nat → Bool) (n : Nat) (f : FA) : TA := fun σ H Q => ∃ ow ρ S ds S', Rel C kd ow σ ρ S H ∧ f ρ S = some (ds, S') ∧
  ∀ vs H', Kp C.foot H H' → SrcOk C S' H' → RepL H' (ZO C ow) ds vs → ds.length = n → Q vs H'
section
variable {X : Cx} {C : Cf} {kd : Nat → Bool}
theorem PE_imp {e : Expr} {t t' : TE} (h : PE X e t) (i : ∀ σ H Q, t' σ H Q → t σ H Q) : PE X e t' := ⟨fun pins s σ H Q I q => h.run pins s σ H Q I (i σ H Q q)⟩
theorem PT_imp {e : Expr} {t t' : TT} (h : PT X e t) (i : ∀ σ H Q, t' σ H Q → t σ H Q) : PT X e t' := ⟨fun pins s σ H Q I q => h.run pins s σ H Q I (i σ H Q q)⟩
theorem PA_imp {e : List Expr} {t t' : TA} (h : PA X e t) (i : ∀ σ H Q, t' σ H Q → t σ H Q) : PA X e t' := ⟨fun pos pins s σ H Q I q => h.run pos pins s σ H Q I (i σ H Q q)⟩
theorem PS_imp {e : Stmt} {t t' : TS} (h : PS X e t) (i : ∀ D σ H, t' D σ H → t D σ H) : PS X e t' := ⟨fun pins s σ H D I q => h.run pins s σ H D I (i D σ H q)⟩
theorem PSs_imp {e : List Stmt} {t t' : TS} (h : PSs X e t) (i : ∀ D σ H, t' D σ H → t D σ H) : PSs X e t' := ⟨fun pins s σ H D I q => h.run pins s σ H D I (i D σ H q)⟩
theorem f2x {e : Expr} {f : FE} (h : PE X e (tF C kd f)) : PE X e (tX C kd f) := PE_imp h fun σ H Q ⟨ow, ρ, S, d, S', R, e, k⟩ => ⟨ow, ρ, S, d, S', R, e, fun v H' k1 k2 k3 _ => k v H' k1 k2 k3⟩
theorem x2s {e : Expr} {f : FE} (h : PE X e (tX C kd f)) : PE X e (tS C kd f) := PE_imp h fun σ H Q ⟨ow, ρ, S, d, S', R, e, k⟩ => ⟨ow, ρ, S, d, S', R, e, fun v H' k1 k2 k3 => k v H' k1 k2 (.inl k3)⟩
theorem f2s {e : Expr} {f : FE} (h : PE X e (tF C kd f)) : PE X e (tS C kd f) := x2s (f2x h)

/-! ### names, constants -/
def rd (i : Nat) : FE := fun ρ S => match ρ[i]? with
  | some (some d) => some (d, S)
  | _ => none
theorem rd_of {i : Nat} {ρ : Rho} {S S' : Src} {d : D} (h : rd i ρ S = some (d, S')) : ρ[i]? = some (some d) ∧ S' = S := by
  unfold rd at h
  split at h
  · rename_i d' e
    cases h
    exact ⟨e, rfl⟩
  · cases h
theorem xv (i : Nat) {x : Str} {pos : Pos} (h : PE X (.Name x pos) (tVar i)) (hk : kd i = false := by rfl) : PE X (.Name x pos) (tX C kd (rd i)) :=
  PE_imp h fun σ H Q ⟨ow, ρ, S, d, S', R, e, k⟩ => by
    obtain ⟨e1, rfl⟩ := rd_of e
    obtain ⟨v, q, r⟩ := R.cl i d hk e1
    exact ⟨v, q, k v H .refl R.src r⟩
theorem xo (i : Nat) {x : Str} {pos : Pos} (h : PE X (.Name x pos) (tVar i)) (hk : kd i = true := by rfl) : PE X (.Name x pos) (tS C kd (rd i)) :=
  PE_imp h fun σ H Q ⟨ow, ρ, S, d, S', R, e, k⟩ => by
    obtain ⟨e1, rfl⟩ := rd_of e
    obtain ⟨a, e2, q, r⟩ := R.own i d hk e1
    exact ⟨.ref a, q, k _ H .refl R.src (.inr ⟨a, rfl, R.nz (.inl ⟨i, e2⟩), r⟩)⟩
def cst (d : D) : FE := fun _ S => some (d, S)
theorem xc {e : Expr} {d : D} {v : V} (h : PE X e (tC v)) (hr : ∀ H Z, Rep H Z d v) (hm : isMut d = false := by rfl) : PE X e (tF C kd (cst d)) :=
  PE_imp h fun σ H Q ⟨ow, ρ, S, d', S', R, e, k⟩ => by
    cases e
    exact k v H .refl R.src (hr _ _) fun q => by rw [hm] at q; cases q
theorem x_int {i j pos} : PE X (.Constant (.int i) j pos) (tF C kd (cst (.int i))) := xc pe_int fun _ _ => by rw [Rep]
theorem x_str {x j pos} : PE X (.Constant (.str x) j pos) (tF C kd (cst (.str x))) := xc pe_str fun _ _ => by rw [Rep]
theorem x_bl {b j pos} : PE X (.Constant (.bool b) j pos) (tF C kd (cst (.bool b))) := xc pe_bl fun _ _ => by rw [Rep]
theorem x_non {j pos} : PE X (.Constant .none j pos) (tF C kd (cst .none)) := xc pe_non fun _ _ => by rw [Rep]

/-! ### argument lists -/
def aN : FA := fun _ S => some ([], S)
def aC (f : FE) (g : FA) : FA := fun ρ S => match f ρ S with
  | some (d, S1) => (match g ρ S1 with
    | some (ds, S2) => some (d :: ds, S2)
    | none => none)
  | none => none
theorem aC_of {f : FE} {g : FA} {ρ : Rho} {S S' : Src} {ds : List D} (h : aC f g ρ S = some (ds, S')) : ∃ d S1 es, f ρ S = some (d, S1) ∧ g ρ S1 = some (es, S') ∧ ds = d :: es := by
  unfold aC at h
  split at h
  · rename_i d S1 e1
    split at h
    · rename_i es S2 e2
      cases h
      exact ⟨d, S1, es, e1, e2, rfl⟩
    · cases h
  · cases h
theorem a_nil : PA X [] (tA C kd 0 aN) := PA_imp pa_nil fun σ H Q ⟨ow, ρ, S, d, S', R, e, k⟩ => by
  cases e
  exact k [] H .refl R.src rfl rfl
theorem ax_nil : PA X [] (tAX C kd 0 aN) := PA_imp pa_nil fun σ H Q ⟨ow, ρ, S, d, S', R, e, k⟩ => by
  cases e
  exact k [] H .refl R.src .nil rfl
theorem a_cons {e : Expr} {es : List Expr} {f : FE} {g : FA} {n : Nat} (ha : PE X e (tS C kd f)) (hr : PA X es (tA C kd n g)) (hs : starEach (e :: es) X.env = (false, eval e X.env) :: starEach es X.env := by rfl) :
    PA X (e :: es) (tA C kd (n + 1) (aC f g)) := PA_imp (pa_cons ha hr hs) fun σ H Q ⟨ow, ρ, S, ds, S', R, e, k⟩ => by
  obtain ⟨d, S1, es', e1, e2, rfl⟩ := aC_of e
  refine ⟨ow, ρ, S, d, S1, R, e1, fun v H1 k1 s1 r1 => ⟨ow, ρ, S1, es', S', R.step k1 s1, e2, fun vs H2 k2 s2 r2 hn => ?_⟩⟩
  exact k _ H2 (k1.trans k2) s2 ⟨v, vs, rfl, r1.kp (R.step k1 s1) k2, r2⟩ (by rw [List.length_cons, hn])
theorem ax_cons {e : Expr} {es : List Expr} {f : FE} {g : FA} {n : Nat} (ha : PE X e (tX C kd f)) (hr : PA X es (tAX C kd n g)) (hs : starEach (e :: es) X.env = (false, eval e X.env) :: starEach es X.env := by rfl) :
    PA X (e :: es) (tAX C kd (n + 1) (aC f g)) := PA_imp (pa_cons ha hr hs) fun σ H Q ⟨ow, ρ, S, ds, S', R, e, k⟩ => by
  obtain ⟨d, S1, es', e1, e2, rfl⟩ := aC_of e
  refine ⟨ow, ρ, S, d, S1, R, e1, fun v H1 k1 s1 r1 => ⟨ow, ρ, S1, es', S', R.step k1 s1, e2, fun vs H2 k2 s2 r2 hn => ?_⟩⟩
  exact k _ H2 (k1.trans k2) s2 (.cons (r1.kp (k2.mono R.fz)) r2) (by rw [List.length_cons, hn])

/-! ### displays -/
def mkT (g : FA) : FE := fun ρ S => match g ρ S with
  | some (ds, S1) => some (.tuple ds, S1)
  | none => none
def mkL (g : FA) : FE := fun ρ S => match g ρ S with
  | some (ds, S1) => some (.list ds, S1)
  | none => none
theorem small_sz {n : Nat} (h : n ≤ 1000) : n ≤ sizeLine := Nat.le_of_lt (small1000 h)
theorem x_tup {es : List Expr} {k0 : Nat} {pos : Pos} {g : FA} {n : Nat} (h : PA X es (tAX C kd n g)) (hn : n ≤ 1000 := by decide) : PE X (.Tuple es k0 pos) (tF C kd (mkT g)) :=
  PE_imp (pe_tup h) fun σ H Q ⟨ow, ρ, S, d, S', R, e, k⟩ => by
    unfold mkT at e
    split at e
    · rename_i ds S1 e1
      cases e
      refine ⟨ow, ρ, S, ds, S', R, e1, fun vs H1 k1 s1 r1 hl => ⟨by rw [RepL.len r1, hl]; exact small_sz hn, fun p hp => ?_⟩⟩
      have R1 := R.step k1 s1
      have ku : Kp C.foot H1 (upd H1 p (.tup vs)) := Kp.upd hp
      refine k _ _ (k1.trans ku) ?_ ?_ fun q => by cases q
      · unfold SrcOk at s1 ⊢
        cases q : C.src with
        | none => trivial
        | some p' =>
          rw [q] at s1
          obtain ⟨n0, h1, h2, h3⟩ := s1
          exact ⟨n0, by rw [upd_ne (ne_of_none h1 hp)]; exact h1, by rw [upd_ne (ne_of_none h2 hp)]; exact h2, h3⟩
      · rw [Rep]
        exact ⟨p, vs, rfl, upd_same, r1.kp (ku.mono R.fz)⟩
    · cases e
theorem SrcOk.upd {S : Src} {H : Hp} {p : Addr} {o : HO} (s : SrcOk C S H) (hp : H p = none) : SrcOk C S (L2.upd H p o) := by
  unfold SrcOk at s ⊢
  cases q : C.src with
  | none => trivial
  | some p' =>
    rw [q] at s
    obtain ⟨n0, h1, h2, h3⟩ := s
    exact ⟨n0, by rw [upd_ne (ne_of_none h1 hp)]; exact h1, by rw [upd_ne (ne_of_none h2 hp)]; exact h2, h3⟩
theorem SrcOk.kp {S : Src} {H H' : Hp} (s : SrcOk C S H) (k : Kp Z0 H H') : SrcOk C S H' := by
  unfold SrcOk at s ⊢
  cases q : C.src with
  | none => trivial
  | some p' =>
    rw [q] at s
    obtain ⟨n0, h1, h2, h3⟩ := s
    exact ⟨n0, k.ob _ _ h1 fun z => z, k.ob _ _ h2 fun z => z, h3⟩
theorem x_lst {es : List Expr} {pos : Pos} {g : FA} {n : Nat} (h : PA X es (tAX C kd n g)) (hn : n ≤ 1000 := by decide) : PE X (.List es pos) (tF C kd (mkL g)) :=
  PE_imp (pe_lst h) fun σ H Q ⟨ow, ρ, S, d, S', R, e, k⟩ => by
    unfold mkL at e
    split at e
    · rename_i ds S1 e1
      cases e
      refine ⟨ow, ρ, S, ds, S', R, e1, fun vs H1 k1 s1 r1 hl => ⟨by rw [RepL.len r1, hl]; exact small_sz hn, fun p hp => ?_⟩⟩
      have R1 := R.step k1 s1
      have ku : Kp C.foot H1 (upd H1 p (.lst vs)) := Kp.upd hp
      refine k _ _ (k1.trans ku) (s1.upd hp) ?_ fun _ => ⟨p, rfl, ?_, vs, upd_same, (r1.more (Z' := fun b => ZO C ow b ∨ b = p) fun b z => z.elim .inl fun z => .inr (by rw [z]; exact hp)).kp (.upd hp)⟩
      · rw [Rep]
        exact ⟨p, vs, rfl, upd_same, R1.fresh hp, r1.kp (ku.mono R.fz)⟩
      · cases q : H p with
        | none => rfl
        | some o =>
          by_cases f : C.foot p
          · exact absurd hp (R1.there (R.fz p f))
          · rw [k1.ob p o q f] at hp
            cases hp
    · cases e
end
end TL

set_option Elab.async false
set_option linter.all false
set_option maxRecDepth 100000
set_option maxHeartbeats 4000000
namespace TL
open PySem PySem.Spec PyProof.Rows L2

/-! ### operations on values, by data -/
/-- the end of an operation: a clean value; fr: a new one if it may be changed -/
def Fin2 (C : Cf) (ow : Ow) (H : Hp) (fr : Bool) (d : D) (Q : VK) : Prop :=
  ∀ z H', Kp Z0 H H' → Rep H' (ZO C ow) d z → (fr = true → New (ZO C ow) H H' d z) → Q z H'
def rT (fr : Bool) (f : D → D → Option D) : R2 := fun x y H Q => ∃ (C : Cf) (ow : Ow) (a b d : D), (∀ p, H p = none → ¬ ZO C ow p) ∧ RepS C ow H a x ∧ RepS C ow H b y ∧ f a b = some d ∧ Fin2 C ow H fr d Q
def rU1 (fr : Bool) (f : D → Option D) : V → Hp → VK → Prop := fun x H Q => ∃ (C : Cf) (ow : Ow) (a d : D), (∀ p, H p = none → ¬ ZO C ow p) ∧ RepS C ow H a x ∧ f a = some d ∧ Fin2 C ow H fr d Q
def rCl (fr : Bool) (f : List D → Option D) : List V → Hp → VK → Prop := fun xs H Q => ∃ (C : Cf) (ow : Ow) (ds : List D) (d : D), (∀ p, H p = none → ¬ ZO C ow p) ∧ RepSL C ow H ds xs ∧ f ds = some d ∧ Fin2 C ow H fr d Q
def rSc (fr : Bool) (f : D → Option Int → Option Int → Option D) : V → Option Int → Option Int → Hp → VK → Prop := fun x lo hi H Q => ∃ (C : Cf) (ow : Ow) (a d : D), (∀ p, H p = none → ¬ ZO C ow p) ∧ RepS C ow H a x ∧ f a lo hi = some d ∧ Fin2 C ow H fr d Q

section
variable {C : Cf} {kd : Nat → Bool} {ow : Ow} {σ : L2.St} {ρ : Rho} {S S' : Src} {H H' H2 : Hp} {d : D} {fr : Bool} {Q : VK}
theorem Fin2.same {v : V} (q : Fin2 C ow H fr d Q) (r : Rep H (ZO C ow) d v) (n : isMut d = false) : Q v H := q v H .refl r fun _ e => by rw [n] at e; cases e
theorem Fin2.atom {v : V} (q : Fin2 C ow H fr d Q) (r : Rep H (ZO C ow) d v) (n : isMut d = false := by rfl) : Q v H := q.same r n
theorem Fin2.tup {ds : List D} {vs : List V} (q : Fin2 C ow H fr (.tuple ds) Q) (r : RepL H (ZO C ow) ds vs) : ∀ p, H p = none → Q (.ref p) (upd H p (.tup vs)) := fun p hp => by
  refine q _ _ (.upd hp) ?_ fun _ e => by cases e
  rw [Rep]
  exact ⟨p, vs, rfl, upd_same, r.kp (.upd hp)⟩
theorem Fin2.lst {ds : List D} {vs : List V} (q : Fin2 C ow H fr (.list ds) Q) (fz : ∀ p, H p = none → ¬ ZO C ow p) (r : RepL H (ZO C ow) ds vs) : ∀ p, H p = none → Q (.ref p) (upd H p (.lst vs)) := fun p hp => by
  refine q _ _ (.upd hp) ?_ fun _ _ => ⟨p, rfl, hp, vs, upd_same, (r.more (Z' := fun b => ZO C ow b ∨ b = p) fun b z => z.elim .inl fun z => .inr (by rw [z]; exact hp)).kp (.upd hp)⟩
  rw [Rep]
  exact ⟨p, vs, rfl, upd_same, fz p hp, r.kp (.upd hp)⟩
theorem Rel.back (R : Rel C kd ow σ ρ S H) (k : Kp C.foot H H2) (s : SrcOk C S' H2) {p : Addr} (hp : H2 p = none) : H p = none := by
  cases q : H p with
  | none => rfl
  | some o =>
    by_cases f : C.foot p
    · exact absurd hp ((R.step k s).there (R.fz p f))
    · rw [k.ob p o q f] at hp
      cases hp
/-- from the operation's end to an expression's -/
theorem Rel.fin {t : Bool} (R : Rel C kd ow σ ρ S H) (k : Kp C.foot H H2) (s : SrcOk C S' H2)
    (q : ∀ v H', Kp C.foot H H' → SrcOk C S' H' → Rep H' (ZO C ow) d v → (t = true → New (ZO C ow) H H' d v) → Q v H') : Fin2 C ow H2 t d Q := fun z H' k' r fr => by
  refine q z H' (k.trans k'.z0) (s.kp k') r fun e m => ?_
  obtain ⟨p, e1, e2, e3⟩ := fr e m
  exact ⟨p, e1, R.back k s e2, e3⟩
end

/-! ### what they compute -/
def dAdd : D → D → Option D
  | .int i, .int j => some (.int (i + j))
  | .str x, .str y => if x.length + y.length ≤ sizeLine then some (.str (x ++ y)) else none
  | .list xs, .list ys => if xs.length + ys.length ≤ sizeLine then some (.list (xs ++ ys)) else none
  | .tuple xs, .tuple ys => if xs.length + ys.length ≤ sizeLine then some (.tuple (xs ++ ys)) else none
  | _, _ => none
def dSub : D → D → Option D
  | .int i, .int j => some (.int (i - j))
  | _, _ => none
def dMul : D → D → Option D
  | .int i, .int j => if (-(2 ^ 64) < i ∧ i < 2 ^ 64) ∨ (-(2 ^ 64) < j ∧ j < 2 ^ 64) then some (.int (i * j)) else none
  | _, _ => none
def dMod : D → D → Option D
  | .int i, .int j => if 0 < j then some (.int (i % j)) else none
  | _, _ => none
def dFdiv : D → D → Option D
  | .int i, .int j => if 0 < j ∧ j < 2 ^ 30 then some (.int (i / j)) else none
  | _, _ => none
def dLt : D → D → Option D
  | .int i, .int j => some (.bool (decide (i < j)))
  | _, _ => none
def dLe : D → D → Option D
  | .int i, .int j => some (.bool (decide (i ≤ j)))
  | _, _ => none
def dGt : D → D → Option D
  | .int i, .int j => some (.bool (decide (j < i)))
  | _, _ => none
def dGe : D → D → Option D
  | .int i, .int j => some (.bool (decide (j ≤ i)))
  | _, _ => none
def dEq (a b : D) : Option D := if a.plain = true ∧ b.plain = true ∧ min a.depth b.depth ≤ 60 then some (.bool (PyData.eqv a b)) else none
def dNe (a b : D) : Option D := if a.plain = true ∧ b.plain = true ∧ min a.depth b.depth ≤ 60 then some (.bool (!PyData.eqv a b)) else none
def dIn (a b : D) : Option D := match b with
  | .list xs => if a.plain = true ∧ PyData.plainAll xs = true ∧ min (PyData.depthAll xs) a.depth ≤ 60 then some (.bool (xs.any fun y => PyData.eqv y a)) else none
  | .tuple xs => if a.plain = true ∧ PyData.plainAll xs = true ∧ min (PyData.depthAll xs) a.depth ≤ 60 then some (.bool (xs.any fun y => PyData.eqv y a)) else none
  | _ => none
def dNotIn (a b : D) : Option D := match b with
  | .list xs => if a.plain = true ∧ PyData.plainAll xs = true ∧ min (PyData.depthAll xs) a.depth ≤ 60 then some (.bool (!xs.any fun y => PyData.eqv y a)) else none
  | .tuple xs => if a.plain = true ∧ PyData.plainAll xs = true ∧ min (PyData.depthAll xs) a.depth ≤ 60 then some (.bool (!xs.any fun y => PyData.eqv y a)) else none
  | _ => none
def dIx (a b : D) : Option D := match a, b with
  | .list xs, .int i => atI xs i
  | .tuple xs, .int i => atI xs i
  | .str z, .int i => if z.length ≤ sizeLine then (atI z.cps.toList i).map (fun c => .str ⟨#[c]⟩) else none
  | _, _ => none
def cutD {α : Type} (xs : List α) (lo hi : Option Int) : List α := (xs.drop (HT.sIx xs.length 0 lo)).take (HT.sIx xs.length xs.length hi - HT.sIx xs.length 0 lo)
def dSl (a : D) (lo hi : Option Int) : Option D := match a with
  | .list xs => some (.list (cutD xs lo hi))
  | .tuple xs => some (.tuple (cutD xs lo hi))
  | .str z => if z.length ≤ sizeLine then some (.str (Txt.slice z lo hi)) else none
  | _ => none
def dNeg : D → Option D
  | .int i => some (.int (-i))
  | _ => none
def dLen : List D → Option D
  | [.list xs] => some (.int xs.length)
  | [.tuple xs] => some (.int xs.length)
  | [.str x] => if x.length ≤ sizeLine then some (.int x.length) else none
  | _ => none
def dTuple : List D → Option D
  | [.list xs] => some (.tuple xs)
  | [.tuple xs] => some (.tuple xs)
  | _ => none
def dList : List D → Option D
  | [.list xs] => some (.list xs)
  | [.tuple xs] => some (.list xs)
  | _ => none
def bits : List D → Option (List Bool)
  | [] => some []
  | .bool b :: r => (bits r).map (b :: ·)
  | _ => none
def dAny : List D → Option D
  | [.list xs] => (bits xs).map fun bs => .bool (bs.any id)
  | _ => none
def dAll : List D → Option D
  | [.list xs] => (bits xs).map fun bs => .bool (bs.all id)
  | _ => none
def dAbs : List D → Option D
  | [.int i] => some (.int (if i < 0 then -i else i))
  | _ => none
def dInt : List D → Option D
  | [.int i] => some (.int i)
  | [.bool k] => some (.int (if k then 1 else 0))
  | _ => none
def dMax : List D → Option D
  | [.int i, .int j] => some (.int (if j > i then j else i))
  | _ => none
def dMin : List D → Option D
  | [.int i, .int j] => some (.int (if j < i then j else i))
  | _ => none
mutual
/-- at least the length of the text of a datum -/
def wt : D → Nat
  | .none => 4
  | .bool _ => 5
  | .int i => i.natAbs.log2 + 2
  | .str x => (reprText x).length
  | .tuple ds => wtL ds + 3
  | .list ds => wtL ds + 3
  | .dict _ => 0
def wtL : List D → Nat
  | [] => 0
  | d :: ds => wt d + 2 + wtL ds
end
def dRepr : List D → Option D
  | [d] => if d.showable = true ∧ d.plain = true ∧ wt d ≤ sizeLine ∧ d.depth ≤ 60 then some (.str d.shown) else none
  | _ => none
def tup1 : D → Bool
  | .tuple (_ :: _) => true
  | _ => false
def notTup : D → Bool
  | .tuple _ => false
  | .none => false
  | _ => true
def sortD (ds : List D) : List D := ds.mergeSort (W.dataLe false id)
def dSorted : List D → Option D
  | [.list xs] => if (∀ d ∈ xs, ∀ e ∈ xs, W.alike d e = true) ∧ ((∀ d ∈ xs, tup1 d = true) ∨ (∀ d ∈ xs, notTup d = true)) ∧ (∀ d ∈ xs, d.depth ≤ 60) then some (.list (sortD xs)) else none
  | _ => none
def dListS : List D → Option D
  | [.str x] => if x.cps.size ≤ sizeLine then some (.list (x.cps.toList.map fun c => .str ⟨#[c]⟩)) else none
  | _ => none

mutual
theorem shown_wt : ∀ d : D, d.plain = true → d.shown.length ≤ wt d
  | .none, _ => by decide +kernel
  | .bool true, _ => by decide +kernel
  | .bool false, _ => by decide +kernel
  | .int i, _ => by
    rw [PyData.shown, wt]
    have h := int_text_length_le (a := i) (Nat.succ_pos i.natAbs.log2) (Nat.lt_succ_self _)
    have e : ((toString i : String) : Str).length = (toString i).length := PySem.ofString_length _
    rw [e]
    omega
  | .str x, _ => by rw [PyData.shown, wt]; exact Nat.le_refl _
  | .tuple ds, h => by
    rw [PyData.plain] at h
    rw [PyData.shown, wt]
    have h1 := tupleText_len_le (PyData.shownAll ds)
    have h2 := shownL_wt ds h
    omega
  | .list ds, h => by
    rw [PyData.plain] at h
    rw [PyData.shown, wt]
    have h1 := listText_len_le (PyData.shownAll ds)
    have h2 := shownL_wt ds h
    omega
  | .dict _, h => by rw [PyData.plain] at h; cases h
theorem shownL_wt : ∀ ds : List D, PyData.plainAll ds = true → ((PyData.shownAll ds).map (·.length)).sum + 2 * (PyData.shownAll ds).length ≤ wtL ds
  | [], _ => by rw [PyData.shownAll, wtL]; exact Nat.le_refl _
  | d :: ds, h => by
    rw [PyData.plainAll, Bool.and_eq_true] at h
    rw [PyData.shownAll, wtL, List.map_cons, List.sum_cons, List.length_cons]
    have h1 := shown_wt d h.1
    have h2 := shownL_wt ds h.2
    omega
end
mutual
theorem noDict : ∀ d : D, d.plain = true → d.hasDict = false
  | .none, _ => rfl
  | .bool _, _ => rfl
  | .int _, _ => rfl
  | .str _, _ => rfl
  | .tuple ds, h => by
    rw [PyData.plain] at h
    rw [PyData.hasDict]
    exact noDictL ds h
  | .list ds, h => by
    rw [PyData.plain] at h
    rw [PyData.hasDict]
    exact noDictL ds h
  | .dict _, h => by rw [PyData.plain] at h; cases h
theorem noDictL : ∀ ds : List D, PyData.plainAll ds = true → PyData.hasDictAll ds = false
  | [], _ => rfl
  | d :: ds, h => by
    rw [PyData.plainAll, Bool.and_eq_true] at h
    rw [PyData.hasDictAll, noDict d h.1, noDictL ds h.2]
    rfl
end
mutual
theorem flat_plain : ∀ d : D, d.plain = true → flat d = true
  | .none, _ => rfl
  | .bool _, _ => rfl
  | .int _, _ => rfl
  | .str _, _ => rfl
  | .tuple ds, h => by
    rw [PyData.plain] at h
    rw [flat]
    exact flatL_plain ds h
  | .list ds, h => by
    rw [PyData.plain] at h
    rw [flat]
    exact flatL_plain ds h
  | .dict _, h => by rw [PyData.plain] at h; cases h
theorem flatL_plain : ∀ ds : List D, PyData.plainAll ds = true → flatL ds = true
  | [], _ => rfl
  | d :: ds, h => by
    rw [PyData.plainAll, Bool.and_eq_true] at h
    rw [flatL, flat_plain d h.1, flatL_plain ds h.2]
    rfl
end

section
variable {X : Cx} {pins : List (Addr × Obj)} {σ : L2.St} {H : Hp} {s : Shared} {C : Cf} {ow : Ow}
theorem RepS.dp {K : PySem.W.Frag} {d : D} {v : V} (h : RepS C ow H d v) (p : d.plain = true) : Dp K H v d := by
  rcases h with h | ⟨a, rfl, n, h⟩
  · exact h.dp d (flat_plain d p)
  · cases d <;> first
      | exact h.elim
      | (obtain ⟨vs, h1, h2⟩ := h
         rw [PyData.plain] at p
         exact .lst (.of h1) (RepL.dp _ (flatL_plain _ p) h2))
      | (rw [PyData.plain] at p
         cases p)
theorem RepS.reads {d : D} {v : V} {u : Value} (h : RepS C ow H d v) (p : d.plain = true) (I : Inv X pins σ H s) (r : RelV v u) : ∃ as, Reads s.heap u d as := Dp.reads I d v u (h.dp p) r

theorem o_add : OpR X (binaryOp .Add) (rT true dAdd) := by
  intro pins s σ H x y v u Q I rx ry ⟨C, ow, a, b, d, fz, ha, hb, e, q⟩
  unfold dAdd at e
  split at e
  · cases e
    obtain rfl := ha.int
    obtain rfl := hb.int
    exact op_add pins s σ H _ _ v u Q I rx ry ⟨_, _, rfl, rfl, q.atom (by rw [Rep])⟩
  · split at e
    · rename_i hz
      cases e
      obtain rfl := ha.str
      obtain rfl := hb.str
      exact op_add_str pins s σ H _ _ v u Q I rx ry ⟨_, _, rfl, rfl, hz, q.atom (by rw [Rep])⟩
    · cases e
  · split at e
    · rename_i hz
      cases e
      obtain ⟨p, xs, rfl, h1, _, r1⟩ := ha.lst
      obtain ⟨p2, ys, rfl, h2, _, r2⟩ := hb.lst
      exact op_cat pins s σ H _ _ v u Q I rx ry ⟨_, _, _, _, rfl, rfl, h1, h2, by rw [RepL.len r1, RepL.len r2]; exact hz, q.lst fz (r1.app r2)⟩
    · cases e
  · split at e
    · rename_i hz
      cases e
      obtain ⟨p, xs, rfl, h1, r1⟩ := ha.tup
      obtain ⟨p2, ys, rfl, h2, r2⟩ := hb.tup
      refine op_catA pins s σ H _ _ v u Q I rx ry ⟨_, _, _, _, rfl, rfl, .of h1, .of h2, by rw [RepL.len r1, RepL.len r2]; exact hz, fun e0 => ?_, fun _ e0 => ?_, fun _ _ => q.tup (r1.app r2)⟩
      · subst e0
        refine q.same ?_ rfl
        have e1 := RepL.len r1
        rw [List.length_nil] at e1
        rw [List.eq_nil_of_length_eq_zero e1.symm, List.nil_append, Rep]
        exact ⟨_, _, rfl, h2, r2⟩
      · subst e0
        refine q.same ?_ rfl
        have e1 := RepL.len r2
        rw [List.length_nil] at e1
        rw [List.eq_nil_of_length_eq_zero e1.symm, List.append_nil, Rep]
        exact ⟨_, _, rfl, h1, r1⟩
    · cases e
  · cases e
theorem o_sub : OpR X (binaryOp .Sub) (rT true dSub) := by
  intro pins s σ H x y v u Q I rx ry ⟨C, ow, a, b, d, fz, ha, hb, e, q⟩
  unfold dSub at e
  split at e
  · cases e
    obtain rfl := ha.int
    obtain rfl := hb.int
    exact op_sub pins s σ H _ _ v u Q I rx ry ⟨_, _, rfl, rfl, q.atom (by rw [Rep])⟩
  · cases e
theorem o_mul : OpR X (binaryOp .Mult) (rT true dMul) := by
  intro pins s σ H x y v u Q I rx ry ⟨C, ow, a, b, d, fz, ha, hb, e, q⟩
  unfold dMul at e
  split at e
  · split at e
    · rename_i hz
      cases e
      obtain rfl := ha.int
      obtain rfl := hb.int
      exact op_mul pins s σ H _ _ v u Q I rx ry ⟨_, _, rfl, rfl, hz, q.atom (by rw [Rep])⟩
    · cases e
  · cases e
theorem o_mod : OpR X (binaryOp .Mod) (rT true dMod) := by
  intro pins s σ H x y v u Q I rx ry ⟨C, ow, a, b, d, fz, ha, hb, e, q⟩
  unfold dMod at e
  split at e
  · split at e
    · rename_i hz
      cases e
      obtain rfl := ha.int
      obtain rfl := hb.int
      exact op_mod pins s σ H _ _ v u Q I rx ry ⟨_, _, rfl, rfl, hz, q.atom (by rw [Rep])⟩
    · cases e
  · cases e
theorem o_fdiv : OpR X (binaryOp .FloorDiv) (rT true dFdiv) := by
  intro pins s σ H x y v u Q I rx ry ⟨C, ow, a, b, d, fz, ha, hb, e, q⟩
  unfold dFdiv at e
  split at e
  · split at e
    · rename_i hz
      cases e
      obtain rfl := ha.int
      obtain rfl := hb.int
      exact op_fdiv pins s σ H _ _ v u Q I rx ry ⟨_, _, rfl, rfl, hz, q.atom (by rw [Rep])⟩
    · cases e
  · cases e
theorem o_lt : OpR X (compareOp .Lt) (rT true dLt) := by
  intro pins s σ H x y v u Q I rx ry ⟨C, ow, a, b, d, fz, ha, hb, e, q⟩
  unfold dLt at e
  split at e
  · cases e
    obtain rfl := ha.int
    obtain rfl := hb.int
    exact op_lt pins s σ H _ _ v u Q I rx ry ⟨_, _, rfl, rfl, q.atom (by rw [Rep])⟩
  · cases e
theorem o_le : OpR X (compareOp .LtE) (rT true dLe) := by
  intro pins s σ H x y v u Q I rx ry ⟨C, ow, a, b, d, fz, ha, hb, e, q⟩
  unfold dLe at e
  split at e
  · cases e
    obtain rfl := ha.int
    obtain rfl := hb.int
    exact op_le pins s σ H _ _ v u Q I rx ry ⟨_, _, rfl, rfl, q.atom (by rw [Rep])⟩
  · cases e
theorem o_gt : OpR X (compareOp .Gt) (rT true dGt) := by
  intro pins s σ H x y v u Q I rx ry ⟨C, ow, a, b, d, fz, ha, hb, e, q⟩
  unfold dGt at e
  split at e
  · cases e
    obtain rfl := ha.int
    obtain rfl := hb.int
    exact op_gt pins s σ H _ _ v u Q I rx ry ⟨_, _, rfl, rfl, q.atom (by rw [Rep])⟩
  · cases e
theorem o_ge : OpR X (compareOp .GtE) (rT true dGe) := by
  intro pins s σ H x y v u Q I rx ry ⟨C, ow, a, b, d, fz, ha, hb, e, q⟩
  unfold dGe at e
  split at e
  · cases e
    obtain rfl := ha.int
    obtain rfl := hb.int
    exact op_ge pins s σ H _ _ v u Q I rx ry ⟨_, _, rfl, rfl, q.atom (by rw [Rep])⟩
  · cases e
theorem o_eq (hu : X.A.units + 64 < cLine) : OpR X (compareOp .Eq) (rT true dEq) := by
  intro pins s σ H x y v u Q I rx ry ⟨C, ow, a, b, d, fz, ha, hb, e, q⟩
  unfold dEq at e
  split at e
  · rename_i hz
    cases e
    obtain ⟨as, r1⟩ := ha.reads hz.1 I rx
    obtain ⟨bs, r2⟩ := hb.reads hz.2.1 I ry
    exact SeqAt.eq_plain r1 r2 hz.1 hz.2.1 (by omega) ⟨.bl _, H, I, rfl, q.atom (by rw [Rep])⟩
  · cases e
theorem o_ne (hu : X.A.units + 64 < cLine) : OpR X (compareOp .NotEq) (rT true dNe) := by
  intro pins s σ H x y v u Q I rx ry ⟨C, ow, a, b, d, fz, ha, hb, e, q⟩
  unfold dNe at e
  split at e
  · rename_i hz
    cases e
    obtain ⟨as, r1⟩ := ha.reads hz.1 I rx
    obtain ⟨bs, r2⟩ := hb.reads hz.2.1 I ry
    exact SeqAt.ne_plain r1 r2 hz.1 hz.2.1 (by omega) ⟨.bl _, H, I, rfl, q.atom (by rw [Rep])⟩
  · cases e
theorem o_in (hu : X.A.units + 64 < cLine) : OpR X (compareOp .In) (rT true dIn) := by
  intro pins s σ H x y v u Q I rx ry ⟨C, ow, a, b, d, fz, ha, hb, e, q⟩
  unfold dIn at e
  split at e
  · split at e
    · rename_i hz
      cases e
      obtain ⟨as, r1⟩ := ha.reads hz.1 I rx
      obtain ⟨bs, r2⟩ := hb.reads (by rw [PyData.plain]; exact hz.2.1) I ry
      exact SeqAt.in_list_data r2 r1 hz.2.1 hz.1 (by omega) ⟨.bl _, H, I, rfl, q.atom (by rw [Rep])⟩
    · cases e
  · split at e
    · rename_i hz
      cases e
      obtain ⟨as, r1⟩ := ha.reads hz.1 I rx
      obtain ⟨bs, r2⟩ := hb.reads (by rw [PyData.plain]; exact hz.2.1) I ry
      exact SeqAt.in_tuple_data r2 r1 hz.2.1 hz.1 (by omega) ⟨.bl _, H, I, rfl, q.atom (by rw [Rep])⟩
    · cases e
  · cases e
theorem o_notin (hu : X.A.units + 64 < cLine) : OpR X (compareOp .NotIn) (rT true dNotIn) := by
  intro pins s σ H x y v u Q I rx ry ⟨C, ow, a, b, d, fz, ha, hb, e, q⟩
  unfold dNotIn at e
  split at e
  · split at e
    · rename_i hz
      cases e
      obtain ⟨as, r1⟩ := ha.reads hz.1 I rx
      obtain ⟨bs, r2⟩ := hb.reads (by rw [PyData.plain]; exact hz.2.1) I ry
      exact SeqAt.notIn_list_data r2 r1 hz.2.1 hz.1 (by omega) ⟨.bl _, H, I, rfl, q.atom (by rw [Rep])⟩
    · cases e
  · split at e
    · rename_i hz
      cases e
      obtain ⟨as, r1⟩ := ha.reads hz.1 I rx
      obtain ⟨bs, r2⟩ := hb.reads (by rw [PyData.plain]; exact hz.2.1) I ry
      exact SeqAt.notIn_tuple_data r2 r1 hz.2.1 hz.1 (by omega) ⟨.bl _, H, I, rfl, q.atom (by rw [Rep])⟩
    · cases e
  · cases e
theorem RepL.atI {Z : Zn} {ds : List D} {vs : List V} {i : Int} {d : D} (r : RepL H Z ds vs) (e : L2.atI ds i = some d) : ∃ v, L2.atI vs i = some v ∧ Rep H Z d v := by
  unfold L2.atI at e ⊢
  rw [RepL.len r]
  cases q : ixN ds.length i with
  | none => rw [q] at e; cases e
  | some j =>
    rw [q] at e
    exact r.get (i := j) e
theorem o_ix : IxR X (rT false dIx) := by
  intro value slice pins s σ H x y v u Q I rx ry ⟨C, ow, a, b, d, fz, ha, hb, e, q⟩ hs
  unfold dIx at e
  split at e
  · obtain ⟨p, xs, rfl, h1, _, r1⟩ := ha.lst
    obtain rfl := hb.int
    obtain ⟨w, e1, r⟩ := r1.atI e
    exact ix_list value slice pins s σ H _ _ v u Q I rx ry ⟨_, _, _, _, rfl, rfl, .of h1, e1, q w H .refl r fun z => by cases z⟩ hs
  · obtain ⟨p, xs, rfl, h1, r1⟩ := ha.tup
    obtain rfl := hb.int
    obtain ⟨w, e1, r⟩ := r1.atI e
    exact ix_tup value slice pins s σ H _ _ v u Q I rx ry ⟨_, _, _, _, rfl, rfl, .of h1, e1, q w H .refl r fun z => by cases z⟩ hs
  · split at e
    · rename_i hz
      obtain rfl := ha.str
      obtain rfl := hb.int
      obtain ⟨c, e1, rfl⟩ := Option.map_eq_some_iff.mp e
      exact ix_str value slice pins s σ H _ _ v u Q I rx ry ⟨_, _, _, rfl, rfl, hz, e1, q.atom (by rw [Rep])⟩ hs
    · cases e
  · cases e
theorem RepL.cut {Z : Zn} {ds : List D} {vs : List V} (r : RepL H Z ds vs) (lo hi : Option Int) : RepL H Z (cutD ds lo hi) (cutV vs lo hi) := by
  unfold cutD cutV
  rw [RepL.len r]
  exact (r.drop _).take _
theorem o_sl : SlR X (rSc true dSl) := by
  intro pins s σ H x v vl vu lo hi sl Q I rx hs pl pu ⟨C, ow, a, d, fz, ha, e, q⟩
  unfold dSl at e
  split at e
  · cases e
    obtain ⟨p, xs, rfl, h1, _, r1⟩ := ha.lst
    exact sl_list pins s σ H _ v vl vu lo hi sl Q I rx hs pl pu ⟨_, _, rfl, .of h1, q.lst fz (r1.cut lo hi)⟩
  · cases e
    obtain ⟨p, xs, rfl, h1, r1⟩ := ha.tup
    refine sl_tupA pins s σ H _ v vl vu lo hi sl Q I rx hs pl pu ⟨_, _, rfl, .of h1, fun hw => ?_, fun _ => q.tup (r1.cut lo hi)⟩
    refine q.same ?_ rfl
    rw [RepL.len r1] at hw
    unfold cutD
    rw [hw.1, hw.2, List.drop_zero, Nat.sub_zero, List.take_length, Rep]
    exact ⟨_, _, rfl, h1, r1⟩
  · split at e
    · rename_i hz
      cases e
      obtain rfl := ha.str
      exact C8.sl_txt pins s σ H _ v vl vu lo hi sl Q I rx hs pl pu ⟨_, rfl, hz, q.atom (by rw [Rep])⟩
    · cases e
  · cases e
theorem o_neg : UnR X (unaryOp .USub) (rU1 true dNeg) := by
  intro pins s σ H x v Q I rx ⟨C, ow, a, d, fz, ha, e, q⟩
  unfold dNeg at e
  split at e
  · cases e
    obtain rfl := ha.int
    exact un_neg pins s σ H _ v Q I rx ⟨_, rfl, q.atom (by rw [Rep])⟩
  · cases e
end
end TL

set_option Elab.async false
set_option linter.all false
set_option maxRecDepth 100000
set_option maxHeartbeats 4000000
namespace TL
open PySem PySem.Spec PyProof.Rows L2

section
variable {X : Cx}
theorem c_len : CallR X (.builtin "len") (rCl true dLen) := by
  intro pins s σ H xs us Q I r ⟨C, ow, ds, d, fz, h, e, q⟩
  unfold dLen at e
  split at e
  · cases e
    obtain ⟨w, rfl, hw⟩ := h.one
    obtain ⟨p, vs, rfl, h1, _, r1⟩ := hw.lst
    exact call_len_seq pins s σ H _ us Q I r ⟨_, _, rfl, .inl (.of h1), by rw [RepL.len r1]; exact q.atom (by rw [Rep])⟩
  · cases e
    obtain ⟨w, rfl, hw⟩ := h.one
    obtain ⟨p, vs, rfl, h1, r1⟩ := hw.tup
    exact call_len_seq pins s σ H _ us Q I r ⟨_, _, rfl, .inr (.of h1), by rw [RepL.len r1]; exact q.atom (by rw [Rep])⟩
  · split at e
    · rename_i hz
      cases e
      obtain ⟨w, rfl, hw⟩ := h.one
      obtain rfl := hw.str
      exact call_len_str pins s σ H _ us Q I r ⟨_, rfl, hz, q.atom (by rw [Rep])⟩
    · cases e
  · cases e
theorem c_tuple : CallR X (.type "tuple") (rCl true dTuple) := by
  intro pins s σ H xs us Q I r ⟨C, ow, ds, d, fz, h, e, q⟩
  unfold dTuple at e
  split at e
  · cases e
    obtain ⟨w, rfl, hw⟩ := h.one
    obtain ⟨p, vs, rfl, h1, _, r1⟩ := hw.lst
    exact call_tuple_of pins s σ H _ us Q I r ⟨_, _, rfl, .inl ⟨.of h1, q.tup r1⟩⟩
  · cases e
    obtain ⟨w, rfl, hw⟩ := h.one
    obtain ⟨p, vs, rfl, h1, r1⟩ := hw.tup
    exact call_tuple_of pins s σ H _ us Q I r ⟨_, _, rfl, .inr ⟨.of h1, q.same (by rw [Rep]; exact ⟨_, _, rfl, h1, r1⟩) rfl⟩⟩
  · cases e
theorem c_list : CallR X (.type "list") (rCl true dList) := by
  intro pins s σ H xs us Q I r ⟨C, ow, ds, d, fz, h, e, q⟩
  unfold dList at e
  split at e
  · cases e
    obtain ⟨w, rfl, hw⟩ := h.one
    obtain ⟨p, vs, rfl, h1, _, r1⟩ := hw.lst
    exact call_list_of pins s σ H _ us Q I r ⟨_, _, rfl, .inl (.of h1), q.lst fz r1⟩
  · cases e
    obtain ⟨w, rfl, hw⟩ := h.one
    obtain ⟨p, vs, rfl, h1, r1⟩ := hw.tup
    exact call_list_of pins s σ H _ us Q I r ⟨_, _, rfl, .inr (.of h1), q.lst fz r1⟩
  · cases e
theorem bits_vs {H : Hp} {Z : Zn} : ∀ {ds : List D} {bs : List Bool} {vs : List V}, bits ds = some bs → RepL H Z ds vs → vs = bs.map V.bl
  | [], bs, vs, e, r => by
    cases e
    rw [RepL] at r
    exact r
  | .bool b :: ds, bs, vs, e, r => by
    rw [bits] at e
    obtain ⟨bs', e', rfl⟩ := Option.map_eq_some_iff.mp e
    rw [RepL] at r
    obtain ⟨w, ws, rfl, h1, h2⟩ := r
    rw [Rep] at h1
    subst h1
    rw [bits_vs e' h2]
    rfl
  | .none :: _, _, _, e, _ => by cases e
  | .int _ :: _, _, _, e, _ => by cases e
  | .str _ :: _, _, _, e, _ => by cases e
  | .tuple _ :: _, _, _, e, _ => by cases e
  | .list _ :: _, _, _, e, _ => by cases e
  | .dict _ :: _, _, _, e, _ => by cases e
theorem c_any (hc : X.calm = true) : CallR X (.builtin "any") (rCl true dAny) := by
  intro pins s σ H xs us Q I r ⟨C, ow, ds, d, fz, h, e, q⟩
  unfold dAny at e
  split at e
  · obtain ⟨bs, e', rfl⟩ := Option.map_eq_some_iff.mp e
    obtain ⟨w, rfl, hw⟩ := h.one
    obtain ⟨p, vs, rfl, h1, _, r1⟩ := hw.lst
    obtain rfl := bits_vs e' r1
    exact cr_any hc pins s σ H _ us Q I r ⟨_, bs, rfl, .of h1, q.atom (by rw [Rep])⟩
  · cases e
theorem c_all (hc : X.calm = true) : CallR X (.builtin "all") (rCl true dAll) := by
  intro pins s σ H xs us Q I r ⟨C, ow, ds, d, fz, h, e, q⟩
  unfold dAll at e
  split at e
  · obtain ⟨bs, e', rfl⟩ := Option.map_eq_some_iff.mp e
    obtain ⟨w, rfl, hw⟩ := h.one
    obtain ⟨p, vs, rfl, h1, _, r1⟩ := hw.lst
    obtain rfl := bits_vs e' r1
    exact cr_all hc pins s σ H _ us Q I r ⟨_, bs, rfl, .of h1, q.atom (by rw [Rep])⟩
  · cases e
theorem c_abs : CallR X (.builtin "abs") (rCl true dAbs) := by
  intro pins s σ H xs us Q I r ⟨C, ow, ds, d, fz, h, e, q⟩
  unfold dAbs at e
  split at e
  · cases e
    obtain ⟨w, rfl, hw⟩ := h.one
    obtain rfl := hw.int
    exact call_abs pins s σ H _ us Q I r ⟨_, rfl, q.atom (by rw [Rep])⟩
  · cases e
theorem c_int : CallR X (.type "int") (rCl true dInt) := by
  intro pins s σ H xs us Q I r ⟨C, ow, ds, d, fz, h, e, q⟩
  unfold dInt at e
  split at e
  · cases e
    obtain ⟨w, rfl, hw⟩ := h.one
    obtain rfl := hw.int
    exact call_int1 pins s σ H _ us Q I r (.inl ⟨_, rfl, q.atom (by rw [Rep])⟩)
  · cases e
    obtain ⟨w, rfl, hw⟩ := h.one
    obtain rfl := hw.bl
    exact call_int1 pins s σ H _ us Q I r (.inr ⟨_, rfl, q.atom (by rw [Rep])⟩)
  · cases e
theorem c_max (hc : X.calm = true) : CallR X (.builtin "max") (rCl true dMax) := by
  intro pins s σ H xs us Q I r ⟨C, ow, ds, d, fz, h, e, q⟩
  unfold dMax at e
  split at e
  · cases e
    obtain ⟨w, x, rfl, hw, hx⟩ := h.two
    obtain rfl := hw.int
    obtain rfl := hx.int
    exact call_max2 hc pins s σ H _ us Q I r ⟨_, _, rfl, q.atom (by rw [Rep])⟩
  · cases e
theorem c_min (hc : X.calm = true) : CallR X (.builtin "min") (rCl true dMin) := by
  intro pins s σ H xs us Q I r ⟨C, ow, ds, d, fz, h, e, q⟩
  unfold dMin at e
  split at e
  · cases e
    obtain ⟨w, x, rfl, hw, hx⟩ := h.two
    obtain rfl := hw.int
    obtain rfl := hx.int
    exact call_min2 hc pins s σ H _ us Q I r ⟨_, _, rfl, q.atom (by rw [Rep])⟩
  · cases e
theorem c_repr (hg : X.A.guards = some []) (hu : X.A.units + 64 < cLine) : CallR X (.builtin "repr") (rCl true dRepr) := by
  intro pins s σ H xs us Q I r ⟨C, ow, ds, d, fz, h, e, q⟩
  unfold dRepr at e
  split at e
  · split at e
    · rename_i d0 hz
      cases e
      obtain ⟨w, rfl, hw⟩ := h.one
      obtain ⟨u, rfl, ru⟩ := vals1 r
      have hl := Nat.le_trans (shown_wt d0 hz.2.1) hz.2.2.1
      have fin : ∀ (h' : Heap) (tk : Nat) (t : Tok), (∀ b o, s.heap.get? b = some o → h'.get? b = some o) → EP X pins σ Q (.str d0.shown t) { s with heap := h', toks := tk } :=
        fun h' tk t k => ⟨.str d0.shown, H, I.kept k, ⟨t, rfl⟩, q.atom (by rw [Rep])⟩
      cases d0 with
      | none =>
        obtain rfl := hw.non
        cases ru
        exact P.repr_of_none (fin _ _ _ fun _ _ e => e)
      | bool b =>
        obtain rfl := hw.bl
        cases ru
        exact P.repr_of_bool (by cases b <;> exact fin _ _ _ fun _ _ e => e)
      | int i =>
        obtain rfl := hw.int
        obtain ⟨t, rfl⟩ := ru
        have hz1 := hz.1
        rw [PyData.showable] at hz1
        exact P.repr_of_int (of_decide_eq_true hz1) (fin _ _ _ fun _ _ e => e)
      | str x =>
        obtain rfl := hw.str
        obtain ⟨t, rfl⟩ := ru
        exact P.repr_of_str (fin _ _ _ fun _ _ e => e) hl
      | tuple ds =>
        obtain ⟨as, rr⟩ := hw.reads hz.2.1 I ru
        obtain ⟨p, vs, rfl, _, _⟩ := hw.tup
        cases ru
        exact repr_of_reads' rr hz.1 (PyData.noDict_hsm (noDict _ hz.2.1)) hg (by omega) (fun _ _ e => e) (fun h' u tk k => fin h' tk u k) hl
      | list ds =>
        obtain ⟨as, rr⟩ := hw.reads hz.2.1 I ru
        obtain ⟨p, vs, rfl, _, _⟩ := hw.lst
        cases ru
        exact repr_of_reads' rr hz.1 (PyData.noDict_hsm (noDict _ hz.2.1)) hg (by omega) (fun _ _ e => e) (fun h' u tk k => fin h' tk u k) hl
      | dict kvs =>
        have hp := hz.2.1
        rw [PyData.plain] at hp
        cases hp
    · cases e
  · cases e
theorem each_of {H : Hp} {Z : Zn} : ∀ {ds : List D} {vs : List V} {us : List Value}, RepL H Z ds vs → Vals vs us → W.EachIs (fun u d => ∃ v, RelV v u ∧ Rep H Z d v) us ds
  | [], vs, us, r, q => by
    rw [RepL] at r
    subst r
    cases q
    exact .nil
  | d :: ds, vs, us, r, q => by
    rw [RepL] at r
    obtain ⟨w, ws, rfl, h1, h2⟩ := r
    cases q with
    | cons q1 q2 => exact .cons ⟨w, q1, h1⟩ (each_of h2 q2)
theorem of_each {H : Hp} {Z : Zn} : ∀ {ds : List D} {us : List Value}, W.EachIs (fun u d => ∃ v, RelV v u ∧ Rep H Z d v) us ds → ∃ vs, RepL H Z ds vs ∧ Vals vs us
  | _, _, .nil => ⟨[], .nil, .nil⟩
  | _, _, .cons ⟨v, h1, h2⟩ t => by
    obtain ⟨vs, q1, q2⟩ := of_each t
    exact ⟨v :: vs, .cons h2 q1, .cons h1 q2⟩
theorem each_reads {X : Cx} {pins : List (Addr × Obj)} {σ : L2.St} {H : Hp} {s : Shared} {Z : Zn} (I : Inv X pins σ H s) : ∀ {ds : List D} {us : List Value}, (∀ d ∈ ds, d.plain = true) →
    W.EachIs (fun u d => ∃ v, RelV v u ∧ Rep H Z d v) us ds → W.EachIs (fun u d => ∃ as, Reads s.heap u d as) us ds
  | _, _, _, .nil => .nil
  | d :: _, _, p, .cons ⟨v, h1, h2⟩ t => .cons (Dp.reads I d v _ (h2.dp d (flat_plain d (p d (List.mem_cons_self ..)))) h1) (each_reads I (fun x hx => p x (List.mem_cons_of_mem _ hx)) t)
mutual
theorem alike_plain : ∀ d : D, W.alike d d = true → d.plain = true
  | .none, _ => rfl
  | .bool _, _ => rfl
  | .int _, _ => rfl
  | .str _, _ => rfl
  | .tuple ds, h => by
    rw [PyData.plain]
    rw [W.alike] at h
    exact alike_plainL ds h
  | .list ds, h => by
    rw [PyData.plain]
    rw [W.alike] at h
    exact alike_plainL ds h
  | .dict _, h => by rw [W.alike] at h <;> first | cases h | (intros; simp_all)
theorem alike_plainL : ∀ ds : List D, W.alikeAll ds ds = true → PyData.plainAll ds = true
  | [], _ => rfl
  | d :: ds, h => by
    rw [W.alikeAll, Bool.and_eq_true] at h
    rw [PyData.plainAll, alike_plain d h.1, alike_plainL ds h.2]
    rfl
end
theorem c_sorted (hu : X.A.units + 64 < cLine) : CallR X (.builtin "sorted") (rCl true dSorted) := by
  intro pins s σ H xs us Q I r ⟨C, ow, ds, d, fz, h, e, q⟩
  unfold dSorted at e
  split at e
  · rename_i ds
    split at e
    · rename_i hz
      obtain ⟨h1, h2, h3⟩ := hz
      cases e
      obtain ⟨w, rfl, hw⟩ := h.one
      obtain ⟨u, rfl, ru⟩ := vals1 r
      obtain ⟨p, vs, rfl, hp, _, r1⟩ := hw.lst
      cases ru
      obtain ⟨its, rv, pl, hzl⟩ := I.list (.of hp)
      have ea := each_of r1 rv
      have er := each_reads I (fun d hd => alike_plain d (h1 d hd d hd)) ea
      refine W.sorted_data (enc := id) pl.isList ea er (by rw [List.map_id]; exact h1) ?_ ?_ (fun b hb => ?_) fun out hl eo => ?_
      · rw [List.map_id]
        rcases h2 with h2 | h2
        · refine .inl fun d hd => ?_
          have := h2 d hd
          unfold tup1 at this
          split at this
          · exact ⟨_, _, rfl⟩
          · cases this
        · refine .inr fun d hd => ?_
          have := h2 d hd
          refine ⟨fun z => ?_, fun xs z => ?_⟩ <;> (subst z; cases this)
      · rw [RepL.len r1] at hzl
        exact hzl
      · have := h3 b hb
        show X.A.units + 2 + b.depth < cLine
        omega
      · obtain ⟨vo, ro, rvo⟩ := of_each eo
        obtain ⟨n, hn⟩ := sortedAll_at s.heap its out.toArray
        have hlen : vo.length ≤ sizeLine := by
          rw [RepL.len ro, List.length_mergeSort, ← RepL.len r1]
          exact hzl
        have hf : H (s.heap.objs.size + 1) = none := I.hok.fresh (Nat.le_succ _)
        refine ⟨.ref (s.heap.objs.size + 1), upd H (s.heap.objs.size + 1) (.lst vo), I.laid (t' := s.toks) (fun b o z => sortedAll_old z) (Nat.le_succ _) ⟨hlen, out, n, rvo, hn⟩, rfl, ?_⟩
        exact q.lst fz ro _ hf
    · cases e
  · cases e
theorem signs_at {z : Str} {acc : Array Value} (h : ItemsOf (SignAt z) acc z.cps.size) : Vals (z.cps.toList.map fun c => V.str ⟨#[c]⟩) acc.toList := by
  have all : ∀ (cs : List Nat) (us : List Value), us.length = cs.length → (∀ (j : Nat) (c : Nat) (u : Value), cs[j]? = some c → us[j]? = some u → ∃ t, u = .str ⟨#[c]⟩ t) → Vals (cs.map fun c => V.str ⟨#[c]⟩) us := by
    intro cs
    induction cs with
    | nil =>
      intro us hl _
      rw [List.eq_nil_of_length_eq_zero hl]
      exact .nil
    | cons c cs ih =>
      intro us hl hj
      cases us with
      | nil => simp at hl
      | cons u us =>
        obtain ⟨t, e⟩ := hj 0 c u rfl rfl
        exact .cons ⟨t, e⟩ (ih us (by simpa using hl) fun j c' u' h1 h2 => hj (j + 1) c' u' (by simpa using h1) (by simpa using h2))
  refine all _ _ (by rw [Array.length_toList, Array.length_toList, h.1]) fun j c u h1 h2 => ?_
  obtain ⟨c', t, e1, e2⟩ := h.2 j u (by rw [← Array.getElem?_toList]; exact h2)
  rw [← Array.getElem?_toList, h1] at e1
  cases e1
  exact ⟨t, e2⟩
theorem signsL {H : Hp} {Z : Zn} : ∀ cs : List Nat, RepL H Z (cs.map fun c => .str ⟨#[c]⟩) (cs.map fun c => V.str ⟨#[c]⟩)
  | [] => .nil
  | _ :: cs => .cons (by rw [Rep]) (signsL cs)
theorem c_listS (hc : X.calm = true) : CallR X (.type "list") (rCl true dListS) := by
  intro pins s σ H xs us Q I r ⟨C, ow, ds, d, fz, h, e, q⟩
  unfold dListS at e
  split at e
  · split at e
    · rename_i z hz
      cases e
      obtain ⟨w, rfl, hw⟩ := h.one
      obtain rfl := hw.str
      obtain ⟨u, rfl, t, rfl⟩ := vals1 r
      refine call_list_str (I.ok.hd hc) z t (fun h' tk acc c' k hn hi => ?_) hz
      have hf : H s.heap.objs.size = none := I.fresh
      refine ⟨.ref s.heap.objs.size, upd H s.heap.objs.size (.lst (z.cps.toList.map fun c => V.str ⟨#[c]⟩)), I.laid (t' := tk) k (Nat.le_refl _) ⟨by simpa using hz, acc.toList, c', signs_at hi, by simpa using hn⟩, rfl, ?_⟩
      exact q.lst fz (signsL _) _ hf
    · cases e
  · cases e
end

/-! ### lifts to expressions -/
def b2 (f : D → D → Option D) (fa fb : FE) : FE := fun ρ S => match fa ρ S with
  | some (a, S1) => (match fb ρ S1 with
    | some (b, S2) => (match f a b with
      | some d => some (d, S2)
      | none => none)
    | none => none)
  | none => none
theorem b2_of {f : D → D → Option D} {fa fb : FE} {ρ : Rho} {S S' : Src} {d : D} (h : b2 f fa fb ρ S = some (d, S')) : ∃ a S1 b, fa ρ S = some (a, S1) ∧ fb ρ S1 = some (b, S') ∧ f a b = some d := by
  unfold b2 at h
  split at h
  · rename_i a S1 e1
    split at h
    · rename_i b S2 e2
      split at h
      · rename_i d' e3
        cases h
        exact ⟨a, S1, b, e1, e2, e3⟩
      · cases h
    · cases h
  · cases h
def u1 (f : D → Option D) (fa : FE) : FE := fun ρ S => match fa ρ S with
  | some (a, S1) => (match f a with
    | some d => some (d, S1)
    | none => none)
  | none => none
theorem u1_of {f : D → Option D} {fa : FE} {ρ : Rho} {S S' : Src} {d : D} (h : u1 f fa ρ S = some (d, S')) : ∃ a, fa ρ S = some (a, S') ∧ f a = some d := by
  unfold u1 at h
  split at h
  · rename_i a S1 e1
    split at h
    · rename_i d' e3
      cases h
      exact ⟨a, e1, e3⟩
    · cases h
  · cases h
def cN (f : List D → Option D) (g : FA) : FE := fun ρ S => match g ρ S with
  | some (ds, S1) => (match f ds with
    | some d => some (d, S1)
    | none => none)
  | none => none
theorem cN_of {f : List D → Option D} {g : FA} {ρ : Rho} {S S' : Src} {d : D} (h : cN f g ρ S = some (d, S')) : ∃ ds, g ρ S = some (ds, S') ∧ f ds = some d := by
  unfold cN at h
  split at h
  · rename_i a S1 e1
    split at h
    · rename_i d' e3
      cases h
      exact ⟨a, e1, e3⟩
    · cases h
  · cases h
abbrev FB := Rho → Src → Option (Bool × Src)
def tst (f : FE) : FB := fun ρ S => match f ρ S with
  | some (.bool b, S1) => some (b, S1)
  | _ => none
theorem tst_of {f : FE} {ρ : Rho} {S S' : Src} {b : Bool} (h : tst f ρ S = some (b, S')) : f ρ S = some (.bool b, S') := by
  unfold tst at h
  split at h
  · rename_i e
    cases h
    exact e
  · cases h
def tB (C : Cf) (kd : Nat → Bool) (f : FB) : TT := fun σ H Q => ∃ ow ρ S b S', Rel C kd ow σ ρ S H ∧ f ρ S = some (b, S') ∧ ∀ H', Kp C.foot H H' → SrcOk C S' H' → Q b H'
section
variable {X : Cx} {C : Cf} {kd : Nat → Bool} {a b : Expr} {fa fb : FE} {pos : Pos}
/-- two operands and an operation -/
theorem op2 {fr : Bool} {f : D → D → Option D} {σ : L2.St} {H : Hp} {Q : VK} {ow : Ow} {ρ : Rho} {S S' : Src} {d : D} (R : Rel C kd ow σ ρ S H) (e : b2 f fa fb ρ S = some (d, S'))
    (k : ∀ v H', Kp C.foot H H' → SrcOk C S' H' → Rep H' (ZO C ow) d v → (fr = true → New (ZO C ow) H H' d v) → Q v H') : tOp (rT fr f) (tS C kd fa) (tS C kd fb) σ H Q := by
  obtain ⟨x, S1, y, e1, e2, e3⟩ := b2_of e
  refine ⟨ow, ρ, S, x, S1, R, e1, fun vx H1 k1 s1 r1 => ⟨ow, ρ, S1, y, S', R.step k1 s1, e2, fun vy H2 k2 s2 r2 => ?_⟩⟩
  have R2 := (R.step k1 s1).step k2 s2
  exact ⟨C, ow, x, y, d, fun p hp => R2.fresh hp, r1.kp (R.step k1 s1) k2, r2, e3, R.fin (t := fr) (k1.trans k2) s2 k⟩
theorem x_bin {op : Operator} {f : D → D → Option D} (ho : OpR X (binaryOp op) (rT true f)) (ha : PE X a (tS C kd fa)) (hb : PE X b (tS C kd fb)) : PE X (.BinOp a op b pos) (tF C kd (b2 f fa fb)) :=
  PE_imp (pe_op ho ha hb) fun σ H Q ⟨ow, ρ, S, d, S', R, e, k⟩ => op2 R e fun v H' k1 k2 k3 k4 => k v H' k1 k2 k3 (k4 rfl)
theorem x_cmp {op : CmpOp} {f : D → D → Option D} (ho : OpR X (compareOp op) (rT true f)) (ha : PE X a (tS C kd fa)) (hb : PE X b (tS C kd fb)) (hm : behindInMarks op b = false) : PE X (.Compare a [op] [b] pos) (tF C kd (b2 f fa fb)) :=
  PE_imp (pe_cmpR ho ha hb hm) fun σ H Q ⟨ow, ρ, S, d, S', R, e, k⟩ => op2 R e fun v H' k1 k2 k3 k4 => k v H' k1 k2 k3 (k4 rfl)
theorem t_cmp {op : CmpOp} {f : D → D → Option D} (ho : OpR X (compareOp op) (rT true f)) (ha : PE X a (tS C kd fa)) (hb : PE X b (tS C kd fb)) (hm : behindInMarks op b = false) : PT X (.Compare a [op] [b] pos) (tB C kd (tst (b2 f fa fb))) :=
  PT_imp (pt_cmpR ho ha hb hm) fun σ H Q ⟨ow, ρ, S, d, S', R, e, k⟩ => op2 (Q := fun x H' => ∃ k, x = .bl k ∧ Q k H') R (tst_of e) fun v H' k1 k2 k3 _ => by
    rw [Rep] at k3
    exact ⟨d, k3, k H' k1 k2⟩
/-- a op b op' c -/
def ch (f f' : D → D → Option D) (fa fb fc : FE) : FE := fun ρ S => match fa ρ S with
  | some (a, S1) => (match fb ρ S1 with
    | some (b, S2) => (match f a b with
      | some (.bool true) => (match fc ρ S2 with
        | some (c, S3) => (match f' b c with
          | some d => some (d, S3)
          | none => none)
        | none => none)
      | some (.bool false) => some (.bool false, S2)
      | _ => none)
    | none => none)
  | none => none
theorem ch_of {f f' : D → D → Option D} {fa fb fc : FE} {ρ : Rho} {S S' : Src} {d : D} (h : ch f f' fa fb fc ρ S = some (d, S')) : ∃ a S1 b S2 k, fa ρ S = some (a, S1) ∧ fb ρ S1 = some (b, S2) ∧ f a b = some (.bool k) ∧
    (if k = true then ∃ c, fc ρ S2 = some (c, S') ∧ f' b c = some d else d = .bool false ∧ S' = S2) := by
  unfold ch at h
  split at h
  · rename_i a S1 e1
    split at h
    · rename_i b S2 e2
      split at h
      · rename_i e3
        split at h
        · rename_i c S3 e4
          split at h
          · rename_i d' e5
            cases h
            exact ⟨a, S1, b, S2, true, e1, e2, e3, by rw [if_pos rfl]; exact ⟨c, e4, e5⟩⟩
          · cases h
        · cases h
      · rename_i e3
        cases h
        exact ⟨a, S1, b, _, false, e1, e2, e3, by rw [if_neg Bool.false_ne_true]; exact ⟨rfl, rfl⟩⟩
      · cases h
    · cases h
  · cases h
theorem op3 {f f' : D → D → Option D} {fc : FE} {σ : L2.St} {H : Hp} {Q : VK} {ow : Ow} {ρ : Rho} {S S' : Src} {d : D} (R : Rel C kd ow σ ρ S H) (e : ch f f' fa fb fc ρ S = some (d, S'))
    (k : ∀ v H', Kp C.foot H H' → SrcOk C S' H' → Rep H' (ZO C ow) d v → New (ZO C ow) H H' d v → Q v H') : tChain (rT true f) (rT true f') (tS C kd fa) (tS C kd fb) (tS C kd fc) σ H Q := by
  obtain ⟨x, S1, y, S2, kk, e1, e2, e3, e4⟩ := ch_of e
  refine ⟨ow, ρ, S, x, S1, R, e1, fun vx H1 k1 s1 r1 => ⟨ow, ρ, S1, y, S2, R.step k1 s1, e2, fun vy H2 k2 s2 r2 => ?_⟩⟩
  have R2 := (R.step k1 s1).step k2 s2
  refine ⟨C, ow, x, y, .bool kk, fun p hp => R2.fresh hp, r1.kp (R.step k1 s1) k2, r2, e3, fun z H3 k3 r3 _ => ⟨kk, by rw [Rep] at r3; exact r3, ?_⟩⟩
  cases kk with
  | true =>
    rw [if_pos rfl] at e4 ⊢
    obtain ⟨c, e5, e6⟩ := e4
    have s3 := s2.kp k3
    have R3 := R2.step k3.z0 s3
    refine ⟨ow, ρ, S2, c, S', R3, e5, fun vc H4 k4 s4 r4 => ?_⟩
    have R4 := R3.step k4 s4
    exact ⟨C, ow, y, c, d, fun p hp => R4.fresh hp, (r2.kp R2 k3.z0).kp R3 k4, r4, e6, R.fin (t := true) (((k1.trans k2).trans k3.z0).trans k4) s4 fun v H' q1 q2 q3 q4 => k v H' q1 q2 q3 (q4 rfl)⟩
  | false =>
    rw [if_neg Bool.false_ne_true] at e4 ⊢
    obtain ⟨rfl, rfl⟩ := e4
    exact k _ H3 ((k1.trans k2).trans k3.z0) (s2.kp k3) (by rw [Rep]) fun z => by cases z
theorem x_chain {op op' : CmpOp} {f f' : D → D → Option D} {c : Expr} {fc : FE} (ho : OpR X (compareOp op) (rT true f)) (ho' : OpR X (compareOp op') (rT true f')) (ha : PE X a (tS C kd fa)) (hb : PE X b (tS C kd fb)) (hc : PE X c (tS C kd fc))
    (hm : lastMarks [op, op'] [b, c] = false := by with_unfolding_all rfl) : PE X (.Compare a [op, op'] [b, c] pos) (tF C kd (ch f f' fa fb fc)) :=
  PE_imp (pe_chain ho ho' ha hb hc hm) fun σ H Q ⟨ow, ρ, S, d, S', R, e, k⟩ => op3 R e k
theorem t_chain {op op' : CmpOp} {f f' : D → D → Option D} {c : Expr} {fc : FE} (ho : OpR X (compareOp op) (rT true f)) (ho' : OpR X (compareOp op') (rT true f')) (ha : PE X a (tS C kd fa)) (hb : PE X b (tS C kd fb)) (hc : PE X c (tS C kd fc))
    (hm : lastMarks [op, op'] [b, c] = false := by with_unfolding_all rfl) : PT X (.Compare a [op, op'] [b, c] pos) (tB C kd (tst (ch f f' fa fb fc))) :=
  PT_imp (pt_chain ho ho' ha hb hc hm) fun σ H Q ⟨ow, ρ, S, d, S', R, e, k⟩ => op3 (Q := fun x H' => ∃ k, x = .bl k ∧ Q k H') R (tst_of e) fun v H' k1 k2 k3 _ => by
    rw [Rep] at k3
    exact ⟨d, k3, k H' k1 k2⟩
theorem x_ix (ha : PE X a (tS C kd fa)) (hb : PE X b (tS C kd fb)) (hs : PlainIx b) : PE X (.Subscript a b pos) (tX C kd (b2 dIx fa fb)) :=
  PE_imp (pe_ix o_ix ha hb hs) fun σ H Q ⟨ow, ρ, S, d, S', R, e, k⟩ => op2 (fr := false) R e fun v H' k1 k2 k3 _ => k v H' k1 k2 k3
theorem x_un {op : UnaryOp} {f : D → Option D} (ho : UnR X (unaryOp op) (rU1 true f)) (ha : PE X a (tS C kd fa)) : PE X (.UnaryOp op a pos) (tF C kd (u1 f fa)) :=
  PE_imp (pe_un ho ha) fun σ H Q ⟨ow, ρ, S, d, S', R, e, k⟩ => by
    obtain ⟨x, e1, e2⟩ := u1_of e
    refine ⟨ow, ρ, S, x, S', R, e1, fun vx H1 k1 s1 r1 => ?_⟩
    exact ⟨C, ow, x, d, fun p hp => (R.step k1 s1).fresh hp, r1, e2, R.fin (t := true) k1 s1 fun v H' q1 q2 q3 q4 => k v H' q1 q2 q3 (q4 rfl)⟩
/-- a[lo:hi]: the parts -/
abbrev FO := Rho → Src → Option (Option Int × Src)
def pN : FO := fun _ S => some (none, S)
def pS (f : FE) : FO := fun ρ S => match f ρ S with
  | some (.int i, S1) => some (some i, S1)
  | _ => none
def tO (C : Cf) (kd : Nat → Bool) (f : FO) : TO := fun σ H Q => ∃ ow ρ S o S', Rel C kd ow σ ρ S H ∧ f ρ S = some (o, S') ∧ ∀ H', Kp C.foot H H' → SrcOk C S' H' → Q o H'
theorem p_none : PO X none (tO C kd pN) := ⟨fun pins s σ H Q I ⟨ow, ρ, S, o, S', R, e, k⟩ => by
  cases e
  exact po_none.run pins s σ H Q I (k H .refl R.src)⟩
theorem p_some (h : PE X a (tS C kd fa)) : PO X (some a) (tO C kd (pS fa)) := ⟨fun pins s σ H Q I ⟨ow, ρ, S, o, S', R, e, k⟩ => by
  unfold pS at e
  split at e
  · rename_i i S1 e1
    cases e
    exact (po_some h).run pins s σ H Q I ⟨ow, ρ, S, .int i, _, R, e1, fun v H' k1 k2 k3 => ⟨i, k3.int, k H' k1 k2⟩⟩
  · cases e⟩
def sl3 (fa : FE) (fl fh : FO) : FE := fun ρ S => match fa ρ S with
  | some (a, S1) => (match fl ρ S1 with
    | some (l, S2) => (match fh ρ S2 with
      | some (h, S3) => (match dSl a l h with
        | some d => some (d, S3)
        | none => none)
      | none => none)
    | none => none)
  | none => none
theorem x_sl {lo hi : Option Expr} {fl fh : FO} {p2 : Pos} (ha : PE X a (tS C kd fa)) (hl : PO X lo (tO C kd fl)) (hh : PO X hi (tO C kd fh)) : PE X (.Subscript a (.Slice lo hi none p2) pos) (tF C kd (sl3 fa fl fh)) :=
  PE_imp (pe_slice o_sl ha hl hh) fun σ H Q ⟨ow, ρ, S, d, S', R, e, k⟩ => by
    unfold sl3 at e
    split at e
    · rename_i x S1 e1
      split at e
      · rename_i l S2 e2
        split at e
        · rename_i h S3 e3
          split at e
          · rename_i d' e4
            cases e
            refine ⟨ow, ρ, S, x, S1, R, e1, fun vx H1 k1 s1 r1 => ⟨ow, ρ, S1, l, S2, R.step k1 s1, e2, fun H2 k2 s2 => ⟨ow, ρ, S2, h, _, (R.step k1 s1).step k2 s2, e3, fun H3 k3 s3 => ?_⟩⟩⟩
            have R3 := ((R.step k1 s1).step k2 s2).step k3 s3
            exact ⟨C, ow, x, _, fun p hp => R3.fresh hp, (r1.kp (R.step k1 s1) k2).kp ((R.step k1 s1).step k2 s2) k3, e4, R.fin (t := true) ((k1.trans k2).trans k3) s3 fun v H' q1 q2 q3 q4 => k v H' q1 q2 q3 (q4 rfl)⟩
          · cases e
        · cases e
      · cases e
    · cases e
/-- calls of built-ins -/
theorem tcb {f : List D → Option D} {g : FA} {n : Nat} {σ : L2.St} {H : Hp} {Q : VK} (h : tF C kd (cN f g) σ H Q) : tCB (rCl true f) (tA C kd n g) σ H Q := by
  obtain ⟨ow, ρ, S, d, S', R, e, k⟩ := h
  obtain ⟨ds, e1, e2⟩ := cN_of e
  refine ⟨ow, ρ, S, ds, S', R, e1, fun vs H1 k1 s1 r1 _ => ?_⟩
  exact ⟨C, ow, ds, d, fun p hp => (R.step k1 s1).fresh hp, r1, e2, R.fin (t := true) k1 s1 fun v H' q1 q2 q3 q4 => k v H' q1 q2 q3 (q4 rfl)⟩
theorem x_fn {x : Str} {p : Pos} {e : Expr} {es : List Expr} {id : String} {f : List D → Option D} {g : FA} {n : Nat} (hc : CallR X (.builtin id) (rCl true f)) (hg : Gl X x) (hm : X.mg x = none) (hv : bootBuiltins x = some (.builtin id)) (ha : PA X (e :: es) (tA C kd n g))
    (hn : x ≠ "__name__" := by decide) (hdb : (x == ("__debug__" : Str)) = false := by decide)
    (he : starEach (e :: es) X.env = (false, eval e X.env) :: starEach es X.env := by rfl) (hpl : (backTo pos (starEach es X.env)).any (·.1) = false := by rfl) : PE X (.Call (.Name x p) (e :: es) [] pos) (tF C kd (cN f g)) :=
  PE_imp (pe_callB hc hg hm hv ha hn hdb he hpl) fun σ H Q h => tcb h
theorem x_ty {x : Str} {p : Pos} {e : Expr} {es : List Expr} {T : String} {f : List D → Option D} {g : FA} {n : Nat} (hc : CallR X (.type T) (rCl true f)) (hg : Gl X x) (hm : X.mg x = none) (hv : bootBuiltins x = some (.type T)) (ha : PA X (e :: es) (tA C kd n g))
    (hn : x ≠ "__name__" := by decide) (hdb : (x == ("__debug__" : Str)) = false := by decide)
    (he : starEach (e :: es) X.env = (false, eval e X.env) :: starEach es X.env := by rfl) (hpl : (backTo pos (starEach es X.env)).any (·.1) = false := by rfl) : PE X (.Call (.Name x p) (e :: es) [] pos) (tF C kd (cN f g)) :=
  PE_imp (pe_callTy hc hg hm hv ha hn hdb he hpl) fun σ H Q h => tcb h
end
end TL

set_option Elab.async false
set_option linter.all false
set_option maxRecDepth 100000
set_option maxHeartbeats 4000000
namespace TL
open PySem PySem.Spec PyProof.Rows L2

/-! ### and, or, not, if-else -/
def fAnd (f g : FB) : FB := fun ρ S => match f ρ S with
  | some (true, S1) => g ρ S1
  | some (false, S1) => some (false, S1)
  | none => none
def fOr (f g : FB) : FB := fun ρ S => match f ρ S with
  | some (false, S1) => g ρ S1
  | some (true, S1) => some (true, S1)
  | none => none
def fNot (f : FB) : FB := fun ρ S => match f ρ S with
  | some (b, S1) => some (!b, S1)
  | none => none
def bE (f : FB) : FE := fun ρ S => match f ρ S with
  | some (b, S1) => some (.bool b, S1)
  | none => none
def ifE (c : FB) (f g : FE) : FE := fun ρ S => match c ρ S with
  | some (true, S1) => f ρ S1
  | some (false, S1) => g ρ S1
  | none => none
/-- the test is a value's -/
def tW (C : Cf) (kd : Nat → Bool) (f : FB) : TE := tF C kd (bE f)
section
variable {X : Cx} {C : Cf} {kd : Nat → Bool} {a b : Expr} {rest : List Expr} {fa fb : FB} {pos : Pos}
theorem bE_of {f : FB} {ρ : Rho} {S S' : Src} {d : D} (h : bE f ρ S = some (d, S')) : ∃ b, f ρ S = some (b, S') ∧ d = .bool b := by
  unfold bE at h
  split at h
  · rename_i b S1 e
    cases h
    exact ⟨b, e, rfl⟩
  · cases h
theorem t_val {f : FE} (h : PE X a (tS C kd f)) (he : ∀ whole, isTrue a X.env whole = (do let v ← whole; standAt a.pos; holding [v] (truthy v)) := by intro _; rfl) : PT X a (tB C kd (tst f)) :=
  PT_imp (pt_val h he) fun σ H Q ⟨ow, ρ, S, d, S', R, e, k⟩ => ⟨ow, ρ, S, _, S', R, tst_of e, fun v H' k1 k2 k3 => ⟨d, k3.bl, k H' k1 k2⟩⟩
theorem t_not (h : PT X a (tB C kd fa)) : PT X (.UnaryOp .Not a pos) (tB C kd (fNot fa)) :=
  PT_imp (pt_not h) fun σ H Q ⟨ow, ρ, S, d, S', R, e, k⟩ => by
    unfold fNot at e
    split at e
    · rename_i b S1 e1
      cases e
      exact ⟨ow, ρ, S, b, _, R, e1, k⟩
    · cases e
theorem w_and1 (h : PT X a (tB C kd fa)) : PW X (.BoolOp .And [a] pos) (tB C kd fa) := pw_and1 h
theorem w_or1 (h : PT X a (tB C kd fa)) : PW X (.BoolOp .Or [a] pos) (tB C kd fa) := pw_or1 h
theorem PW_imp {e : Expr} {t t' : TT} (h : PW X e t) (i : ∀ σ H Q, t' σ H Q → t σ H Q) : PW X e t' := ⟨fun w pins s σ H Q I q => h.run w pins s σ H Q I (i σ H Q q)⟩
theorem w_and (h : PT X a (tB C kd fa)) (hb : PW X (.BoolOp .And (b :: rest) pos) (tB C kd fb)) : PW X (.BoolOp .And (a :: b :: rest) pos) (tB C kd (fAnd fa fb)) :=
  PW_imp (pw_and h hb) fun σ H Q ⟨ow, ρ, S, d, S', R, e, k⟩ => by
    unfold fAnd at e
    split at e
    · rename_i S1 e1
      refine ⟨ow, ρ, S, true, S1, R, e1, fun H1 k1 s1 => ?_⟩
      refine iteT ?_
      exact ⟨ow, ρ, S1, d, S', R.step k1 s1, e, fun H2 k2 s2 => k H2 (k1.trans k2) s2⟩
    · rename_i S1 e1
      cases e
      refine ⟨ow, ρ, S, false, _, R, e1, fun H1 k1 s1 => ?_⟩
      refine iteF ?_
      exact k H1 k1 s1
    · cases e
theorem w_or (h : PT X a (tB C kd fa)) (hb : PW X (.BoolOp .Or (b :: rest) pos) (tB C kd fb)) : PW X (.BoolOp .Or (a :: b :: rest) pos) (tB C kd (fOr fa fb)) :=
  PW_imp (pw_or h hb) fun σ H Q ⟨ow, ρ, S, d, S', R, e, k⟩ => by
    unfold fOr at e
    split at e
    · rename_i S1 e1
      refine ⟨ow, ρ, S, false, S1, R, e1, fun H1 k1 s1 => ?_⟩
      refine iteF ?_
      exact ⟨ow, ρ, S1, d, S', R.step k1 s1, e, fun H2 k2 s2 => k H2 (k1.trans k2) s2⟩
    · rename_i S1 e1
      cases e
      refine ⟨ow, ρ, S, true, _, R, e1, fun H1 k1 s1 => ?_⟩
      refine iteT ?_
      exact k H1 k1 s1
    · cases e
/-- bools by and, or, not as values -/
theorem v_of {f : FE} (h : PE X a (tF C kd f)) : PE X a (tW C kd (tst f)) :=
  PE_imp h fun σ H Q ⟨ow, ρ, S, d, S', R, e, k⟩ => by
    obtain ⟨b, e1, rfl⟩ := bE_of e
    exact ⟨ow, ρ, S, _, S', R, tst_of e1, k⟩
theorem v_ofS {f : FE} (h : PE X a (tS C kd f)) : PE X a (tW C kd (tst f)) :=
  PE_imp h fun σ H Q ⟨ow, ρ, S, d, S', R, e, k⟩ => by
    obtain ⟨b, e1, rfl⟩ := bE_of e
    refine ⟨ow, ρ, S, _, S', R, tst_of e1, fun v H' k1 k2 k3 => k v H' k1 k2 ?_ fun z => by cases z⟩
    rw [k3.bl, Rep]
theorem v_one {op} (h : PE X a (tW C kd fa)) : PE X (.BoolOp op [a] pos) (tW C kd fa) := pe_one h
theorem v_and (h : PE X a (tW C kd fa)) (hb : PE X (.BoolOp .And (b :: rest) pos) (tW C kd fb)) : PE X (.BoolOp .And (a :: b :: rest) pos) (tW C kd (fAnd fa fb)) :=
  PE_imp (pe_and h hb) fun σ H Q ⟨ow, ρ, S, d, S', R, e, k⟩ => by
    replace ⟨c, e, hd⟩ := bE_of e
    subst hd
    unfold fAnd at e
    split at e
    · rename_i S1 e1
      refine ⟨ow, ρ, S, .bool true, S1, R, by unfold bE; rw [e1], fun v H1 k1 s1 r1 _ => ⟨true, by rw [Rep] at r1; exact r1, ?_⟩⟩
      refine iteT ?_
      exact ⟨ow, ρ, S1, .bool c, S', R.step k1 s1, by unfold bE; rw [e], fun v2 H2 k2 s2 r2 _ => k v2 H2 (k1.trans k2) s2 r2 fun z => by cases z⟩
    · rename_i S1 e1
      cases e
      refine ⟨ow, ρ, S, .bool false, _, R, by unfold bE; rw [e1], fun v H1 k1 s1 r1 _ => ⟨false, by rw [Rep] at r1; exact r1, ?_⟩⟩
      refine iteF ?_
      exact k _ H1 k1 s1 (by rw [Rep]) fun z => by cases z
    · cases e
theorem v_or (h : PE X a (tW C kd fa)) (hb : PE X (.BoolOp .Or (b :: rest) pos) (tW C kd fb)) : PE X (.BoolOp .Or (a :: b :: rest) pos) (tW C kd (fOr fa fb)) :=
  PE_imp (pe_or h hb) fun σ H Q ⟨ow, ρ, S, d, S', R, e, k⟩ => by
    replace ⟨c, e, hd⟩ := bE_of e
    subst hd
    unfold fOr at e
    split at e
    · rename_i S1 e1
      refine ⟨ow, ρ, S, .bool false, S1, R, by unfold bE; rw [e1], fun v H1 k1 s1 r1 _ => ⟨false, by rw [Rep] at r1; exact r1, ?_⟩⟩
      refine iteF ?_
      exact ⟨ow, ρ, S1, .bool c, S', R.step k1 s1, by unfold bE; rw [e], fun v2 H2 k2 s2 r2 _ => k v2 H2 (k1.trans k2) s2 r2 fun z => by cases z⟩
    · rename_i S1 e1
      cases e
      refine ⟨ow, ρ, S, .bool true, _, R, by unfold bE; rw [e1], fun v H1 k1 s1 r1 _ => ⟨true, by rw [Rep] at r1; exact r1, ?_⟩⟩
      refine iteT ?_
      exact k _ H1 k1 s1 (by rw [Rep]) fun z => by cases z
    · cases e
theorem v_not (h : PE X a (tW C kd fa)) : PE X (.UnaryOp .Not a pos) (tW C kd (fNot fa)) :=
  PE_imp (pe_not h) fun σ H Q ⟨ow, ρ, S, d, S', R, e, k⟩ => by
    replace ⟨c, e, hd⟩ := bE_of e
    subst hd
    unfold fNot at e
    split at e
    · rename_i b S1 e1
      cases e
      exact ⟨ow, ρ, S, .bool b, _, R, by unfold bE; rw [e1], fun v H1 k1 s1 r1 _ => ⟨b, by rw [Rep] at r1; exact r1, k _ H1 k1 s1 (by rw [Rep]) fun z => by cases z⟩⟩
    · cases e
theorem x_if {c : Expr} {fc : FB} {f g : FE} (hc : PT X c (tB C kd fc)) (ha : PE X a (tX C kd f)) (hb : PE X b (tX C kd g)) : PE X (.IfExp c a b pos) (tX C kd (ifE fc f g)) :=
  PE_imp (pe_ifExp hc ha hb) fun σ H Q ⟨ow, ρ, S, d, S', R, e, k⟩ => by
    unfold ifE at e
    split at e
    · rename_i S1 e1
      refine ⟨ow, ρ, S, true, S1, R, e1, fun H1 k1 s1 => ?_⟩
      refine iteT ?_
      exact ⟨ow, ρ, S1, d, S', R.step k1 s1, e, fun v H2 k2 s2 r => k v H2 (k1.trans k2) s2 r⟩
    · rename_i S1 e1
      refine ⟨ow, ρ, S, false, S1, R, e1, fun H1 k1 s1 => ?_⟩
      refine iteF ?_
      exact ⟨ow, ρ, S1, d, S', R.step k1 s1, e, fun v H2 k2 s2 r => k v H2 (k1.trans k2) s2 r⟩
    · cases e
theorem x_ifS {c : Expr} {fc : FB} {f g : FE} (hc : PT X c (tB C kd fc)) (ha : PE X a (tS C kd f)) (hb : PE X b (tS C kd g)) : PE X (.IfExp c a b pos) (tS C kd (ifE fc f g)) :=
  PE_imp (pe_ifExp hc ha hb) fun σ H Q ⟨ow, ρ, S, d, S', R, e, k⟩ => by
    unfold ifE at e
    split at e
    · rename_i S1 e1
      refine ⟨ow, ρ, S, true, S1, R, e1, fun H1 k1 s1 => ?_⟩
      refine iteT ?_
      exact ⟨ow, ρ, S1, d, S', R.step k1 s1, e, fun v H2 k2 s2 r => k v H2 (k1.trans k2) s2 r⟩
    · rename_i S1 e1
      refine ⟨ow, ρ, S, false, S1, R, e1, fun H1 k1 s1 => ?_⟩
      refine iteF ?_
      exact ⟨ow, ρ, S1, d, S', R.step k1 s1, e, fun v H2 k2 s2 r => k v H2 (k1.trans k2) s2 r⟩
    · cases e
theorem x_ifF {c : Expr} {fc : FB} {f g : FE} (hc : PT X c (tB C kd fc)) (ha : PE X a (tF C kd f)) (hb : PE X b (tF C kd g)) : PE X (.IfExp c a b pos) (tF C kd (ifE fc f g)) :=
  PE_imp (pe_ifExp hc ha hb) fun σ H Q ⟨ow, ρ, S, d, S', R, e, k⟩ => by
    unfold ifE at e
    have back : ∀ {H1 : Hp} {S1 : Src}, Kp C.foot H H1 → SrcOk C S1 H1 → ∀ {v : V} {H2 : Hp}, New (ZO C ow) H1 H2 d v → New (ZO C ow) H H2 d v := by
      intro H1 S1 k1 s1 v H2 fr m
      obtain ⟨a, e1, e2, e3⟩ := fr m
      exact ⟨a, e1, R.back k1 s1 e2, e3⟩
    split at e
    · rename_i S1 e1
      refine ⟨ow, ρ, S, true, S1, R, e1, fun H1 k1 s1 => ?_⟩
      refine iteT ?_
      exact ⟨ow, ρ, S1, d, S', R.step k1 s1, e, fun v H2 k2 s2 r fr => k v H2 (k1.trans k2) s2 r (back k1 s1 fr)⟩
    · rename_i S1 e1
      refine ⟨ow, ρ, S, false, S1, R, e1, fun H1 k1 s1 => ?_⟩
      refine iteF ?_
      exact ⟨ow, ρ, S1, d, S', R.step k1 s1, e, fun v H2 k2 s2 r fr => k v H2 (k1.trans k2) s2 r (back k1 s1 fr)⟩
    · cases e
/-! ### is None -/
def isN : D → Bool
  | .none => true
  | _ => false
def dIsN (a b : D) : Option D := match b with
  | .none => some (.bool (isN a))
  | .bool c => (match a with | .bool d => some (.bool (decide (d = c))) | _ => none)
  | _ => none
def dNotN (a b : D) : Option D := match b with
  | .none => some (.bool (!isN a))
  | .bool c => (match a with | .bool d => some (.bool (!decide (d = c))) | _ => none)
  | _ => none
theorem RepS.non_iff {ow : Ow} {H : Hp} {d : D} {v : V} (h : RepS C ow H d v) : decide (v = .non) = isN d := by
  cases d with
  | none => rw [h.non]; rfl
  | bool b => rw [h.bl]; rfl
  | int i => rw [h.int]; rfl
  | str x => rw [h.str]; rfl
  | tuple ds => obtain ⟨a, vs, rfl, _⟩ := h.tup; rfl
  | list ds => obtain ⟨a, vs, rfl, _⟩ := h.lst; rfl
  | dict ds => obtain ⟨a, vs, rfl, _⟩ := h.dic; rfl
theorem o_is : OpR X (compareOp .Is) (rT true dIsN) := by
  intro pins s σ H x y v u Q I rx ry ⟨C, ow, a, b, d, fz, ha, hb, e, q⟩
  unfold dIsN at e
  split at e
  · cases e
    obtain rfl := hb.non
    refine op_isN pins s σ H _ _ v u Q I rx ry ⟨rfl, ?_⟩
    rw [ha.non_iff]
    exact q.atom (by rw [Rep])
  · split at e
    · cases e
      obtain rfl := ha.bl
      obtain rfl := hb.bl
      exact op_isBl pins s σ H _ _ v u Q I rx ry ⟨_, _, rfl, rfl, q.atom (by rw [Rep])⟩
    · cases e
  · cases e
theorem o_isnot : OpR X (compareOp .IsNot) (rT true dNotN) := by
  intro pins s σ H x y v u Q I rx ry ⟨C, ow, a, b, d, fz, ha, hb, e, q⟩
  unfold dNotN at e
  split at e
  · cases e
    obtain rfl := hb.non
    refine op_notN pins s σ H _ _ v u Q I rx ry ⟨rfl, ?_⟩
    rw [ha.non_iff]
    exact q.atom (by rw [Rep])
  · split at e
    · cases e
      obtain rfl := ha.bl
      obtain rfl := hb.bl
      exact op_notBl pins s σ H _ _ v u Q I rx ry ⟨_, _, rfl, rfl, q.atom (by rw [Rep])⟩
    · cases e
  · cases e
end

/-! ### defs -/
mutual
def imm : D → Bool
  | .tuple ds => immL ds
  | .list _ => false
  | .dict _ => false
  | .none => true
  | .bool _ => true
  | .int _ => true
  | .str _ => true
def immL : List D → Bool
  | [] => true
  | d :: ds => imm d && immL ds
end
mutual
theorem Rep.imm {H : Hp} {Z Z' : Zn} : ∀ {d : D} {v : V}, TL.imm d = true → Rep H Z d v → Rep H Z' d v
  | .none, _, _, h => by rw [Rep] at h ⊢; exact h
  | .bool _, _, _, h => by rw [Rep] at h ⊢; exact h
  | .int _, _, _, h => by rw [Rep] at h ⊢; exact h
  | .str _, _, _, h => by rw [Rep] at h ⊢; exact h
  | .tuple ds, _, m, h => by
    rw [TL.imm] at m
    rw [Rep] at h ⊢
    obtain ⟨a, vs, e, h1, h2⟩ := h
    exact ⟨a, vs, e, h1, RepL.imm m h2⟩
  | .list ds, _, m, _ => by rw [TL.imm] at m; cases m
  | .dict ds, _, m, _ => by rw [TL.imm] at m; cases m
theorem RepL.imm {H : Hp} {Z Z' : Zn} : ∀ {ds : List D} {vs : List V}, immL ds = true → RepL H Z ds vs → RepL H Z' ds vs
  | [], _, _, h => by rw [RepL] at h ⊢; exact h
  | d :: ds, _, m, h => by
    rw [immL, Bool.and_eq_true] at m
    rw [RepL] at h ⊢
    obtain ⟨w, ws, e, h1, h2⟩ := h
    exact ⟨w, ws, e, Rep.imm m.1 h1, RepL.imm m.2 h2⟩
end
theorem imm_mut {d : D} (h : imm d = true) : isMut d = false := by
  cases d <;> first | rfl | (rw [imm] at h; cases h)

structure FnG (P : Program) (w : World) (K : PySem.W.Frag) (mg : Str → Option Value) (base : Heap) (k : Nat) (f : Addr) (fd : FuncData) (ps : List Str) (sp : Sp) : Prop where
  len : ∀ vs H Q E, sp vs H Q E → vs.length = ps.length
  run : ∀ (A : Around) (outer : List Env) (s : Shared) (H : Hp) (args : Args) (us : List Value) (vs : List V) (Q : VK), A.guards = some [] → Room k A → Env0 P w K mg base A outer s H → BindsTo s fd args (ps.zip us) →
    Vals vs us → sp vs H Q E0 → codeAny (model P w) A (.call (.ref f) args) (CR CX0 outer P w H s Q E0) s
theorem FnG.mono {P : Program} {w : World} {K : PySem.W.Frag} {mg : Str → Option Value} {base : Heap} {j k : Nat} {f : Addr} {fd : FuncData} {ps : List Str} {sp : Sp} (F : FnG P w K mg base j f fd ps sp) (h : j ≤ k) : FnG P w K mg base k f fd ps sp :=
  ⟨F.len, fun A outer s H args us vs Q g r => F.run A outer s H args us vs Q g (r.mono h)⟩
/-- a def's promises: without and with the drawing object -/
def spP (n : Nat) (m : List D → Option D) : Sp := fun vs H Q _ => ∃ (Z : Zn) (ds : List D) (d : D), (∀ a, Z a → H a ≠ none) ∧ RepL H Z ds vs ∧ ds.length = n ∧ m ds = some d ∧ ∀ v H', Kp Z0 H H' → Rep H' Z d v → Q v H'
def spS (n : Nat) (m : List D → Src → Option (D × Src)) : Sp := fun vs H Q _ => ∃ (Z : Zn) (x c : Addr) (S : Src) (ds : List D) (ws : List V) (d : D) (S' : Src), vs = .ref x :: ws ∧ SrcAt H x c S ∧ Z x ∧ Z c ∧ (∀ a, Z a → H a ≠ none) ∧ RepL H Z ds ws ∧
  ds.length = n ∧ m ds S = some (d, S') ∧ ∀ v H', Kp (fun a => a = x ∨ a = c) H H' → SrcAt H' x c S' → Rep H' Z d v → Q v H'

section
variable {X : Cx} {C : Cf} {kd : Nat → Bool}
/-- f(..) of a def that is proved -/
theorem pe_callG {x : Str} {p pos : Pos} {e : Expr} {es : List Expr} {t : TA} {k : Nat} {f : Addr} {fd : FuncData} {ps : List Str} {sp : Sp} (F : FnG X.prog X.w X.K X.mg X.base k f fd ps sp) (gd : X.A.guards = some []) (hr : Room k X.A) (hg : Gl X x) (hm : X.mg x = some (.ref f))
    (hk : PySem.W.keepIn X.K (.ref f) = true) (hb : Binds X.K fd ps []) (ha : PA X (e :: es) t) (hdb : (x == ("__debug__" : Str)) = false := by decide)
    (he : starEach (e :: es) X.env = (false, eval e X.env) :: starEach es X.env := by rfl) (hpl : (backTo pos (starEach es X.env)).any (·.1) = false := by rfl) :
    PE X (.Call (.Name x p) (e :: es) [] pos) (fun σ H Q => t σ H fun vs H1 => sp vs H1 Q E0) := by
  constructor
  intro pins s σ H Q I h
  apply wpAny_Call_Name_kw
  apply ld_glob I hg hm _ hdb
  apply PySem.W.callWith_K (h₀ := X.base) I.ok.mod.kin hk _ he hpl
  apply thn (ha.run pos pins s σ H _ I h)
  rintro us s1 ⟨vs, H1, I1, r, q⟩
  refine ⟨I1.kIn, wpAny_call (codeAny_mono (F.run X.A X.stack s1 H1 ⟨us, []⟩ us vs Q gd hr I1.env0 ?_ r q) ?_)⟩
  · have b := hb s1 us I1.kIn (by rw [List.append_nil, ← r.length]; exact F.len _ _ _ _ q)
    rw [List.append_nil] at b
    exact b
  · intro res s' hq
    match res, hq with
    | .ok (.ret u), hq => exact I1.after hq
    | .ok .next, hq => exact hq.elim
    | .ok .brk, hq => exact hq.elim
    | .ok .cont, hq => exact hq.elim
    | .error _, hq => exact hq.elim
variable {x : Str} {p pos : Pos} {e : Expr} {es : List Expr} {k : Nat} {f : Addr} {fd : FuncData} {ps : List Str} {n : Nat} {g : FA}
theorem x_callP {m : List D → Option D} (F : FnG X.prog X.w X.K X.mg X.base k f fd ps (spP n m)) (gd : X.A.guards = some []) (hr : Room k X.A) (hg : Gl X x) (hm : X.mg x = some (.ref f))
    (hk : PySem.W.keepIn X.K (.ref f) = true) (hb : Binds X.K fd ps []) (ha : PA X (e :: es) (tAX C kd n g)) (hdb : (x == ("__debug__" : Str)) = false := by decide)
    (he : starEach (e :: es) X.env = (false, eval e X.env) :: starEach es X.env := by rfl) (hpl : (backTo pos (starEach es X.env)).any (·.1) = false := by rfl) :
    PE X (.Call (.Name x p) (e :: es) [] pos) (tX C kd (cN m g)) :=
  PE_imp (pe_callG F gd hr hg hm hk hb ha hdb he hpl) fun σ H Q ⟨ow, ρ, S, d, S', R, e, q⟩ => by
    obtain ⟨ds, e1, e2⟩ := cN_of e
    refine ⟨ow, ρ, S, ds, S', R, e1, fun vs H1 k1 s1 r1 hn => ?_⟩
    have R1 := R.step k1 s1
    exact ⟨ZO C ow, ds, d, fun a z => R1.there z, r1, hn, e2, fun v H' k2 r2 => q v H' (k1.trans k2.z0) (s1.kp k2) r2⟩
theorem RepSL.out {ow : Ow} {H : Hp} : ∀ {ds : List D} {vs : List V}, RepSL C ow H ds vs → RepL H C.Z ds vs
  | [], vs, h => by
    have h : vs = [] := h
    subst h
    exact .nil
  | _ :: _, _, ⟨w, ws, e, h1, h2⟩ => by
    subst e
    exact .cons h1.out (RepSL.out h2)
/-- with a def's own lists among the arguments: what comes back has none -/
def cI (m : List D → Option D) (g : FA) : FE := fun ρ S => match g ρ S with
  | some (ds, S1) => (match m ds with
    | some d => if imm d = true then some (d, S1) else none
    | none => none)
  | none => none
theorem x_callI {m : List D → Option D} (F : FnG X.prog X.w X.K X.mg X.base k f fd ps (spP n m)) (gd : X.A.guards = some []) (hr : Room k X.A) (hg : Gl X x) (hm : X.mg x = some (.ref f))
    (hk : PySem.W.keepIn X.K (.ref f) = true) (hb : Binds X.K fd ps []) (ha : PA X (e :: es) (tA C kd n g)) (hdb : (x == ("__debug__" : Str)) = false := by decide)
    (he : starEach (e :: es) X.env = (false, eval e X.env) :: starEach es X.env := by rfl) (hpl : (backTo pos (starEach es X.env)).any (·.1) = false := by rfl) :
    PE X (.Call (.Name x p) (e :: es) [] pos) (tF C kd (cI m g)) :=
  PE_imp (pe_callG F gd hr hg hm hk hb ha hdb he hpl) fun σ H Q ⟨ow, ρ, S, d, S', R, e, q⟩ => by
    unfold cI at e
    split at e
    · rename_i ds S1 e1
      split at e
      · rename_i d' e2
        split at e
        · rename_i hi
          cases e
          refine ⟨ow, ρ, S, ds, _, R, e1, fun vs H1 k1 s1 r1 hn => ?_⟩
          have R1 := R.step k1 s1
          exact ⟨C.Z, ds, d, fun a z => R1.there (.inl z), r1.out, hn, e2, fun v H' k2 r2 => q v H' (k1.trans k2.z0) (s1.kp k2) (r2.imm hi) fun z => by rw [imm_mut hi] at z; cases z⟩
        · cases e
      · cases e
    · cases e
/-- the drawing object as the first argument -/
def tAS (C : Cf) (kd : Nat → Bool) (n : Nat) (g : FA) : TA := fun σ H Q => ∃ ow ρ S ds S' p, C.src = some p ∧ Rel C kd ow σ ρ S H ∧ g ρ S = some (ds, S') ∧
  ∀ vs H', Kp C.foot H H' → SrcOk C S' H' → RepL H' (ZO C ow) ds vs → ds.length = n → Q (.ref p.1 :: vs) H'
theorem as_cons {e : Expr} {es : List Expr} {g : FA} {n : Nat} (hs : C.src ≠ none) (h0 : PE X e (tVar C.sx)) (hr : PA X es (tAX C kd n g)) (he : starEach (e :: es) X.env = (false, eval e X.env) :: starEach es X.env := by rfl) :
    PA X (e :: es) (tAS C kd n g) := PA_imp (pa_cons h0 hr he) fun σ H Q ⟨ow, ρ, S, ds, S', p, hp, R, e1, q⟩ => by
  exact ⟨_, (R.sr p hp).1, ow, ρ, S, ds, S', R, e1, fun vs H' k1 s1 r1 hn => q vs H' k1 s1 r1 hn⟩
def cS (m : List D → Src → Option (D × Src)) (g : FA) : FE := fun ρ S => match g ρ S with
  | some (ds, S1) => m ds S1
  | none => none
theorem x_callS {m : List D → Src → Option (D × Src)} (F : FnG X.prog X.w X.K X.mg X.base k f fd ps (spS n m)) (hs : ∃ p, C.src = some p) (gd : X.A.guards = some []) (hr : Room k X.A) (hg : Gl X x) (hm : X.mg x = some (.ref f))
    (hk : PySem.W.keepIn X.K (.ref f) = true) (hb : Binds X.K fd ps []) (ha : PA X (e :: es) (tAS C kd n g)) (hdb : (x == ("__debug__" : Str)) = false := by decide)
    (he : starEach (e :: es) X.env = (false, eval e X.env) :: starEach es X.env := by rfl) (hpl : (backTo pos (starEach es X.env)).any (·.1) = false := by rfl) :
    PE X (.Call (.Name x p) (e :: es) [] pos) (tX C kd (cS m g)) :=
  PE_imp (pe_callG F gd hr hg hm hk hb ha hdb he hpl) fun σ H Q ⟨ow, ρ, S, d, S', R, e, q⟩ => by
    obtain ⟨pp, hp⟩ := hs
    unfold cS at e
    split at e
    · rename_i ds S1 e1
      refine ⟨ow, ρ, S, ds, S1, pp, hp, R, e1, fun vs H1 k1 s1 r1 hn => ?_⟩
      have R1 := R.step k1 s1
      have ft : ∀ a, (a = pp.1 ∨ a = pp.2) → C.foot a := fun a h => by unfold Cf.foot; rw [hp]; exact h
      have sa : SrcAt H1 pp.1 pp.2 S1 := by unfold SrcOk at s1; rw [hp] at s1; exact s1
      exact ⟨ZO C ow, pp.1, pp.2, S1, ds, vs, d, S', rfl, sa, R1.fz _ (ft _ (.inl rfl)), R1.fz _ (ft _ (.inr rfl)), fun a z => R1.there z, r1, hn, e, fun v H' k2 s2 r2 =>
        q v H' (k1.trans (k2.mono ft)) (by unfold SrcOk; rw [hp]; exact s2) r2⟩
    · cases e
end
end TL

set_option Elab.async false
set_option linter.all false
set_option maxRecDepth 100000
set_option maxHeartbeats 4000000
namespace TL
open PySem PySem.Spec PyProof.Rows L2

/-! ### what is walked -/
/-- J walks ds, while what stands outside Zk stands -/
def Walk (C : Cf) (ow : Ow) (H1 : Hp) (Zk : Zn) (J : It) (ds : List D) : Prop := ∀ i H2, Kp Zk H1 H2 →
  (i < ds.length → J.go i H2 ∧ ∀ x H3, J.yld i H2 x H3 → Kp Z0 H2 H3 ∧ ∃ d, ds[i]? = some d ∧ ∀ Z' : Zn, (∀ a, Z' a → ZO C ow a ∨ H1 a = none) → (∀ a, Zk a → Z' a) → Rep H3 Z' d x) ∧
  (ds.length ≤ i → J.stop i H2)
/-- st: the loop may change what a statement may change -/
def tI (C : Cf) (kd : Nat → Bool) (st : Bool) (f : FA) : TI := fun σ H R => ∃ ow ρ S ds S', Rel C kd ow σ ρ S H ∧ f ρ S = some (ds, S') ∧
  ∀ J H1, Kp C.foot H H1 → SrcOk C S' H1 → Walk C ow H1 (if st = true then chg C ow else C.foot) J ds → R J H1
section
variable {X : Cx} {C : Cf} {kd : Nat → Bool} {tg e : Expr}
theorem PI_imp {t t' : TI} (h : PI X tg e t) (i : ∀ σ H R, t' σ H R → t σ H R) : PI X tg e t' := ⟨fun pins s σ H R I q => h.run pins s σ H R I (i σ H R q)⟩
/-- a list or a tuple -/
def iSeq (K : PySem.W.Frag) (tl : TE) : TI := fun σ H R => tl σ H fun x H1 => ∃ a, x = .ref a ∧ ((∃ xs, SqL K H1 a xs ∧ R (Itl K a) H1) ∨ ∃ xs, SqT K H1 a xs ∧ R (Itt K a) H1)
theorem pi_seq {tl : TE} (hl : PE X e tl) : PI X tg e (iSeq X.K tl) := by
  constructor
  intro pins s σ H R I h
  apply thn (hl.run pins s σ H _ I h)
  rintro v s1 ⟨x, H1, I1, r1, a, rfl, q1⟩
  cases r1
  have fp : ∀ b ∈ [s1.heap.objs.size], FpOk X pins H1 b := fun b hb => by
    rw [List.mem_singleton] at hb
    rw [hb]
    exact I1.fpOk (Nat.le_refl _) I1.fresh
  rcases q1 with ⟨xs, hq, q⟩ | ⟨xs, hq, q⟩
  · obtain ⟨its, rv, p, hz⟩ := I1.list hq
    exact wpAny_pyIter_list p.isList ⟨_, [s1.heap.objs.size], _, _, H1, rfl, I1.kept (t' := s1.toks) fun b o z => Heap.get?_push_of_some _ z, turn_list a _, ⟨_, Heap.get?_push_size _ rfl, rfl, rfl⟩, fp, q⟩
  · obtain ⟨its, rv, p, hz⟩ := I1.tuple hq
    exact wpAny_pyIter_tuple (show s1.heap.IsTuple a its.toArray from p) ⟨_, [s1.heap.objs.size], _, _, H1, rfl, I1.kept (t' := s1.toks) fun b o z => Heap.get?_push_of_some _ z, turn_tuple a _, ⟨_, Heap.get?_push_size _ rfl, rfl, rfl⟩, fp, q⟩
def items : D → Option (List D)
  | .list ds => some ds
  | .tuple ds => some ds
  | _ => none
def iE (f : FE) : FA := fun ρ S => match f ρ S with
  | some (d, S1) => (match items d with
    | some ds => some (ds, S1)
    | none => none)
  | none => none
theorem iE_of {f : FE} {ρ : Rho} {S S' : Src} {ds : List D} (h : iE f ρ S = some (ds, S')) : ∃ d, f ρ S = some (d, S') ∧ items d = some ds := by
  unfold iE at h
  split at h
  · rename_i d S1 e1
    split at h
    · rename_i ds' e2
      cases h
      exact ⟨d, e1, e2⟩
    · cases h
  · cases h
theorem SqL.eqv {K : PySem.W.Frag} {H : Hp} {a : Addr} {xs : List V} (h : H a = some (.lst xs)) : SqL K H a xs := .of h
theorem walk_lst {K : PySem.W.Frag} {ow : Ow} {H1 : Hp} {Zk : Zn} {a : Addr} {vs : List V} {ds : List D} (h : H1 a = some (.lst vs)) (n : ¬ Zk a) (r : RepL H1 (ZO C ow) ds vs) : Walk C ow H1 Zk (Itl K a) ds := fun i H2 k => by
  have h2 := k.ob _ _ h n
  have hl := RepL.len r
  refine ⟨fun hi => ⟨⟨vs, vs[i]'(by omega), .of h2, List.getElem?_eq_getElem _⟩, fun x H3 y => ?_⟩, fun hi => ⟨vs, .of h2, by omega⟩⟩
  obtain ⟨rfl, y⟩ := y
  obtain ⟨d, e, q⟩ := r.got (y vs (.of h2))
  exact ⟨.refl, d, e, fun Z' h1 h2 => (q.more h1).kp (k.mono h2)⟩
theorem walk_tup {K : PySem.W.Frag} {ow : Ow} {H1 : Hp} {Zk : Zn} {a : Addr} {vs : List V} {ds : List D} (h : H1 a = some (.tup vs)) (r : RepL H1 (ZO C ow) ds vs) : Walk C ow H1 Zk (Itt K a) ds := fun i H2 k => by
  have h2 := k.tp _ _ h
  have hl := RepL.len r
  refine ⟨fun hi => ⟨⟨vs, vs[i]'(by omega), .of h2, List.getElem?_eq_getElem _⟩, fun x H3 y => ?_⟩, fun hi => ⟨vs, .of h2, by omega⟩⟩
  obtain ⟨rfl, y⟩ := y
  obtain ⟨d, e, q⟩ := r.got (y vs (.of h2))
  exact ⟨.refl, d, e, fun Z' h1 h2 => (q.more h1).kp (k.mono h2)⟩
/-- for x in e: a clean value -/
theorem i_seq {f : FE} {st : Bool} (h : PE X e (tX C kd f)) : PI X tg e (tI C kd st (iE f)) :=
  PI_imp (pi_seq h) fun σ H R ⟨ow, ρ, S, ds, S', r, e, k⟩ => by
    obtain ⟨d, e1, e2⟩ := iE_of e
    refine ⟨ow, ρ, S, d, S', r, e1, fun v H1 k1 s1 r1 => ?_⟩
    have R1 := r.step k1 s1
    cases d <;> first
      | (cases e2; done)
      | (cases e2
         rw [Rep] at r1
         obtain ⟨a, vs, rfl, h1, n, r2⟩ := r1
         refine ⟨a, rfl, .inl ⟨vs, .of h1, k _ _ k1 s1 (walk_lst h1 (fun z => n ?_) r2)⟩⟩
         split at z
         · exact R1.cz _ z
         · exact R1.fz _ z)
      | (cases e2
         rw [Rep] at r1
         obtain ⟨a, vs, rfl, h1, r2⟩ := r1
         exact ⟨a, rfl, .inr ⟨vs, .of h1, k _ _ k1 s1 (walk_tup h1 r2)⟩⟩)
/-- .. a def's own list, in a comprehension -/
theorem i_seqS {f : FE} (h : PE X e (tS C kd f)) : PI X tg e (tI C kd false (iE f)) :=
  PI_imp (pi_seq h) fun σ H R ⟨ow, ρ, S, ds, S', r, e, k⟩ => by
    obtain ⟨d, e1, e2⟩ := iE_of e
    refine ⟨ow, ρ, S, d, S', r, e1, fun v H1 k1 s1 r1 => ?_⟩
    have R1 := r.step k1 s1
    cases d <;> first
      | (cases e2; done)
      | (cases e2
         obtain ⟨a, vs, rfl, h1, n, r2⟩ := r1.lst
         exact ⟨a, rfl, .inl ⟨vs, .of h1, k _ _ k1 s1 (walk_lst h1 (fun z => n (R1.ft _ z)) r2)⟩⟩)
      | (cases e2
         obtain ⟨a, vs, rfl, h1, r2⟩ := r1.tup
         exact ⟨a, rfl, .inr ⟨vs, .of h1, k _ _ k1 s1 (walk_tup h1 r2)⟩⟩)
def upto (lo : Int) (n : Nat) : List D := (List.range n).map fun i => .int (lo + (i : Nat))
def iR1 (g : FA) : FA := fun ρ S => match g ρ S with
  | some ([.int j], S1) => if -(2 ^ 62) ≤ j ∧ j < 2 ^ 62 then some (upto 0 j.toNat, S1) else none
  | _ => none
def iR2 (g : FA) : FA := fun ρ S => match g ρ S with
  | some ([.int i, .int j], S1) => if -(2 ^ 62) ≤ i ∧ i < 2 ^ 62 ∧ -(2 ^ 62) ≤ j ∧ j < 2 ^ 62 then some (upto i (j - i).toNat, S1) else none
  | _ => none
theorem walk_rng {ow : Ow} {H1 : Hp} {Zk : Zn} {lo : Int} {n : Nat} : Walk C ow H1 Zk (Itr lo n) (upto lo n) := fun i H2 k => by
  have hl : (upto lo n).length = n := by unfold upto; rw [List.length_map, List.length_range]
  rw [hl]
  refine ⟨fun hi => ⟨hi, fun x H3 y => ?_⟩, fun hi => hi⟩
  obtain ⟨rfl, rfl⟩ := y
  refine ⟨.refl, .int (lo + (i : Nat)), ?_, fun Z' _ _ => by rw [Rep]⟩
  unfold upto
  rw [List.getElem?_map, List.getElem?_range hi]
  rfl
theorem i_rng1 {a : Expr} {g : FA} {p pos : Pos} {st : Bool} (hg : Gl X "range") (hm : X.mg "range" = none) (ha : PA X [a] (tA C kd 1 g)) (hs : starEach [a] X.env = [(false, eval a X.env)] := by rfl) : PI X tg (.Call (.Name "range" p) [a] [] pos) (tI C kd st (iR1 g)) :=
  PI_imp (pi_range1 hg hm ha hs) fun σ H R ⟨ow, ρ, S, ds, S', r, e, k⟩ => by
    unfold iR1 at e
    split at e
    · rename_i j S1 e1
      split at e
      · rename_i hj
        cases e
        refine ⟨ow, ρ, S, _, S', r, e1, fun vs H1 k1 s1 r1 _ => ?_⟩
        obtain ⟨w, rfl, hw⟩ := r1.one
        exact ⟨j, by rw [hw.int], hj.1, hj.2, k _ _ k1 s1 walk_rng⟩
      · cases e
    · cases e
theorem i_rng2 {a b : Expr} {g : FA} {p pos : Pos} {st : Bool} (hg : Gl X "range") (hm : X.mg "range" = none) (ha : PA X [a, b] (tA C kd 2 g)) (hs : starEach [a, b] X.env = [(false, eval a X.env), (false, eval b X.env)] := by rfl) (hs2 : starEach [b] X.env = [(false, eval b X.env)] := by rfl) :
    PI X tg (.Call (.Name "range" p) [a, b] [] pos) (tI C kd st (iR2 g)) :=
  PI_imp (pi_range2 hg hm ha hs hs2) fun σ H R ⟨ow, ρ, S, ds, S', r, e, k⟩ => by
    unfold iR2 at e
    split at e
    · rename_i i j S1 e1
      split at e
      · rename_i hj
        cases e
        refine ⟨ow, ρ, S, _, S', r, e1, fun vs H1 k1 s1 r1 _ => ?_⟩
        obtain ⟨w, x, rfl, hw, hx⟩ := r1.two
        exact ⟨i, j, by rw [hw.int, hx.int], hj, k _ _ k1 s1 walk_rng⟩
      · cases e
    · cases e
/-- enumerate of a clean list; zip of two -/
def enumD (n : Nat) : List D → List D
  | [] => []
  | d :: ds => .tuple [.int (n : Nat), d] :: enumD (n + 1) ds
theorem enumD_len : ∀ (ds : List D) (n : Nat), (enumD n ds).length = ds.length
  | [], _ => rfl
  | _ :: ds, n => by rw [enumD, List.length_cons, List.length_cons, enumD_len ds]
theorem enumD_get : ∀ (ds : List D) (n i : Nat) (d : D), ds[i]? = some d → (enumD n ds)[i]? = some (.tuple [.int ((n + i : Nat) : Int), d])
  | [], _, _, _, e => by simp at e
  | d :: ds, n, 0, _, e => by cases e; rfl
  | _ :: ds, n, i + 1, d, e => by
    rw [enumD]
    have := enumD_get ds (n + 1) i d (by simpa using e)
    rw [List.getElem?_cons_succ, this, Nat.add_right_comm, Nat.add_assoc]
def iEn (g : FA) : FA := fun ρ S => match g ρ S with
  | some ([.list ds], S1) => some (enumD 0 ds, S1)
  | _ => none
def iZp (g : FA) : FA := fun ρ S => match g ρ S with
  | some ([.list ds, .list es], S1) => some (List.zipWith (fun x y => .tuple [x, y]) ds es, S1)
  | _ => none
theorem walk_enum {K : PySem.W.Frag} {ow : Ow} {H1 : Hp} {Zk : Zn} {a : Addr} {vs : List V} {ds : List D} (h : H1 a = some (.lst vs)) (n : ¬ Zk a) (r : RepL H1 (ZO C ow) ds vs) : Walk C ow H1 Zk (Ite K a) (enumD 0 ds) := fun i H2 k => by
  have h2 := k.ob _ _ h n
  have hl := RepL.len r
  rw [enumD_len]
  refine ⟨fun hi => ⟨⟨vs, vs[i]'(by omega), .of h2, List.getElem?_eq_getElem _⟩, fun x H3 y => ?_⟩, fun hi => ⟨vs, .of h2, by omega⟩⟩
  obtain ⟨T, x', rfl, hT, rfl, y⟩ := y
  obtain ⟨d, e, q⟩ := r.got (y vs (.of h2))
  refine ⟨.upd hT, .tuple [.int ((0 + i : Nat) : Int), d], enumD_get ds 0 i d e, fun Z' h3 h4 => ?_⟩
  rw [Rep]
  refine ⟨T, _, rfl, upd_same, .cons ?_ (.cons (((q.more h3).kp (k.mono h4)).kp (.upd hT)) .nil)⟩
  rw [Rep, Nat.zero_add]
theorem walk_zip {K : PySem.W.Frag} {ow : Ow} {H1 : Hp} {Zk : Zn} {a b : Addr} {vs ws : List V} {ds es : List D} (h : H1 a = some (.lst vs)) (n : ¬ Zk a) (r : RepL H1 (ZO C ow) ds vs) (h' : H1 b = some (.lst ws)) (n' : ¬ Zk b) (r' : RepL H1 (ZO C ow) es ws) :
    Walk C ow H1 Zk (Itz K a b) (List.zipWith (fun x y => .tuple [x, y]) ds es) := fun i H2 k => by
  have h2 := k.ob _ _ h n
  have h2' := k.ob _ _ h' n'
  have hl := RepL.len r
  have hl' := RepL.len r'
  rw [List.length_zipWith]
  refine ⟨fun hi => ⟨⟨vs, ws, vs[i]'(by omega), ws[i]'(by omega), .of h2, .of h2', List.getElem?_eq_getElem _, List.getElem?_eq_getElem _⟩, fun x H3 y => ?_⟩, fun hi => ⟨vs, ws, .of h2, .of h2', by omega⟩⟩
  obtain ⟨T, x', y', rfl, hT, rfl, y1, y2⟩ := y
  obtain ⟨d, e, q⟩ := r.got (y1 vs (.of h2))
  obtain ⟨d', e', q'⟩ := r'.got (y2 ws (.of h2'))
  refine ⟨.upd hT, .tuple [d, d'], by rw [List.getElem?_zipWith, e, e'], fun Z' h3 h4 => ?_⟩
  rw [Rep]
  exact ⟨T, _, rfl, upd_same, .cons (((q.more h3).kp (k.mono h4)).kp (.upd hT)) (.cons (((q'.more h3).kp (k.mono h4)).kp (.upd hT)) .nil)⟩
theorem i_enum {a : Expr} {g : FA} {p pos tpos : Pos} {elts : List Expr} {kk : Nat} {st : Bool} (hg : Gl X "enumerate") (hm : X.mg "enumerate" = none) (ha : PA X [a] (tAX C kd 1 g)) (hs : starEach [a] X.env = [(false, eval a X.env)] := by rfl) :
    PI X (.Tuple elts kk tpos) (.Call (.Name "enumerate" p) [a] [] pos) (tI C kd st (iEn g)) :=
  PI_imp (pi_enum hg hm ha hs) fun σ H R ⟨ow, ρ, S, ds, S', r, e, k⟩ => by
    unfold iEn at e
    split at e
    · rename_i ds' S1 e1
      cases e
      refine ⟨ow, ρ, S, _, S', r, e1, fun vs H1 k1 s1 r1 _ => ?_⟩
      have R1 := r.step k1 s1
      rw [RepL] at r1
      obtain ⟨w, ws, rfl, h1, h2⟩ := r1
      rw [RepL] at h2
      subst h2
      rw [Rep] at h1
      obtain ⟨b, vs, rfl, h1, n, r2⟩ := h1
      refine ⟨b, vs, rfl, .of h1, k _ _ k1 s1 (walk_enum h1 (fun z => n ?_) r2)⟩
      split at z
      · exact R1.cz _ z
      · exact R1.fz _ z
    · cases e
theorem i_zip {a b : Expr} {g : FA} {p pos tpos : Pos} {elts : List Expr} {kk : Nat} {st : Bool} (hg : Gl X "zip") (hm : X.mg "zip" = none) (ha : PA X [a, b] (tAX C kd 2 g))
    (hs : starEach [a, b] X.env = (false, eval a X.env) :: starEach [b] X.env := by rfl) (hs2 : (backTo pos (starEach [b] X.env)).any (·.1) = false := by rfl) :
    PI X (.Tuple elts kk tpos) (.Call (.Name "zip" p) [a, b] [] pos) (tI C kd st (iZp g)) :=
  PI_imp (pi_zip hg hm ha hs hs2) fun σ H R ⟨ow, ρ, S, ds, S', r, e, k⟩ => by
    unfold iZp at e
    split at e
    · rename_i ds' es' S1 e1
      cases e
      refine ⟨ow, ρ, S, _, S', r, e1, fun vs H1 k1 s1 r1 _ => ?_⟩
      have R1 := r.step k1 s1
      rw [RepL] at r1
      obtain ⟨w, ws, rfl, h1, h2⟩ := r1
      rw [RepL] at h2
      obtain ⟨w2, ws2, rfl, h3, h4⟩ := h2
      rw [RepL] at h4
      subst h4
      rw [Rep] at h1 h3
      obtain ⟨b1, vs, rfl, h1, n, r2⟩ := h1
      obtain ⟨b2, us, rfl, h3, n', r3⟩ := h3
      have zz : ∀ {q : Addr}, ¬ ZO C ow q → ¬ (if st = true then chg C ow else C.foot) q := fun {q} nq z => nq (by
        split at z
        · exact R1.cz _ z
        · exact R1.fz _ z)
      exact ⟨b1, b2, vs, us, rfl, .of h1, .of h3, k _ _ k1 s1 (walk_zip h1 (zz n) r2 h3 (zz n') r3)⟩
    · cases e
end
end TL

set_option Elab.async false
set_option linter.all false
set_option maxRecDepth 100000
set_option maxHeartbeats 4000000
namespace TL
open PySem PySem.Spec PyProof.Rows L2

/-! ### targets -/
/-- σ' is σ but at some slots -/
def Out (is : List Nat) (σ σ' : L2.St) : Prop := σ'.length = σ.length ∧ ∀ j, j ∉ is → σ'[j]? = σ[j]?
abbrev FG := D → Rho → Option Rho
abbrev FGs := List D → Rho → Option Rho
def tG (C : Cf) (kd : Nat → Bool) (is : List Nat) (st : FG) : TG := fun v σ H Q => ∃ ow ρ S d ρ', Rel C kd ow σ ρ S H ∧ Rep H (ZO C ow) d v ∧ st d ρ = some ρ' ∧ ∀ σ', Rel C kd ow σ' ρ' S H → Out is σ σ' → Q σ' H
def tGs (C : Cf) (kd : Nat → Bool) (is : List Nat) (st : FGs) : TGs := fun vs σ H Q => ∃ ow ρ S ds ρ', Rel C kd ow σ ρ S H ∧ RepL H (ZO C ow) ds vs ∧ st ds ρ = some ρ' ∧ ∀ σ', Rel C kd ow σ' ρ' S H → Out is σ σ' → Q σ' H
def sN (i : Nat) : FG := fun d ρ => some (ρ.set i (some d))
def sT (g : FGs) : FG := fun d ρ => match d with
  | .tuple ds => g ds ρ
  | _ => none
def s0 : FGs := fun ds ρ => match ds with
  | [] => some ρ
  | _ => none
def sC (f : FG) (g : FGs) : FGs := fun ds ρ => match ds with
  | d :: ds => (match f d ρ with
    | some ρ' => g ds ρ'
    | none => none)
  | [] => none
theorem sC_len {f : FG} {g : FGs} {n : Nat} (hg : ∀ ds ρ ρ', g ds ρ = some ρ' → ds.length = n) : ∀ ds ρ ρ', sC f g ds ρ = some ρ' → ds.length = n + 1 := fun ds ρ ρ' e => by
  unfold sC at e
  split at e
  · split at e
    · rename_i q
      rw [List.length_cons, hg _ _ _ e]
    · cases e
  · cases e
theorem s0_len : ∀ ds ρ ρ', s0 ds ρ = some ρ' → ds.length = 0 := fun ds ρ ρ' e => by
  unfold s0 at e
  split at e
  · rfl
  · cases e
section
variable {X : Cx} {C : Cf} {kd : Nat → Bool} {ow : Ow} {σ : L2.St} {ρ : Rho} {S : Src} {H : Hp} {d : D} {v : V}
theorem Rel.set (R : Rel C kd ow σ ρ S H) {i : Nat} (hk : kd i = false) (h0 : i ≠ C.sx ∨ C.src = none) (r : Rep H (ZO C ow) d v) : Rel C kd ow (σ.set i (some v)) (ρ.set i (some d)) S H := by
  refine ⟨R.dom, R.ft, R.base, R.src, by rw [List.length_set, List.length_set, R.len], fun p hp => ?_, fun j e h1 h2 => ?_, fun j e h1 h2 => ?_, R.inj, R.dj, R.new⟩
  · rcases h0 with h0 | h0
    · obtain ⟨q1, q2⟩ := R.sr p hp
      exact ⟨by rw [List.getElem?_set_ne h0]; exact q1, by rw [List.getElem?_set_ne h0]; exact q2⟩
    · rw [h0] at hp; cases hp
  · by_cases hj : i = j
    · subst hj
      have hl : i < ρ.length := by
        rw [List.getElem?_set] at h2
        simp only [if_true] at h2
        split at h2
        · assumption
        · cases h2
      rw [List.getElem?_set_self hl] at h2
      cases h2
      exact ⟨v, by rw [List.getElem?_set_self (by rw [← R.len]; exact hl)], r⟩
    · rw [List.getElem?_set_ne hj] at h2 ⊢
      exact R.cl j e h1 h2
  · have hj : i ≠ j := fun z => by rw [z, h1] at hk; cases hk
    rw [List.getElem?_set_ne hj] at h2 ⊢
    exact R.own j e h1 h2
theorem Out.set {i : Nat} {x : Option V} : Out [i] σ (σ.set i x) := ⟨by rw [List.length_set], fun j hj => List.getElem?_set_ne fun z => hj (by rw [z]; exact List.mem_singleton.mpr rfl)⟩
theorem g_name {i : Nat} {e : Expr} (h : PG X e (gName i)) (hk : kd i = false := by rfl) (h0 : i ≠ C.sx ∨ C.src = none := by exact .inl (Nat.ne_of_beq_eq_false rfl)) : PG X e (tG C kd [i] (sN i)) :=
  ⟨fun pins s σ H v u Q I r ⟨ow, ρ, S, d, ρ', R, rp, e, k⟩ => by
    cases e
    exact h.run pins s σ H v u Q I r (k _ (R.set hk h0 rp) .set)⟩
theorem gs_nil : PGs X [] (tGs C kd [] s0) := ⟨fun pins s σ H vs us Q I r ⟨ow, ρ, S, ds, ρ', R, rp, e, k⟩ => by
  unfold s0 at e
  split at e
  · cases e
    rw [RepL] at rp
    exact pgs_nil.run pins s σ H vs us Q I r ⟨rp, k σ R ⟨rfl, fun _ _ => rfl⟩⟩
  · cases e⟩
theorem gs_cons {e : Expr} {es : List Expr} {f : FG} {g : FGs} {is js : List Nat} (h1 : PG X e (tG C kd is f)) (h2 : PGs X es (tGs C kd js g))
    (hs : (assignEach (e :: es) X.env).map (·.2) = assign e X.env :: (assignEach es X.env).map (·.2) := by rfl) : PGs X (e :: es) (tGs C kd (is ++ js) (sC f g)) :=
  ⟨fun pins s σ H vs us Q I r ⟨ow, ρ, S, ds, ρ', R, rp, e, k⟩ => by
    unfold sC at e
    split at e
    · rename_i d ds
      split at e
      · rename_i ρ1 e1
        rw [RepL] at rp
        obtain ⟨w, ws, rfl, r1, r2⟩ := rp
        refine (pgs_cons h1 h2 hs).run pins s σ H _ us Q I r ⟨w, ws, rfl, ow, ρ, S, d, ρ1, R, r1, e1, fun σ1 R1 o1 => ⟨ow, ρ1, S, ds, ρ', R1, r2, e, fun σ2 R2 o2 => k σ2 R2 ⟨o2.1.trans o1.1, fun j hj => ?_⟩⟩⟩
        rw [List.mem_append, not_or] at hj
        exact (o2.2 j hj.2).trans (o1.2 j hj.1)
      · cases e
    · cases e⟩
theorem g_tup {es : List Expr} {k0 : Nat} {pos : Pos} {g : FGs} {is : List Nat} {n : Nat} (hc : X.calm = true) (h : PGs X es (tGs C kd is g)) (hl : ∀ ds ρ ρ', g ds ρ = some ρ' → ds.length = n)
    (hn : (assignEach es X.env).length = n := by rfl) (hst : (assignEach es X.env).findIdx? (·.1) = none := by rfl) : PG X (.Tuple es k0 pos) (tG C kd is (sT g)) :=
  ⟨fun pins s σ H v u Q I r ⟨ow, ρ, S, d, ρ', R, rp, e, k⟩ => by
    unfold sT at e
    split at e
    · rename_i ds
      rw [Rep] at rp
      obtain ⟨a, vs, rfl, h1, r2⟩ := rp
      exact (pg_tup hc h hn hst).run pins s σ H _ u Q I r ⟨a, vs, rfl, .of h1, by rw [RepL.len r2]; exact hl _ _ _ e, ow, ρ, S, ds, ρ', R, r2, e, k⟩
    · cases e⟩
/-! ### wiped slots -/
def wipeR (ρ : Rho) : List Nat → Rho
  | [] => ρ
  | v :: vs => (wipeR ρ vs).set v none
theorem wipeR_len : ∀ vs : List Nat, (wipeR ρ vs).length = ρ.length
  | [] => rfl
  | v :: vs => by rw [wipeR, List.length_set, wipeR_len vs]
theorem wipeR_some {i : Nat} {x : D} : ∀ {vs : List Nat}, (wipeR ρ vs)[i]? = some (some x) → ρ[i]? = some (some x) ∧ i ∉ vs
  | [], h => ⟨h, by simp⟩
  | v :: vs, h => by
    rw [wipeR, List.getElem?_set] at h
    split at h
    · split at h <;> cases h
    · rename_i hn
      obtain ⟨h1, h2⟩ := wipeR_some h
      exact ⟨h1, by rw [List.mem_cons, not_or]; exact ⟨fun z => hn z.symm, h2⟩⟩
theorem wipeR_out {i : Nat} : ∀ {vs : List Nat}, i ∉ vs → (wipeR ρ vs)[i]? = ρ[i]?
  | [], _ => rfl
  | v :: vs, h => by
    rw [List.mem_cons, not_or] at h
    rw [wipeR, List.getElem?_set_ne (fun z => h.1 z.symm), wipeR_out h.2]
theorem Rel.wipe (R : Rel C kd ow σ ρ S H) {vs : List Nat} (h0 : C.sx ∉ vs ∨ C.src = none) : Rel C kd ow (wipe σ vs) (wipeR ρ vs) S H := by
  refine ⟨R.dom, R.ft, R.base, R.src, by rw [wipeR_len, wipe_length, R.len], fun p hp => ?_, fun j e h1 h2 => ?_, fun j e h1 h2 => ?_, R.inj, R.dj, R.new⟩
  · rcases h0 with h0 | h0
    · obtain ⟨q1, q2⟩ := R.sr p hp
      exact ⟨by rw [wipe_out h0]; exact q1, by rw [wipeR_out h0]; exact q2⟩
    · rw [h0] at hp; cases hp
  · obtain ⟨q, n⟩ := wipeR_some h2
    rw [wipe_out n]
    exact R.cl j e h1 q
  · obtain ⟨q, n⟩ := wipeR_some h2
    rw [wipe_out n]
    exact R.own j e h1 q
theorem wipe_set {i : Nat} : ∀ {vs : List Nat}, i ∈ vs → ∀ (σ : L2.St) (x : Option V), (wipe σ vs)[i]? = (if i < σ.length then some none else none)
  | [], h, _, _ => by simp at h
  | v :: vs, h, σ, x => by
    rw [L2.wipe, List.getElem?_set]
    by_cases hv : v = i
    · rw [if_pos hv, wipe_length, hv]
    · rw [if_neg hv]
      rcases List.mem_cons.mp h with z | z
      · exact absurd z.symm hv
      · exact wipe_set z σ x
theorem wipe_eq {vs : List Nat} {σ σ' : L2.St} (h : Out vs σ σ') : wipe σ' vs = wipe σ vs := by
  apply List.ext_getElem?
  intro i
  by_cases hi : i ∈ vs
  · rw [wipe_set hi σ none, wipe_set hi σ' none, h.1]
  · rw [wipe_out hi, wipe_out hi, h.2 i hi]
theorem wipe_wipe {vs : List Nat} {σ : L2.St} : wipe (wipe σ vs) vs = wipe σ vs := wipe_eq ⟨wipe_length σ vs, fun j hj => wipe_out hj⟩

/-! ### a list comprehension -/
def compL (st : FG) (t : FB) (e : FE) (ρ : Rho) : List D → Src → Option (List D × Src)
  | [], S => some ([], S)
  | d :: ds, S => match st d ρ with
    | some ρ1 => (match t ρ1 S with
      | some (true, S1) => (match e ρ1 S1 with
        | some (y, S2) => (match compL st t e ρ ds S2 with
          | some (ys, S3) => some (y :: ys, S3)
          | none => none)
        | none => none)
      | some (false, S1) => compL st t e ρ ds S1
      | none => none)
    | none => none
def lcE (vs : List Nat) (fI : FA) (st : FG) (t : FB) (e : FE) : FE := fun ρ S => match fI ρ S with
  | some (ds, S1) => if ds.length ≤ sizeLine then (match compL st t e (wipeR ρ vs) ds S1 with
    | some (ys, S2) => some (.list ys, S2)
    | none => none) else none
  | none => none
theorem lcE_of {vs : List Nat} {fI : FA} {st : FG} {t : FB} {e : FE} {ρ : Rho} {S S' : Src} {d : D} (h : lcE vs fI st t e ρ S = some (d, S')) :
    ∃ ds S1 ys, fI ρ S = some (ds, S1) ∧ ds.length ≤ sizeLine ∧ compL st t e (wipeR ρ vs) ds S1 = some (ys, S') ∧ d = .list ys := by
  unfold lcE at h
  split at h
  · rename_i ds S1 e1
    split at h
    · rename_i hl
      split at h
      · rename_i ys S2 e2
        cases h
        exact ⟨ds, S1, ys, e1, hl, e2, rfl⟩
      · cases h
    · cases h
  · cases h
theorem compL_of {st : FG} {t : FB} {e : FE} {ρ : Rho} {d : D} {ds ys : List D} {S S' : Src} (h : compL st t e ρ (d :: ds) S = some (ys, S')) : ∃ ρ1 b S1, st d ρ = some ρ1 ∧ t ρ1 S = some (b, S1) ∧
    (if b = true then ∃ y S2 ys', e ρ1 S1 = some (y, S2) ∧ compL st t e ρ ds S2 = some (ys', S') ∧ ys = y :: ys' else compL st t e ρ ds S1 = some (ys, S')) := by
  rw [compL] at h
  split at h
  · rename_i ρ1 e1
    split at h
    · rename_i S1 e2
      split at h
      · rename_i y S2 e3
        split at h
        · rename_i ys' S3 e4
          cases h
          exact ⟨ρ1, true, S1, e1, e2, iteT ⟨y, S2, ys', e3, e4, rfl⟩⟩
        · cases h
      · cases h
    · rename_i S1 e2
      exact ⟨ρ1, false, S1, e1, e2, iteF h⟩
    · cases h
  · cases h
def bT : FB := fun _ S => some (true, S)
theorem PTs_imp {ifs : List Expr} {t t' : TT} (h : PTs X ifs t) (i : ∀ σ H Q, t' σ H Q → t σ H Q) : PTs X ifs t' := ⟨fun pins s σ H Q I q => h.run pins s σ H Q I (i σ H Q q)⟩
theorem ts_nil : PTs X [] (tB C kd bT) := PTs_imp pts_nil fun σ H Q ⟨ow, ρ, S, b, S', R, e, k⟩ => by
  cases e
  exact k H .refl R.src
theorem ts_one {c : Expr} {f : FB} (h : PT X c (tB C kd f)) : PTs X [c] (tB C kd f) := pts_one h
/-- a list in the making -/
theorem Rel.make (R : Rel C kd ow σ ρ S H) {p : Addr} {o : HO} (hp : H p = none) (ho : Mut (some o)) : Rel C kd ⟨ow.sl, p :: ow.ex⟩ σ ρ S (upd H p o) := by
  have h1 : ∀ a, ZO C ⟨ow.sl, p :: ow.ex⟩ a → ZO C ow a ∨ H a = none := fun a z => by
    rcases z with z | z | z
    · exact .inl (.inl z)
    · exact .inl (.inr (.inl z))
    · rcases List.mem_cons.mp z with z | z
      · rw [z]; exact .inr hp
      · exact .inl (.inr (.inr z))
  have ku : Kp C.foot H (upd H p o) := .upd hp
  have ne : ∀ a, Own ow a → a ≠ p := fun a z q => by
    have m := (R.new a z).2
    rw [q, hp] at m
    exact m
  refine ⟨R.dom, R.ft, R.base.trans ku, R.src.upd hp, R.len, R.sr, fun i d k1 k2 => ?_, fun i d k1 k2 => ?_, R.inj, fun i a e z => ?_, fun a z => ?_⟩
  · obtain ⟨v, q, r⟩ := R.cl i d k1 k2
    exact ⟨v, q, (r.more h1).kp (.upd hp)⟩
  · obtain ⟨a, e1, q, r⟩ := R.own i d k1 k2
    refine ⟨a, e1, q, ?_⟩
    have na := ne a (.inl ⟨i, e1⟩)
    cases d <;> first
      | exact r.elim
      | (obtain ⟨vs, q1, q2⟩ := r
         exact ⟨vs, by rw [upd_ne na]; exact q1, (q2.more h1).kp (.upd hp)⟩)
      | (obtain ⟨vs, q1, q2⟩ := r
         refine ⟨vs, ?_, (RepV.more h1 q2).kp (.upd hp)⟩
         rcases q1 with ⟨kk, z1, z2, z3⟩ | ⟨kk, z1, z2, z3⟩
         · exact .inl ⟨kk, z1, z2, by rw [upd_ne na]; exact z3⟩
         · exact .inr ⟨kk, z1, z2, by rw [upd_ne na]; exact z3⟩)
  · rcases List.mem_cons.mp z with z | z
    · exact ne a (.inl ⟨i, e⟩) z
    · exact R.dj i a e z
  · have z' : a = p ∨ Own ow a := by
      rcases z with z | z
      · exact .inr (.inl z)
      · rcases List.mem_cons.mp z with z | z
        · exact .inl z
        · exact .inr (.inr z)
    rcases z' with z' | z'
    · subst z'
      refine ⟨?_, by rw [upd_same]; exact ho⟩
      cases q : C.H0 a with
      | none => rfl
      | some o' =>
        by_cases f : C.foot a
        · exact absurd hp (R.there (R.fz a f))
        · rw [R.base.ob a o' q f] at hp
          cases hp
    · exact ⟨(R.new a z').1, by rw [upd_ne (ne a z')]; exact (R.new a z').2⟩
/-- the list in the making grows -/
theorem Rel.grow (R : Rel C kd ow σ ρ S H) {p : Addr} {o : HO} (hp : p ∈ ow.ex) (ho : Mut (some o)) : Rel C kd ow σ ρ S (upd H p o) := by
  have m := (R.new p (.inr hp)).2
  have kz : Kp (ZO C ow) H (upd H p o) := Kp.wr (.inr (.inr hp)) (fun xs z => by rw [z] at m; exact m) fun o' u z => by rw [z] at m; exact m
  have nf : ¬ C.foot p := R.nf (.inr hp)
  have hb : ∀ a, C.H0 a ≠ none → a ≠ p := fun a z q => z (by rw [q]; exact (R.new p (.inr hp)).1)
  refine ⟨R.dom, R.ft, ⟨fun a o' e n => ?_, fun a xs e => ?_, fun a o' u e => ?_⟩, ?_, R.len, R.sr, fun i d k1 k2 => ?_, fun i d k1 k2 => ?_, R.inj, R.dj, fun a z => ⟨(R.new a z).1, ?_⟩⟩
  · rw [upd_ne (hb a (by rw [e]; exact fun z => nomatch z))]
    exact R.base.ob a o' e n
  · rw [upd_ne (hb a (by rw [e]; exact fun z => nomatch z))]
    exact R.base.tp a xs e
  · rw [upd_ne (hb a (by rw [e]; exact fun z => nomatch z))]
    exact R.base.fz a o' u e
  · have s := R.src
    unfold SrcOk at s ⊢
    unfold Cf.foot at nf
    cases q : C.src with
    | none => trivial
    | some p' =>
      rw [q] at s nf
      obtain ⟨n0, h1, h2, h3⟩ := s
      exact ⟨n0, by rw [upd_ne fun z => nf (.inl z.symm)]; exact h1, by rw [upd_ne fun z => nf (.inr z.symm)]; exact h2, h3⟩
  · obtain ⟨v, q, r⟩ := R.cl i d k1 k2
    exact ⟨v, q, r.kp kz⟩
  · obtain ⟨a, e1, q, r⟩ := R.own i d k1 k2
    have na : a ≠ p := fun z => R.dj i a e1 (by rw [z]; exact hp)
    exact ⟨a, e1, q, r.kp kz (fun _ z => z) fun o' z => by rw [upd_ne na]; exact z⟩
  · by_cases q : a = p
    · rw [q, upd_same]; exact ho
    · rw [upd_ne q]; exact (R.new a z).2
theorem lc_run {fI : FA} {st : FG} {ft : FB} {fe : FE} {is vs : List Nat} {Q : VK} (hz : C.sx ∉ vs ∨ C.src = none) (his : ∀ i ∈ is, i ∈ vs) (q : tF C kd (lcE vs fI st ft fe) σ H Q) : tLc (tI C kd false fI) (tG C kd is st) (tB C kd ft) (tX C kd fe) vs σ H Q := by
  obtain ⟨ow, ρ, S, d, S', R, e, k⟩ := q
  obtain ⟨ds, S1, ys, e1, hl, e2, rfl⟩ := lcE_of e
  refine ⟨ow, ρ, S, ds, S1, R, e1, fun J H1 k1 s1 W D hD => ?_⟩
  have R1 := R.step k1 s1
  have R2 := (R1.make (o := .lst []) hD trivial).wipe hz
  refine ⟨fun i m H2 => m = ds.length - i ∧ i ≤ ds.length ∧ ∃ S2 ys1 ys2 acc, ys = ys1 ++ ys2 ∧ compL st ft fe (wipeR ρ vs) (ds.drop i) S2 = some (ys2, S') ∧ Rel C kd ⟨ow.sl, D :: ow.ex⟩ (wipe σ vs) (wipeR ρ vs) S2 H2 ∧
    Kp C.foot H1 H2 ∧ H2 D = some (.lst acc) ∧ RepL H2 (ZO C ⟨ow.sl, D :: ow.ex⟩) ys1 acc ∧ acc.length ≤ i, ⟨ds.length, by simp, Nat.zero_le _, S1, [], ys, [], rfl, by rw [List.drop_zero]; exact e2, R2, .upd hD, upd_same, .nil, Nat.le_refl _⟩, ?_⟩
  rintro i m H2 ⟨rfl, hi, S2, ys1, ys2, acc, rfl, e3, R3, k2, hd, r3, ha⟩
  by_cases hlt : i < ds.length
  · obtain ⟨go, step⟩ := (W i H2 k2).1 hlt
    refine .inr ⟨go, fun H' => ∃ S2' ys1' ys2' acc', ys1 ++ ys2 = ys1' ++ ys2' ∧ compL st ft fe (wipeR ρ vs) (ds.drop (i + 1)) S2' = some (ys2', S') ∧ Rel C kd ⟨ow.sl, D :: ow.ex⟩ (wipe σ vs) (wipeR ρ vs) S2' H' ∧
      Kp C.foot H1 H' ∧ H' D = some (.lst acc') ∧ RepL H' (ZO C ⟨ow.sl, D :: ow.ex⟩) ys1' acc' ∧ acc'.length ≤ i + 1, fun H' hN => ⟨ds.length - (i + 1), by omega, rfl, hlt, hN⟩, fun x H3 y => ?_⟩
    obtain ⟨k3, d, ed, rd⟩ := step x H3 y
    have hdr : ds.drop i = d :: ds.drop (i + 1) := by
      obtain ⟨h, e'⟩ := List.getElem?_eq_some_iff.mp ed
      rw [← e', List.drop_eq_getElem_cons h]
    rw [hdr] at e3
    obtain ⟨ρ1, b, S3, e4, e5, e6⟩ := compL_of e3
    have R4 := R3.step k3.z0 (R3.src.kp k3)
    have rx : Rep H3 (ZO C ⟨ow.sl, D :: ow.ex⟩) d x := rd _ (fun a z => by
      rcases z with z | z | z
      · exact .inl (.inl z)
      · exact .inl (.inr (.inl z))
      · rcases List.mem_cons.mp z with z | z
        · rw [z]; exact .inr hD
        · exact .inl (.inr (.inr z))) fun a z => .inl (R.ft a z)
    refine ⟨⟨ow.sl, D :: ow.ex⟩, wipeR ρ vs, S2, d, ρ1, R4, rx, e4, fun σ2 R5 o2 => ⟨?_, ⟨ow.sl, D :: ow.ex⟩, ρ1, S2, b, S3, R5, e5, fun H4 k4 s4 => ?_⟩⟩
    · rw [wipe_eq (σ := wipe σ vs) ⟨o2.1, fun j hj => o2.2 j fun z => hj (his j z)⟩, wipe_wipe]
    have nD : ¬ C.foot D := fun f => R1.fresh hD (R1.fz D f)
    have R6 := R5.step k4 s4
    have k14 : Kp C.foot H1 H4 := (k2.trans k3.z0).trans k4
    have hd4 : H4 D = some (.lst acc) := k4.ob _ _ (k3.ob _ _ hd fun z => z) nD
    have r4 : RepL H4 (ZO C ⟨ow.sl, D :: ow.ex⟩) ys1 acc := (r3.kp k3.z0).kp (k4.mono R5.fz)
    cases b with
    | false =>
      refine iteF ?_
      have e6 : compL st ft fe (wipeR ρ vs) (ds.drop (i + 1)) S3 = some (ys2, S') := by simpa using e6
      exact ⟨S3, ys1, ys2, acc, rfl, e6, R4.step k4 s4, k14, hd4, r4, by omega⟩
    | true =>
      refine iteT ?_
      obtain ⟨y, S4, ys', e7, e8, rfl⟩ : ∃ y S2 ys', fe ρ1 S3 = some (y, S2) ∧ compL st ft fe (wipeR ρ vs) (ds.drop (i + 1)) S2 = some (ys', S') ∧ ys2 = y :: ys' := by simpa using e6
      refine ⟨⟨ow.sl, D :: ow.ex⟩, ρ1, S3, y, S4, R6, e7, fun w H5 k5 s5 r5 => ?_⟩
      have hd5 : H5 D = some (.lst acc) := k5.ob _ _ hd4 nD
      have R7 := (R4.step k4 s4).step k5 s5
      have kz : Kp (ZO C ⟨ow.sl, D :: ow.ex⟩) H5 (upd H5 D (.lst (acc ++ [w]))) := Kp.wr (.inr (.inr (List.mem_cons_self ..))) (fun xs z => by rw [hd5] at z; cases z) fun o u z => by rw [hd5] at z; cases z
      refine ⟨acc, hd5, Nat.lt_of_le_of_lt ha (Nat.lt_of_lt_of_le hlt hl), S4, ys1 ++ [y], ys', acc ++ [w], by rw [List.append_assoc]; rfl, e8, R7.grow (List.mem_cons_self ..) trivial, ?_, upd_same, ((r4.kp (k5.mono R6.fz)).app (.cons r5 .nil)).kp kz, by rw [List.length_append, List.length_singleton]; omega⟩
      have k15 := k14.trans k5
      exact ⟨fun a o z n => by rw [upd_ne (ne_of_none z hD)]; exact k15.ob a o z n, fun a xs z => by rw [upd_ne (ne_of_none z hD)]; exact k15.tp a xs z, fun a o u z => by rw [upd_ne (ne_of_none z hD)]; exact k15.fz a o u z⟩
  · have hie : i = ds.length := by omega
    subst hie
    rw [List.drop_length] at e3
    cases e3
    refine .inl ⟨(W _ H2 k2).2 (Nat.le_refl _), ?_⟩
    rw [List.append_nil] at k
    refine k _ H2 (k1.trans k2) R3.src ?_ fun _ => ⟨D, rfl, R.back k1 s1 hD, acc, hd, r3.less fun b z => ?_⟩
    rotate_left
    · rcases z with (z | z | z) | z
      · exact .inl z
      · exact .inr (.inl z)
      · exact .inr (.inr (List.mem_cons_of_mem _ z))
      · exact .inr (.inr (by rw [z]; exact List.mem_cons_self ..))
    rw [Rep]
    exact ⟨D, acc, rfl, hd, R1.fresh hD, r3.less fun a z => z.elim .inl fun z => z.elim (fun z => .inr (.inl z)) fun z => .inr (.inr (List.mem_cons_of_mem _ z))⟩
theorem x_lc {elt tg iter : Expr} {ifs : List Expr} {scope : Scope} {own : List (Str × Nat)} {pos : Pos} {fI : FA} {st : FG} {ft : FB} {fe : FE} {is : List Nat} (hc : X.calm = true) (hN : X.N.Nodup) (hi : PI X tg iter (tI C kd false fI)) (ok : BlkOk X.N X.env.scope scope own)
    (hz : C.sx ∉ own.map (·.2) ∨ C.src = none) (his : ∀ i ∈ is, i ∈ own.map (·.2))
    (hg : ∀ (s : Shared) (H : Hp) (A : Addr) (cl : List (Str × Addr)) (fp : List Addr), PG (X.blk s H scope (compEnvC scope cl A X.env) fp) tg (tG C kd is st)) (ht : ∀ (s : Shared) (H : Hp) (A : Addr) (cl : List (Str × Addr)) (fp : List Addr), PTs (X.blk s H scope (compEnvC scope cl A X.env) fp) ifs (tB C kd ft))
    (he : ∀ (s : Shared) (H : Hp) (A : Addr) (cl : List (Str × Addr)) (fp : List Addr), PE (X.blk s H scope (compEnvC scope cl A X.env) fp) elt (tX C kd fe)) (hs : ∀ x, foldedSetIterable iter X.env x = pure x := by intro _; rfl) :
    PE X (.ListComp elt [⟨tg, iter, ifs, 0⟩] scope pos) (tF C kd (lcE (own.map (·.2)) fI st ft fe)) :=
  PE_imp (pe_lc hc hN hi ok hg ht he hs) fun σ H Q q => lc_run hz his q
end
end TL

set_option Elab.async false
set_option linter.all false
set_option maxRecDepth 100000
set_option maxHeartbeats 4000000
namespace TL
open PySem PySem.Spec PyProof.Rows L2

inductive Res where
  | nx (ρ : Rho) (S : Src)
  | bk (ρ : Rho) (S : Src)
  | ct (ρ : Rho) (S : Src)
  | rt (d : D) (S : Src)
abbrev FS := Rho → Src → Option Res
/-- how things go on -/
structure Ev (C : Cf) (ow : Ow) (H : Hp) (ow' : Ow) (H' : Hp) : Prop where
  kp : Kp (chg C ow) H H'
  th : ∀ a, H a ≠ none → H' a ≠ none
  sl : ∀ i a, ow'.sl i = some a → H a ≠ none → ∃ j, ow.sl j = some a
  ex : ∀ b, b ∈ ow'.ex ↔ b ∈ ow.ex
section
variable {X : Cx} {C : Cf} {kb kd kd1 kd2 kd' : Nat → Bool} {ow ow1 ow2 ow' : Ow} {σ σ' : L2.St} {ρ : Rho} {S S' : Src} {H H1 H2 H' : Hp} {d : D} {v : V}
theorem Ev.refl : Ev C ow H ow H := ⟨.refl, fun _ h => h, fun i _ e _ => ⟨i, e⟩, fun _ => Iff.rfl⟩
theorem Ev.trans (a : Ev C ow H ow1 H1) (b : Ev C ow1 H1 ow2 H2) : Ev C ow H ow2 H2 := by
  refine ⟨⟨fun c o e n => b.kp.ob c o (a.kp.ob c o e n) fun z => ?_, fun c xs e => b.kp.tp c xs (a.kp.tp c xs e), fun c o u e => b.kp.fz c o u (a.kp.fz c o u e)⟩, fun c h => b.th c (a.th c h), fun i c z hc => ?_, fun c => (b.ex c).trans (a.ex c)⟩
  · rcases z with f | ⟨i, z⟩
    · exact n (.inl f)
    · exact n (.inr (a.sl i c z (by rw [e]; exact fun q => nomatch q)))
  · obtain ⟨j, e⟩ := b.sl i c z (a.th c hc)
    exact a.sl j c e hc
theorem Rel.ev (R : Rel C kd ow σ ρ S H) (k : Kp C.foot H H') (s : SrcOk C S' H') : Ev C ow H ow H' :=
  ⟨k.mono fun a f => .inl f, fun a h q => h (R.back k s q), fun i _ e _ => ⟨i, e⟩, fun _ => Iff.rfl⟩
/-- a clean value stays clean -/
theorem Ev.zo (e : Ev C ow H ow' H') : ∀ a, ZO C ow' a → ZO C ow a ∨ H a = none := fun a z => by
  by_cases h : H a = none
  · exact .inr h
  · rcases z with z | ⟨i, z⟩ | z
    · exact .inl (.inl z)
    · exact .inl (.inr (.inl (e.sl i a z h)))
    · exact .inl (.inr (.inr ((e.ex a).mp z)))
theorem Ev.rep (R : Rel C kd ow σ ρ S H) (e : Ev C ow H ow' H') (r : Rep H (ZO C ow) d v) : Rep H' (ZO C ow') d v :=
  ((r.more (Z' := fun a => ZO C ow a ∨ ZO C ow' a) fun a z => z.elim .inl (e.zo a)).kp (e.kp.mono fun a z => .inl (R.cz a z))).less fun a z => .inr z

def After (C : Cf) (kb kd' : Nat → Bool) (Dn : Ends) (ow : Ow) (H : Hp) : Res → Prop
  | .nx ρ' S' => ∀ σ' H' ow', Rel C kd' ow' σ' ρ' S' H' → Ev C ow H ow' H' → Dn.nx σ' H'
  | .bk ρ' S' => ∀ σ' H' ow', Rel C kb ow' σ' ρ' S' H' → Ev C ow H ow' H' → Dn.bk σ' H'
  | .ct ρ' S' => ∀ σ' H' ow', Rel C kb ow' σ' ρ' S' H' → Ev C ow H ow' H' → Dn.ct σ' H'
  | .rt d S' => ∀ v H', Kp C.foot C.H0 H' → SrcOk C S' H' → Rep H' C.Z d v → Dn.rt v H'
def tP (C : Cf) (kb kd kd' : Nat → Bool) (g : FS) : TS := fun Dn σ H => ∃ ow ρ S o, Rel C kd ow σ ρ S H ∧ g ρ S = some o ∧ After C kb kd' Dn ow H o
theorem After.ev {Dn : Ends} {o : Res} (e : Ev C ow H ow1 H1) (k : After C kb kd' Dn ow H o) : After C kb kd' Dn ow1 H1 o := by
  cases o with
  | nx ρ S => exact fun σ' H' ow' R q => k σ' H' ow' R (e.trans q)
  | bk ρ S => exact fun σ' H' ow' R q => k σ' H' ow' R (e.trans q)
  | ct ρ S => exact fun σ' H' ow' R q => k σ' H' ow' R (e.trans q)
  | rt d S => exact k
/-! ### blocks -/
def gN : FS := fun ρ S => some (.nx ρ S)
def gSeq (g h : FS) : FS := fun ρ S => match g ρ S with
  | some (.nx ρ1 S1) => h ρ1 S1
  | r => r
theorem p_nil : PSs X [] (tP C kb kd kd gN) := PSs_imp pss_nil fun Dn σ H ⟨ow, ρ, S, o, R, e, k⟩ => by
  cases e
  exact k σ H ow R .refl
theorem p_one {st : Stmt} {g : FS} (h : PS X st (tP C kb kd kd' g)) : PSs X [st] (tP C kb kd kd' g) := pss_one h
theorem p_cons {st : Stmt} {rest : List Stmt} {g h : FS} (h1 : PS X st (tP C kb kd kd1 g)) (h2 : PSs X rest (tP C kb kd1 kd2 h)) : PSs X (st :: rest) (tP C kb kd kd2 (gSeq g h)) :=
  PSs_imp (pss_cons h1 h2) fun Dn σ H ⟨ow, ρ, S, o, R, e, k⟩ => by
    unfold gSeq at e
    split at e
    · rename_i ρ1 S1 e1
      exact ⟨ow, ρ, S, _, R, e1, fun σ' H' ow' R' ev => ⟨ow', ρ1, S1, o, R', e, k.ev ev⟩⟩
    · rename_i r hr
      cases o with
      | nx ρ1 S1 => exact absurd e (hr ρ1 S1)
      | bk ρ1 S1 => exact ⟨ow, ρ, S, _, R, e, k⟩
      | ct ρ1 S1 => exact ⟨ow, ρ, S, _, R, e, k⟩
      | rt d S1 => exact ⟨ow, ρ, S, _, R, e, k⟩
def gBk : FS := fun ρ S => some (.bk ρ S)
def gCt : FS := fun ρ S => some (.ct ρ S)
theorem p_break {pos : Pos} : PS X (.Break pos) (tP C kd kd kd' gBk) := PS_imp ps_break fun Dn σ H ⟨ow, ρ, S, o, R, e, k⟩ => by
  cases e
  exact k σ H ow R .refl
theorem p_cont {pos : Pos} : PS X (.Continue pos) (tP C kd kd kd' gCt) := PS_imp ps_continue fun Dn σ H ⟨ow, ρ, S, o, R, e, k⟩ => by
  cases e
  exact k σ H ow R .refl
theorem p_pass {pos : Pos} : PS X (.Pass pos) (tP C kb kd kd gN) := PS_imp ps_pass fun Dn σ H ⟨ow, ρ, S, o, R, e, k⟩ => by
  cases e
  exact k σ H ow R .refl
/-- some slots are owned no longer -/
theorem Rel.freeze (R : Rel C kd ow σ ρ S H) (hk : ∀ i, kd2 i = true → kd i = true) : Rel C kd2 ⟨fun i => if kd2 i = true then ow.sl i else if kd i = true then none else ow.sl i, ow.ex⟩ σ ρ S H := by
  have hs : ∀ i a, (if kd2 i = true then ow.sl i else if kd i = true then none else ow.sl i) = some a → ow.sl i = some a := fun i a e => by
    split at e
    · exact e
    · split at e
      · cases e
      · exact e
  have less : ∀ a, ZO C ⟨fun i => if kd2 i = true then ow.sl i else if kd i = true then none else ow.sl i, ow.ex⟩ a → ZO C ow a := fun a z => by
    rcases z with z | ⟨i, z⟩ | z
    · exact .inl z
    · exact .inr (.inl ⟨i, hs i a z⟩)
    · exact .inr (.inr z)
  refine ⟨R.dom, R.ft, R.base, R.src, R.len, R.sr, fun i d h1 h2 => ?_, fun i d h1 h2 => ?_, fun i j a h1 h2 => R.inj i j a (hs i a h1) (hs j a h2), fun i a e => R.dj i a (hs i a e), fun a z => R.new a (z.elim (fun ⟨i, z⟩ => .inl ⟨i, hs i a z⟩) .inr)⟩
  · cases q : kd i with
    | false =>
      obtain ⟨v, e, r⟩ := R.cl i d q h2
      exact ⟨v, e, r.less less⟩
    | true =>
      obtain ⟨a, e1, e2, r⟩ := R.own i d q h2
      refine ⟨.ref a, e2, ?_⟩
      have na : ¬ ZO C ⟨fun i => if kd2 i = true then ow.sl i else if kd i = true then none else ow.sl i, ow.ex⟩ a := fun z => by
        rcases z with z | ⟨j, z⟩ | z
        · exact R.nz (.inl ⟨i, e1⟩) z
        · have hj := R.inj _ _ _ (hs j a z) e1
          subst hj
          simp only [h1, q] at z
          cases z
        · exact R.dj i a e1 z
      cases d <;> first
        | exact r.elim
        | (obtain ⟨vs, q1, q2⟩ := r
           rw [Rep]
           exact ⟨a, vs, rfl, q1, na, q2.less less⟩)
        | (obtain ⟨vs, q1, q2⟩ := r
           rw [Rep]
           exact ⟨a, vs, rfl, q1, na, RepV.less less q2⟩)
  · obtain ⟨a, e1, e2, r⟩ := R.own i d (hk i h1) h2
    refine ⟨a, by simp only [h1]; exact e1, e2, ?_⟩
    cases d <;> first
      | exact r.elim
      | (obtain ⟨vs, q1, q2⟩ := r
         exact ⟨vs, q1, q2.less less⟩)
      | (obtain ⟨vs, q1, q2⟩ := r
         exact ⟨vs, q1, RepV.less less q2⟩)
theorem p_freeze {sts : List Stmt} {g : FS} (hk : ∀ i, kd2 i = true → kd i = true) (h : PSs X sts (tP C kb kd2 kd' g)) : PSs X sts (tP C kb kd kd' g) :=
  PSs_imp h fun Dn σ H ⟨ow, ρ, S, o, R, e, k⟩ => by
    have ev : Ev C ow H ⟨fun i => if kd2 i = true then ow.sl i else if kd i = true then none else ow.sl i, ow.ex⟩ H := by
      refine ⟨.refl, fun _ h => h, fun i a q _ => ⟨i, ?_⟩, fun _ => Iff.rfl⟩
      have q : (if kd2 i = true then ow.sl i else if kd i = true then none else ow.sl i) = some a := q
      split at q
      · exact q
      · split at q
        · cases q
        · exact q
    exact ⟨_, ρ, S, o, R.freeze hk, e, k.ev ev⟩
/-! ### assignments -/
def gSet (i : Nat) (f : FE) : FS := fun ρ S => match f ρ S with
  | some (d, S1) => some (.nx (ρ.set i (some d)) S1)
  | none => none
theorem gSet_of {i : Nat} {f : FE} {o : Res} (h : gSet i f ρ S = some o) : ∃ d S1, f ρ S = some (d, S1) ∧ o = .nx (ρ.set i (some d)) S1 := by
  unfold gSet at h
  split at h
  · rename_i d S1 e
    cases h
    exact ⟨d, S1, e, rfl⟩
  · cases h
theorem p_set {st : Stmt} {i : Nat} {f : FE} (h : PS X st (tAsg (tX C kd f) (gName i))) (hk : kd i = false := by rfl) (h0 : i ≠ C.sx ∨ C.src = none := by exact .inl (Nat.ne_of_beq_eq_false rfl)) : PS X st (tP C kb kd kd (gSet i f)) :=
  PS_imp h fun Dn σ H ⟨ow, ρ, S, o, R, e, k⟩ => by
    obtain ⟨d, S1, e1, rfl⟩ := gSet_of e
    exact ⟨ow, ρ, S, d, S1, R, e1, fun v H' k1 s1 r1 => k _ H' ow ((R.step k1 s1).set hk h0 r1) (R.ev k1 s1)⟩
theorem asg_f2x {st : Stmt} {i : Nat} {f : FE} (h : PS X st (tAsg (tF C kd f) (gName i))) : PS X st (tAsg (tX C kd f) (gName i)) :=
  PS_imp h fun Dn σ H ⟨ow, ρ, S, d, S', R, e, k⟩ => ⟨ow, ρ, S, d, S', R, e, fun v H' k1 k2 k3 _ => k v H' k1 k2 k3⟩
theorem asg_lc {st : Stmt} {i : Nat} {fI : FA} {sg : FG} {ft : FB} {fe : FE} {is vs : List Nat} (h : PS X st (tAsg (tLc (tI C kd false fI) (tG C kd is sg) (tB C kd ft) (tX C kd fe) vs) (gName i))) (hz : C.sx ∉ vs ∨ C.src = none) (his : ∀ i ∈ is, i ∈ vs) :
    PS X st (tAsg (tF C kd (lcE vs fI sg ft fe)) (gName i)) := PS_imp h fun Dn σ H q => lc_run hz his q
/-- an own list or dict -/
def gOwn (i : Nat) (f : FE) : FS := fun ρ S => match f ρ S with
  | some (d, S1) => if isMut d = true then some (.nx (ρ.set i (some d)) S1) else none
  | none => none
theorem gOwn_of {i : Nat} {f : FE} {o : Res} (h : gOwn i f ρ S = some o) : ∃ d S1, f ρ S = some (d, S1) ∧ isMut d = true ∧ o = .nx (ρ.set i (some d)) S1 := by
  unfold gOwn at h
  split at h
  · rename_i d S1 e
    split at h
    · rename_i m
      cases h
      exact ⟨d, S1, e, m, rfl⟩
    · cases h
  · cases h
theorem Rel.setO (R : Rel C kd ow σ ρ S H) (k : Kp C.foot H H') (s : SrcOk C S' H') {i : Nat} (hk : kd i = true) (h0 : i ≠ C.sx ∨ C.src = none) (r : Rep H' (ZO C ow) d v) (m : isMut d = true) (n : New (ZO C ow) H H' d v) :
    ∃ ow', Rel C kd ow' (σ.set i (some v)) (ρ.set i (some d)) S' H' ∧ Ev C ow H ow' H' := by
  obtain ⟨a, rfl, ha, hs⟩ := n m
  have R' := R.step k s
  have hm : Mut (H' a) ∧ ¬ ZO C ow a := by
    cases d <;> first
      | (cases m; done)
      | (rw [Rep] at r
         obtain ⟨b, vs, e, q1, q2, _⟩ := r
         cases e
         rw [q1]
         exact ⟨trivial, q2⟩)
      | (rw [Rep] at r
         obtain ⟨b, vs, e, q1, q2, _⟩ := r
         cases e
         rcases q1 with ⟨kk, _, _, q1⟩ | ⟨kk, _, _, q1⟩ <;> (rw [q1]; exact ⟨trivial, q2⟩))
  have h00 : C.H0 a = none := by
    cases q : C.H0 a with
    | none => rfl
    | some o =>
      by_cases f : C.foot a
      · exact absurd ha (R.there (R.fz a f))
      · rw [R.base.ob a o q f] at ha
        cases ha
  -- outside and a
  have more : ∀ {d : D} {v : V}, Rep H (ZO C ow) d v → Rep H' (fun b => ZO C ow b ∨ b = a) d v := fun r => (r.more fun b z => z.elim .inl fun z => .inr (by rw [z]; exact ha)).kp (k.mono fun b f => .inl (R.fz b f))
  have zo : ∀ b, ZO C ⟨fun j => if j = i then some a else ow.sl j, ow.ex⟩ b → ZO C ow b ∨ b = a := fun b z => by
    rcases z with z | ⟨j, z⟩ | z
    · exact .inl (.inl z)
    · have z : (if j = i then some a else ow.sl j) = some b := z
      split at z
      · cases z; exact .inr rfl
      · exact .inl (.inr (.inl ⟨j, z⟩))
    · exact .inl (.inr (.inr z))
  refine ⟨⟨fun j => if j = i then some a else ow.sl j, ow.ex⟩, ⟨R'.dom, R'.ft, R'.base, R'.src, by rw [List.length_set, List.length_set, R.len], fun p hp => ?_, fun j e h1 h2 => ?_, fun j e h1 h2 => ?_, fun j l b h1 h2 => ?_, fun j b h1 h2 => ?_, fun b z => ?_⟩, ⟨k.mono fun b f => .inl f, fun b h q => h (R.back k s q), fun j b h1 h2 => ?_, fun _ => Iff.rfl⟩⟩
  · rcases h0 with h0 | h0
    · obtain ⟨q1, q2⟩ := R.sr p hp
      exact ⟨by rw [List.getElem?_set_ne h0]; exact q1, by rw [List.getElem?_set_ne h0]; exact q2⟩
    · rw [h0] at hp; cases hp
  · have hj : i ≠ j := fun z => by rw [← z, hk] at h1; cases h1
    rw [List.getElem?_set_ne hj] at h2 ⊢
    obtain ⟨v, q, r⟩ := R.cl j e h1 h2
    exact ⟨v, q, (more r).less zo⟩
  · by_cases hj : i = j
    · subst hj
      have hl : i < ρ.length := by
        rw [List.getElem?_set] at h2
        simp only [if_true] at h2
        split at h2
        · assumption
        · cases h2
      rw [List.getElem?_set_self hl] at h2
      cases h2
      refine ⟨a, by simp, by rw [List.getElem?_set_self (by rw [← R.len]; exact hl)], ?_⟩
      cases d <;> first
        | (cases m; done)
        | (obtain ⟨vs, q1, q2⟩ := hs
           exact ⟨vs, q1, q2.less zo⟩)
        | (obtain ⟨vs, q1, q2⟩ := hs
           exact ⟨vs, q1, RepV.less zo q2⟩)
    · rw [List.getElem?_set_ne hj] at h2 ⊢
      obtain ⟨b, q1, q2, r⟩ := R.own j e h1 h2
      refine ⟨b, by simp only [if_neg (fun z => hj z.symm : ¬ j = i)]; exact q1, q2, ?_⟩
      have hb : ∀ o, H b = some o → H' b = some o := fun o z => k.ob b o z (R.nf (.inl ⟨j, q1⟩))
      cases e <;> first
        | exact r.elim
        | (obtain ⟨vs, z1, z2⟩ := r
           exact ⟨vs, hb _ z1, ((z2.more (Z' := fun b => ZO C ow b ∨ b = a) fun b z => z.elim .inl fun z => .inr (by rw [z]; exact ha)).kp (k.mono fun b f => .inl (R.fz b f))).less zo⟩)
        | (obtain ⟨vs, z1, z2⟩ := r
           refine ⟨vs, ?_, RepV.less zo (RepV.kp (k.mono fun b f => .inl (R.fz b f)) (RepV.more (Z' := fun b => ZO C ow b ∨ b = a) (fun b z => z.elim .inl fun z => .inr (by rw [z]; exact ha)) z2))⟩
           rcases z1 with ⟨kk, y1, y2, y3⟩ | ⟨kk, y1, y2, y3⟩
           · exact .inl ⟨kk, y1, y2, hb _ y3⟩
           · exact .inr ⟨kk, y1, y2, hb _ y3⟩)
  · have h1 : (if j = i then some a else ow.sl j) = some b := h1
    have h2 : (if l = i then some a else ow.sl l) = some b := h2
    split at h1
    · split at h2
      · rename_i e1 e2; rw [e1, e2]
      · cases h1
        exact absurd (.inr (.inl ⟨l, h2⟩)) hm.2
    · split at h2
      · cases h2
        exact absurd (.inr (.inl ⟨j, h1⟩)) hm.2
      · exact R.inj j l b h1 h2
  · have h1 : (if j = i then some a else ow.sl j) = some b := h1
    split at h1
    · cases h1
      exact hm.2 (.inr (.inr h2))
    · exact R.dj j b h1 h2
  · rcases zo b (.inr z) with q | q
    · rcases q with q | q
      · rcases z with ⟨j, z⟩ | z
        · have z : (if j = i then some a else ow.sl j) = some b := z
          split at z
          · cases z
            exact ⟨h00, hm.1⟩
          · exact R'.new b (.inl ⟨j, z⟩)
        · exact R'.new b (.inr z)
      · exact R'.new b q
    · rw [q]
      exact ⟨h00, hm.1⟩
  · have h1 : (if j = i then some a else ow.sl j) = some b := h1
    split at h1
    · cases h1
      exact absurd ha h2
    · exact ⟨j, h1⟩
theorem p_own {st : Stmt} {i : Nat} {f : FE} (h : PS X st (tAsg (tF C kd f) (gName i))) (hk : kd i = true := by rfl) (h0 : i ≠ C.sx ∨ C.src = none := by exact .inl (Nat.ne_of_beq_eq_false rfl)) : PS X st (tP C kb kd kd (gOwn i f)) :=
  PS_imp h fun Dn σ H ⟨ow, ρ, S, o, R, e, k⟩ => by
    obtain ⟨d, S1, e1, m, rfl⟩ := gOwn_of e
    refine ⟨ow, ρ, S, d, S1, R, e1, fun v H' k1 s1 r1 n => ?_⟩
    obtain ⟨ow', R', ev⟩ := R.setO k1 s1 hk h0 r1 m n
    exact k _ H' ow' R' ev
end
end TL

set_option Elab.async false
set_option linter.all false
set_option maxRecDepth 100000
set_option maxHeartbeats 4000000
namespace TL
open PySem PySem.Spec PyProof.Rows L2

section
variable {X : Cx} {C : Cf} {kb kd kd1 kd2 kd' : Nat → Bool} {ow ow1 ow2 ow' : Ow} {σ σ' : L2.St} {ρ : Rho} {S S' : Src} {H H1 H2 H' : Hp} {d : D} {v : V}
/-! ### unpacking, two at once, return -/
def gUnp (st : FG) (f : FE) : FS := fun ρ S => match f ρ S with
  | some (d, S1) => (match st d ρ with
    | some ρ1 => some (.nx ρ1 S1)
    | none => none)
  | none => none
theorem p_unp {s : Stmt} {st : FG} {f : FE} {is : List Nat} (h : PS X s (tAsg (tX C kd f) (tG C kd is st))) : PS X s (tP C kb kd kd (gUnp st f)) :=
  PS_imp h fun Dn σ H ⟨ow, ρ, S, o, R, e, k⟩ => by
    unfold gUnp at e
    split at e
    · rename_i d S1 e1
      split at e
      · rename_i ρ1 e2
        cases e
        refine ⟨ow, ρ, S, d, S1, R, e1, fun v H' k1 s1 r1 => ?_⟩
        exact ⟨ow, ρ, S1, d, ρ1, R.step k1 s1, r1, e2, fun σ' R' _ => k σ' H' ow R' (R.ev k1 s1)⟩
      · cases e
    · cases e
/-- one of two values: own (new) or clean -/
def tZ (C : Cf) (kd : Nat → Bool) (o : Bool) (f : FE) : TE := fun σ H Q => ∃ ow ρ S d S', Rel C kd ow σ ρ S H ∧ f ρ S = some (d, S') ∧
  ∀ v H', Kp C.foot H H' → SrcOk C S' H' → Rep H' (ZO C ow) d v → (o = true → New (ZO C ow) H H' d v) → Q v H'
theorem z_own {e : Expr} {f : FE} (h : PE X e (tF C kd f)) : PE X e (tZ C kd true f) := PE_imp h fun σ H Q ⟨ow, ρ, S, d, S', R, e, k⟩ => ⟨ow, ρ, S, d, S', R, e, fun v H' k1 k2 k3 k4 => k v H' k1 k2 k3 fun _ => k4⟩
theorem z_cl {e : Expr} {f : FE} (h : PE X e (tX C kd f)) : PE X e (tZ C kd false f) := PE_imp h fun σ H Q ⟨ow, ρ, S, d, S', R, e, k⟩ => ⟨ow, ρ, S, d, S', R, e, fun v H' k1 k2 k3 => k v H' k1 k2 k3 fun z => by cases z⟩
def okM (o : Bool) (d : D) : Bool := !o || isMut d
theorem mut_of {Z : Zn} (m : isMut d = true) (r : Rep H Z d v) : ∃ a, v = .ref a ∧ Mut (H a) ∧ ¬ Z a := by
  cases d <;> first
    | (cases m; done)
    | (rw [Rep] at r
       obtain ⟨b, vs, rfl, q1, q2, _⟩ := r
       exact ⟨b, rfl, by rw [q1]; trivial, q2⟩)
    | (rw [Rep] at r
       obtain ⟨b, vs, rfl, q1, q2, _⟩ := r
       rcases q1 with ⟨kk, _, _, q1⟩ | ⟨kk, _, _, q1⟩ <;> exact ⟨b, rfl, by rw [q1]; trivial, q2⟩)
/-- a new thing stands apart -/
theorem Rel.exclude (R : Rel C kd ow σ ρ S H) (k : Kp C.foot H H') (s : SrcOk C S' H') {a : Addr} (ha : H a = none) (hm : Mut (H' a)) : Rel C kd ⟨ow.sl, a :: ow.ex⟩ σ ρ S' H' := by
  have R' := R.step k s
  have zo : ∀ b, ZO C ⟨ow.sl, a :: ow.ex⟩ b → ZO C ow b ∨ H b = none := fun b z => by
    rcases z with z | z | z
    · exact .inl (.inl z)
    · exact .inl (.inr (.inl z))
    · rcases List.mem_cons.mp z with z | z
      · rw [z]; exact .inr ha
      · exact .inl (.inr (.inr z))
  have kz : Kp (ZO C ⟨ow.sl, a :: ow.ex⟩) H H' := k.mono fun b f => .inl (R.ft b f)
  have ne : ∀ b, Own ow b → b ≠ a := fun b z q => by
    have m := (R.new b z).2
    rw [q, ha] at m
    exact m
  refine ⟨R'.dom, R'.ft, R'.base, R'.src, R'.len, R'.sr, fun j e h1 h2 => ?_, fun j e h1 h2 => ?_, R'.inj, fun j b h1 h2 => ?_, fun b z => ?_⟩
  · obtain ⟨v, q, r⟩ := R.cl j e h1 h2
    exact ⟨v, q, (r.more zo).kp kz⟩
  · obtain ⟨b, q1, q2, r⟩ := R.own j e h1 h2
    refine ⟨b, q1, q2, ?_⟩
    have hb : ∀ o, H b = some o → H' b = some o := fun o z => k.ob b o z (R.nf (.inl ⟨j, q1⟩))
    cases e <;> first
      | exact r.elim
      | (obtain ⟨vs, z1, z2⟩ := r
         exact ⟨vs, hb _ z1, (z2.more zo).kp kz⟩)
      | (obtain ⟨vs, z1, z2⟩ := r
         refine ⟨vs, ?_, RepV.kp kz (RepV.more zo z2)⟩
         rcases z1 with ⟨kk, y1, y2, y3⟩ | ⟨kk, y1, y2, y3⟩
         · exact .inl ⟨kk, y1, y2, hb _ y3⟩
         · exact .inr ⟨kk, y1, y2, hb _ y3⟩)
  · rcases List.mem_cons.mp h2 with z | z
    · exact ne b (.inl ⟨j, h1⟩) z
    · exact R'.dj j b h1 z
  · have z' : b = a ∨ Own ow b := by
      rcases z with z | z
      · exact .inr (.inl z)
      · exact (List.mem_cons.mp z).elim .inl fun z => .inr (.inr z)
    rcases z' with z' | z'
    · subst z'
      refine ⟨?_, hm⟩
      cases q : C.H0 b with
      | none => rfl
      | some o =>
        by_cases f : C.foot b
        · exact absurd ha (R.there (R.fz b f))
        · rw [R.base.ob b o q f] at ha
          cases ha
    · exact R'.new b z'
/-- .. and becomes a slot's -/
theorem Rel.adopt {sl : Nat → Option Addr} {ex ex' : List Addr} {a : Addr} (R : Rel C kd ⟨sl, ex⟩ σ ρ S H) (hx : ∀ b, b ∈ ex ↔ b = a ∨ b ∈ ex') (hn : a ∉ ex') {i : Nat} (hk : kd i = true) (h0 : i ≠ C.sx ∨ C.src = none) (m : isMut d = true) (hs : Sh C ⟨sl, ex⟩ H d a) :
    Rel C kd ⟨fun j => if j = i then some a else sl j, ex'⟩ (σ.set i (some (.ref a))) (ρ.set i (some d)) S H := by
  have zo : ∀ b, ZO C ⟨fun j => if j = i then some a else sl j, ex'⟩ b → ZO C ⟨sl, ex⟩ b := fun b z => by
    rcases z with z | ⟨j, z⟩ | z
    · exact .inl z
    · have z : (if j = i then some a else sl j) = some b := z
      split at z
      · cases z; exact .inr (.inr ((hx a).mpr (.inl rfl)))
      · exact .inr (.inl ⟨j, z⟩)
    · exact .inr (.inr ((hx b).mpr (.inr z)))
  refine ⟨R.dom, R.ft, R.base, R.src, by rw [List.length_set, List.length_set, R.len], fun p hp => ?_, fun j e h1 h2 => ?_, fun j e h1 h2 => ?_, fun j l b h1 h2 => ?_, fun j b h1 h2 => ?_, fun b z => ?_⟩
  · rcases h0 with h0 | h0
    · obtain ⟨q1, q2⟩ := R.sr p hp
      exact ⟨by rw [List.getElem?_set_ne h0]; exact q1, by rw [List.getElem?_set_ne h0]; exact q2⟩
    · rw [h0] at hp; cases hp
  · have hj : i ≠ j := fun z => by rw [← z, hk] at h1; cases h1
    rw [List.getElem?_set_ne hj] at h2 ⊢
    obtain ⟨v, q, r⟩ := R.cl j e h1 h2
    exact ⟨v, q, r.less zo⟩
  · by_cases hj : i = j
    · subst hj
      have hl : i < ρ.length := by
        rw [List.getElem?_set] at h2
        simp only [if_true] at h2
        split at h2
        · assumption
        · cases h2
      rw [List.getElem?_set_self hl] at h2
      cases h2
      refine ⟨a, by simp, by rw [List.getElem?_set_self (by rw [← R.len]; exact hl)], ?_⟩
      cases d <;> first
        | exact hs.elim
        | (obtain ⟨vs, q1, q2⟩ := hs
           exact ⟨vs, q1, q2.less zo⟩)
        | (obtain ⟨vs, q1, q2⟩ := hs
           exact ⟨vs, q1, RepV.less zo q2⟩)
    · rw [List.getElem?_set_ne hj] at h2 ⊢
      obtain ⟨b, q1, q2, r⟩ := R.own j e h1 h2
      refine ⟨b, by simp only [if_neg (fun z => hj z.symm : ¬ j = i)]; exact q1, q2, ?_⟩
      cases e <;> first
        | exact r.elim
        | (obtain ⟨vs, z1, z2⟩ := r
           exact ⟨vs, z1, z2.less zo⟩)
        | (obtain ⟨vs, z1, z2⟩ := r
           exact ⟨vs, z1, RepV.less zo z2⟩)
  · have h1 : (if j = i then some a else sl j) = some b := h1
    have h2 : (if l = i then some a else sl l) = some b := h2
    split at h1
    · split at h2
      · rename_i e1 e2; rw [e1, e2]
      · cases h1
        exact absurd ((hx a).mpr (.inl rfl)) (R.dj l a h2)
    · split at h2
      · cases h2
        exact absurd ((hx a).mpr (.inl rfl)) (R.dj j a h1)
      · exact R.inj j l b h1 h2
  · have h1 : (if j = i then some a else sl j) = some b := h1
    split at h1
    · cases h1
      exact hn h2
    · exact R.dj j b h1 ((hx b).mpr (.inr h2))
  · rcases z with ⟨j, z⟩ | z
    · have z : (if j = i then some a else sl j) = some b := z
      split at z
      · cases z
        exact R.new a (.inr ((hx a).mpr (.inl rfl)))
      · exact R.new b (.inl ⟨j, z⟩)
    · exact R.new b (.inr ((hx b).mpr (.inr z)))
/-- values that come one behind another for some slots: the new ones apart -/
def Made (C : Cf) (ow : Ow) (H : Hp) : List Bool → List D → List V → List Addr → Prop
  | [], ds, vs, as => ds = [] ∧ vs = [] ∧ as = []
  | false :: fl, ds, vs, as => ∃ d v ds' vs', ds = d :: ds' ∧ vs = v :: vs' ∧ Rep H (ZO C ow) d v ∧ Made C ow H fl ds' vs' as
  | true :: fl, ds, vs, as => ∃ d a ds' vs' as', ds = d :: ds' ∧ vs = .ref a :: vs' ∧ as = a :: as' ∧ isMut d = true ∧ Sh C ow H d a ∧ Made C ow H fl ds' vs' as'
def tAM (C : Cf) (kd : Nat → Bool) (fl : List Bool) (g : FA) : TA := fun σ H Q => ∃ ow ρ S ds S', Rel C kd ow σ ρ S H ∧ g ρ S = some (ds, S') ∧
  ∀ vs H' as ex, Kp C.foot H H' → (∀ b, b ∈ ex ↔ b ∈ as ∨ b ∈ ow.ex) → Rel C kd ⟨ow.sl, ex⟩ σ ρ S' H' → (∀ a ∈ as, H a = none) → as.Nodup → Made C ⟨ow.sl, ex⟩ H' fl ds vs as → Q vs H'
theorem m_nil : PA X [] (tAM C kd [] aN) := PA_imp pa_nil fun σ H Q ⟨ow, ρ, S, d, S', R, e, k⟩ => by
  cases e
  exact k [] H [] ow.ex .refl (fun b => by simp) R (fun a h => by simp at h) List.nodup_nil ⟨rfl, rfl, rfl⟩
def aM (f : FE) (g : FA) : FA := fun ρ S => match f ρ S with
  | some (d, S1) => if isMut d = true then (match g ρ S1 with
    | some (ds, S2) => some (d :: ds, S2)
    | none => none) else none
  | none => none
theorem m_cl {e : Expr} {es : List Expr} {f : FE} {g : FA} {fl : List Bool} (ha : PE X e (tX C kd f)) (hr : PA X es (tAM C kd fl g)) (hs : starEach (e :: es) X.env = (false, eval e X.env) :: starEach es X.env := by rfl) :
    PA X (e :: es) (tAM C kd (false :: fl) (aC f g)) := PA_imp (pa_cons ha hr hs) fun σ H Q ⟨ow, ρ, S, ds, S', R, e, k⟩ => by
  obtain ⟨d, S1, es', e1, e2, rfl⟩ := aC_of e
  refine ⟨ow, ρ, S, d, S1, R, e1, fun v H1 k1 s1 r1 => ?_⟩
  have R1 := R.step k1 s1
  refine ⟨ow, ρ, S1, es', S', R1, e2, fun vs H2 as ex k2 hx R2 hn nd mm => ?_⟩
  refine k _ H2 as ex (k1.trans k2) hx R2 (fun a ha => R.back k1 s1 (hn a ha)) nd ⟨d, v, es', vs, rfl, rfl, ?_, mm⟩
  refine (r1.more fun b z => ?_).kp (k2.mono fun b f => .inl (R.ft b f))
  rcases z with z | z | z
  · exact .inl (.inl z)
  · exact .inl (.inr (.inl z))
  · rcases (hx b).mp z with z | z
    · exact .inr (hn b z)
    · exact .inl (.inr (.inr z))
theorem m_own {e : Expr} {es : List Expr} {f : FE} {g : FA} {fl : List Bool} (ha : PE X e (tF C kd f)) (hr : PA X es (tAM C kd fl g)) (hs : starEach (e :: es) X.env = (false, eval e X.env) :: starEach es X.env := by rfl) :
    PA X (e :: es) (tAM C kd (true :: fl) (aM f g)) := PA_imp (pa_cons ha hr hs) fun σ H Q ⟨ow, ρ, S, ds, S', R, e, k⟩ => by
  unfold aM at e
  split at e
  · rename_i d S1 e1
    split at e
    · rename_i m
      split at e
      · rename_i es' S2 e2
        cases e
        refine ⟨ow, ρ, S, d, S1, R, e1, fun v H1 k1 s1 r1 n => ?_⟩
        obtain ⟨a, rfl, ha, hs⟩ := n m
        obtain ⟨a', e', hm, _⟩ := mut_of m r1
        cases e'
        have R1 := R.exclude k1 s1 ha hm
        refine ⟨⟨ow.sl, a :: ow.ex⟩, ρ, S1, es', _, R1, e2, fun vs H2 as ex k2 hx R2 hn nd mm => ?_⟩
        refine k _ H2 (a :: as) ex (k1.trans k2) (fun b => ?_) R2 (fun b hb => ?_) (List.nodup_cons.mpr ⟨fun z => ?_, nd⟩) ⟨d, a, es', vs, as, rfl, rfl, rfl, m, ?_, mm⟩
        · rw [hx b, List.mem_cons, List.mem_cons]
          exact ⟨fun z => z.elim (fun z => .inl (.inr z)) fun z => z.elim (fun z => .inl (.inl z)) .inr, fun z => z.elim (fun z => z.elim (fun z => .inr (.inl z)) .inl) fun z => .inr (.inr z)⟩
        · rcases List.mem_cons.mp hb with z | z
          · rw [z]; exact ha
          · exact R.back k1 s1 (hn b z)
        · rw [hn a z] at hm
          exact hm
        · have zo : ∀ b, ZO C ⟨ow.sl, ex⟩ b → (ZO C ow b ∨ b = a) ∨ H1 b = none := fun b z => by
            rcases z with z | z | z
            · exact .inl (.inl (.inl z))
            · exact .inl (.inl (.inr (.inl z)))
            · rcases (hx b).mp z with z | z
              · exact .inr (hn b z)
              · rcases List.mem_cons.mp z with z | z
                · exact .inl (.inr z)
                · exact .inl (.inl (.inr (.inr z)))
          have nf : ¬ C.foot a := fun f => R.there (R.fz a f) ha
          have kz : Kp (ZO C ⟨ow.sl, ex⟩) H1 H2 := k2.mono fun b f => .inl (R.ft b f)
          cases d <;> first
            | exact hs.elim
            | (obtain ⟨vs, q1, q2⟩ := hs
               exact ⟨vs, k2.ob _ _ q1 nf, (q2.more zo).kp kz⟩)
            | (obtain ⟨vs, q1, q2⟩ := hs
               refine ⟨vs, ?_, RepV.kp kz (RepV.more zo q2)⟩
               rcases q1 with ⟨kk, z1, z2, z3⟩ | ⟨kk, z1, z2, z3⟩
               · exact .inl ⟨kk, z1, z2, k2.ob _ _ z3 nf⟩
               · exact .inr ⟨kk, z1, z2, k2.ob _ _ z3 nf⟩)
      · cases e
    · cases e
  · cases e
def setV : List Nat → List V → L2.St → L2.St
  | i :: is, v :: vs, σ => setV is vs (σ.set i (some v))
  | _, _, σ => σ
def setD : List Nat → List D → Rho → Rho
  | i :: is, d :: ds, ρ => setD is ds (ρ.set i (some d))
  | _, _, ρ => ρ
theorem Made.less {sl : Nat → Option Addr} {ex : List Addr} {ow' : Ow} (h : ∀ b, ZO C ow' b → ZO C ⟨sl, ex⟩ b) : ∀ {fl : List Bool} {ds : List D} {vs : List V} {as : List Addr}, Made C ⟨sl, ex⟩ H fl ds vs as → Made C ow' H fl ds vs as
  | [], _, _, _, q => q
  | false :: _, _, _, _, ⟨d, v, ds', vs', e1, e2, r, q⟩ => ⟨d, v, ds', vs', e1, e2, r.less h, Made.less h q⟩
  | true :: _, _, _, _, ⟨d, a, ds', vs', as', e1, e2, e3, m, r, q⟩ => by
    refine ⟨d, a, ds', vs', as', e1, e2, e3, m, ?_, Made.less h q⟩
    cases d <;> first
      | exact r.elim
      | (obtain ⟨vs, q1, q2⟩ := r
         exact ⟨vs, q1, q2.less h⟩)
      | (obtain ⟨vs, q1, q2⟩ := r
         exact ⟨vs, q1, RepV.less h q2⟩)
theorem Made.assign : ∀ {fl : List Bool} {is : List Nat} {ds : List D} {vs : List V} {as : List Addr} {sl : Nat → Option Addr} {ex ex0 : List Addr} {σ : L2.St} {ρ : Rho}, Rel C kd ⟨sl, ex⟩ σ ρ S H → (∀ b, b ∈ ex ↔ b ∈ as ∨ b ∈ ex0) → (∀ a ∈ as, a ∉ ex0) → as.Nodup →
    Made C ⟨sl, ex⟩ H fl ds vs as → is.map kd = fl → (∀ i ∈ is, i ≠ C.sx ∨ C.src = none) →
    ∃ sl' ex', Rel C kd ⟨sl', ex'⟩ (setV is vs σ) (setD is ds ρ) S H ∧ (∀ b, b ∈ ex' ↔ b ∈ ex0) ∧ ∀ i a, sl' i = some a → sl i = some a ∨ a ∈ as
  | [], is, _, _, _, sl, ex, ex0, σ, ρ, R, hx, hn, nd, ⟨e1, e2, e3⟩, hm, _ => by
    subst e1 e2 e3
    have : is = [] := by
      cases is with
      | nil => rfl
      | cons i is => simp at hm
    subst this
    exact ⟨sl, ex, R, fun b => by rw [hx b]; simp, fun i a e => .inl e⟩
  | false :: fl, is, _, _, as, sl, ex, ex0, σ, ρ, R, hx, hn, nd, ⟨d, v, ds', vs', e1, e2, r, q⟩, hm, h0 => by
    subst e1 e2
    cases is with
    | nil => simp at hm
    | cons i is =>
      rw [List.map_cons, List.cons.injEq] at hm
      have h := Made.assign (fl := fl) (is := is) (ds := ds') (vs := vs') (R.set hm.1 (h0 i (List.mem_cons_self ..)) r) hx hn nd q hm.2 fun j hj => h0 j (List.mem_cons_of_mem _ hj)
      exact h
  | true :: fl, is, _, _, _, sl, ex, ex0, σ, ρ, R, hx, hn, nd, ⟨d, a, ds', vs', as', e1, e2, e3, m, r, q⟩, hm, h0 => by
    subst e1 e2 e3
    cases is with
    | nil => simp at hm
    | cons i is =>
      rw [List.map_cons, List.cons.injEq] at hm
      rw [List.nodup_cons] at nd
      have hna : a ∉ as' ++ ex0 := fun z => (List.mem_append.mp z).elim nd.1 (hn a (List.mem_cons_self ..))
      have R' := R.adopt (ex' := as' ++ ex0) (fun b => by rw [hx b, List.mem_cons, List.mem_append, or_assoc]) hna hm.1 (h0 i (List.mem_cons_self ..)) m r
      have less : ∀ b, ZO C ⟨fun j => if j = i then some a else sl j, as' ++ ex0⟩ b → ZO C ⟨sl, ex⟩ b := fun b z => by
        rcases z with z | ⟨j, z⟩ | z
        · exact .inl z
        · have z : (if j = i then some a else sl j) = some b := z
          split at z
          · cases z
            exact .inr (.inr ((hx a).mpr (.inl (List.mem_cons_self ..))))
          · exact .inr (.inl ⟨j, z⟩)
        · exact .inr (.inr ((hx b).mpr ((List.mem_append.mp z).elim (fun z => .inl (List.mem_cons_of_mem _ z)) .inr)))
      obtain ⟨sl', ex', R2, h2, h3⟩ := Made.assign (fl := fl) (is := is) (ds := ds') (vs := vs') R' (fun b => List.mem_append) (fun b hb => hn b (List.mem_cons_of_mem _ hb)) nd.2 (q.less less) hm.2 fun j hj => h0 j (List.mem_cons_of_mem _ hj)
      refine ⟨sl', ex', R2, h2, fun j b e => ?_⟩
      rcases h3 j b e with z | z
      · have z : (if j = i then some a else sl j) = some b := z
        split at z
        · cases z
          exact .inr (List.mem_cons_self ..)
        · exact .inl z
      · exact .inr (List.mem_cons_of_mem _ z)
theorem all_ne {is : List Nat} {n : Nat} {p : Prop} (h : is.all (fun i => !(Nat.beq i n)) = true) : ∀ i ∈ is, i ≠ n ∨ p := fun i hi => .inl fun e => by
  have q := List.all_eq_true.mp h i hi
  rw [e, Nat.beq_refl] at q
  cases q
def gPar (is : List Nat) (g : FA) : FS := fun ρ S => match g ρ S with
  | some (ds, S1) => some (.nx (setD is ds ρ) S1)
  | none => none
/-- several names at once: what the store is known to do -/
def tSto (is : List Nat) (ta : TA) : TS := fun Dn σ H => ta σ H fun vs H1 => Dn.nx (setV is vs σ) H1
theorem p_par {s : Stmt} {is : List Nat} {g : FA} {fl : List Bool} (h : PS X s (tSto is (tAM C kd fl g))) (hm : is.map kd = fl := by rfl) (h0 : ∀ i ∈ is, i ≠ C.sx ∨ C.src = none := by exact all_ne rfl) : PS X s (tP C kb kd kd (gPar is g)) :=
  PS_imp h fun Dn σ H ⟨ow, ρ, S, o, R, e, k⟩ => by
    unfold gPar at e
    split at e
    · rename_i ds S1 e1
      cases e
      refine ⟨ow, ρ, S, ds, S1, R, e1, fun vs H' as ex k1 hx R1 hn nd mm => ?_⟩
      have hd : ∀ a ∈ as, a ∉ ow.ex := fun a ha z => by
        have m := (R.new a (.inr z)).2
        rw [hn a ha] at m
        exact m
      obtain ⟨sl', ex', R2, h2, h3⟩ := mm.assign R1 hx hd nd hm h0
      refine k _ H' ⟨sl', ex'⟩ R2 ⟨k1.mono fun a f => .inl f, fun a h q => h (R.back k1 R1.src q), fun i a e h => ?_, h2⟩
      rcases h3 i a e with z | z
      · exact ⟨i, z⟩
      · exact absurd (hn a z) h
    · cases e
end
end TL

set_option Elab.async false
set_option linter.all false
set_option maxRecDepth 100000
set_option maxHeartbeats 4000000
namespace TL
open PySem PySem.Spec PyProof.Rows L2

section
variable {X : Cx} {C : Cf} {kb kd kd1 kd2 kd' : Nat → Bool} {ow ow1 ow2 ow' : Ow} {σ σ' : L2.St} {ρ : Rho} {S S' : Src} {H H1 H2 H' : Hp} {d : D} {v : V}
/-! ### a, b = x, y: what the store does -/
theorem sto_par {s : Stmt} {i j : Nat} {g : FA} {fi fj : Bool} (h : PS X s (tPar i j (tAM C kd [fi, fj] g))) : PS X s (tSto [i, j] (tAM C kd [fi, fj] g)) :=
  PS_imp h fun Dn σ H ⟨ow, ρ, S, ds, S1, R, e, k⟩ => by
    refine ⟨ow, ρ, S, ds, S1, R, e, fun vs H' as ex k1 hx R1 hn nd mm => ?_⟩
    have two : ∃ v w, vs = [v, w] := by
      cases fi <;> cases fj <;> simp only [Made] at mm
      · obtain ⟨d, v, ds', vs', _, rfl, _, d2, v2, ds2, vs2, _, rfl, _, _, rfl, _⟩ := mm
        exact ⟨_, _, rfl⟩
      · obtain ⟨d, v, ds', vs', _, rfl, _, d2, v2, ds2, vs2, as2, _, rfl, _, _, _, _, rfl, _⟩ := mm
        exact ⟨_, _, rfl⟩
      · obtain ⟨d, v, ds', vs', as', _, rfl, _, _, _, d2, v2, ds2, vs2, _, rfl, _, _, rfl, _⟩ := mm
        exact ⟨_, _, rfl⟩
      · obtain ⟨d, v, ds', vs', as', _, rfl, _, _, _, d2, v2, ds2, vs2, as2, _, rfl, _, _, _, _, rfl, _⟩ := mm
        exact ⟨_, _, rfl⟩
    obtain ⟨v, w, rfl⟩ := two
    exact ⟨v, w, rfl, k _ H' as ex k1 hx R1 hn nd mm⟩
theorem Made.len : ∀ {fl : List Bool} {ds : List D} {vs : List V} {as : List Addr}, Made C ow H fl ds vs as → vs.length = fl.length
  | [], _, _, _, ⟨_, e, _⟩ => by rw [e]; rfl
  | false :: _, _, _, _, ⟨d, v, ds', vs', e1, e2, r, q⟩ => by rw [e2, List.length_cons, List.length_cons, Made.len q]
  | true :: _, _, _, _, ⟨d, a, ds', vs', as', e1, e2, e3, m, r, q⟩ => by rw [e2, List.length_cons, List.length_cons, Made.len q]
theorem sto_par3 {s : Stmt} {i j l : Nat} {g : FA} {fl : List Bool} (h : PS X s (tPar3 i j l (tAM C kd fl g))) (hl : fl.length = 3 := by rfl) : PS X s (tSto [i, j, l] (tAM C kd fl g)) :=
  PS_imp h fun Dn σ H ⟨ow, ρ, S, ds, S1, R, e, k⟩ => by
    refine ⟨ow, ρ, S, ds, S1, R, e, fun vs H' as ex k1 hx R1 hn nd mm => ?_⟩
    have hv := mm.len
    rw [hl] at hv
    match vs, hv with
    | [u, v, w], _ => exact ⟨u, v, w, rfl, k _ H' as ex k1 hx R1 hn nd mm⟩
theorem Made.kp (kz : Kp Z0 H H') : ∀ {fl : List Bool} {ds : List D} {vs : List V} {as : List Addr}, Made C ow H fl ds vs as → Made C ow H' fl ds vs as
  | [], _, _, _, q => q
  | false :: _, _, _, _, ⟨d, v, ds', vs', e1, e2, r, q⟩ => ⟨d, v, ds', vs', e1, e2, r.kp kz.z0, Made.kp kz q⟩
  | true :: _, _, _, _, ⟨d, a, ds', vs', as', e1, e2, e3, m, r, q⟩ => ⟨d, a, ds', vs', as', e1, e2, e3, m, r.kp kz (fun _ z => z.elim) fun o z => kz.ob _ o z fun z => z, Made.kp kz q⟩
/-- by a tuple that is unpacked (where a name is captured) -/
def gNames : List Nat → TGs
  | [] => gNil
  | i :: is => gCons (gName i) (gNames is)
theorem gNames_set {Dx : L2.St → Hp → Prop} : ∀ {is : List Nat} {vs : List V} {σ : L2.St} {H : Hp}, is.length = vs.length → Dx (setV is vs σ) H → gNames is vs σ H Dx
  | [], [], _, _, _, q => ⟨rfl, q⟩
  | i :: is, v :: vs, σ, H, hl, q => ⟨v, vs, rfl, gNames_set (is := is) (vs := vs) (σ := σ.set i (some v)) (by simpa using hl) q⟩
  | [], _ :: _, _, _, hl, _ => by simp at hl
  | _ :: _, [], _, _, hl, _ => by simp at hl
theorem sto_cell {s : Stmt} {is : List Nat} {n : Nat} {g : FA} {fl : List Bool} (h : PS X s (tAsg (tTup (tAM C kd fl g)) (gTup X.K n (gNames is)))) (hi : is.length = n := by rfl) (hf : fl.length = n := by rfl) (hn : n ≤ 1000 := by decide) : PS X s (tSto is (tAM C kd fl g)) :=
  PS_imp h fun Dn σ H ⟨ow, ρ, S, ds, S1, R, e, k⟩ => by
    refine ⟨ow, ρ, S, ds, S1, R, e, fun vs H' as ex k1 hx R1 hnn nd mm => ?_⟩
    have hv := mm.len
    refine ⟨by rw [hv, hf]; exact small_sz hn, fun p hp => ⟨p, vs, rfl, .of upd_same, by rw [hv, hf], gNames_set (by rw [hi, hv, hf]) ?_⟩⟩
    have kz : Kp Z0 H' (upd H' p (.tup vs)) := .upd hp
    exact k vs _ as ex (k1.trans kz.z0) hx (R1.step kz.z0 (R1.src.kp kz)) hnn nd (mm.kp kz)
/-! ### return, an expression alone, if -/
def gRet (f : FE) : FS := fun ρ S => match f ρ S with
  | some (d, S1) => some (.rt d S1)
  | none => none
theorem p_ret {s : Stmt} {f : FE} (h : PS X s (tRet (tS C kd f))) : PS X s (tP C kb kd kd' (gRet f)) := PS_imp h fun Dn σ H ⟨ow, ρ, S, o, R, e, k⟩ => by
  unfold gRet at e
  split at e
  · rename_i d S1 e1
    cases e
    exact ⟨ow, ρ, S, d, S1, R, e1, fun v H' k1 s1 r1 => k v H' (R.base.trans k1) s1 r1.out⟩
  · cases e
def gRetN : FS := fun _ S => some (.rt .none S)
theorem p_retN {pos : Pos} : PS X (.Return none pos) (tP C kb kd kd' gRetN) := PS_imp ps_retN fun Dn σ H ⟨ow, ρ, S, o, R, e, k⟩ => by
  cases e
  exact k .non H R.base R.src (by rw [Rep])
def gDrop (f : FE) : FS := fun ρ S => match f ρ S with
  | some (_, S1) => some (.nx ρ S1)
  | none => none
theorem p_drop {s : Stmt} {f : FE} (h : PS X s (tDrop (tX C kd f))) : PS X s (tP C kb kd kd (gDrop f)) := PS_imp h fun Dn σ H ⟨ow, ρ, S, o, R, e, k⟩ => by
  unfold gDrop at e
  split at e
  · rename_i d S1 e1
    cases e
    exact ⟨ow, ρ, S, d, S1, R, e1, fun v H' k1 s1 r1 => k σ H' ow (R.step k1 s1) (R.ev k1 s1)⟩
  · cases e
def gIf (c : FB) (g h : FS) : FS := fun ρ S => match c ρ S with
  | some (true, S1) => g ρ S1
  | some (false, S1) => h ρ S1
  | none => none
theorem p_if {c : Expr} {a b : List Stmt} {pos : Pos} {fc : FB} {g h : FS} (hc : PT X c (tB C kd fc)) (ha : PSs X a (tP C kb kd kd' g)) (hb : PSs X b (tP C kb kd kd' h)) : PS X (.If c a b pos) (tP C kb kd kd' (gIf fc g h)) :=
  PS_imp (ps_if hc ha hb) fun Dn σ H ⟨ow, ρ, S, o, R, e, k⟩ => by
    unfold gIf at e
    split at e
    · rename_i S1 e1
      refine ⟨ow, ρ, S, true, S1, R, e1, fun H1 k1 s1 => ?_⟩
      refine iteT ?_
      exact ⟨ow, ρ, S1, o, R.step k1 s1, e, k.ev (R.ev k1 s1)⟩
    · rename_i S1 e1
      refine ⟨ow, ρ, S, false, S1, R, e1, fun H1 k1 s1 => ?_⟩
      refine iteF ?_
      exact ⟨ow, ρ, S1, o, R.step k1 s1, e, k.ev (R.ev k1 s1)⟩
    · cases e
/-! ### for, while -/
def forL (st : FG) (g : FS) : List D → FS
  | [] => fun ρ S => some (.nx ρ S)
  | d :: ds => fun ρ S => match st d ρ with
    | some ρ1 => (match g ρ1 S with
      | some (.nx ρ2 S2) => forL st g ds ρ2 S2
      | some (.ct ρ2 S2) => forL st g ds ρ2 S2
      | some (.bk ρ2 S2) => some (.nx ρ2 S2)
      | some (.rt v S2) => some (.rt v S2)
      | none => none)
    | none => none
def gFor (fI : FA) (st : FG) (g : FS) : FS := fun ρ S => match fI ρ S with
  | some (ds, S1) => forL st g ds ρ S1
  | none => none
theorem p_for {iter tg : Expr} {body : List Stmt} {pos : Pos} {fI : FA} {st : FG} {is : List Nat} {g : FS} (hp : PassesOwn (model X.prog X.w) X.A X.env X.xe) (hc : X.calm = true) (hi : PI X tg iter (tI C kd true fI)) (hg : PG X tg (tG C kd is st)) (hb : PSs X body (tP C kd kd kd g))
    (hs : ∀ x, foldedSetIterable iter X.env x = pure x := by intro _; rfl) : PS X (.For tg iter body [] pos) (tP C kb kd kd (gFor fI st g)) :=
  PS_imp (ps_for hp hc hi hg hb hs) fun Dn σ H ⟨ow, ρ, S, o, R, e, k⟩ => by
    unfold gFor at e
    split at e
    · rename_i ds S1 e1
      refine ⟨ow, ρ, S, ds, S1, R, e1, fun J H1 k1 s1 W => ?_⟩
      have R1 := R.step k1 s1
      have k := k.ev (R.ev k1 s1)
      refine ⟨fun i m σ' H' => m = ds.length - i ∧ i ≤ ds.length ∧ ∃ ow2 ρ2 S2, Rel C kd ow2 σ' ρ2 S2 H' ∧ Ev C ow H1 ow2 H' ∧ forL st g (ds.drop i) ρ2 S2 = some o,
        ⟨ds.length, by simp, Nat.zero_le _, ow, ρ, S1, R1, .refl, by rw [List.drop_zero]; exact e⟩, ?_⟩
      rintro i m σ2 H2 ⟨rfl, hi, ow2, ρ2, S2, R2, ev, e2⟩
      rw [if_pos rfl] at W
      by_cases hlt : i < ds.length
      · obtain ⟨go, step⟩ := (W i H2 ev.kp).1 hlt
        refine .inr ⟨go, fun σ' H' => ∃ ow3 ρ3 S3, Rel C kd ow3 σ' ρ3 S3 H' ∧ Ev C ow H1 ow3 H' ∧ forL st g (ds.drop (i + 1)) ρ3 S3 = some o, fun σ' H' hN => ⟨ds.length - (i + 1), by omega, rfl, hlt, hN⟩, fun x H3 y => ?_⟩
        obtain ⟨k3, d, ed, rd⟩ := step x H3 y
        have hdr : ds.drop i = d :: ds.drop (i + 1) := by
          obtain ⟨h, e'⟩ := List.getElem?_eq_some_iff.mp ed
          rw [← e', List.drop_eq_getElem_cons h]
        rw [hdr, forL] at e2
        dsimp only at e2
        have s3 := R2.src.kp k3
        have R3 := R2.step k3.z0 s3
        have ev3 := ev.trans (R2.ev k3.z0 s3)
        have rx : Rep H3 (ZO C ow2) d x := (rd (fun a => ZO C ow a ∨ ZO C ow2 a) (fun a z => z.elim .inl (ev.zo a)) fun a z => .inl (R1.cz a z)).less fun a z => .inr z
        split at e2
        · rename_i ρ3 e3
          refine ⟨ow2, ρ2, S2, d, ρ3, R3, rx, e3, fun σ3 R4 _ => ?_⟩
          split at e2
          · rename_i ρ4 S4 e4
            exact ⟨ow2, ρ3, S2, _, R4, e4, fun σ' H' ow' R' ev' => ⟨ow', ρ4, S4, R', ev3.trans ev', e2⟩⟩
          · rename_i ρ4 S4 e4
            exact ⟨ow2, ρ3, S2, _, R4, e4, fun σ' H' ow' R' ev' => ⟨ow', ρ4, S4, R', ev3.trans ev', e2⟩⟩
          · rename_i ρ4 S4 e4
            cases e2
            exact ⟨ow2, ρ3, S2, _, R4, e4, fun σ' H' ow' R' ev' => k σ' H' ow' R' (ev3.trans ev')⟩
          · rename_i v S4 e4
            cases e2
            exact ⟨ow2, ρ3, S2, _, R4, e4, k⟩
          · cases e2
        · cases e2
      · have hie : i = ds.length := by omega
        subst hie
        rw [List.drop_length, forL] at e2
        cases e2
        exact .inl ⟨(W _ H2 ev.kp).2 (Nat.le_refl _), k σ2 H2 ow2 R2 ev⟩
    · cases e
def gWh (t : FB) (g : FS) : Nat → FS
  | 0 => fun _ _ => none
  | n + 1 => fun ρ S => match t ρ S with
    | some (true, S1) => (match g ρ S1 with
      | some (.nx ρ2 S2) => gWh t g n ρ2 S2
      | some (.ct ρ2 S2) => gWh t g n ρ2 S2
      | some (.bk ρ2 S2) => some (.nx ρ2 S2)
      | some (.rt v S2) => some (.rt v S2)
      | none => none)
    | some (false, S1) => some (.nx ρ S1)
    | none => none
theorem p_while {c : Expr} {body : List Stmt} {pos : Pos} {t : FB} {g : FS} (n : Nat) (hp : PassesOwn (model X.prog X.w) X.A X.env X.xe) (hc : PT X c (tB C kd t)) (hb : PSs X body (tP C kd kd kd g)) : PS X (.While c body [] pos) (tP C kb kd kd (gWh t g n)) :=
  PS_imp (ps_while hp hc hb) fun Dn σ H ⟨ow, ρ, S, o, R, e, k⟩ => by
    refine ⟨fun m σ' H' => ∃ ow2 ρ2 S2, Rel C kd ow2 σ' ρ2 S2 H' ∧ Ev C ow H ow2 H' ∧ gWh t g m ρ2 S2 = some o, ⟨n, ow, ρ, S, R, .refl, e⟩, ?_⟩
    rintro m σ2 H2 ⟨ow2, ρ2, S2, R2, ev, e2⟩
    cases m with
    | zero => cases e2
    | succ m =>
      rw [gWh] at e2
      dsimp only at e2
      split at e2
      · rename_i S3 e3
        refine ⟨ow2, ρ2, S2, true, S3, R2, e3, fun H3 k3 s3 => ?_⟩
        refine iteT ?_
        have R3 := R2.step k3 s3
        have ev3 := ev.trans (R2.ev k3 s3)
        refine ⟨fun σ' H' => ∃ ow4 ρ4 S4, Rel C kd ow4 σ' ρ4 S4 H' ∧ Ev C ow H ow4 H' ∧ gWh t g m ρ4 S4 = some o, fun σ' H' hN => ⟨m, Nat.lt_succ_self _, hN⟩, ?_⟩
        split at e2
        · rename_i ρ4 S4 e4
          exact ⟨ow2, ρ2, S3, _, R3, e4, fun σ' H' ow' R' ev' => ⟨ow', ρ4, S4, R', ev3.trans ev', e2⟩⟩
        · rename_i ρ4 S4 e4
          exact ⟨ow2, ρ2, S3, _, R3, e4, fun σ' H' ow' R' ev' => ⟨ow', ρ4, S4, R', ev3.trans ev', e2⟩⟩
        · rename_i ρ4 S4 e4
          cases e2
          exact ⟨ow2, ρ2, S3, _, R3, e4, fun σ' H' ow' R' ev' => k σ' H' ow' R' (ev3.trans ev')⟩
        · rename_i v S4 e4
          cases e2
          exact ⟨ow2, ρ2, S3, _, R3, e4, k⟩
        · cases e2
      · rename_i S3 e3
        cases e2
        refine ⟨ow2, ρ2, S2, false, S3, R2, e3, fun H3 k3 s3 => ?_⟩
        refine iteF ?_
        exact k σ2 H3 ow2 (R2.step k3 s3) (ev.trans (R2.ev k3 s3))
      · cases e2
/-! ### a slot's own list is changed -/
/-- the own list or dict of slot i is put otherwise -/
theorem Rel.put (R : Rel C kd ow σ ρ S H) {i : Nat} {a : Addr} {o : HO} (hk : kd i = true) (ha : ow.sl i = some a) (hσ : σ[i]? = some (some (.ref a))) (ho : Mut (some o)) (hs : Sh C ow (upd H a o) d a) : Rel C kd ow σ (ρ.set i (some d)) S (upd H a o) ∧ Ev C ow H ow (upd H a o) ∧ Kp (ZO C ow) H (upd H a o) := by
  have hown : Own ow a := .inl ⟨i, ha⟩
  have m := (R.new a hown).2
  have kz : Kp (chg C ow) H (upd H a o) := Kp.wr (.inr ⟨i, ha⟩) (fun xs z => by rw [z] at m; exact m) fun o' u z => by rw [z] at m; exact m
  have kzo := kz.mono R.cz
  have nf : ¬ C.foot a := R.nf hown
  have hb : ∀ b, C.H0 b ≠ none → b ≠ a := fun b z q => z (by rw [q]; exact (R.new a hown).1)
  refine ⟨⟨R.dom, R.ft, ⟨fun b o' e n => ?_, fun b xs e => ?_, fun b o' u e => ?_⟩, ?_, by rw [List.length_set]; exact R.len, fun p hp => ?_, fun j e h1 h2 => ?_, fun j e h1 h2 => ?_, R.inj, R.dj, fun b z => ⟨(R.new b z).1, ?_⟩⟩, ⟨kz, fun b h => ?_, fun j b e _ => ⟨j, e⟩, fun _ => Iff.rfl⟩, kzo⟩
  · rw [upd_ne (hb b (by rw [e]; exact fun z => nomatch z))]
    exact R.base.ob b o' e n
  · rw [upd_ne (hb b (by rw [e]; exact fun z => nomatch z))]
    exact R.base.tp b xs e
  · rw [upd_ne (hb b (by rw [e]; exact fun z => nomatch z))]
    exact R.base.fz b o' u e
  · have s := R.src
    unfold SrcOk at s ⊢
    unfold Cf.foot at nf
    cases q : C.src with
    | none => trivial
    | some p' =>
      rw [q] at s nf
      obtain ⟨n0, h1, h2, h3⟩ := s
      exact ⟨n0, by rw [upd_ne fun z => nf (.inl z.symm)]; exact h1, by rw [upd_ne fun z => nf (.inr z.symm)]; exact h2, h3⟩
  · obtain ⟨q1, q2⟩ := R.sr p hp
    refine ⟨q1, ?_⟩
    by_cases h0 : i = C.sx
    · subst h0
      rw [q1] at hσ
      cases hσ
      exact absurd (by unfold Cf.foot; rw [hp]; exact .inl rfl) nf
    · rw [List.getElem?_set_ne h0]; exact q2
  · have hj : i ≠ j := fun z => by rw [← z, hk] at h1; cases h1
    rw [List.getElem?_set_ne hj] at h2
    obtain ⟨v, q, r⟩ := R.cl j e h1 h2
    exact ⟨v, q, r.kp kzo⟩
  · by_cases hj : i = j
    · subst hj
      have hl : i < ρ.length := by
        rw [List.getElem?_set] at h2
        simp only [if_true] at h2
        split at h2
        · assumption
        · cases h2
      rw [List.getElem?_set_self hl] at h2
      cases h2
      exact ⟨a, ha, hσ, hs⟩
    · rw [List.getElem?_set_ne hj] at h2
      obtain ⟨b, q1, q2, r⟩ := R.own j e h1 h2
      have nb : b ≠ a := fun z => hj (R.inj i j a ha (by rw [← z]; exact q1))
      exact ⟨b, q1, q2, r.kp kzo (fun _ z => z) fun o' z => by rw [upd_ne nb]; exact z⟩
  · by_cases q : b = a
    · rw [q, upd_same]; exact ho
    · rw [upd_ne q]; exact (R.new b z).2
  · by_cases q : b = a
    · rw [q, upd_same]; exact fun z => nomatch z
    · rw [upd_ne q]; exact h
def gApp (i : Nat) (f : FE) : FS := fun ρ S => match f ρ S with
  | some (d, S1) => (match ρ[i]? with
    | some (some (.list ds)) => if ds.length < sizeLine then some (.nx (ρ.set i (some (.list (ds ++ [d])))) S1) else none
    | _ => none)
  | none => none
/-- x.append(e) -/
theorem p_app {s : Stmt} {i : Nat} {f : FE} (h : PS X s (tDrop (tBM X.K "list" rAppend (tVar i) (tCons (tX C kd f) tNil)))) (hk : kd i = true := by rfl) : PS X s (tP C kb kd kd (gApp i f)) :=
  PS_imp h fun Dn σ H ⟨ow, ρ, S, o, R, e, k⟩ => by
    unfold gApp at e
    split at e
    · rename_i d S1 e1
      split at e
      · rename_i ds e2
        split at e
        · rename_i hz
          cases e
          obtain ⟨a, q1, q2, vs, q3, q4⟩ := R.own i _ hk e2
          refine ⟨.ref a, q2, .inl ⟨rfl, vs, .of q3⟩, ow, ρ, S, d, S1, R, e1, fun v H1 k1 s1 r1 => ?_⟩
          have R1 := R.step k1 s1
          have nf := R.nf (.inl ⟨i, q1⟩)
          have q3' := k1.ob _ _ q3 nf
          have hl := RepL.len q4
          refine ⟨a, vs, v, rfl, rfl, q3', by rw [hl]; exact hz, ?_⟩
          have kz : Kp (ZO C ow) H1 (upd H1 a (.lst (vs ++ [v]))) := Kp.wr (.inr (.inl ⟨i, q1⟩)) (fun xs z => by rw [q3'] at z; cases z) fun o u z => by rw [q3'] at z; cases z
          obtain ⟨R2, ev, _⟩ := R1.put (d := .list (ds ++ [d])) hk q1 q2 (o := .lst (vs ++ [v])) trivial ⟨_, upd_same, ((q4.kp (k1.mono R.fz)).app (.cons r1 .nil)).kp kz⟩
          exact k _ _ ow R2 ((R.ev k1 s1).trans ev)
        · cases e
      · cases e
    · cases e
end
end TL

set_option Elab.async false
set_option linter.all false
set_option maxRecDepth 100000
set_option maxHeartbeats 4000000
namespace TL
open PySem PySem.Spec PyProof.Rows L2

/-! ### dicts -/
def keyOf : D → Option Key
  | .int i => some (.inl i)
  | .str x => some (.inr x)
  | _ => none
def keysOf : List D → Option (List Key)
  | [] => some []
  | d :: ds => match keyOf d, keysOf ds with
    | some k, some ks => some (k :: ks)
    | _, _ => none
def isT : List (D × D) → Bool
  | (.none, _) :: _ => true
  | _ => false
def okKey (kvs : List (D × D)) (k : D) : Bool := if isT kvs = true then (match k with
  | .tuple ds => (keysOf ds).isSome
  | _ => false) else (keyOf k).isSome
def lookD (kvs : List (D × D)) (k : D) : Option D := (kvs.find? fun p => PyData.eqv p.1 k).map (·.2)
def putD (kvs : List (D × D)) (k v : D) : List (D × D) := if (kvs.any fun p => PyData.eqv p.1 k) = true then kvs.map (fun p => if PyData.eqv p.1 k = true then (p.1, v) else p) else kvs ++ [(k, v)]
theorem keyOf_is {d : D} {k : Key} (h : keyOf d = some k) : d = keyD k := by
  cases d <;> first | (cases h; done) | (cases h; rfl)
theorem keysOf_is : ∀ {ds : List D} {ks : List Key}, keysOf ds = some ks → ds = ks.map keyD
  | [], _, h => by cases h; rfl
  | d :: ds, ks, h => by
    rw [keysOf] at h
    split at h
    · rename_i k ks' e1 e2
      cases h
      rw [keyOf_is e1, keysOf_is e2]
      rfl
    · cases h
theorem eqv_key (a b : Key) : PyData.eqv (keyD a) (keyD b) = decide (a = b) := by
  cases a <;> cases b <;> simp [keyD, PyData.eqv] <;> (rw [Bool.eq_iff_iff]; simp)
theorem eqv_keys : ∀ a b : List Key, PyData.eqvAll (a.map keyD) (b.map keyD) = decide (a = b)
  | [], [] => by simp [PyData.eqvAll]
  | [], _ :: _ => by simp [PyData.eqvAll]
  | _ :: _, [] => by simp [PyData.eqvAll]
  | a :: as, b :: bs => by
    rw [List.map_cons, List.map_cons, PyData.eqvAll, eqv_key, eqv_keys as bs]
    by_cases h : a = b <;> by_cases h2 : as = bs <;> simp [h, h2]
theorem eqv_tkey (a b : List Key) : PyData.eqv (tkeyD a) (tkeyD b) = decide (a = b) := by
  unfold tkeyD
  rw [PyData.eqv, eqv_keys]
theorem eqv_none (a : List Key) : PyData.eqv .none (tkeyD a) = false := by
  unfold tkeyD
  rw [PyData.eqv] <;> simp
section
variable {H : Hp} {Z : Zn} {κ : Type} [DecidableEq κ] {enc : κ → D}
/-- what is found at a key -/
theorem look_val (he : ∀ a b, PyData.eqv (enc a) (enc b) = decide (a = b)) : ∀ {kvs : List (D × D)} {kk : List κ} {vs : List V} (k : κ), kvs.map (·.1) = kk.map enc → RepV H Z kvs vs →
    (match lookD kvs (enc k), valV (kk.zip vs) k with
      | some d, some v => Rep H Z d v
      | none, none => True
      | _, _ => False) ∧ (kvs.any fun p => PyData.eqv p.1 (enc k)) = (valV (kk.zip vs) k).isSome
  | [], kk, vs, k, e, r => by
    have : kk = [] := by
      cases kk with
      | nil => rfl
      | cons a b => simp at e
    subst this
    simp [lookD, valV]
  | (kd, d) :: kvs, kk, vs, k, e, r => by
    cases kk with
    | nil => simp at e
    | cons a kk =>
      rw [List.map_cons, List.map_cons, List.cons.injEq] at e
      rw [RepV] at r
      obtain ⟨w, ws, rfl, r1, r2⟩ := r
      obtain ⟨ih1, ih2⟩ := look_val he (kvs := kvs) (kk := kk) (vs := ws) k e.2 r2
      have e1 : kd = enc a := e.1
      subst e1
      rw [List.zip_cons_cons]
      by_cases h : a = k
      · subst h
        rw [valV_pos rfl]
        simp only [lookD, List.find?_cons, he, decide_true, Option.map_some, List.any_cons, Bool.true_or, Option.isSome_some, and_true]
        exact r1
      · rw [valV_neg h]
        simp only [lookD, List.find?_cons, he, decide_eq_false h, List.any_cons, Bool.false_or]
        exact ⟨ih1, ih2⟩
theorem RepV.len : ∀ {kvs : List (D × D)} {vs : List V}, RepV H Z kvs vs → vs.length = kvs.length
  | [], vs, r => by rw [RepV] at r; rw [r]; rfl
  | (_, _) :: kvs, vs, r => by
    rw [RepV] at r
    obtain ⟨w, ws, rfl, _, r2⟩ := r
    rw [List.length_cons, List.length_cons, RepV.len r2]
theorem RepV.app : ∀ {kvs : List (D × D)} {vs : List V} {k d : D} {v : V}, RepV H Z kvs vs → Rep H Z d v → RepV H Z (kvs ++ [(k, d)]) (vs ++ [v])
  | [], vs, k, d, v, r, rd => by
    rw [RepV] at r
    subst r
    show RepV H Z [(k, d)] [v]
    rw [RepV]
    exact ⟨v, [], rfl, rd, by rw [RepV]⟩
  | (k0, d0) :: kvs, vs, k, d, v, r, rd => by
    rw [RepV] at r
    obtain ⟨w, ws, rfl, r1, r2⟩ := r
    show RepV H Z ((k0, d0) :: (kvs ++ [(k, d)])) (w :: (ws ++ [v]))
    rw [RepV]
    exact ⟨w, _, rfl, r1, RepV.app r2 rd⟩
theorem put_map (he : ∀ a b, PyData.eqv (enc a) (enc b) = decide (a = b)) (k : κ) {d : D} {v : V} (rd : Rep H Z d v) : ∀ {kvs : List (D × D)} {kk : List κ} {vs : List V}, kvs.map (·.1) = kk.map enc → RepV H Z kvs vs →
    RepV H Z (kvs.map fun p => if PyData.eqv p.1 (enc k) = true then (p.1, d) else p) ((kk.zip vs).map fun q => if q.1 = k then v else q.2) ∧
    ((kk.zip vs).map fun q => if q.1 = k then (q.1, v) else q) = kk.zip ((kk.zip vs).map fun q => if q.1 = k then v else q.2)
  | [], kk, vs, e, r => by
    have : kk = [] := by
      cases kk with
      | nil => rfl
      | cons a b => simp at e
    subst this
    exact ⟨by simp [RepV], rfl⟩
  | (pk, pd) :: kvs, kk, vs, e, r => by
    cases kk with
    | nil => simp at e
    | cons a kk =>
      rw [List.map_cons, List.map_cons, List.cons.injEq] at e
      rw [RepV] at r
      obtain ⟨w, ws, rfl, r1, r2⟩ := r
      obtain ⟨ih1, ih2⟩ := put_map he k rd (kvs := kvs) (kk := kk) (vs := ws) e.2 r2
      have e1 : pk = enc a := e.1
      subst e1
      rw [List.zip_cons_cons, List.map_cons, List.map_cons, List.map_cons, List.zip_cons_cons, ih2]
      refine ⟨?_, ?_⟩
      · show RepV H Z ((if PyData.eqv (enc a) (enc k) = true then (enc a, d) else (enc a, pd)) :: _) _
        rw [he]
        by_cases h : a = k
        · simp only [h, decide_true, if_true]
          rw [RepV]
          exact ⟨v, _, rfl, rd, by subst h; exact ih1⟩
        · simp only [h, decide_false, Bool.false_eq_true, if_false]
          rw [RepV]
          exact ⟨w, _, rfl, r1, ih1⟩
      · by_cases h : a = k <;> simp [h]
theorem put_val (he : ∀ a b, PyData.eqv (enc a) (enc b) = decide (a = b)) {kvs : List (D × D)} {kk : List κ} {vs : List V} (k : κ) {d : D} {v : V} (e : kvs.map (·.1) = kk.map enc) (hl : kk.length = vs.length) (r : RepV H Z kvs vs) (rd : Rep H Z d v) :
    ∃ (kk' : List κ) (vs' : List V), (putD kvs (enc k) d).map (·.1) = kk'.map enc ∧ RepV H Z (putD kvs (enc k) d) vs' ∧ kk'.length = vs'.length ∧ putK (kk.zip vs) k v = kk'.zip vs' := by
  have hany := (look_val he k e r).2
  rw [← valV_any] at hany
  unfold putD putK
  rw [hany]
  split
  · obtain ⟨h1, h2⟩ := put_map he k rd e r
    refine ⟨kk, _, ?_, h1, ?_, h2⟩
    · rw [List.map_map, ← e]
      apply List.map_congr_left
      intro p _
      show (if _ then _ else _ : D × D).1 = p.1
      split <;> rfl
    · rw [List.length_map, List.length_zip]
      omega
  · refine ⟨kk ++ [k], vs ++ [v], by rw [List.map_append, e, List.map_append]; rfl, RepV.app r rd, by rw [List.length_append, List.length_append, hl]; rfl, ?_⟩
    rw [List.zip_append hl]
    rfl
end
/-- None ahead changes nothing -/
theorem lookD_T {kvs : List (D × D)} {v : D} {k : List Key} : lookD ((.none, v) :: kvs) (tkeyD k) = lookD kvs (tkeyD k) := by
  unfold lookD
  rw [List.find?_cons]
  simp only [eqv_none]
theorem any_T {kvs : List (D × D)} {v : D} {k : List Key} : (((.none, v) :: kvs).any fun p => PyData.eqv p.1 (tkeyD k)) = kvs.any fun p => PyData.eqv p.1 (tkeyD k) := by
  rw [List.any_cons]
  simp only [eqv_none, Bool.false_or]
theorem putD_T {kvs : List (D × D)} {v d : D} {k : List Key} : putD ((.none, v) :: kvs) (tkeyD k) d = (.none, v) :: putD kvs (tkeyD k) d := by
  unfold putD
  rw [any_T]
  split
  · rw [List.map_cons]
    simp only [eqv_none, Bool.false_eq_true, if_false]
  · rfl
theorem keys_rep {H : Hp} {Z : Zn} : ∀ {ks : List Key} {vs : List V}, RepL H Z (ks.map keyD) vs → vs = ks.map kV
  | [], vs, r => by
    rw [List.map_nil, RepL] at r
    exact r
  | k :: ks, vs, r => by
    rw [List.map_cons, RepL] at r
    obtain ⟨w, ws, rfl, r1, r2⟩ := r
    rw [keys_rep r2, List.map_cons]
    cases k <;> (rw [keyD, Rep] at r1; rw [r1]; rfl)
section
variable {C : Cf} {ow : Ow} {H : Hp} {kvs : List (D × D)} {k : D} {v y : V} {a : Addr} {vs : List V} {Z : Zn}
theorem isT_K {kk : List Key} (h : kvs.map (·.1) = kk.map keyD) : isT kvs = false := by
  cases kvs with
  | nil => rfl
  | cons p kvs =>
    obtain ⟨pk, pd⟩ := p
    cases kk with
    | nil => simp at h
    | cons x kk =>
      rw [List.map_cons, List.map_cons, List.cons.injEq] at h
      have e : pk = keyD x := h.1
      subst e
      cases x <;> rfl
/-- what the dict holds at a key -/
theorem dic_get (hd : DicAt H a (kvs.map (·.1)) vs) (r : RepV H Z kvs vs) (hk : RepS C ow H k y) (ok : okKey kvs k = true) :
    ∃ o, DGet H a y o ∧ (kvs.any fun p => PyData.eqv p.1 k) = o.isSome ∧ ∀ d, lookD kvs k = some d → ∃ v, o = some v ∧ Rep H Z d v := by
  rcases hd with ⟨kk, e1, e2, e3⟩ | ⟨kk, e1, e2, e3⟩
  · unfold okKey at ok
    rw [isT_K e1, if_neg Bool.false_ne_true] at ok
    obtain ⟨ky, hky⟩ := Option.isSome_iff_exists.mp ok
    have e := keyOf_is hky
    subst e
    have ey : y = kV ky := by
      cases ky with
      | inl i => exact hk.int
      | inr x => exact hk.str
    subst ey
    obtain ⟨h1, h2⟩ := look_val eqv_key ky e1 r
    refine ⟨_, .k e3, h2, fun d hd => ?_⟩
    rw [hd] at h1
    cases q : valV (kk.zip vs) ky with
    | none => rw [q] at h1; exact h1.elim
    | some v => rw [q] at h1; exact ⟨v, rfl, h1⟩
  · cases kvs with
    | nil => simp at e1
    | cons p kvs =>
      obtain ⟨pk, pd⟩ := p
      rw [List.map_cons, List.cons.injEq] at e1
      have e : pk = .none := e1.1
      subst e
      rw [RepV] at r
      obtain ⟨w, ws, rfl, r1, r2⟩ := r
      unfold okKey isT at ok
      rw [if_pos rfl] at ok
      split at ok
      · rename_i ds
        obtain ⟨ks, hks⟩ := Option.isSome_iff_exists.mp ok
        have e := keysOf_is hks
        subst e
        obtain ⟨b, us, rfl, hb, rb⟩ := hk.tup
        rw [keys_rep rb] at hb
        obtain ⟨h1, h2⟩ := look_val eqv_tkey ks e1.2 r2
        have e3' : H a = some (.dT (kk.zip ws)) := e3
        refine ⟨_, .t e3' hb, by rw [show PyData.tuple (ks.map keyD) = tkeyD ks from rfl, any_T]; exact h2, fun d hd => ?_⟩
        rw [show PyData.tuple (ks.map keyD) = tkeyD ks from rfl, lookD_T] at hd
        rw [hd] at h1
        cases q : valV (kk.zip ws) ks with
        | none => rw [q] at h1; exact h1.elim
        | some v => rw [q] at h1; exact ⟨v, rfl, h1⟩
      · cases ok
/-- the dict behind a store -/
theorem dic_put {d : D} (hd : DicAt H a (kvs.map (·.1)) vs) (r : RepV H Z kvs vs) (hk : RepS C ow H k y) (ok : okKey kvs k = true) (rd : Rep H Z d v) (hz : kvs.length < sizeLine) :
    ∃ o, Mut (some o) ∧ DPut H a y v (upd H a o) ∧ ∃ vs', DicAt (upd H a o) a ((putD kvs k d).map (·.1)) vs' ∧ RepV H Z (putD kvs k d) vs' := by
  rcases hd with ⟨kk, e1, e2, e3⟩ | ⟨kk, e1, e2, e3⟩
  · unfold okKey at ok
    rw [isT_K e1, if_neg Bool.false_ne_true] at ok
    obtain ⟨ky, hky⟩ := Option.isSome_iff_exists.mp ok
    have e := keyOf_is hky
    subst e
    have ey : y = kV ky := by
      cases ky with
      | inl i => exact hk.int
      | inr x => exact hk.str
    subst ey
    obtain ⟨kk', vs', h1, h2, h3, h4⟩ := put_val eqv_key ky e1 e2 r rd
    refine ⟨.dK (putK (kk.zip vs) ky v), trivial, .k e3 ?_, vs', .inl ⟨kk', h1, h3, by rw [upd_same, h4]⟩, h2⟩
    rw [List.length_zip, e2, Nat.min_self, RepV.len r]
    exact hz
  · cases kvs with
    | nil => simp at e1
    | cons p kvs =>
      obtain ⟨pk, pd⟩ := p
      rw [List.map_cons, List.cons.injEq] at e1
      have e : pk = .none := e1.1
      subst e
      rw [RepV] at r
      obtain ⟨w, ws, rfl, r1, r2⟩ := r
      unfold okKey isT at ok
      rw [if_pos rfl] at ok
      split at ok
      · rename_i ds
        obtain ⟨ks, hks⟩ := Option.isSome_iff_exists.mp ok
        have e := keysOf_is hks
        subst e
        obtain ⟨b, us, rfl, hb, rb⟩ := hk.tup
        rw [keys_rep rb] at hb
        have hl : kk.length = ws.length := by simpa using e2
        obtain ⟨kk', vs', h1, h2, h3, h4⟩ := put_val eqv_tkey ks e1.2 hl r2 rd
        have e3' : H a = some (.dT (kk.zip ws)) := e3
        refine ⟨.dT (putK (kk.zip ws) ks v), trivial, .t e3' hb ?_, w :: vs', .inr ⟨kk', ?_, by rw [List.length_cons, h3], by rw [upd_same, h4]; rfl⟩, ?_⟩
        · rw [List.length_zip, hl, Nat.min_self, RepV.len r2]
          rw [List.length_cons] at hz
          omega
        · rw [show PyData.tuple (ks.map keyD) = tkeyD ks from rfl, putD_T, List.map_cons, h1]
        · rw [show PyData.tuple (ks.map keyD) = tkeyD ks from rfl, putD_T, RepV]
          exact ⟨w, vs', rfl, r1, h2⟩
      · cases ok
end
def dInD (a b : D) : Option D := match b with
  | .dict kvs => if okKey kvs a = true then some (.bool (kvs.any fun p => PyData.eqv p.1 a)) else none
  | _ => dIn a b
def dNotInD (a b : D) : Option D := match b with
  | .dict kvs => if okKey kvs a = true then some (.bool (!kvs.any fun p => PyData.eqv p.1 a)) else none
  | _ => dNotIn a b
def dGet (a b : D) : Option D := match a with
  | .dict kvs => if okKey kvs b = true then lookD kvs b else none
  | _ => none
section
variable {X : Cx}
theorem o_inD (hu : X.A.units + 64 < cLine) : OpR X (compareOp .In) (rT true dInD) := by
  intro pins s σ H x y v u Q I rx ry ⟨C, ow, a, b, d, fz, ha, hb, e, q⟩
  unfold dInD at e
  split at e
  · split at e
    · rename_i ok
      cases e
      obtain ⟨p, vs, rfl, hd, _, r⟩ := hb.dic
      obtain ⟨o, g, h1, _⟩ := dic_get hd r ha ok
      cases ry
      exact d_in (by omega) I g rx fun s' I' => ⟨.bl o.isSome, H, I', rfl, q.atom (by rw [h1, Rep])⟩
    · cases e
  · exact o_in hu pins s σ H x y v u Q I rx ry ⟨C, ow, a, _, d, fz, ha, hb, e, q⟩
theorem o_notinD (hu : X.A.units + 64 < cLine) : OpR X (compareOp .NotIn) (rT true dNotInD) := by
  intro pins s σ H x y v u Q I rx ry ⟨C, ow, a, b, d, fz, ha, hb, e, q⟩
  unfold dNotInD at e
  split at e
  · split at e
    · rename_i ok
      cases e
      obtain ⟨p, vs, rfl, hd, _, r⟩ := hb.dic
      obtain ⟨o, g, h1, _⟩ := dic_get hd r ha ok
      cases ry
      exact d_notIn (by omega) I g rx fun s' I' => ⟨.bl (!o.isSome), H, I', rfl, q.atom (by rw [h1, Rep])⟩
    · cases e
  · exact o_notin hu pins s σ H x y v u Q I rx ry ⟨C, ow, a, _, d, fz, ha, hb, e, q⟩
variable {C : Cf} {kb kd : Nat → Bool}
theorem x_get {o i : Expr} {pos : Pos} {fa fb : FE} (hu : X.A.units + 64 < cLine) (ho : PE X o (tS C kd fa)) (hi : PE X i (tS C kd fb)) (hs : NoSl i) : PE X (.Subscript o i pos) (tX C kd (b2 dGet fa fb)) :=
  PE_imp (pe_dget (by omega) ho hi hs) fun σ H Q ⟨ow, ρ, S, d, S', R, e, k⟩ => by
    obtain ⟨x, S1, y, e1, e2, e3⟩ := b2_of e
    refine ⟨ow, ρ, S, x, S1, R, e1, fun vx H1 k1 s1 r1 => ⟨ow, ρ, S1, y, S', R.step k1 s1, e2, fun vy H2 k2 s2 r2 => ?_⟩⟩
    have r1 := r1.kp (R.step k1 s1) k2
    unfold dGet at e3
    split at e3
    · split at e3
      · rename_i ok
        obtain ⟨p, vs, rfl, hd, _, r⟩ := r1.dic
        obtain ⟨o, g, _, h2⟩ := dic_get hd r r2 ok
        obtain ⟨v, rfl, rv⟩ := h2 d e3
        exact ⟨p, v, rfl, g, k v H2 (k1.trans k2) s2 rv⟩
      · cases e3
    · cases e3
def newK : FE := fun _ S => some (.dict [], S)
def newT : FE := fun _ S => some (.dict [(.none, .none)], S)
theorem x_newK {pos : Pos} : PE X (.Dict [] [] pos) (tF C kd newK) := PE_imp pe_dnewK fun σ H Q ⟨ow, ρ, S, d, S', R, e, k⟩ => by
  cases e
  intro p hp
  have hd : DicAt (upd H p (.dK [])) p [] [] := .inl ⟨[], rfl, rfl, upd_same⟩
  refine k _ _ (.upd hp) (R.src.upd hp) ?_ fun _ => ⟨p, rfl, hp, [], hd, by rw [RepV]⟩
  rw [Rep]
  exact ⟨p, [], rfl, hd, R.fresh hp, by rw [RepV]⟩
theorem x_newT {pos : Pos} : PE X (.Dict [] [] pos) (tF C kd newT) := PE_imp pe_dnewT fun σ H Q ⟨ow, ρ, S, d, S', R, e, k⟩ => by
  cases e
  intro p hp
  have hd : DicAt (upd H p (.dT [])) p [.none] [.non] := .inr ⟨[], rfl, rfl, upd_same⟩
  have one : ∀ {Z : Zn}, RepV (upd H p (.dT [])) Z [(.none, .none)] [.non] := fun {Z} => by
    rw [RepV]
    exact ⟨.non, [], rfl, by rw [Rep], by rw [RepV]⟩
  refine k _ _ (.upd hp) (R.src.upd hp) ?_ fun _ => ⟨p, rfl, hp, [.non], hd, one⟩
  rw [Rep]
  exact ⟨p, [.non], rfl, hd, R.fresh hp, one⟩
end
end TL

set_option Elab.async false
set_option linter.all false
set_option maxRecDepth 100000
set_option maxHeartbeats 4000000
namespace TL
open PySem PySem.Spec PyProof.Rows L2

section
variable {X : Cx} {C : Cf} {kb kd kd' : Nat → Bool} {ow ow' : Ow} {σ : L2.St} {ρ : Rho} {S S' : Src} {H H' : Hp} {d : D} {v : V}
/-! ### stores into an own dict -/
def putAt (i : Nat) (k d : D) (ρ : Rho) : Option Rho := match ρ[i]? with
  | some (some (.dict kvs)) => if okKey kvs k = true ∧ kvs.length < sizeLine then some (ρ.set i (some (.dict (putD kvs k d)))) else none
  | _ => none
def setDic : TSet := fun o i v H Q => ∃ a H', o = .ref a ∧ DPut H a i v H' ∧ Q H'
theorem pset_dic (hu : X.A.units + 64 < cLine) : PSet X setDic := by
  intro pins s σ H o i v ov iv u Q I ro ri rv ⟨a, H', e, g, q⟩
  subst e
  cases ro
  exact d_setItem (by omega) I g ri rv fun s' I' => ⟨H', I', q⟩
/-- the store itself -/
theorem Rel.putK (R : Rel C kd ow σ ρ S H) {i : Nat} {k : D} {y : V} {ρ' : Rho} (hk : kd i = true) (hy : RepS C ow H k y) (hv : Rep H (ZO C ow) d v) (e : putAt i k d ρ = some ρ') :
    ∃ a H', σ[i]? = some (some (.ref a)) ∧ DPut H a y v H' ∧ Rel C kd ow σ ρ' S H' ∧ Ev C ow H ow H' := by
  unfold putAt at e
  split at e
  · rename_i kvs e2
    split at e
    · rename_i hz
      cases e
      obtain ⟨a, q1, q2, vs, q3, q4⟩ := R.own i _ hk e2
      obtain ⟨o, mo, g, vs', h1, h2⟩ := dic_put q3 q4 hy hz.1 hv hz.2
      have kz : Kp (ZO C ow) H (upd H a o) := by
        have m := (R.new a (.inl ⟨i, q1⟩)).2
        exact Kp.wr (.inr (.inl ⟨i, q1⟩)) (fun xs z => by rw [z] at m; exact m) fun o' u z => by rw [z] at m; exact m
      obtain ⟨R2, ev, _⟩ := R.put (d := .dict (putD kvs k d)) hk q1 q2 mo ⟨vs', h1, h2.kp kz⟩
      exact ⟨a, _, q2, g, R2, ev⟩
    · cases e
  · cases e
theorem Rel.ownAt (R : Rel C kd ow σ ρ S H) {i : Nat} {k : D} {ρ' : Rho} (hk : kd i = true) (e : putAt i k d ρ = some ρ') : ∃ a, σ[i]? = some (some (.ref a)) := by
  unfold putAt at e
  split at e
  · rename_i kvs e2
    obtain ⟨a, _, q2, _⟩ := R.own i _ hk e2
    exact ⟨a, q2⟩
  · cases e
def gPutK (i : Nat) (fk fv : FE) : FS := fun ρ S => match fv ρ S with
  | some (d, S1) => (match fk ρ S1 with
    | some (k, S2) => (match putAt i k d ρ with
      | some ρ' => some (.nx ρ' S2)
      | none => none)
    | none => none)
  | none => none
/-- d[k] = v -/
theorem p_put {s : Stmt} {i : Nat} {fk fv : FE} (h : PS X s (sDPut (tVar i) (tS C kd fk) (tX C kd fv))) (hk : kd i = true := by rfl) : PS X s (tP C kb kd kd (gPutK i fk fv)) :=
  PS_imp h fun Dn σ H ⟨ow, ρ, S, o, R, e, q⟩ => by
    unfold gPutK at e
    split at e
    · rename_i d S1 e1
      split at e
      · rename_i k S2 e2
        split at e
        · rename_i ρ' e3
          cases e
          refine ⟨ow, ρ, S, d, S1, R, e1, fun v H1 k1 s1 r1 => ?_⟩
          have R1 := R.step k1 s1
          obtain ⟨a, q2⟩ := R1.ownAt hk e3
          refine ⟨.ref a, q2, ow, ρ, S1, k, S2, R1, e2, fun y H2 k2 s2 r2 => ?_⟩
          have R2 := R1.step k2 s2
          obtain ⟨a', H3, q3, g, R3, ev⟩ := R2.putK hk r2 (r1.kp (k2.mono R1.fz)) e3
          rw [q2] at q3
          cases q3
          exact ⟨a, H3, rfl, g, q _ H3 ow R3 ((R.ev (k1.trans k2) s2).trans ev)⟩
        · cases e
      · cases e
    · cases e
/-! ### targets that store -/
abbrev FM := D → Rho → Src → Option (Rho × Src)
abbrev FMs := List D → Rho → Src → Option (Rho × Src)
def tM (C : Cf) (kd : Nat → Bool) (st : FM) : TG := fun v σ H Q => ∃ ow ρ S d ρ' S', Rel C kd ow σ ρ S H ∧ Rep H (ZO C ow) d v ∧ st d ρ S = some (ρ', S') ∧ ∀ σ' H' ow', Rel C kd ow' σ' ρ' S' H' → Ev C ow H ow' H' → Q σ' H'
def tMs (C : Cf) (kd : Nat → Bool) (st : FMs) : TGs := fun vs σ H Q => ∃ ow ρ S ds ρ' S', Rel C kd ow σ ρ S H ∧ RepL H (ZO C ow) ds vs ∧ st ds ρ S = some (ρ', S') ∧ ∀ σ' H' ow', Rel C kd ow' σ' ρ' S' H' → Ev C ow H ow' H' → Q σ' H'
def mPut (i : Nat) (fk : FE) : FM := fun d ρ S => match fk ρ S with
  | some (k, S1) => (match putAt i k d ρ with
    | some ρ' => some (ρ', S1)
    | none => none)
  | none => none
def m0 : FMs := fun ds ρ S => match ds with
  | [] => some (ρ, S)
  | _ => none
def mC (f : FM) (g : FMs) : FMs := fun ds ρ S => match ds with
  | d :: ds => (match f d ρ S with
    | some (ρ1, S1) => g ds ρ1 S1
    | none => none)
  | [] => none
def mT (g : FMs) : FM := fun d ρ S => match d with
  | .tuple ds => g ds ρ S
  | _ => none
theorem mC_len {f : FM} {g : FMs} {n : Nat} (hg : ∀ ds ρ S r, g ds ρ S = some r → ds.length = n) : ∀ ds ρ S r, mC f g ds ρ S = some r → ds.length = n + 1 := fun ds ρ S r e => by
  unfold mC at e
  split at e
  · split at e
    · rw [List.length_cons, hg _ _ _ _ e]
    · cases e
  · cases e
theorem m0_len : ∀ ds ρ S r, m0 ds ρ S = some r → ds.length = 0 := fun ds ρ S r e => by
  unfold m0 at e
  split at e
  · rfl
  · cases e
theorem mg_put {tg : Expr} {i : Nat} {fk : FE} (h : PG X tg (gSub (tVar i) (tS C kd fk) setDic)) (hk : kd i = true := by rfl) : PG X tg (tM C kd (mPut i fk)) :=
  ⟨fun pins s σ H v u Q I r ⟨ow, ρ, S, d, ρ', S', R, rp, e, q⟩ => by
    unfold mPut at e
    split at e
    · rename_i k S1 e1
      split at e
      · rename_i ρ1 e2
        cases e
        obtain ⟨a, q2⟩ := R.ownAt hk e2
        refine h.run pins s σ H v u Q I r ⟨.ref a, q2, ow, ρ, S, k, _, R, e1, fun y H1 k1 s1 r1 => ?_⟩
        have R1 := R.step k1 s1
        obtain ⟨a', H2, q3, g, R2, ev⟩ := R1.putK hk r1 (rp.kp (k1.mono R.fz)) e2
        rw [q2] at q3
        cases q3
        exact ⟨a, H2, rfl, g, q _ H2 ow R2 ((R.ev k1 s1).trans ev)⟩
      · cases e
    · cases e⟩
theorem ms_nil : PGs X [] (tMs C kd m0) := ⟨fun pins s σ H vs us Q I r ⟨ow, ρ, S, ds, ρ', S', R, rp, e, k⟩ => by
  unfold m0 at e
  split at e
  · cases e
    rw [RepL] at rp
    exact pgs_nil.run pins s σ H vs us Q I r ⟨rp, k σ H ow R .refl⟩
  · cases e⟩
theorem RepL.ev (R : Rel C kd ow σ ρ S H) (e : Ev C ow H ow' H') : ∀ {ds : List D} {vs : List V}, RepL H (ZO C ow) ds vs → RepL H' (ZO C ow') ds vs
  | [], vs, r => by
    rw [RepL] at r ⊢
    exact r
  | d :: ds, vs, r => by
    rw [RepL] at r ⊢
    obtain ⟨w, ws, e1, r1, r2⟩ := r
    exact ⟨w, ws, e1, Ev.rep R e r1, RepL.ev R e r2⟩
theorem ms_cons {e : Expr} {es : List Expr} {f : FM} {g : FMs} (h1 : PG X e (tM C kd f)) (h2 : PGs X es (tMs C kd g))
    (hs : (assignEach (e :: es) X.env).map (·.2) = assign e X.env :: (assignEach es X.env).map (·.2) := by rfl) : PGs X (e :: es) (tMs C kd (mC f g)) :=
  ⟨fun pins s σ H vs us Q I r ⟨ow, ρ, S, ds, ρ', S', R, rp, e, k⟩ => by
    unfold mC at e
    split at e
    · rename_i d ds
      split at e
      · rename_i ρ1 S1 e1
        rw [RepL] at rp
        obtain ⟨w, ws, rfl, r1, r2⟩ := rp
        exact (pgs_cons h1 h2 hs).run pins s σ H _ us Q I r ⟨w, ws, rfl, ow, ρ, S, d, ρ1, S1, R, r1, e1, fun σ1 H1 ow1 R1 ev1 => ⟨ow1, ρ1, S1, ds, ρ', S', R1, RepL.ev R ev1 r2, e, fun σ2 H2 ow2 R2 ev2 => k σ2 H2 ow2 R2 (ev1.trans ev2)⟩⟩
      · cases e
    · cases e⟩
theorem mg_tup {es : List Expr} {k0 : Nat} {pos : Pos} {g : FMs} {n : Nat} (hc : X.calm = true) (h : PGs X es (tMs C kd g)) (hl : ∀ ds ρ S r, g ds ρ S = some r → ds.length = n)
    (hn : (assignEach es X.env).length = n := by rfl) (hst : (assignEach es X.env).findIdx? (·.1) = none := by rfl) : PG X (.Tuple es k0 pos) (tM C kd (mT g)) :=
  ⟨fun pins s σ H v u Q I r ⟨ow, ρ, S, d, ρ', S', R, rp, e, k⟩ => by
    unfold mT at e
    split at e
    · rename_i ds
      rw [Rep] at rp
      obtain ⟨a, vs, rfl, h1, r2⟩ := rp
      exact (pg_tup hc h hn hst).run pins s σ H _ u Q I r ⟨a, vs, rfl, .of h1, by rw [RepL.len r2]; exact hl _ _ _ _ e, ow, ρ, S, ds, ρ', S', R, r2, e, k⟩
    · cases e⟩
def gM (st : FM) (f : FE) : FS := fun ρ S => match f ρ S with
  | some (d, S1) => (match st d ρ S1 with
    | some (ρ1, S2) => some (.nx ρ1 S2)
    | none => none)
  | none => none
theorem p_m {s : Stmt} {st : FM} {f : FE} (h : PS X s (tAsg (tX C kd f) (tM C kd st))) : PS X s (tP C kb kd kd (gM st f)) :=
  PS_imp h fun Dn σ H ⟨ow, ρ, S, o, R, e, k⟩ => by
    unfold gM at e
    split at e
    · rename_i d S1 e1
      split at e
      · rename_i ρ1 S2 e2
        cases e
        refine ⟨ow, ρ, S, d, S1, R, e1, fun v H' k1 s1 r1 => ?_⟩
        exact ⟨ow, ρ, S1, d, ρ1, S2, R.step k1 s1, r1, e2, fun σ' H2 ow' R' ev => k σ' H2 ow' R' ((R.ev k1 s1).trans ev)⟩
      · cases e
    · cases e

/-! ### x.pop(e), x.pop(): the list is a def's own -/
abbrev FN := Rho → Src → Option (D × Rho × Src)
def tN (C : Cf) (kd : Nat → Bool) (f : FN) : TE := fun σ H Q => ∃ ow ρ S d ρ' S', Rel C kd ow σ ρ S H ∧ f ρ S = some (d, ρ', S') ∧ ∀ v H', Rel C kd ow σ ρ' S' H' → Ev C ow H ow H' → Rep H' (ZO C ow) d v → Q v H'
def nP (i : Nat) (f : FE) : FN := fun ρ S => match f ρ S with
  | some (.int j, S1) => (match ρ[i]? with
    | some (some (.list ds)) => if -(2 ^ 63) ≤ j ∧ j < 2 ^ 63 then (match seqIndex? j ds.length with
      | some k => (match ds[k]? with
        | some d => some (d, ρ.set i (some (.list (ds.eraseIdx k))), S1)
        | none => none)
      | none => none) else none
    | _ => none)
  | _ => none
theorem n_popAt {e : Expr} {i : Nat} {f : FE} (h : PE X e (tBM X.K "list" rPopAt (tVar i) (tCons (tS C kd f) tNil))) (hk : kd i = true := by rfl) : PE X e (tN C kd (nP i f)) :=
  PE_imp h fun σ H Q ⟨ow, ρ, S, d, ρ', S', R, e, q⟩ => by
    unfold nP at e
    split at e
    · rename_i j S1 e1
      split at e
      · rename_i ds e2
        split at e
        · rename_i hj
          split at e
          · rename_i k e3
            split at e
            · rename_i d' e4
              cases e
              obtain ⟨a, q1, q2, vs, q3, q4⟩ := R.own i _ hk e2
              refine ⟨.ref a, q2, .inl ⟨rfl, vs, .of q3⟩, ow, ρ, S, _, _, R, e1, fun v H1 k1 s1 r1 => ?_⟩
              have R1 := R.step k1 s1
              have nf := R.nf (.inl ⟨i, q1⟩)
              have q3' := k1.ob _ _ q3 nf
              have q4' := q4.kp (k1.mono R.fz)
              obtain ⟨w, e5, rw'⟩ := q4'.get e4
              have kz : Kp (ZO C ow) H1 (upd H1 a (.lst (vs.eraseIdx k))) := Kp.wr (.inr (.inl ⟨i, q1⟩)) (fun xs z => by rw [q3'] at z; cases z) fun o u z => by rw [q3'] at z; cases z
              refine ⟨a, vs, j, k, w, rfl, by rw [r1.int], q3', hj.1, hj.2, by rw [RepL.len q4]; exact e3, e5, ?_⟩
              obtain ⟨R2, ev, _⟩ := R1.put (d := .list (ds.eraseIdx k)) hk q1 q2 (o := .lst (vs.eraseIdx k)) trivial ⟨_, upd_same, (q4'.erase k).kp kz⟩
              exact q w _ R2 ((R.ev k1 s1).trans ev) (rw'.kp kz)
            · cases e
          · cases e
        · cases e
      · cases e
    · cases e
def nPop (i : Nat) : FN := fun ρ S => match ρ[i]? with
  | some (some (.list ds)) => (match ds[ds.length - 1]? with
    | some d => some (d, ρ.set i (some (.list ds.dropLast)), S)
    | none => none)
  | _ => none
theorem RepL.dl {Z : Zn} : ∀ {ds : List D} {vs : List V}, RepL H Z ds vs → RepL H Z ds.dropLast vs.dropLast := fun {ds vs} r => by
  rw [List.dropLast_eq_take, List.dropLast_eq_take, RepL.len r]
  exact r.take _
theorem n_pop {e : Expr} {i : Nat} (h : PE X e (tBM0 X.K "list" rPop (tVar i))) (hk : kd i = true := by rfl) : PE X e (tN C kd (nPop i)) :=
  PE_imp h fun σ H Q ⟨ow, ρ, S, d, ρ', S', R, e, q⟩ => by
    unfold nPop at e
    split at e
    · rename_i ds e2
      split at e
      · rename_i d' e4
        cases e
        obtain ⟨a, q1, q2, vs, q3, q4⟩ := R.own i _ hk e2
        obtain ⟨w, e5, rw'⟩ := q4.get e4
        have kz : Kp (ZO C ow) H (upd H a (.lst vs.dropLast)) := Kp.wr (.inr (.inl ⟨i, q1⟩)) (fun xs z => by rw [q3] at z; cases z) fun o u z => by rw [q3] at z; cases z
        refine ⟨.ref a, q2, .inl ⟨rfl, vs, .of q3⟩, a, vs, w, rfl, rfl, q3, by rw [RepL.len q4]; exact e5, ?_⟩
        obtain ⟨R2, ev, _⟩ := R.put (d := .list ds.dropLast) hk q1 q2 (o := .lst vs.dropLast) trivial ⟨_, upd_same, q4.dl.kp kz⟩
        exact q w _ R2 ev (rw'.kp kz)
      · cases e
    · cases e
def gSetN (i : Nat) (f : FN) : FS := fun ρ S => match f ρ S with
  | some (d, ρ1, S1) => some (.nx (ρ1.set i (some d)) S1)
  | none => none
theorem p_setN {st : Stmt} {i : Nat} {f : FN} (h : PS X st (tAsg (tN C kd f) (gName i))) (hk : kd i = false := by rfl) (h0 : i ≠ C.sx ∨ C.src = none := by exact .inl (Nat.ne_of_beq_eq_false rfl)) : PS X st (tP C kb kd kd (gSetN i f)) :=
  PS_imp h fun Dn σ H ⟨ow, ρ, S, o, R, e, k⟩ => by
    unfold gSetN at e
    split at e
    · rename_i d ρ1 S1 e1
      cases e
      exact ⟨ow, ρ, S, d, ρ1, S1, R, e1, fun v H' R' ev r1 => k _ H' ow (R'.set hk h0 r1) ev⟩
    · cases e
def gRetNN (f : FN) : FS := fun ρ S => match f ρ S with
  | some (d, _, S1) => some (.rt d S1)
  | none => none
theorem p_retNN {s : Stmt} {f : FN} (h : PS X s (tRet (tN C kd f))) : PS X s (tP C kb kd kd' (gRetNN f)) := PS_imp h fun Dn σ H ⟨ow, ρ, S, o, R, e, k⟩ => by
  unfold gRetNN at e
  split at e
  · rename_i d ρ1 S1 e1
    cases e
    exact ⟨ow, ρ, S, d, ρ1, S1, R, e1, fun v H' R' ev r1 => k v H' R'.base R'.src (r1.less fun a z => .inl z)⟩
  · cases e
def gAppN (i : Nat) (f : FN) : FS := fun ρ S => match f ρ S with
  | some (d, ρ1, S1) => (match ρ1[i]? with
    | some (some (.list ds)) => if ds.length < sizeLine then some (.nx (ρ1.set i (some (.list (ds ++ [d])))) S1) else none
    | _ => none)
  | none => none
theorem p_appN {s : Stmt} {i : Nat} {f : FN} (h : PS X s (tDrop (tBM X.K "list" rAppend (tVar i) (tCons (tN C kd f) tNil)))) (hl : ∀ ρ S r, f ρ S = some r → ∀ ds, r.2.1[i]? = some (some (.list ds)) → ∃ es, ρ[i]? = some (some (.list es))) (hk : kd i = true := by rfl) : PS X s (tP C kb kd kd (gAppN i f)) :=
  PS_imp h fun Dn σ H ⟨ow, ρ, S, o, R, e, k⟩ => by
    unfold gAppN at e
    split at e
    · rename_i d ρ1 S1 e1
      split at e
      · rename_i ds e2
        split at e
        · rename_i hz
          cases e
          obtain ⟨es, e3⟩ := hl ρ S _ e1 ds e2
          obtain ⟨a, q1, q2, vs, q3, q4⟩ := R.own i _ hk e3
          refine ⟨.ref a, q2, .inl ⟨rfl, vs, .of q3⟩, ow, ρ, S, d, ρ1, S1, R, e1, fun v H1 R1 ev r1 => ?_⟩
          obtain ⟨a', p1, p2, ws, p3, p4⟩ := R1.own i _ hk e2
          rw [q2] at p2
          cases p2
          refine ⟨a, ws, v, rfl, rfl, p3, by rw [RepL.len p4]; exact hz, ?_⟩
          have kz : Kp (ZO C ow) H1 (upd H1 a (.lst (ws ++ [v]))) := Kp.wr (.inr (.inl ⟨i, p1⟩)) (fun xs z => by rw [p3] at z; cases z) fun o u z => by rw [p3] at z; cases z
          obtain ⟨R2, ev2, _⟩ := R1.put (d := .list (ds ++ [d])) hk p1 q2 (o := .lst (ws ++ [v])) trivial ⟨_, upd_same, (p4.app (.cons r1 .nil)).kp kz⟩
          exact k _ _ ow R2 (ev.trans ev2)
        · cases e
      · cases e
    · cases e
end
end TL

set_option Elab.async false
set_option linter.all false
set_option maxRecDepth 100000
set_option maxHeartbeats 4000000
namespace TL
open PySem PySem.Spec PyProof.Rows L2
theorem not_in {vs : List Nat} {n : Nat} {p : Prop} (h : vs.all (fun i => !(Nat.beq i n)) = true) : n ∉ vs ∨ p := .inl fun hi => by
  have q := List.all_eq_true.mp h n hi
  rw [Nat.beq_refl] at q
  cases q

section
variable {X : Cx} {C : Cf} {kb kd kd1 kd2 kd' : Nat → Bool} {ow ow1 ow2 ow' : Ow} {σ σ' : L2.St} {ρ : Rho} {S S' : Src} {H H1 H2 H' : Hp} {d : D} {v : V}
/-! ### a comprehension whose item changes a def's own list -/
def compN (vs : List Nat) (st : FG) (t : FB) (e : FN) : List D → Rho → Src → Option (List D × Rho × Src)
  | [], ρ, S => some ([], ρ, S)
  | d :: ds, ρ, S => match st d ρ with
    | some ρ1 => (match t ρ1 S with
      | some (true, S1) => (match e ρ1 S1 with
        | some (y, ρ2, S2) => (match compN vs st t e ds (wipeR ρ2 vs) S2 with
          | some (ys, ρ3, S3) => some (y :: ys, ρ3, S3)
          | none => none)
        | none => none)
      | some (false, S1) => compN vs st t e ds (wipeR ρ1 vs) S1
      | none => none)
    | none => none
def lcN (vs : List Nat) (fI : FA) (st : FG) (t : FB) (e : FN) : FN := fun ρ S => match fI ρ S with
  | some (ds, S1) => if ds.length ≤ sizeLine then (match compN vs st t e ds (wipeR ρ vs) S1 with
    | some (ys, ρ2, S2) => some (.list ys, ρ2, S2)
    | none => none) else none
  | none => none
/-- the list in the making is let go -/
theorem Rel.unmake {sl : Nat → Option Addr} {ex : List Addr} {p : Addr} (R : Rel C kd ⟨sl, p :: ex⟩ σ ρ S H) : Rel C kd ⟨sl, ex⟩ σ ρ S H := by
  have up : ∀ a, Own ⟨sl, ex⟩ a → Own ⟨sl, p :: ex⟩ a := fun a z => z.elim .inl fun z => .inr (List.mem_cons_of_mem _ z)
  have zo : ∀ a, ZO C ⟨sl, ex⟩ a → ZO C ⟨sl, p :: ex⟩ a := fun a z => z.elim .inl fun z => .inr (up a z)
  refine ⟨R.dom, R.ft, R.base, R.src, R.len, R.sr, fun j e h1 h2 => ?_, fun j e h1 h2 => ?_, R.inj, fun j a e z => R.dj j a e (List.mem_cons_of_mem _ z), fun a z => R.new a (up a z)⟩
  · obtain ⟨v, q, r⟩ := R.cl j e h1 h2
    exact ⟨v, q, r.less zo⟩
  · obtain ⟨b, q1, q2, r⟩ := R.own j e h1 h2
    refine ⟨b, q1, q2, ?_⟩
    cases e <;> first
      | exact r.elim
      | (obtain ⟨vs, z1, z2⟩ := r
         exact ⟨vs, z1, z2.less zo⟩)
      | (obtain ⟨vs, z1, z2⟩ := r
         exact ⟨vs, z1, RepV.less zo z2⟩)
/-- slots that say nothing may hold what they like -/
theorem Rel.unwipe {vs : List Nat} (R : Rel C kd ow (L2.wipe σ vs) ρ S H) (h : wipeR ρ vs = ρ) (h0 : C.sx ∉ vs ∨ C.src = none) : Rel C kd ow σ ρ S H := by
  have out : ∀ {j : Nat} {e : D}, ρ[j]? = some (some e) → j ∉ vs := fun {j e} q => by
    rw [← h] at q
    exact (wipeR_some q).2
  refine ⟨R.dom, R.ft, R.base, R.src, by rw [R.len, wipe_length], fun p hp => ?_, fun j e h1 h2 => ?_, fun j e h1 h2 => ?_, R.inj, R.dj, R.new⟩
  · obtain ⟨q1, q2⟩ := R.sr p hp
    rcases h0 with h0 | h0
    · exact ⟨by rw [wipe_out h0] at q1; exact q1, q2⟩
    · rw [h0] at hp; cases hp
  · obtain ⟨w, q, r⟩ := R.cl j e h1 h2
    exact ⟨w, by rw [wipe_out (out h2)] at q; exact q, r⟩
  · obtain ⟨b, q1, q2, r⟩ := R.own j e h1 h2
    exact ⟨b, q1, by rw [wipe_out (out h2)] at q2; exact q2, r⟩
theorem wipeR_set {i : Nat} : ∀ {vs : List Nat}, i ∈ vs → ∀ (ρ : Rho), (wipeR ρ vs)[i]? = (if i < ρ.length then some none else none)
  | [], h, _ => by simp at h
  | v :: vs, h, ρ => by
    rw [wipeR, List.getElem?_set]
    by_cases hv : v = i
    · rw [if_pos hv, wipeR_len, hv]
    · rw [if_neg hv]
      exact wipeR_set ((List.mem_cons.mp h).resolve_left fun z => hv z.symm) ρ
theorem wipeR_twice {vs : List Nat} : wipeR (wipeR ρ vs) vs = wipeR ρ vs := by
  apply List.ext_getElem?
  intro i
  by_cases hi : i ∈ vs
  · rw [wipeR_set hi, wipeR_set hi, wipeR_len]
  · rw [wipeR_out hi]
theorem compN_wiped {vs : List Nat} {st : FG} {t : FB} {e : FN} : ∀ {ds : List D} {ρ ρ' : Rho} {S S' : Src} {ys : List D}, wipeR ρ vs = ρ → compN vs st t e ds ρ S = some (ys, ρ', S') → wipeR ρ' vs = ρ'
  | [], _, _, _, _, _, w, h => by
    rw [compN] at h
    cases h
    exact w
  | d :: ds, _, _, _, _, _, w, h => by
    rw [compN] at h
    split at h
    · split at h
      · split at h
        · split at h
          · rename_i e4
            cases h
            exact compN_wiped wipeR_twice e4
          · cases h
        · cases h
      · exact compN_wiped wipeR_twice h
      · cases h
    · cases h
theorem Ev.made {sl : Nat → Option Addr} {ex : List Addr} {p : Addr} (hp : H p = none) {o : HO} (e : Ev C ⟨sl, p :: ex⟩ (upd H p o) ⟨sl, p :: ex⟩ H') : Ev C ⟨sl, ex⟩ H ⟨sl, ex⟩ H' := by
  have ne : ∀ {a : Addr} {u : HO}, H a = some u → a ≠ p := fun q z => by rw [z, hp] at q; cases q
  exact ⟨⟨fun a u q n => e.kp.ob a u (by rw [upd_ne (ne q)]; exact q) n, fun a xs q => e.kp.tp a xs (by rw [upd_ne (ne q)]; exact q), fun a u w q => e.kp.fz a u w (by rw [upd_ne (ne q)]; exact q)⟩,
    fun a q => e.th a (by
      by_cases z : a = p
      · rw [z, upd_same]; exact fun z => nomatch z
      · rw [upd_ne z]; exact q), fun i a z _ => ⟨i, z⟩, fun _ => Iff.rfl⟩
/-- a slot's list, then the new one is let grow -/
theorem Ev.grown {sl : Nat → Option Addr} {ex : List Addr} {p : Addr} {o : HO} {o' : HO} (h : Ev C ⟨sl, p :: ex⟩ (upd H1 p o') ⟨sl, p :: ex⟩ H2) (hp : H1 p = none) : Kp (chg C ⟨sl, ex⟩) H1 (upd H2 p o) ∧ ∀ a, H1 a ≠ none → (upd H2 p o) a ≠ none := by
  have ne : ∀ {a : Addr} {u : HO}, H1 a = some u → a ≠ p := fun q z => by rw [z, hp] at q; cases q
  have h := h.made hp
  exact ⟨⟨fun a u q n => by rw [upd_ne (ne q)]; exact h.kp.ob a u q n, fun a xs q => by rw [upd_ne (ne q)]; exact h.kp.tp a xs q, fun a u w q => by rw [upd_ne (ne q)]; exact h.kp.fz a u w q⟩, fun a q => by
    by_cases z : a = p
    · rw [z, upd_same]; exact fun z => nomatch z
    · rw [upd_ne z]; exact h.th a q⟩
theorem lcN_run {fI : FA} {st : FG} {ft : FB} {fe : FN} {is vs : List Nat} {Q : VK} (hz : C.sx ∉ vs ∨ C.src = none) (his : ∀ i ∈ is, i ∈ vs) (q : tN C kd (lcN vs fI st ft fe) σ H Q) : tLc (tI C kd true fI) (tG C kd is st) (tB C kd ft) (tN C kd fe) vs σ H Q := by
  obtain ⟨ow, ρ, S, d, ρE, S', R, e, k⟩ := q
  unfold lcN at e
  split at e
  · rename_i ds S1 e1
    split at e
    · rename_i hl
      split at e
      · rename_i ys ρE' S2' e2
        cases e
        have hw := compN_wiped wipeR_twice e2
        refine ⟨ow, ρ, S, ds, S1, R, e1, fun J H1 k1 s1 W D hD => ?_⟩
        have R1 := R.step k1 s1
        have R2 := (R1.make (o := .lst []) hD trivial).wipe hz
        rw [if_pos rfl] at W
        refine ⟨fun i m H2 => m = ds.length - i ∧ i ≤ ds.length ∧ ∃ S2 ρ2 ys1 ys2 acc, ys = ys1 ++ ys2 ∧ compN vs st ft fe (ds.drop i) ρ2 S2 = some (ys2, ρE, S') ∧ Rel C kd ⟨ow.sl, D :: ow.ex⟩ (wipe σ vs) ρ2 S2 H2 ∧
          Kp (chg C ow) H1 H2 ∧ (∀ a, H1 a ≠ none → H2 a ≠ none) ∧ H2 D = some (.lst acc) ∧ RepL H2 (ZO C ⟨ow.sl, D :: ow.ex⟩) ys1 acc ∧ acc.length ≤ i,
          ⟨ds.length, by simp, Nat.zero_le _, S1, wipeR ρ vs, [], ys, [], rfl, by rw [List.drop_zero]; exact e2, R2, .upd hD, fun a q => ?_, upd_same, .nil, Nat.le_refl _⟩, ?_⟩
        · by_cases z : a = D
          · rw [z, upd_same]; exact fun z => nomatch z
          · rw [upd_ne z]; exact q
        rintro i m H2 ⟨rfl, hi, S2, ρ2, ys1, ys2, acc, rfl, e3, R3, k2, th, hd, r3, ha⟩
        by_cases hlt : i < ds.length
        · obtain ⟨go, step⟩ := (W i H2 k2).1 hlt
          refine .inr ⟨go, fun H' => ∃ S2' ρ2' ys1' ys2' acc', ys1 ++ ys2 = ys1' ++ ys2' ∧ compN vs st ft fe (ds.drop (i + 1)) ρ2' S2' = some (ys2', ρE, S') ∧ Rel C kd ⟨ow.sl, D :: ow.ex⟩ (wipe σ vs) ρ2' S2' H' ∧
            Kp (chg C ow) H1 H' ∧ (∀ a, H1 a ≠ none → H' a ≠ none) ∧ H' D = some (.lst acc') ∧ RepL H' (ZO C ⟨ow.sl, D :: ow.ex⟩) ys1' acc' ∧ acc'.length ≤ i + 1, fun H' hN => ⟨ds.length - (i + 1), by omega, rfl, hlt, hN⟩, fun x H3 y => ?_⟩
          obtain ⟨k3, d, ed, rd⟩ := step x H3 y
          have hdr : ds.drop i = d :: ds.drop (i + 1) := by
            obtain ⟨h, e'⟩ := List.getElem?_eq_some_iff.mp ed
            rw [← e', List.drop_eq_getElem_cons h]
          rw [hdr, compN] at e3
          have s3 := R3.src.kp k3
          have R4 := R3.step k3.z0 s3
          have rx : Rep H3 (ZO C ⟨ow.sl, D :: ow.ex⟩) d x := rd _ (fun a z => by
            rcases z with z | z | z
            · exact .inl (.inl z)
            · exact .inl (.inr (.inl z))
            · rcases List.mem_cons.mp z with z | z
              · rw [z]; exact .inr hD
              · exact .inl (.inr (.inr z))) fun a z => R3.cz a z
          split at e3
          · rename_i ρ1 e4
            refine ⟨⟨ow.sl, D :: ow.ex⟩, ρ2, S2, d, ρ1, R4, rx, e4, fun σ2 R5 o2 => ⟨?_, ?_⟩⟩
            · rw [wipe_eq (σ := wipe σ vs) ⟨o2.1, fun j hj => o2.2 j fun z => hj (his j z)⟩, wipe_wipe]
            have hw2 : wipe σ2 vs = wipe σ vs := by rw [wipe_eq (σ := wipe σ vs) ⟨o2.1, fun j hj => o2.2 j fun z => hj (his j z)⟩, wipe_wipe]
            have nD : ¬ chg C ow D := fun f => R1.fresh hD (R1.cz D f)
            have k3' : Kp (chg C ow) H1 H3 := k2.trans k3.z0
            have hd3 : H3 D = some (.lst acc) := k3.ob _ _ hd fun z => z
            have r3' := r3.kp (k3.z0 (Z := ZO C ⟨ow.sl, D :: ow.ex⟩))
            have th3 : ∀ a, H1 a ≠ none → H3 a ≠ none := fun a q => (R3.ev k3.z0 s3).th a (th a q)
            split at e3
            · rename_i S3 e5
              refine ⟨⟨ow.sl, D :: ow.ex⟩, ρ1, S2, true, S3, R5, e5, fun H4 k4 s4 => ?_⟩
              have R6 := R5.step k4 s4
              have hd4 : H4 D = some (.lst acc) := k4.ob _ _ hd3 fun f => nD (.inl f)
              refine iteT ?_
              split at e3
              · rename_i y ρ3 S4 e7
                split at e3
                · rename_i ys' ρ4 S5 e8
                  cases e3
                  refine ⟨⟨ow.sl, D :: ow.ex⟩, ρ1, S3, y, ρ3, S4, R6, e7, fun w H5 R7 ev5 r5 => ?_⟩
                  have ev15 := (R5.ev k4 s4).trans ev5
                  have nc5 : ¬ chg C ⟨ow.sl, D :: ow.ex⟩ D := nD
                  have hd5 : H5 D = some (.lst acc) := ev5.kp.ob _ _ hd4 nc5
                  have r5a : RepL H5 (ZO C ⟨ow.sl, D :: ow.ex⟩) ys1 acc := (r3'.kp (k4.mono R5.fz)).kp (ev5.kp.mono R6.cz)
                  have kz : Kp (ZO C ⟨ow.sl, D :: ow.ex⟩) H5 (upd H5 D (.lst (acc ++ [w]))) := Kp.wr (.inr (.inr (List.mem_cons_self ..))) (fun xs z => by rw [hd5] at z; cases z) fun o u z => by rw [hd5] at z; cases z
                  have R8 := (R7.wipe hz).grow (o := .lst (acc ++ [w])) (p := D) (List.mem_cons_self ..) trivial
                  rw [hw2] at R8
                  have k15 : Kp (chg C ow) H1 H5 := (k3'.trans (k4.mono fun a f => .inl f)).trans ev5.kp
                  refine ⟨acc, hd5, Nat.lt_of_le_of_lt ha (Nat.lt_of_lt_of_le hlt hl), S4, wipeR ρ3 vs, ys1 ++ [y], ys', acc ++ [w], by rw [List.append_assoc]; rfl, e8, R8, ?_, fun a q => ?_, upd_same, (r5a.app (.cons r5 .nil)).kp kz, by rw [List.length_append, List.length_singleton]; omega⟩
                  · exact ⟨fun a o z n => by rw [upd_ne (ne_of_none z hD)]; exact k15.ob a o z n, fun a xs z => by rw [upd_ne (ne_of_none z hD)]; exact k15.tp a xs z, fun a o u z => by rw [upd_ne (ne_of_none z hD)]; exact k15.fz a o u z⟩
                  · by_cases z : a = D
                    · rw [z, upd_same]; exact fun z => nomatch z
                    · rw [upd_ne z]; exact ev15.th a (th3 a q)
                · cases e3
              · cases e3
            · rename_i S3 e5
              refine ⟨⟨ow.sl, D :: ow.ex⟩, ρ1, S2, false, S3, R5, e5, fun H4 k4 s4 => ?_⟩
              refine iteF ?_
              have R6 := (R5.step k4 s4).wipe hz
              rw [hw2] at R6
              exact ⟨S3, wipeR ρ1 vs, ys1, ys2, acc, rfl, e3, R6, k3'.trans (k4.mono fun a f => .inl f), fun a q => (R5.ev k4 s4).th a (th3 a q), k4.ob _ _ hd3 fun f => nD (.inl f), r3'.kp (k4.mono R5.fz), by omega⟩
            · cases e3
          · cases e3
        · have hie : i = ds.length := by omega
          subst hie
          rw [List.drop_length, compN] at e3
          cases e3
          refine .inl ⟨(W _ H2 k2).2 (Nat.le_refl _), ?_⟩
          rw [List.append_nil] at k
          refine k _ H2 (R3.unmake.unwipe hw hz) ((R.ev k1 s1).trans ⟨k2, th, fun i a z _ => ⟨i, z⟩, fun _ => Iff.rfl⟩) ?_
          rw [Rep]
          exact ⟨D, acc, rfl, hd, R1.fresh hD, r3.less fun a z => z.elim .inl fun z => z.elim (fun z => .inr (.inl z)) fun z => .inr (.inr (List.mem_cons_of_mem _ z))⟩
      · cases e
    · cases e
  · cases e
theorem x_lcN {elt tg iter : Expr} {ifs : List Expr} {scope : Scope} {own : List (Str × Nat)} {pos : Pos} {fI : FA} {st : FG} {ft : FB} {fe : FN} {is : List Nat} (hc : X.calm = true) (hN : X.N.Nodup) (hi : PI X tg iter (tI C kd true fI)) (ok : BlkOk X.N X.env.scope scope own)
    (hz : C.sx ∉ own.map (·.2) ∨ C.src = none) (his : ∀ i ∈ is, i ∈ own.map (·.2))
    (hg : ∀ (s : Shared) (H : Hp) (A : Addr) (cl : List (Str × Addr)) (fp : List Addr), PG (X.blk s H scope (compEnvC scope cl A X.env) fp) tg (tG C kd is st)) (ht : ∀ (s : Shared) (H : Hp) (A : Addr) (cl : List (Str × Addr)) (fp : List Addr), PTs (X.blk s H scope (compEnvC scope cl A X.env) fp) ifs (tB C kd ft))
    (he : ∀ (s : Shared) (H : Hp) (A : Addr) (cl : List (Str × Addr)) (fp : List Addr), PE (X.blk s H scope (compEnvC scope cl A X.env) fp) elt (tN C kd fe)) (hs : ∀ x, foldedSetIterable iter X.env x = pure x := by intro _; rfl) :
    PE X (.ListComp elt [⟨tg, iter, ifs, 0⟩] scope pos) (tN C kd (lcN (own.map (·.2)) fI st ft fe)) :=
  PE_imp (pe_lc hc hN hi ok hg ht he hs) fun σ H Q q => lcN_run hz his q
end
end TL

set_option Elab.async false
set_option linter.all false
set_option maxRecDepth 100000
set_option maxHeartbeats 4000000
namespace TL
open PySem PySem.Spec PyProof.Rows L2

/-! ### a def by its body -/
abbrev fnX (P : Program) (w : World) (K : PySem.W.Frag) (mg : Str → Option Value) (base : Heap) (N : List Str) (qual : Str) (st : Stmt) (f : Addr) (cdv : Value) (A : Around) (outer : List Env) (s : Shared) (H : Hp) : Cx :=
  (cxOf CX0 P w K mg base N qual (defScope st) f cdv A outer s H E0).nox
section
variable {P : Program} {w : World} {K : PySem.W.Frag} {mg : Str → Option Value} {base : Heap}
theorem fnG_of {x qual : Str} {st : Stmt} {f : Addr} {fd : FuncData} {N ps : List Str} {k : Nat} {sp : Sp} (F : Fun K x qual st f fd) (S : FnScope N ps (defScope st)) (ln : ∀ vs H Q E, sp vs H Q E → vs.length = ps.length)
    (body : ∀ (cdv : Value) (A : Around) (outer : List Env) (s : Shared) (H : Hp) (vs : List V) (Q : VK), Room k (fnX P w K mg base N qual st f cdv A outer s H).A → (fnX P w K mg base N qual st f cdv A outer s H).A.guards = some [] → sp vs H Q E0 →
      ∃ t, PSs (fnX P w K mg base N qual st f cdv A outer s H) (defBody st) t ∧ t { nx := fun _ H' => Q .non H', rt := Q } (L2.start N vs) H) : FnG P w K mg base (k + 1) f fd ps sp := by
  refine ⟨ln, fun A outer s H args us vs Q gd room e0 hb rv hsp => ?_⟩
  obtain ⟨oc, od, kV, doc, pm, an, cdv, ct, osl, rfl, lk, hcd⟩ := F.ex
  have hl := ln _ _ _ _ hsp
  have stays : ∀ b o, base.get? b = some o → s.heap.get? b = some o := fun b o e => (e0.bs b o e).1
  have KX : K.In s.heap := e0.mod.kin.keeps stays
  have kinds : ∀ y ∈ ps.zip us, (defScope st).names.lookup y.1 = some .local ∨ ((defScope st).names.lookup y.1 = some .cell ∧ ((cellsFrom (s.heap.objs.size + 1) (defScope st).names []).lookup y.1).isSome = true) := fun y hy =>
    (S.par y.1 (List.of_mem_zip (show (y.1, y.2) ∈ ps.zip us from hy)).1).elim .inl fun q => .inr ⟨q, PySem.W.cellsFrom_some _ _ _ (.inl q)⟩
  refine codeAny_call_function room.depth (KX _ _ lk) rfl S.co S.gen rfl (PySem.W.codeRec_of KX hcd) (hb _ _ _ _ (wpAny_newFunctionEnv_cells S.kind kinds fun env he s1 ic => ?_))
  subst he
  refine ⟨(e0.mod.nolimit.keeps stays).keeps ic.toInCall.keep, codeAny_func ?_⟩
  obtain ⟨t, ht, hq⟩ := body cdv A outer s H vs Q (room.deeper _) gd hsp
  have I := inv_start (CX := CX0) (E := E0) (qual := qual) (cd := cdv) (f := f) S room.hd e0 hl rv ic
  refine wpAny_mono (ht.nox.run [] s1 (L2.start N vs) H _ I hq) (fun fl s' hs => ?_) fun e s' hs => hs
  cases fl with
  | next =>
    obtain ⟨σ', H', J, q⟩ := hs
    exact ⟨V.non, H', J.os, J.bare, J.base, J.hok, rfl, q⟩
  | ret u =>
    obtain ⟨v, σ', H', J, r, q⟩ := hs
    exact ⟨v, H', J.os, J.bare, J.base, J.hok, r, q⟩
  | brk =>
    obtain ⟨_, _, _, q⟩ := hs
    cases q
  | cont =>
    obtain ⟨_, _, _, q⟩ := hs
    cases q
/-! ### what a body's mirror says -/
theorem s0ok : (⟨[], 0, 0, 0⟩ : Src0).Ok := by
  refine ⟨fun _ h => (nomatch h), by decide, by decide, ?_, by decide, by decide⟩
  unfold lim
  exact Nat.pow_pos (by decide)
def S0 : Src := ⟨⟨[], 0, 0, 0⟩, s0ok⟩
def runP (L : Nat) (g : FS) (ds : List D) : Option D := match g (ds.map some ++ List.replicate (L - ds.length) none) S0 with
  | some (.rt d _) => some d
  | some (.nx _ _) => some .none
  | _ => none
def runS (L : Nat) (g : FS) (ds : List D) (S : Src) : Option (D × Src) := match g (none :: ds.map some ++ List.replicate (L - (ds.length + 1)) none) S with
  | some (.rt d S1) => some (d, S1)
  | some (.nx _ S1) => some (.none, S1)
  | _ => none
def ow0 : Ow := ⟨fun _ => none, []⟩
theorem own0 {a : Addr} : ¬ Own ow0 a := fun z => z.elim (fun ⟨_, z⟩ => by cases z) fun z => by cases z
theorem start_get {ds : List D} {n i : Nat} {d : D} (h : (ds.map some ++ List.replicate n none)[i]? = some (some d)) : i < ds.length ∧ ds[i]? = some d := by
  by_cases hi : i < ds.length
  · rw [List.getElem?_append_left (by simpa using hi), List.getElem?_map] at h
    cases e : ds[i]? with
    | none => rw [e] at h; cases h
    | some a => rw [e] at h; cases h; exact ⟨hi, rfl⟩
  · rw [List.getElem?_append_right (by simpa using hi), List.getElem?_replicate] at h
    split at h <;> cases h
theorem start_val {vs : List V} {n i : Nat} {v : V} (h : vs[i]? = some v) : (vs.map some ++ List.replicate n none)[i]? = some (some v) := by
  have hi : i < vs.length := (List.getElem?_eq_some_iff.mp h).1
  rw [List.getElem?_append_left (by simpa using hi), List.getElem?_map, h]
  rfl
theorem rel_P {N : List Str} {kd : Nat → Bool} {Z : Zn} {H : Hp} {ds : List D} {vs : List V} (hZ : ∀ a, Z a → H a ≠ none) (r : RepL H Z ds vs) (hk : ∀ i, i < ds.length → kd i = false) :
    Rel ⟨Z, H, none, 1000⟩ kd ow0 (L2.start N vs) (ds.map some ++ List.replicate (N.length - ds.length) none) S0 H := by
  have hl := RepL.len r
  refine ⟨hZ, fun a f => f.elim, .refl, trivial, ?_, fun p hp => (nomatch hp), fun i d h1 h2 => ?_, fun i d h1 h2 => ?_, fun i j a e => (nomatch e), fun i a e => (nomatch e), fun a z => absurd z own0⟩
  · unfold L2.start
    rw [List.length_append, List.length_append, List.length_map, List.length_map, List.length_replicate, List.length_replicate, hl]
  · obtain ⟨hi, e⟩ := start_get h2
    obtain ⟨v, e1, r1⟩ := r.get e
    exact ⟨v, start_val e1, r1.less fun a z => z.elim id fun z => absurd z own0⟩
  · rw [hk i (start_get h2).1] at h1
    cases h1
/-- a def without the drawing object -/
theorem fn_P {x qual : Str} {st : Stmt} {f : Addr} {fd : FuncData} {N ps : List Str} {k n : Nat} {kb kd kd' : Nat → Bool} {g : FS} (F : Fun K x qual st f fd) (S : FnScope N ps (defScope st)) (hn : ps.length = n) (hk : ∀ i, i < n → kd i = false)
    (body : ∀ (cdv : Value) (A : Around) (outer : List Env) (s : Shared) (H : Hp) (Z : Zn), Room k (fnX P w K mg base N qual st f cdv A outer s H).A → (fnX P w K mg base N qual st f cdv A outer s H).A.guards = some [] →
      PSs (fnX P w K mg base N qual st f cdv A outer s H) (defBody st) (tP ⟨Z, H, none, 1000⟩ kb kd kd' g)) : FnG P w K mg base (k + 1) f fd ps (spP n (runP N.length g)) := by
  refine fnG_of F S (fun vs H Q E ⟨Z, ds, d, h1, h2, h3, _⟩ => by rw [RepL.len h2, h3, hn]) fun cdv A outer s H vs Q room gd ⟨Z, ds, d, hZ, r, hd, e, q⟩ => ⟨_, body cdv A outer s H Z room gd, ?_⟩
  unfold runP at e
  split at e
  · rename_i d' S' e1
    cases e
    exact ⟨ow0, _, _, _, rel_P hZ r (fun i hi => hk i (by omega)), e1, fun v H' k1 s1 r1 => q v H' (k1.mono fun a f => f) r1⟩
  · rename_i ρ' S' e1
    cases e
    exact ⟨ow0, _, _, _, rel_P hZ r (fun i hi => hk i (by omega)), e1, fun σ' H' ow' R' ev => q .non H' (R'.base.mono fun a f => f) (by rw [Rep])⟩
  · cases e
theorem rel_S {N : List Str} {kd : Nat → Bool} {Z : Zn} {H : Hp} {x c : Addr} {S : Src} {ds : List D} {vs : List V} (hZ : ∀ a, Z a → H a ≠ none) (hs : SrcAt H x c S) (zx : Z x) (zc : Z c) (r : RepL H Z ds vs) (hk : ∀ i, i < ds.length + 1 → kd i = false) :
    Rel ⟨Z, H, some (x, c), 0⟩ kd ow0 (L2.start N (.ref x :: vs)) (none :: ds.map some ++ List.replicate (N.length - (ds.length + 1)) none) S H := by
  have hl := RepL.len r
  refine ⟨hZ, fun a f => ?_, .refl, hs, ?_, fun p hp => ?_, fun i d h1 h2 => ?_, fun i d h1 h2 => ?_, fun i j a e => (nomatch e), fun i a e => (nomatch e), fun a z => absurd z own0⟩
  · rcases f with rfl | rfl
    · exact zx
    · exact zc
  · unfold L2.start
    rw [List.length_append, List.length_append, List.length_cons, List.length_map, List.length_map, List.length_replicate, List.length_replicate, List.length_cons, hl]
  · cases hp
    exact ⟨rfl, rfl⟩
  · cases i with
    | zero => cases h2
    | succ i =>
      obtain ⟨hi, e⟩ := start_get (i := i) h2
      obtain ⟨v, e1, r1⟩ := r.get e
      exact ⟨v, start_val (vs := .ref x :: vs) (i := i + 1) e1, r1.less fun a z => z.elim id fun z => absurd z own0⟩
  · cases i with
    | zero => cases h2
    | succ i =>
      rw [hk (i + 1) (by have := (start_get (i := i) h2).1; omega)] at h1
      cases h1
/-- a def whose first parameter is the drawing object -/
theorem fn_S {y qual : Str} {st : Stmt} {f : Addr} {fd : FuncData} {N ps : List Str} {k n : Nat} {kb kd kd' : Nat → Bool} {g : FS} (F : Fun K y qual st f fd) (S : FnScope N ps (defScope st)) (hn : ps.length = n + 1) (hk : ∀ i, i < n + 1 → kd i = false)
    (body : ∀ (cdv : Value) (A : Around) (outer : List Env) (s : Shared) (H : Hp) (Z : Zn) (x c : Addr), Room k (fnX P w K mg base N qual st f cdv A outer s H).A → (fnX P w K mg base N qual st f cdv A outer s H).A.guards = some [] →
      PSs (fnX P w K mg base N qual st f cdv A outer s H) (defBody st) (tP ⟨Z, H, some (x, c), 0⟩ kb kd kd' g)) : FnG P w K mg base (k + 1) f fd ps (spS n (runS N.length g)) := by
  refine fnG_of F S (fun vs H Q E ⟨Z, x, c, T, ds, ws, d, T', e, _, _, _, _, h2, h3, _⟩ => by rw [e, List.length_cons, RepL.len h2, h3, hn]) fun cdv A outer s H vs Q room gd ⟨Z, x, c, T, ds, ws, d, T', ev, hs, zx, zc, hZ, r, hd, e, q⟩ => ⟨_, body cdv A outer s H Z x c room gd, ?_⟩
  subst ev
  unfold runS at e
  split at e
  · rename_i d' S' e1
    cases e
    exact ⟨ow0, _, _, _, rel_S hZ hs zx zc r (fun i hi => hk i (by omega)), e1, fun v H' k1 s1 r1 => q v H' k1 s1 r1⟩
  · rename_i ρ' S' e1
    cases e
    exact ⟨ow0, _, _, _, rel_S hZ hs zx zc r (fun i hi => hk i (by omega)), e1, fun σ' H' ow' R' ev => q .non H' R'.base R'.src (by rw [Rep])⟩
  · cases e
end

/-! ### the end of a law -/
/-- law's promise at the script -/
def spLaw (K : PySem.W.Frag) (n : Nat) : Sp := fun vs H Q _ => ∃ (a : Addr) (ns : List Int), vs = [.ref a] ∧ SqL K H a (ns.map V.int) ∧ ns.length ≤ n ∧ (∀ z ∈ ns, Builtin.Int.intBits z ≤ 1048576) ∧ ∀ H', Q (.bl true) H'
section
open Att
theorem law_end {P : Program} {w : World} {K : PySem.W.Frag} {mg mb : Str → Option Value} {k n : Nat} {g a : Addr} {fd : FuncData} {x : Str} {t : Shared} {vs : List Value} {ns : List Int}
    (kin : K.In t.heap) (nsM : t.heap.Ns mainGlobals mg) (nsB : t.heap.Ns builtinsNs mb) (boot : ∀ x : Str, x ≠ "__name__" → mb x = bootBuiltins x) (nolim : t.heap.NoLimit) (gens : t.gens = #[])
    (oa : t.heap.get? a = some { cls := .type "list", data := .seq vs.toArray }) (hints : IntsAre vs ns) (hl : ns.length ≤ n) (hn : n ≤ sizeLine) (bits : ∀ z ∈ ns, Builtin.Int.intBits z ≤ 1048576) (room : Room k callerA)
    (F : ∀ base : Heap, K.In base → base.Ns mainGlobals mg → FnG P w K mg base k g fd [x] (spLaw K n)) (bind : ∀ (s : Shared) (u : Value), K.In s.heap → BindsTo s fd ⟨[u], []⟩ [(x, u)]) :
    codeAny (model P w) callerA (.call (.ref g) ⟨[.ref a], []⟩) (fun r s' => r = .ok (.ret (.bool true)) ∧ OldK t.heap s'.heap ∧ s'.os = t.os ∧ AllBare s'.gens) t := by
  have rv : Vals (ns.map V.int) vs := vals_ints hints
  have hv := hints.length
  -- the heap in which at most the script is told
  have main : ∀ H : Hp, (∀ b o, H b = some o → b = a ∧ K.lookup a = none ∧ o = .frz { cls := .type "list", data := .seq vs.toArray } (.lst (ns.map V.int))) → SqL K H a (ns.map V.int) → HOk P w H t.heap →
      codeAny (model P w) callerA (.call (.ref g) ⟨[.ref a], []⟩) (fun r s' => r = .ok (.ret (.bool true)) ∧ OldK t.heap s'.heap ∧ s'.os = t.os ∧ AllBare s'.gens) t := by
    intro H only seq hok
    have hid : ∀ {b : Addr} {o : Obj}, t.heap.get? b = some o → H b = none → (hidT t.heap H).get? b = some o := fun e z => hidT_get e z
    have free : ∀ {b : Addr} {o : Obj} {es : Array DictEntry} {ep : Nat}, t.heap.get? b = some o → o.data = .dict es ep → H b = none := fun {b o es ep} e d => by
      cases q : H b with
      | none => rfl
      | some u =>
        obtain ⟨rfl, _⟩ := only b u q
        cases oa.symm.trans e
        exact absurd (show Data.seq vs.toArray _ = Data.dict es ep from d) (fun z => nomatch z)
    have ns' : ∀ {b : Addr} {m : Str → Option Value}, t.heap.Ns b m → (hidT t.heap H).Ns b m := fun ⟨o, es, ep, e, d, r⟩ => ⟨o, es, ep, hid e (free e d), d, r⟩
    have kin' : K.In (hidT t.heap H) := fun b o e => hid (kin b o e) (by
      cases q : H b with
      | none => rfl
      | some u =>
        obtain ⟨rfl, z, _⟩ := only b u q
        cases z.symm.trans e)
    obtain ⟨mc, l1, l2⟩ := nolim
    have start0 : Env0 P w K mg (hidT t.heap H) callerA [] t H := ⟨rfl, ⟨kin', ns' nsM, ⟨mb, ns' nsB, boot⟩, mc, ns' l1, l2⟩, fun b o e => of_hidT e, Nat.le_of_eq (hidT_size _ _), trivial, fun b hb => absurd hb (by simp [frs]), hok, .of_eq gens⟩
    refine codeAny_mono ((F _ kin' (ns' nsM)).run callerA [] t H ⟨[.ref a], []⟩ [.ref a] [.ref a] (fun v _ => v = .bl true) rfl room start0 (bind t (.ref a) kin) (.cons rfl .nil) ⟨a, ns, rfl, seq, hl, bits, fun _ => rfl⟩) fun r s' h => ?_
    match r, h with
    | .error _, h => exact h.elim
    | .ok .next, h => exact h.elim
    | .ok .brk, h => exact h.elim
    | .ok .cont, h => exact h.elim
    | .ok (.ret u), ⟨v, H', os, bare, un, hok', r', q⟩ =>
      have q : v = .bl true := q
      subst q
      obtain rfl : u = Value.bool true := r'
      refine ⟨rfl, OldK.of_keep fun b o e => ?_, os, bare⟩
      cases q : H b with
      | none => exact un.keep b o e q (fun z => by cases z) (by simp)
      | some u =>
        obtain ⟨_, _, rfl⟩ := only b u q
        obtain ⟨e1, _⟩ := hok b _ q
        obtain ⟨e2, _⟩ := hok' b _ (un.frzs b _ _ q)
        cases e.symm.trans e1
        exact e2
  cases hk : K.lookup a with
  | some o =>
    cases (kin a o hk).symm.trans oa
    exact main (fun _ => none) (fun _ _ z => by cases z) (.inr ⟨_, vs.toArray, _, hk, rfl, rfl, rfl, by rw [List.size_toArray, hv]; exact Nat.le_trans hl hn, by simpa using rv⟩) fun b u z => by
      have z : (none : Option HO) = some u := z
      cases z
  | none =>
    have only : ∀ b o, (if b = a then some (HO.frz { cls := .type "list", data := .seq vs.toArray } (.lst (ns.map V.int))) else none) = some o → b = a ∧ o = .frz { cls := .type "list", data := .seq vs.toArray } (.lst (ns.map V.int)) := fun b o z => by
      split at z
      · rename_i hb
        cases z
        exact ⟨hb, rfl⟩
      · cases z
    refine main (fun b => if b = a then some (.frz { cls := .type "list", data := .seq vs.toArray } (.lst (ns.map V.int))) else none) (fun b o z => ⟨(only b o z).1, hk, (only b o z).2⟩) (.inl (.inr ⟨_, if_pos rfl⟩)) fun b u z => ?_
    obtain ⟨rfl, rfl⟩ := only b u z
    exact ⟨oa, by rw [List.length_map]; exact Nat.le_trans hl hn, vs, _, rv, oa⟩
end
theorem walkG {l : PySem.W.OpenLaw} {n k : Nat} {q : Program} {loose : List Str} {XP : (Str → Option Value) → Heap → Prop} {YP : World → Heap → Prop} {d : DefRec} {K : Params → PySem.W.Frag} {x : Str}
    (most : l.most = some n) (hn : n ≤ sizeLine) (nodef : d.params.defaults = []) (room : Room k callerA) (kin : ∀ (w : World) (h : Heap), YP w h → (K w.params).In h)
    (F : ∀ (w : World) (mg : Str → Option Value) (g : Addr) (h : Heap), (K w.params).In h → h.Ns mainGlobals mg → mg d.name = some (.ref g) →
      ∃ fd : FuncData, (∀ (s : Shared) (u : Value), (K w.params).In s.heap → BindsTo s fd ⟨[u], []⟩ [(x, u)]) ∧ ∀ base : Heap, (K w.params).In base → base.Ns mainGlobals mg → FnG l.prog w (K w.params) mg base k g fd [x] (spLaw (K w.params) n)) :
    PySem.W.WalkO q loose XP YP l.row.toRowW d [] (fun f vs => PySem.call f vs) :=
  Att.attach_callB most nodef fun w _ t mg mb g o pm cd doc a vs ns G Y ho hd hcd hmg hobj hints hlen hbits hg =>
    let ⟨fd, hb, hF⟩ := F w mg g _ (kin w _ Y) G.T.g hmg
    law_end (kin w _ Y) G.T.g G.T.b G.T.builtins G.T.nolimit hg hobj hints hlen hn hbits room hF hb
end TL

set_option Elab.async false
set_option linter.all false
set_option maxRecDepth 100000
set_option maxHeartbeats 4000000
namespace TL
open PySem PySem.Spec PyProof.Rows L2

/-! ### the drawing object's own fields -/
def Src.pull (S : Src) (c : Int) (h : S.cells.getLast? = some c) : Src := ⟨⟨S.cells.dropLast, c, S.mixed, S.turn⟩,
  fun z hz => S.ok.1 z (List.dropLast_subset _ hz), by have := S.ok.2.1; show S.cells.dropLast.length ≤ 63; rw [List.length_dropLast]; omega, (S.ok.1 c (List.mem_of_getLast? h)).1, (S.ok.1 c (List.mem_of_getLast? h)).2, S.ok.2.2.2.2⟩
def Src.putL (S : Src) (i : Int) (h : 0 ≤ i ∧ i.natAbs < lim) : Src := ⟨⟨S.cells, i, S.mixed, S.turn⟩, S.ok.1, S.ok.2.1, h.1, h.2, S.ok.2.2.2.2⟩
def Src.putM (S : Src) (i : Int) (h : 0 ≤ i ∧ i < 1099511627776) : Src := ⟨⟨S.cells, S.left, i, S.turn⟩, S.ok.1, S.ok.2.1, S.ok.2.2.1, S.ok.2.2.2.1, h.1, h.2⟩
def Src.putT (S : Src) (i : Int) : Src := ⟨⟨S.cells, S.left, S.mixed, i⟩, S.ok⟩
def sgL : FE := fun _ S => some (.int S.left, S)
def sgM : FE := fun _ S => some (.int S.mixed, S)
def sgT : FE := fun _ S => some (.int S.turn, S)
def sgN : FE := fun _ S => some (.int S.cells.length, S)
def gPull : FS := fun ρ S => match h : S.cells.getLast? with
  | some c => some (.nx ρ (S.pull c h))
  | none => none
def gPutL (f : FE) : FS := fun ρ S => match f ρ S with
  | some (.int i, S1) => if h : 0 ≤ i ∧ i.natAbs < lim then some (.nx ρ (S1.putL i h)) else none
  | _ => none
def gPutM (f : FE) : FS := fun ρ S => match f ρ S with
  | some (.int i, S1) => if h : 0 ≤ i ∧ i < 1099511627776 then some (.nx ρ (S1.putM i h)) else none
  | _ => none
def gPutT (f : FE) : FS := fun ρ S => match f ρ S with
  | some (.int i, S1) => some (.nx ρ (S1.putT i))
  | _ => none
abbrev fld (v1 v2 v3 v4 : V) : List (Key × V) := [(.inr "cells", v1), (.inr "left", v2), (.inr "mixed", v3), (.inr "turn", v4)]
theorem fld_c {a b c d : V} : valV (fld a b c d) (.inr "cells") = some a := by rfl
theorem fld_l {a b c d : V} : valV (fld a b c d) (.inr "left") = some b := by rfl
theorem fld_m {a b c d : V} : valV (fld a b c d) (.inr "mixed") = some c := by rfl
theorem fld_t {a b c d : V} : valV (fld a b c d) (.inr "turn") = some d := by rfl
theorem fld_pl {a b c d v : V} : putK (fld a b c d) (.inr "left") v = fld a v c d := by rfl
theorem fld_pm {a b c d v : V} : putK (fld a b c d) (.inr "mixed") v = fld a b v d := by rfl
theorem fld_pt {a b c d v : V} : putK (fld a b c d) (.inr "turn") v = fld a b c v := by rfl
section
variable {X : Cx} {C : Cf} {kb kd kd' : Nat → Bool} {ow : Ow} {σ : L2.St} {ρ : Rho} {S S' : Src} {H H' : Hp} {e : Expr} {st : Stmt}
theorem Rel.srcAt (R : Rel C kd ow σ ρ S H) (hs : ∃ p, C.src = some p) : ∃ x c, C.src = some (x, c) ∧ σ[C.sx]? = some (some (.ref x)) ∧ SrcAt H x c S ∧ C.foot x ∧ C.foot c := by
  obtain ⟨⟨x, c⟩, hp⟩ := hs
  have s := R.src
  unfold SrcOk at s
  rw [hp] at s
  exact ⟨x, c, hp, (R.sr _ hp).1, s, by unfold Cf.foot; rw [hp]; exact .inl rfl, by unfold Cf.foot; rw [hp]; exact .inr rfl⟩
theorem x_sL (hs : ∃ p, C.src = some p) (h : PE X e (tDGet (tVar C.sx) (tC (.str "left")))) : PE X e (tF C kd sgL) := PE_imp h fun σ H Q ⟨ow, ρ, S, d, S', R, e, k⟩ => by
  cases e
  obtain ⟨x, c, hp, hσ, ⟨n0, h1, h2, h3⟩, _⟩ := R.srcAt hs
  exact ⟨_, hσ, x, .int S.left, rfl, (DGet.k (k := .inr "left") h1 : _), k _ H .refl R.src (by rw [Rep]) fun z => by cases z⟩
theorem x_sM (hs : ∃ p, C.src = some p) (h : PE X e (tDGet (tVar C.sx) (tC (.str "mixed")))) : PE X e (tF C kd sgM) := PE_imp h fun σ H Q ⟨ow, ρ, S, d, S', R, e, k⟩ => by
  cases e
  obtain ⟨x, c, hp, hσ, ⟨n0, h1, h2, h3⟩, _⟩ := R.srcAt hs
  exact ⟨_, hσ, x, .int S.mixed, rfl, (DGet.k (k := .inr "mixed") h1 : _), k _ H .refl R.src (by rw [Rep]) fun z => by cases z⟩
theorem x_sT (hs : ∃ p, C.src = some p) (h : PE X e (tDGet (tVar C.sx) (tC (.str "turn")))) : PE X e (tF C kd sgT) := PE_imp h fun σ H Q ⟨ow, ρ, S, d, S', R, e, k⟩ => by
  cases e
  obtain ⟨x, c, hp, hσ, ⟨n0, h1, h2, h3⟩, _⟩ := R.srcAt hs
  exact ⟨_, hσ, x, .int S.turn, rfl, (DGet.k (k := .inr "turn") h1 : _), k _ H .refl R.src (by rw [Rep]) fun z => by cases z⟩
theorem x_sN (hs : ∃ p, C.src = some p) (h : PE X e (tCB (fun xs H Q => ∃ p ys, xs = [.ref p] ∧ (SqL X.K H p ys ∨ SqT X.K H p ys) ∧ Q (.int ys.length) H) (tCons (tDGet (tVar C.sx) (tC (.str "cells"))) tNil))) : PE X e (tF C kd sgN) := PE_imp h fun σ H Q ⟨ow, ρ, S, d, S', R, e, k⟩ => by
  cases e
  obtain ⟨x, c, hp, hσ, ⟨n0, h1, h2, h3⟩, _⟩ := R.srcAt hs
  refine ⟨_, hσ, x, .ref c, rfl, (DGet.k (k := .inr "cells") h1 : _), c, _, rfl, .inl (.of h2), ?_⟩
  rw [List.length_map]
  exact k _ H .refl R.src (by rw [Rep]) fun z => by cases z
theorem kp_src {x : Addr} {xs ys : HO} (h : H x = some xs) (m : Mut (some xs)) (f : C.foot x) : Kp C.foot H (upd H x ys) := .wr f (fun zs z => by rw [h] at z; cases z; exact m) fun o u z => by rw [h] at z; cases z; exact m
theorem src_back (hp : C.src = some (x, c)) (s : SrcAt H x c S) : SrcOk C S H := by
  unfold SrcOk
  rw [hp]
  exact s
theorem p_sPull (hs : ∃ p, C.src = some p) (h : PS X st (sDPut (tVar C.sx) (tC (.str "left")) (tBM0 X.K "list" rPop (tDGet (tVar C.sx) (tC (.str "cells")))))) : PS X st (tP C kb kd kd gPull) := PS_imp h fun Dn σ H ⟨ow, ρ, S, o, R, e, k⟩ => by
  unfold gPull at e
  split at e
  · rename_i cl hcl
    cases e
    obtain ⟨x, c, hp, hσ, ⟨n0, h1, h2, h3⟩, fx, fc⟩ := R.srcAt hs
    have hl : (S.cells.map V.int)[(S.cells.map V.int).length - 1]? = some (.int cl) := by
      rw [List.length_map, List.getElem?_map, ← List.getLast?_eq_getElem?, hcl]
      rfl
    have k1 : Kp C.foot H (upd H c (.lst (S.cells.map V.int).dropLast)) := kp_src h2 trivial fc
    have h1' : (upd H c (.lst (S.cells.map V.int).dropLast)) x = some (.dK (fld (.ref c) (.int S.left) (.int S.mixed) (.int S.turn))) := by rw [upd_ne n0]; exact h1
    have k2 : Kp C.foot _ (upd (upd H c (.lst (S.cells.map V.int).dropLast)) x (.dK (fld (.ref c) (.int cl) (.int S.mixed) (.int S.turn)))) := kp_src h1' trivial fx
    refine ⟨_, hσ, x, .ref c, rfl, (DGet.k (k := .inr "cells") h1 : _), .inl ⟨rfl, _, .of h2⟩, c, _, .int cl, rfl, rfl, h2, hl, _, hσ, x, _, rfl, (DPut.k (k := .inr "left") h1' (small1000 (by show 4 ≤ 1000; decide)) : _), ?_⟩
    have s' : SrcOk C (S.pull cl hcl) (upd (upd H c (.lst (S.cells.map V.int).dropLast)) x (.dK (fld (.ref c) (.int cl) (.int S.mixed) (.int S.turn)))) :=
      src_back hp ⟨n0, upd_same, by rw [upd_ne n0.symm, upd_same]; show _ = some (HO.lst (List.map V.int S.cells.dropLast)); rw [List.map_dropLast], (S.pull cl hcl).ok⟩
    exact k σ _ ow (R.step (k1.trans k2) s') (R.ev (k1.trans k2) s')
  · cases e
theorem p_sL {f : FE} (hs : ∃ p, C.src = some p) (h : PS X st (sDPut (tVar C.sx) (tC (.str "left")) (tX C kd f))) : PS X st (tP C kb kd kd (gPutL f)) := PS_imp h fun Dn σ H ⟨ow, ρ, S, o, R, e, k⟩ => by
  unfold gPutL at e
  split at e
  · rename_i i S1 e1
    split at e
    · rename_i hi
      cases e
      refine ⟨ow, ρ, S, _, S1, R, e1, fun v H1 k1 s1 r1 => ?_⟩
      obtain ⟨x, c, hp, hσ, ⟨n0, h1, h2, h3⟩, fx, fc⟩ := (R.step k1 s1).srcAt hs
      rw [Rep] at r1
      subst r1
      have k2 : Kp C.foot _ (upd H1 x (.dK (fld (.ref c) (.int i) (.int S1.mixed) (.int S1.turn)))) := kp_src h1 trivial fx
      have s' : SrcOk C (S1.putL i hi) (upd H1 x (.dK (fld (.ref c) (.int i) (.int S1.mixed) (.int S1.turn)))) := src_back hp ⟨n0, upd_same, by rw [upd_ne n0.symm]; exact h2, (S1.putL i hi).ok⟩
      exact ⟨_, hσ, x, _, rfl, (DPut.k (k := .inr "left") h1 (small1000 (by show 4 ≤ 1000; decide)) : _), k σ _ ow (R.step (k1.trans k2) s') (R.ev (k1.trans k2) s')⟩
    · cases e
  · cases e
theorem p_sM {f : FE} (hs : ∃ p, C.src = some p) (h : PS X st (sDPut (tVar C.sx) (tC (.str "mixed")) (tX C kd f))) : PS X st (tP C kb kd kd (gPutM f)) := PS_imp h fun Dn σ H ⟨ow, ρ, S, o, R, e, k⟩ => by
  unfold gPutM at e
  split at e
  · rename_i i S1 e1
    split at e
    · rename_i hi
      cases e
      refine ⟨ow, ρ, S, _, S1, R, e1, fun v H1 k1 s1 r1 => ?_⟩
      obtain ⟨x, c, hp, hσ, ⟨n0, h1, h2, h3⟩, fx, fc⟩ := (R.step k1 s1).srcAt hs
      rw [Rep] at r1
      subst r1
      have k2 : Kp C.foot _ (upd H1 x (.dK (fld (.ref c) (.int S1.left) (.int i) (.int S1.turn)))) := kp_src h1 trivial fx
      have s' : SrcOk C (S1.putM i hi) (upd H1 x (.dK (fld (.ref c) (.int S1.left) (.int i) (.int S1.turn)))) := src_back hp ⟨n0, upd_same, by rw [upd_ne n0.symm]; exact h2, (S1.putM i hi).ok⟩
      exact ⟨_, hσ, x, _, rfl, (DPut.k (k := .inr "mixed") h1 (small1000 (by show 4 ≤ 1000; decide)) : _), k σ _ ow (R.step (k1.trans k2) s') (R.ev (k1.trans k2) s')⟩
    · cases e
  · cases e
theorem p_sT {f : FE} (hs : ∃ p, C.src = some p) (h : PS X st (sDPut (tVar C.sx) (tC (.str "turn")) (tX C kd f))) : PS X st (tP C kb kd kd (gPutT f)) := PS_imp h fun Dn σ H ⟨ow, ρ, S, o, R, e, k⟩ => by
  unfold gPutT at e
  split at e
  · rename_i i S1 e1
    cases e
    refine ⟨ow, ρ, S, _, S1, R, e1, fun v H1 k1 s1 r1 => ?_⟩
    obtain ⟨x, c, hp, hσ, ⟨n0, h1, h2, h3⟩, fx, fc⟩ := (R.step k1 s1).srcAt hs
    rw [Rep] at r1
    subst r1
    have k2 : Kp C.foot _ (upd H1 x (.dK (fld (.ref c) (.int S1.left) (.int S1.mixed) (.int i)))) := kp_src h1 trivial fx
    have s' : SrcOk C (S1.putT i) (upd H1 x (.dK (fld (.ref c) (.int S1.left) (.int S1.mixed) (.int i)))) := src_back hp ⟨n0, upd_same, by rw [upd_ne n0.symm]; exact h2, (S1.putT i).ok⟩
    exact ⟨_, hσ, x, _, rfl, (DPut.k (k := .inr "turn") h1 (small1000 (by show 4 ≤ 1000; decide)) : _), k σ _ ow (R.step (k1.trans k2) s') (R.ev (k1.trans k2) s')⟩
  · cases e
end
end TL

set_option Elab.async false
set_option linter.all false
set_option maxRecDepth 100000
set_option maxHeartbeats 4000000
namespace TL
open PySem PySem.Spec PyProof.Rows L2

/-! ### _law_pick -/
def gPick : FS :=
  gSeq (gWh (fAnd (tst (b2 dGt (rd 1) (cst (.int 1)))) (fAnd (tst (b2 dLt sgL (cst (.int 2)))) (tst (b2 dGt sgN (cst (.int 0)))))) gPull 65)
  (gSeq (gSet 2 sgL)
  (gSeq (gIf (fOr (tst (b2 dLt (rd 1) (cst (.int 2)))) (tst (b2 dGt (rd 2) (cst (.int 1)))))
    (gSeq (gPutL (b2 dFdiv (rd 2) (cN dMax (aC (cst (.int 1)) (aC (rd 1) aN)))))
      (gRet (b2 dMod (cN dInt (aC (rd 2) aN)) (cN dMax (aC (cst (.int 1)) (aC (rd 1) aN)))))) gN)
  (gSeq (gPutT (b2 dAdd sgT (cst (.int 1))))
  (gSeq (gSet 3 (b2 dMod (cN dInt (aC (b2 dAdd sgM (b2 dMul sgT (cst (.int 104729)))) aN)) (cst (.int 998244353))))
  (gSeq (gSet 3 (b2 dMod (cN dInt (aC (b2 dAdd (b2 dMul (rd 3) (rd 3)) (b2 dMul sgT (cst (.int 17)))) aN)) (cst (.int 2147483647))))
  (gSeq (gPutM (rd 3))
    (gRet (b2 dMod (cN dInt (aC (b2 dFdiv (rd 3) (cst (.int 16))) aN)) (rd 1)))))))))
def gPick' : FS :=
  gSeq (gSet 2 sgL)
  (gSeq (gIf (fOr (tst (b2 dLt (rd 1) (cst (.int 2)))) (tst (b2 dGt (rd 2) (cst (.int 1)))))
    (gSeq (gPutL (b2 dFdiv (rd 2) (cN dMax (aC (cst (.int 1)) (aC (rd 1) aN)))))
      (gRet (b2 dMod (cN dInt (aC (rd 2) aN)) (cN dMax (aC (cst (.int 1)) (aC (rd 1) aN)))))) gN)
  (gSeq (gPutT (b2 dAdd sgT (cst (.int 1))))
  (gSeq (gSet 3 (b2 dMod (cN dInt (aC (b2 dAdd sgM (b2 dMul sgT (cst (.int 104729)))) aN)) (cst (.int 998244353))))
  (gSeq (gSet 3 (b2 dMod (cN dInt (aC (b2 dAdd (b2 dMul (rd 3) (rd 3)) (b2 dMul sgT (cst (.int 17)))) aN)) (cst (.int 2147483647))))
  (gSeq (gPutM (rd 3))
    (gRet (b2 dMod (cN dInt (aC (b2 dFdiv (rd 3) (cst (.int 16))) aN)) (rd 1))))))))
theorem pull_len {S : Src} {c : Int} {h : S.cells.getLast? = some c} : (S.pull c h).cells.length + 1 = S.cells.length := by
  show S.cells.dropLast.length + 1 = _
  have : S.cells ≠ [] := by intro e; rw [e] at h; cases h
  rw [List.length_dropLast]
  have := List.length_pos_iff.mpr this
  omega
theorem pick_loop {m : Int} {x y z : Option D} : ∀ (n : Nat) (S : Src), S.cells.length < n →
    ∃ S', gWh (fAnd (tst (b2 dGt (rd 1) (cst (.int 1)))) (fAnd (tst (b2 dLt sgL (cst (.int 2)))) (tst (b2 dGt sgN (cst (.int 0)))))) gPull n [x, some (.int m), y, z] S = some (.nx [x, some (.int m), y, z] S')
  | 0, _, h => by omega
  | n + 1, S, h => by
    rw [gWh]
    by_cases h1 : 1 < m
    · by_cases h2 : S.left < 2
      · cases hc : S.cells.getLast? with
        | none =>
          have h0 : S.cells = [] := by simpa using hc
          refine ⟨S, ?_⟩
          simp [fAnd, tst, b2, rd, cst, dGt, dLt, sgL, sgN, h1, h2, h0]
        | some c =>
          have hpos : 0 < S.cells.length := by
            cases e : S.cells with
            | nil => rw [e] at hc; cases hc
            | cons a b => simp
          obtain ⟨S', e⟩ := pick_loop (m := m) (x := x) (y := y) (z := z) n (S.pull c hc) (by have := pull_len (S := S) (h := hc); omega)
          refine ⟨S', ?_⟩
          have eg : gPull [x, some (.int m), y, z] S = some (.nx [x, some (.int m), y, z] (S.pull c hc)) := by
            unfold gPull
            split
            · rename_i c' hc'
              have : c' = c := by rw [hc] at hc'; cases hc'; rfl
              subst this
              rfl
            · rename_i hn
              rw [hc] at hn
              cases hn
          simp [fAnd, tst, b2, rd, cst, dGt, dLt, sgL, sgN, h1, h2, hpos, eg, e]
      · refine ⟨S, ?_⟩
        simp [fAnd, tst, b2, rd, cst, dGt, dLt, sgL, h1, h2]
    · refine ⟨S, ?_⟩
      simp [fAnd, tst, b2, rd, cst, dGt, h1]
theorem b2_val {f : D → D → Option D} {fa fb : FE} {ρ : Rho} {S S1 S2 : Src} {a b d : D} (ea : fa ρ S = some (a, S1)) (eb : fb ρ S1 = some (b, S2)) (ef : f a b = some d) : b2 f fa fb ρ S = some (d, S2) := by
  unfold b2
  rw [ea]
  dsimp only
  rw [eb]
  dsimp only
  rw [ef]
theorem dMul_of {i j : Int} (h : (-(2 ^ 64) < i ∧ i < 2 ^ 64) ∨ (-(2 ^ 64) < j ∧ j < 2 ^ 64)) : dMul (.int i) (.int j) = some (.int (i * j)) := if_pos h
theorem dMod_of {i j : Int} (h : 0 < j) : dMod (.int i) (.int j) = some (.int (i % j)) := if_pos h
theorem dFdiv_of {i j : Int} (h : 0 < j ∧ j < 2 ^ 30) : dFdiv (.int i) (.int j) = some (.int (i / j)) := if_pos h
theorem gSeq_rt {g h : FS} {ρ : Rho} {S S1 : Src} {d : D} (e : g ρ S = some (.rt d S1)) : gSeq g h ρ S = some (.rt d S1) := by
  unfold gSeq
  rw [e]
theorem gSeq_nx {g h : FS} {ρ ρ1 : Rho} {S S1 : Src} (e : g ρ S = some (.nx ρ1 S1)) : gSeq g h ρ S = h ρ1 S1 := by
  unfold gSeq
  rw [e]
theorem pick_end {m : Int} {x y z : Option D} (S : Src) (hm : m < 2 ^ 30) : ∃ r S', gPick' [x, some (.int m), y, z] S = some (.rt (.int r) S') ∧ 0 ≤ r ∧ r < (if m > 1 then m else 1) := by
  have hl0 := S.ok.2.2.1
  have hl1 := S.ok.2.2.2.1
  unfold gPick'
  rw [gSeq_nx (ρ1 := [x, some (.int m), some (.int S.left), z]) (S1 := S) rfl]
  have hmax : 0 < (if m > 1 then m else 1) ∧ (if m > 1 then m else 1) < 2 ^ 30 := by split <;> omega
  by_cases hc : m < 2 ∨ 1 < S.left
  · have hq : 0 ≤ S.left / (if m > 1 then m else 1) ∧ (S.left / (if m > 1 then m else 1)).natAbs < lim := by
      have h1 := Int.ediv_nonneg hl0 (Int.le_of_lt hmax.1)
      have h2 := Int.ediv_le_self (if m > 1 then m else 1) hl0
      exact ⟨h1, by omega⟩
    refine ⟨S.left % (if m > 1 then m else 1), S.putL _ hq, ?_, Int.emod_nonneg _ (by omega), Int.emod_lt_of_pos _ hmax.1⟩
    have ec : fOr (tst (b2 dLt (rd 1) (cst (.int 2)))) (tst (b2 dGt (rd 2) (cst (.int 1)))) [x, some (.int m), some (.int S.left), z] S = some (true, S) := by
      by_cases h1 : m < 2
      · simp [fOr, tst, b2, rd, cst, dLt, h1]
      · have h2 : 1 < S.left := hc.resolve_left h1
        simp [fOr, tst, b2, rd, cst, dLt, dGt, h1, h2]
    have em : ∀ S, cN dMax (aC (cst (.int 1)) (aC (rd 1) aN)) [x, some (.int m), some (.int S.left), z] S = some (.int (if m > 1 then m else 1), S) := fun S => rfl
    have e1 : gIf (fOr (tst (b2 dLt (rd 1) (cst (.int 2)))) (tst (b2 dGt (rd 2) (cst (.int 1)))))
        (gSeq (gPutL (b2 dFdiv (rd 2) (cN dMax (aC (cst (.int 1)) (aC (rd 1) aN))))) (gRet (b2 dMod (cN dInt (aC (rd 2) aN)) (cN dMax (aC (cst (.int 1)) (aC (rd 1) aN)))))) gN
        [x, some (.int m), some (.int S.left), z] S = some (.rt (.int (S.left % (if m > 1 then m else 1))) (S.putL _ hq)) := by
      unfold gIf
      rw [ec]
      have ed : b2 dFdiv (rd 2) (cN dMax (aC (cst (.int 1)) (aC (rd 1) aN))) [x, some (.int m), some (.int S.left), z] S = some (.int (S.left / (if m > 1 then m else 1)), S) := b2_val rfl (em S) (dFdiv_of hmax)
      have ep : gPutL (b2 dFdiv (rd 2) (cN dMax (aC (cst (.int 1)) (aC (rd 1) aN)))) [x, some (.int m), some (.int S.left), z] S = some (.nx [x, some (.int m), some (.int S.left), z] (S.putL _ hq)) := by
        unfold gPutL
        rw [ed]
        exact dif_pos hq
      dsimp only
      rw [gSeq_nx ep]
      unfold gRet
      have ev : b2 dMod (cN dInt (aC (rd 2) aN)) (cN dMax (aC (cst (.int 1)) (aC (rd 1) aN))) [x, some (.int m), some (.int S.left), z] (S.putL _ hq) = some (.int (S.left % (if m > 1 then m else 1)), S.putL _ hq) :=
        b2_val (S1 := S.putL _ hq) (a := .int S.left) rfl (em _) (dMod_of hmax.1)
      rw [ev]
    rw [gSeq_rt e1]
  · have h1 : ¬ m < 2 := fun h => hc (.inl h)
    have h2 : ¬ 1 < S.left := fun h => hc (.inr h)
    have ec : fOr (tst (b2 dLt (rd 1) (cst (.int 2)))) (tst (b2 dGt (rd 2) (cst (.int 1)))) [x, some (.int m), some (.int S.left), z] S = some (false, S) := by
      simp [fOr, tst, b2, rd, cst, dLt, dGt, h1, h2]
    have e1 : gIf (fOr (tst (b2 dLt (rd 1) (cst (.int 2)))) (tst (b2 dGt (rd 2) (cst (.int 1)))))
        (gSeq (gPutL (b2 dFdiv (rd 2) (cN dMax (aC (cst (.int 1)) (aC (rd 1) aN))))) (gRet (b2 dMod (cN dInt (aC (rd 2) aN)) (cN dMax (aC (cst (.int 1)) (aC (rd 1) aN)))))) gN
        [x, some (.int m), some (.int S.left), z] S = some (.nx [x, some (.int m), some (.int S.left), z] S) := by
      unfold gIf
      rw [ec]
      rfl
    rw [gSeq_nx e1]
    rw [gSeq_nx (g := gPutT (b2 dAdd sgT (cst (.int 1)))) (ρ1 := [x, some (.int m), some (.int S.left), z]) (S1 := S.putT (S.turn + 1)) rfl]
    have e2 : gSet 3 (b2 dMod (cN dInt (aC (b2 dAdd sgM (b2 dMul sgT (cst (.int 104729)))) aN)) (cst (.int 998244353))) [x, some (.int m), some (.int S.left), z] (S.putT (S.turn + 1)) =
        some (.nx [x, some (.int m), some (.int S.left), some (.int ((S.mixed + (S.turn + 1) * 104729) % 998244353))] (S.putT (S.turn + 1))) := by
      have : b2 dMul sgT (cst (.int 104729)) [x, some (.int m), some (.int S.left), z] (S.putT (S.turn + 1)) = some (.int ((S.turn + 1) * 104729), S.putT (S.turn + 1)) := by
        exact b2_val rfl rfl (dMul_of (.inr (by decide)))
      have : b2 dAdd sgM (b2 dMul sgT (cst (.int 104729))) [x, some (.int m), some (.int S.left), z] (S.putT (S.turn + 1)) = some (.int (S.mixed + (S.turn + 1) * 104729), S.putT (S.turn + 1)) := by
        rw [b2, show sgM [x, some (.int m), some (.int S.left), z] (S.putT (S.turn + 1)) = some (.int S.mixed, S.putT (S.turn + 1)) from rfl]
        dsimp only
        rw [this]
        rfl
      have : cN dInt (aC (b2 dAdd sgM (b2 dMul sgT (cst (.int 104729)))) aN) [x, some (.int m), some (.int S.left), z] (S.putT (S.turn + 1)) = some (.int (S.mixed + (S.turn + 1) * 104729), S.putT (S.turn + 1)) := by
        rw [cN, aC, this]
        rfl
      rw [gSet, b2, this]
      rfl
    rw [gSeq_nx e2]
    generalize hv : (S.mixed + (S.turn + 1) * 104729) % 998244353 = v
    have hv0 : 0 ≤ v := by rw [← hv]; exact Int.emod_nonneg _ (by decide)
    have hv1 : v < 998244353 := by rw [← hv]; exact Int.emod_lt_of_pos _ (by decide)
    have e3 : gSet 3 (b2 dMod (cN dInt (aC (b2 dAdd (b2 dMul (rd 3) (rd 3)) (b2 dMul sgT (cst (.int 17)))) aN)) (cst (.int 2147483647))) [x, some (.int m), some (.int S.left), some (.int v)] (S.putT (S.turn + 1)) =
        some (.nx [x, some (.int m), some (.int S.left), some (.int ((v * v + (S.turn + 1) * 17) % 2147483647))] (S.putT (S.turn + 1))) := by
      have h1 : b2 dMul (rd 3) (rd 3) [x, some (.int m), some (.int S.left), some (.int v)] (S.putT (S.turn + 1)) = some (.int (v * v), S.putT (S.turn + 1)) := by
        exact b2_val rfl rfl (dMul_of (.inr (by omega)))
      have h2 : b2 dMul sgT (cst (.int 17)) [x, some (.int m), some (.int S.left), some (.int v)] (S.putT (S.turn + 1)) = some (.int ((S.turn + 1) * 17), S.putT (S.turn + 1)) := by
        exact b2_val rfl rfl (dMul_of (.inr (by decide)))
      have : b2 dAdd (b2 dMul (rd 3) (rd 3)) (b2 dMul sgT (cst (.int 17))) [x, some (.int m), some (.int S.left), some (.int v)] (S.putT (S.turn + 1)) = some (.int (v * v + (S.turn + 1) * 17), S.putT (S.turn + 1)) := by
        rw [b2, h1]
        dsimp only
        rw [h2]
        rfl
      have : cN dInt (aC (b2 dAdd (b2 dMul (rd 3) (rd 3)) (b2 dMul sgT (cst (.int 17)))) aN) [x, some (.int m), some (.int S.left), some (.int v)] (S.putT (S.turn + 1)) = some (.int (v * v + (S.turn + 1) * 17), S.putT (S.turn + 1)) := by
        rw [cN, aC, this]
        rfl
      rw [gSet, b2, this]
      rfl
    rw [gSeq_nx e3]
    generalize hu : (v * v + (S.turn + 1) * 17) % 2147483647 = u
    have hu0 : 0 ≤ u := by rw [← hu]; exact Int.emod_nonneg _ (by decide)
    have hu1 : u < 2147483647 := by rw [← hu]; exact Int.emod_lt_of_pos _ (by decide)
    have hm' : 0 ≤ u ∧ u < 1099511627776 := ⟨hu0, by omega⟩
    have e4 : gPutM (rd 3) [x, some (.int m), some (.int S.left), some (.int u)] (S.putT (S.turn + 1)) = some (.nx [x, some (.int m), some (.int S.left), some (.int u)] ((S.putT (S.turn + 1)).putM u hm')) := by
      unfold gPutM
      rw [show rd 3 [x, some (.int m), some (.int S.left), some (.int u)] (S.putT (S.turn + 1)) = some (.int u, S.putT (S.turn + 1)) from rfl]
      exact dif_pos hm'
    rw [gSeq_nx e4]
    refine ⟨u / 16 % m, (S.putT (S.turn + 1)).putM u hm', ?_, Int.emod_nonneg _ (by omega), ?_⟩
    · unfold gRet
      rw [b2_val (S1 := (S.putT (S.turn + 1)).putM u hm') (a := .int (u / 16)) (b := .int m) rfl rfl (dMod_of (by omega))]
    · have := Int.emod_lt_of_pos (u / 16) (show 0 < m by omega)
      split <;> omega
/-- what _law_pick answers -/
theorem pick_run (S : Src) {m : Int} (hm : m < 2 ^ 30) : ∃ r S', runS 4 gPick [.int m] S = some (.int r, S') ∧ 0 ≤ r ∧ r < (if m > 1 then m else 1) := by
  obtain ⟨S1, e1⟩ := pick_loop (m := m) (x := none) (y := none) (z := none) 65 S (by have := S.ok.2.1; omega)
  obtain ⟨r, S2, e2, h1, h2⟩ := pick_end (x := none) (y := none) (z := none) S1 hm
  refine ⟨r, S2, ?_, h1, h2⟩
  have e : gPick [none, some (.int m), none, none] S = some (.rt (.int r) S2) := by
    rw [gPick, gSeq_nx e1]
    exact e2
  unfold runS
  rw [show (none :: List.map some [PyData.int m] ++ List.replicate (4 - ([PyData.int m].length + 1)) none) = [none, some (.int m), none, none] from rfl, e]
end TL

set_option Elab.async false
set_option linter.all false
set_option maxRecDepth 100000
set_option maxHeartbeats 4000000
namespace TL
open PySem PySem.Spec PyProof.Rows L2

/-! ### defs that are known, by name -/
/-- a def of the text as it stands behind the top -/
structure DefG (K : PySem.W.Frag) (mg : Str → Option Value) (x : Str) (st : Stmt) (ps : List Str) : Prop where
  ex : ∃ (f : Addr) (fd : FuncData), Fun K x x st f fd ∧ mg x = some (.ref f) ∧ Binds K fd ps []
structure CalG (P : Program) (w : World) (K : PySem.W.Frag) (mg : Str → Option Value) (base : Heap) (k : Nat) (x : Str) (sp : Sp) : Prop where
  ex : ∃ (f : Addr) (fd : FuncData) (ps : List Str), FnG P w K mg base k f fd ps sp ∧ mg x = some (.ref f) ∧ PySem.W.keepIn K (.ref f) = true ∧ Binds K fd ps []
section
variable {P : Program} {w : World} {K : PySem.W.Frag} {mg : Str → Option Value} {base : Heap}
theorem CalG.up {j k : Nat} {x : Str} {sp : Sp} (c : CalG P w K mg base j x sp) (h : j ≤ k) : CalG P w K mg base k x sp :=
  let ⟨f, fd, ps, F, h1, h2, h3⟩ := c.ex
  ⟨f, fd, ps, F.mono h, h1, h2, h3⟩
theorem cal_P {x : Str} {st : Stmt} {N ps : List Str} {k n : Nat} {kb kd kd' : Nat → Bool} {g : FS} (F : DefG K mg x st ps) (S : FnScope N ps (defScope st)) (hn : ps.length = n) (hk : ∀ i, i < n → kd i = false)
    (body : ∀ (f : Addr) (cdv : Value) (A : Around) (outer : List Env) (s : Shared) (H : Hp) (Z : Zn), Room k (fnX P w K mg base N x st f cdv A outer s H).A → (fnX P w K mg base N x st f cdv A outer s H).A.guards = some [] →
      PSs (fnX P w K mg base N x st f cdv A outer s H) (defBody st) (tP ⟨Z, H, none, 1000⟩ kb kd kd' g)) : CalG P w K mg base (k + 1) x (spP n (runP N.length g)) :=
  let ⟨f, fd, hF, h1, h2⟩ := F.ex
  ⟨f, fd, ps, fn_P hF S hn hk (body f), h1, hF.kp, h2⟩
theorem cal_S {y : Str} {st : Stmt} {N ps : List Str} {k n : Nat} {kb kd kd' : Nat → Bool} {g : FS} (F : DefG K mg y st ps) (S : FnScope N ps (defScope st)) (hn : ps.length = n + 1) (hk : ∀ i, i < n + 1 → kd i = false)
    (body : ∀ (f : Addr) (cdv : Value) (A : Around) (outer : List Env) (s : Shared) (H : Hp) (Z : Zn) (x c : Addr), Room k (fnX P w K mg base N y st f cdv A outer s H).A → (fnX P w K mg base N y st f cdv A outer s H).A.guards = some [] →
      PSs (fnX P w K mg base N y st f cdv A outer s H) (defBody st) (tP ⟨Z, H, some (x, c), 0⟩ kb kd kd' g)) : CalG P w K mg base (k + 1) y (spS n (runS N.length g)) :=
  let ⟨f, fd, hF, h1, h2⟩ := F.ex
  ⟨f, fd, ps, fn_S hF S hn hk (body f), h1, hF.kp, h2⟩
/-- the drawing object is made -/
def spSrc (K : PySem.W.Frag) (n : Nat) : Sp := fun vs H Q _ => ∃ (a : Addr) (ns : List Int), vs = [.ref a] ∧ SqL K H a (ns.map V.int) ∧ ns.length ≤ n ∧ (∀ z ∈ ns, Builtin.Int.intBits z ≤ 1048576) ∧ ∀ (H' : Hp) (x c : Addr) (S : Src), SrcAt H' x c S → Q (.ref x) H'
theorem DefG.bind {x x0 : Str} {st : Stmt} (F : DefG K mg x st [x0]) : ∃ (f : Addr) (fd : FuncData), Fun K x x st f fd ∧ mg x = some (.ref f) ∧ ∀ (s : Shared) (u : Value), K.In s.heap → BindsTo s fd ⟨[u], []⟩ [(x0, u)] := by
  obtain ⟨f, fd, hF, hm, hbi⟩ := F.ex
  refine ⟨f, fd, hF, hm, fun s u hi => ?_⟩
  have := hbi s [u] hi rfl
  simpa using this
/-- a law -/
theorem cal_L {x x0 : Str} {st : Stmt} {N : List Str} {k m : Nat} {kb kd kd' : Nat → Bool} {g : FS} {s0 : Stmt} {rest : List Stmt} {f : Addr} {fd : FuncData} (hF : Fun K x x st f fd) (S : FnScope N [x0] (defScope st)) (hb : defBody st = s0 :: rest) (hN : 2 ≤ N.length)
    (h0 : ∀ (cdv : Value) (A : Around) (outer : List Env) (s : Shared) (H : Hp), Room k (fnX P w K mg base N x st f cdv A outer s H).A → (fnX P w K mg base N x st f cdv A outer s H).A.guards = some [] →
      PS (fnX P w K mg base N x st f cdv A outer s H) s0 (tAsg (fun σ H Q => tCons (tVar 0) tNil σ H fun vs H1 => spSrc K m vs H1 Q E0) (gName 1)))
    (h1 : ∀ (cdv : Value) (A : Around) (outer : List Env) (s : Shared) (H H1 : Hp) (Z : Zn) (y c : Addr), Room k (fnX P w K mg base N x st f cdv A outer s H).A → (fnX P w K mg base N x st f cdv A outer s H).A.guards = some [] →
      PSs (fnX P w K mg base N x st f cdv A outer s H) rest (tP ⟨Z, H1, some (y, c), 1⟩ kb kd kd' g))
    (true' : ∀ T : Src, ∃ T', g (List.replicate N.length none) T = some (.rt (.bool true) T')) : FnG P w K mg base (k + 1) f fd [x0] (spLaw K m) := by
  refine fnG_of hF S (fun vs H Q E ⟨a, ns, e, _⟩ => by rw [e]; rfl) fun cdv A outer s H vs Q room gd ⟨a, ns, e, sq, hl, bits, q⟩ => ?_
  · rw [hb]
    have hr : PSs (fnX P w K mg base N x st f cdv A outer s H) rest (fun D σ H' => ∃ (Z : Zn) (H1 : Hp) (y c : Addr), tP ⟨Z, H1, some (y, c), 1⟩ kb kd kd' g D σ H') :=
      ⟨fun pins s2 σ H2 D I ⟨Z, H1, y, c, h⟩ => (h1 cdv A outer s H H1 Z y c room gd).run pins s2 σ H2 D I h⟩
    refine ⟨_, pss_cons (h0 cdv A outer s H room gd) hr, ?_⟩
    subst e
    have e0 : (L2.start N [V.ref a]) = some (V.ref a) :: List.replicate (N.length - 1) none := rfl
    refine ⟨.ref a, by rw [e0]; rfl, ?_⟩
    refine ⟨a, ns, rfl, sq, hl, bits, fun H' y c T hT => ?_⟩
    refine ⟨fun b => b = y ∨ b = c, H', y, c, ?_⟩
    obtain ⟨T', eT⟩ := true' T
    have hget : ∀ (i : Nat) (d : D), (List.replicate N.length (none : Option D))[i]? ≠ some (some d) := fun i d z => by
      rw [List.getElem?_replicate] at z
      split at z <;> cases z
    refine ⟨ow0, _, T, _, ⟨fun b z => ?_, fun b z => z, .refl, hT, ?_, fun p hp => ?_, fun i d _ z => absurd z (hget i d), fun i d _ z => absurd z (hget i d), fun i j b z => (nomatch z), fun i b z => (nomatch z), fun b z => absurd z own0⟩, eT, fun v H2 _ _ r => ?_⟩
    · obtain ⟨_, g1, g2, _⟩ := hT
      rcases z with rfl | rfl
      · show H' _ ≠ none
        rw [g1]; exact fun z => nomatch z
      · show H' _ ≠ none
        rw [g2]; exact fun z => nomatch z
    · rw [List.length_set, e0, List.length_cons, List.length_replicate, List.length_replicate]
      omega
    · cases hp
      refine ⟨?_, ?_⟩
      · rw [e0]
        exact List.getElem?_set_self (by rw [List.length_cons, List.length_replicate]; omega)
      · show (List.replicate N.length (none : Option D))[1]? = some none
        rw [List.getElem?_replicate, if_pos (by omega)]
    · rw [Rep] at r
      subst r
      exact q H2
end
section
variable {X : Cx} {C : Cf} {kd : Nat → Bool} {x : Str} {p pos : Pos} {e : Expr} {es : List Expr} {j k n : Nat} {g : FA}
theorem y_P {m : List D → Option D} (c : CalG X.prog X.w X.K X.mg X.base k x (spP n m)) (gd : X.A.guards = some []) (hr : Room j X.A) (ha : PA X (e :: es) (tAX C kd n g)) (hj : k ≤ j := by decide) (hg : Gl X x := by rfl) (hdb : (x == ("__debug__" : Str)) = false := by decide)
    (he : starEach (e :: es) X.env = (false, eval e X.env) :: starEach es X.env := by rfl) (hpl : (backTo pos (starEach es X.env)).any (·.1) = false := by rfl) : PE X (.Call (.Name x p) (e :: es) [] pos) (tX C kd (cN m g)) :=
  let ⟨f, fd, ps, F, h1, h2, h3⟩ := c.ex
  x_callP F gd (hr.mono hj) hg h1 h2 h3 ha hdb he hpl
theorem y_I {m : List D → Option D} (c : CalG X.prog X.w X.K X.mg X.base k x (spP n m)) (gd : X.A.guards = some []) (hr : Room j X.A) (ha : PA X (e :: es) (tA C kd n g)) (hj : k ≤ j := by decide) (hg : Gl X x := by rfl) (hdb : (x == ("__debug__" : Str)) = false := by decide)
    (he : starEach (e :: es) X.env = (false, eval e X.env) :: starEach es X.env := by rfl) (hpl : (backTo pos (starEach es X.env)).any (·.1) = false := by rfl) : PE X (.Call (.Name x p) (e :: es) [] pos) (tF C kd (cI m g)) :=
  let ⟨f, fd, ps, F, h1, h2, h3⟩ := c.ex
  x_callI F gd (hr.mono hj) hg h1 h2 h3 ha hdb he hpl
theorem y_S {m : List D → Src → Option (D × Src)} (c : CalG X.prog X.w X.K X.mg X.base k x (spS n m)) (hs : ∃ p, C.src = some p) (gd : X.A.guards = some []) (hr : Room j X.A) (ha : PA X (e :: es) (tAS C kd n g)) (hj : k ≤ j := by decide) (hg : Gl X x := by rfl) (hdb : (x == ("__debug__" : Str)) = false := by decide)
    (he : starEach (e :: es) X.env = (false, eval e X.env) :: starEach es X.env := by rfl) (hpl : (backTo pos (starEach es X.env)).any (·.1) = false := by rfl) : PE X (.Call (.Name x p) (e :: es) [] pos) (tX C kd (cS m g)) :=
  let ⟨f, fd, ps, F, h1, h2, h3⟩ := c.ex
  x_callS F hs gd (hr.mono hj) hg h1 h2 h3 ha hdb he hpl
theorem y_src {m : Nat} (c : CalG X.prog X.w X.K X.mg X.base k x (spSrc X.K m)) (gd : X.A.guards = some []) (hr : Room j X.A) {t : TA} (ha : PA X (e :: es) t) (hj : k ≤ j := by decide) (hg : Gl X x := by rfl) (hdb : (x == ("__debug__" : Str)) = false := by decide)
    (he : starEach (e :: es) X.env = (false, eval e X.env) :: starEach es X.env := by rfl) (hpl : (backTo pos (starEach es X.env)).any (·.1) = false := by rfl) : PE X (.Call (.Name x p) (e :: es) [] pos) (fun σ H Q => t σ H fun vs H1 => spSrc X.K m vs H1 Q E0) :=
  let ⟨f, fd, ps, F, h1, h2, h3⟩ := c.ex
  pe_callG F gd (hr.mono hj) hg h1 h2 h3 ha hdb he hpl
/-! ### o[i], of whatever o is -/
theorem PE_or {e : Expr} {t u : TE} (h1 : PE X e t) (h2 : PE X e u) : PE X e (fun σ H Q => t σ H Q ∨ u σ H Q) := ⟨fun pins s σ H Q I q => q.elim (h1.run pins s σ H Q I) (h2.run pins s σ H Q I)⟩
def dSub2 (a b : D) : Option D := match a with
  | .dict kvs => dGet (.dict kvs) b
  | a => dIx a b
theorem x_sub {o i : Expr} {pos : Pos} {fa fb : FE} (hu : X.A.units + 64 < cLine) (ho : PE X o (tS C kd fa)) (hi : PE X i (tS C kd fb)) (hs : NoSl i) (hp : PlainIx i) : PE X (.Subscript o i pos) (tX C kd (b2 dSub2 fa fb)) :=
  PE_imp (PE_or (x_get hu ho hi hs) (x_ix ho hi hp)) fun σ H Q ⟨ow, ρ, S, d, S', R, e, k⟩ => by
    obtain ⟨a, S1, b, e1, e2, e3⟩ := b2_of e
    unfold dSub2 at e3
    split at e3
    · exact .inl ⟨ow, ρ, S, d, S', R, b2_val e1 e2 e3, k⟩
    · exact .inr ⟨ow, ρ, S, d, S', R, b2_val e1 e2 e3, k⟩
end
/-! ### a comprehension's names -/
def blkC (N : List Str) (sc scope : Scope) (own : List (Str × Nat)) : Bool :=
  decide (scope.kind = .function) && scope.names.all (fun y => decide (scope.names.lookup y.1 = some y.2)) && own.all (fun p => decide (N[p.2]? = some p.1)) &&
  scope.names.all (fun y => decide (y.2 = .free → sc.names.lookup y.1 = some .cell ∨ sc.names.lookup y.1 = some .free)) && scope.names.all fun y => decide (y.2 = .local ∨ y.2 = .cell → y.1 ∈ own.map (·.1) ∨ y.1 ∉ N)
theorem blk_by {N : List Str} {sc scope : Scope} {own : List (Str × Nat)} (h : blkC N sc scope own = true) : BlkOk N sc scope own := by
  unfold blkC at h
  simp only [Bool.and_eq_true, decide_eq_true_eq, List.all_eq_true] at h
  obtain ⟨⟨⟨⟨h1, h2⟩, h3⟩, h4⟩, h5⟩ := h
  exact ⟨h1, h2, h3, h4, h5⟩
end TL

set_option Elab.async false
set_option linter.all false
set_option maxRecDepth 100000
set_option maxHeartbeats 4000000
namespace TL
open PySem PySem.Spec PyProof.Rows L2

/-! ### short words for printed derivations -/
def kdL (l : List Nat) : Nat → Bool := fun i => l.any fun j => Nat.beq j i
theorem kdL_sub {l l' : List Nat} (h : (l'.all fun i => kdL l i) = true) : ∀ i, kdL l' i = true → kdL l i = true := fun i hi => by
  unfold kdL at hi
  rw [List.any_eq_true] at hi
  obtain ⟨j, hj, e⟩ := hi
  have q := List.all_eq_true.mp h j hj
  rw [Nat.eq_of_beq_eq_true e] at q
  exact q
theorem sub_in {is vs : List Nat} (h : (is.all fun i => kdL vs i) = true) : ∀ i ∈ is, i ∈ vs := fun i hi => by
  have q := List.all_eq_true.mp h i hi
  unfold kdL at q
  rw [List.any_eq_true] at q
  obtain ⟨j, hj, e⟩ := q
  rw [← Nat.eq_of_beq_eq_true e]
  exact hj
theorem bt_len : bootBuiltins "len" = some (.builtin "len") := by decide +kernel
theorem bt_any : bootBuiltins "any" = some (.builtin "any") := by decide +kernel
theorem bt_all : bootBuiltins "all" = some (.builtin "all") := by decide +kernel
theorem bt_abs : bootBuiltins "abs" = some (.builtin "abs") := by decide +kernel
theorem bt_max : bootBuiltins "max" = some (.builtin "max") := by decide +kernel
theorem bt_min : bootBuiltins "min" = some (.builtin "min") := by decide +kernel
theorem bt_repr : bootBuiltins "repr" = some (.builtin "repr") := by decide +kernel
theorem bt_sorted : bootBuiltins "sorted" = some (.builtin "sorted") := by decide +kernel
theorem bt_tuple : bootBuiltins "tuple" = some (.type "tuple") := by decide +kernel
theorem bt_list : bootBuiltins "list" = some (.type "list") := by decide +kernel
theorem bt_int : bootBuiltins "int" = some (.type "int") := by decide +kernel
def dListA (ds : List D) : Option D := match ds with
  | [.str x] => dListS [.str x]
  | ds => dList ds
section
variable {X : Cx}
theorem CallR_or {f : Value} {r t : List V → Hp → VK → Prop} (h1 : CallR X f r) (h2 : CallR X f t) : CallR X f (fun xs H Q => r xs H Q ∨ t xs H Q) := fun pins s σ H xs us Q I rv q => q.elim (h1 pins s σ H xs us Q I rv) (h2 pins s σ H xs us Q I rv)
theorem c_listA (hc : X.calm = true) : CallR X (.type "list") (rCl true dListA) := fun pins s σ H xs us Q I rv ⟨C, ow, ds, d, fz, h, e, q⟩ => by
  unfold dListA at e
  split at e
  · exact c_listS hc pins s σ H xs us Q I rv ⟨C, ow, _, d, fz, h, e, q⟩
  · exact c_list pins s σ H xs us Q I rv ⟨C, ow, _, d, fz, h, e, q⟩
end
end TL

set_option Elab.async false
set_option linter.all false
set_option maxRecDepth 100000
set_option maxHeartbeats 4000000
namespace TL
open PySem PySem.Spec PyProof.Rows L2

/-! ### _law_source -/
theorem bits_lim {z : Int} (h : Builtin.Int.intBits z ≤ 1048576) : z.natAbs < lim := by
  unfold Builtin.Int.intBits at h
  unfold lim
  split at h
  · rename_i e
    have e' : z.natAbs = 0 := by simpa using e
    rw [e']
    exact Nat.pow_pos (by decide)
  · exact Nat.lt_of_lt_of_le (Nat.lt_log2_self (n := z.natAbs)) (Nat.pow_le_pow_right (by decide) (by omega))
def tSrc (K : PySem.W.Frag) : TS :=
  tSeq (tAsg (tC (V.int 11)) (gName 1)) (tSeq
    (tFor (iList K (tVar 0)) (gName 2) (tAsg (tOp (rI (fun x j => 0 < j) fun i j => V.int (i % j))
      (tCB (fun xs H Q => (∃ i, xs = [V.int i] ∧ Q (V.int i) H) ∨ ∃ k, xs = [V.bl k] ∧ Q (V.int (if k = true then 1 else 0)) H)
        (tCons (tOp (rI0 fun i j => V.int (i + j)) (tOp (rI0 fun i j => V.int (i + j)) (tOp (rI CMul fun i j => V.int (i * j)) (tVar 1) (tC (V.int 69069))) (tOp (rI CMul fun i j => V.int (i * j)) (tVar 2) (tC (V.int 31)))) (tC (V.int 5))) tNil))
      (tC (V.int 2147483629))) (gName 1)))
    (tRet (tDisp [(tC (V.str "cells"), tRevL K (tLc (iList K (tVar 0)) (gName 2) tYes (tCB (fun xs H Q => ∃ i, xs = [V.int i] ∧ Q (V.int (if i < 0 then -i else i)) H) (tCons (tVar 2) tNil)) [2])),
      (tC (V.str "left"), tC (V.int 1)), (tC (V.str "mixed"), tVar 1), (tC (V.str "turn"), tC (V.int 0))])))
theorem source_run {K : PySem.W.Frag} {H : Hp} {Q : VK} {a : Addr} {ns : List Int} {nx : L2.St → Hp → Prop} (sq : SqL K H a (ns.map V.int)) (hl : ns.length ≤ 63) (bits : ∀ z ∈ ns, Builtin.Int.intBits z ≤ 1048576) (q : ∀ (H' : Hp) (x c : Addr) (S : Src), SrcAt H' x c S → Q (V.ref x) H') :
    tSrc K { nx := nx, rt := Q } (L2.start ["script", "mixed", "cell"] [V.ref a]) H := by
  have get : ∀ {i : Nat} (hi : i < ns.length), (ns.map V.int)[i]? = some (V.int ns[i]) := fun hi => by
    rw [List.getElem?_map, List.getElem?_eq_getElem hi]
    rfl
  refine ⟨.ref a, rfl, a, rfl, ⟨_, sq⟩, fun i m σ H' => ∃ (v : Int) (y2 : Option V), σ = [some (.ref a), some (.int v), y2] ∧ 0 ≤ v ∧ v < 2147483629 ∧ H = H' ∧ i + m = ns.length, ⟨ns.length, 11, none, rfl, by decide, by decide, rfl, by omega⟩, ?_⟩
  rintro i m _ _ ⟨v, y2, rfl, h0, h1, rfl, em⟩
  by_cases hi : i < ns.length
  · refine .inr ⟨⟨_, _, sq, get hi⟩, fun σ' H1 => ∃ (v : Int) (y2 : Option V), σ' = [some (.ref a), some (.int v), y2] ∧ 0 ≤ v ∧ v < 2147483629 ∧ H = H1, fun σ' H' ⟨v, y2, e1, e2, e3, e4⟩ => ⟨m - 1, by omega, v, y2, e1, e2, e3, e4, by omega⟩, ?_⟩
    rintro x _ ⟨rfl, hx⟩
    have ex := hx _ sq
    rw [get hi] at ex
    cases ex
    refine ⟨.int v, rfl, v, 69069, rfl, rfl, .inr (by decide), .int ns[i], rfl, ns[i], 31, rfl, rfl, .inr (by decide), _, _, rfl, rfl, _, _, rfl, rfl, .inl ⟨_, rfl, _, _, rfl, rfl, (by decide : (0 : Int) < 2147483629), ?_⟩⟩
    exact ⟨_, _, rfl, Int.emod_nonneg _ (by decide), Int.emod_lt_of_pos _ (by decide), rfl⟩
  · refine .inl ⟨⟨_, sq, by rw [List.length_map]; omega⟩, ?_⟩
    -- the dict
    intro p hp
    have sq1 : SqL K (upd H p (.dK [])) a (ns.map V.int) := by
      have sm : Same H (upd H p (.dK [])) := fun b o e => by rw [upd_ne (ne_of_none e hp)]; exact e
      exact sm.seq sq
    refine ⟨.ref a, rfl, a, rfl, ⟨_, sq1⟩, fun D hD => ?_⟩
    have nD : D ≠ p := fun e => by rw [e, upd_same] at hD; cases hD
    have absn : ∀ z : Int, (if z < 0 then -z else z) = (z.natAbs : Int) := fun z => by split <;> omega
    refine ⟨fun i m H2 => i + m = ns.length ∧ Same (upd H p (.dK [])) H2 ∧ H2 D = some (.lst (((ns.take i).map fun z => ((z.natAbs : Nat) : Int)).map V.int)), ⟨ns.length, by omega, fun b o e => by rw [upd_ne (ne_of_none e hD)]; exact e, by rw [upd_same]; rfl⟩, ?_⟩
    rintro j n H2 ⟨en, sm, hd⟩
    by_cases hj : j < ns.length
    · refine .inr ⟨⟨_, _, sm.seq sq1, get hj⟩, fun H3 => Same (upd H p (.dK [])) H3 ∧ H3 D = some (.lst (((ns.take (j + 1)).map fun z => ((z.natAbs : Nat) : Int)).map V.int)), fun H3 ⟨e1, e2⟩ => ⟨n - 1, by omega, by omega, e1, e2⟩, ?_⟩
      rintro x _ ⟨rfl, hx⟩
      have ex := hx _ (sm.seq sq1)
      rw [get hj] at ex
      cases ex
      refine ⟨rfl, ?_⟩
      refine ⟨.int ns[j], rfl, ns[j], rfl, _, hd, ?_, ?_⟩
      · rw [List.length_map, List.length_map, List.length_take]
        exact small1000 (by omega)
      · refine ⟨fun b o e => ?_, ?_⟩
        · rw [upd_ne (ne_of_none e hD)]
          exact sm b o e
        · rw [upd_same, List.take_add_one, List.getElem?_eq_getElem hj, absn, List.map_append, List.map_append]
          rfl
    · refine .inl ⟨⟨_, sm.seq sq1, by rw [List.length_map]; omega⟩, ?_⟩
      have ej : ns.take j = ns := List.take_of_length_le (by omega)
      rw [ej] at hd
      refine ⟨D, _, rfl, .inl (.inl hd), fun c hc => ?_⟩
      have nc : p ≠ c := fun e => by
        rw [← e, sm p _ upd_same] at hc
        cases hc
      refine ⟨.int v, rfl, ?_⟩
      refine ⟨by rw [upd_ne nc]; exact sm p _ upd_same, [(.inr "cells", .ref c), (.inr "left", .int 1), (.inr "mixed", .int v), (.inr "turn", .int 0)], rfl, (show 4 ≤ 15 by decide), ?_⟩
      refine q _ p c ⟨⟨(ns.map fun z => ((z.natAbs : Nat) : Int)).reverse, 1, v, 0⟩, fun z hz => ?_, ?_, (show (0 : Int) ≤ 1 by decide), ?_, h0, by show v < _; omega⟩ ⟨nc, ?_, ?_, ?_⟩
      · obtain ⟨y, hy, rfl⟩ := List.mem_map.mp (List.mem_reverse.mp hz)
        exact ⟨Int.natCast_nonneg _, by rw [Int.natAbs_natCast]; exact bits_lim (bits y hy)⟩
      · show (ns.map fun z => ((z.natAbs : Nat) : Int)).reverse.length ≤ 63
        rw [List.length_reverse, List.length_map]
        exact hl
      · show (1 : Int).natAbs < lim
        unfold lim
        exact Nat.one_lt_two_pow (by decide)
      · rw [upd_same]
        rfl
      · rw [upd_ne nc.symm, upd_same, List.map_reverse]
      · refine ⟨fun z hz => ?_, ?_, (show (0 : Int) ≤ 1 by decide), ?_, h0, by show v < _; omega⟩
        · obtain ⟨y, hy, rfl⟩ := List.mem_map.mp (List.mem_reverse.mp hz)
          exact ⟨Int.natCast_nonneg _, by rw [Int.natAbs_natCast]; exact bits_lim (bits y hy)⟩
        · show (ns.map fun z => ((z.natAbs : Nat) : Int)).reverse.length ≤ 63
          rw [List.length_reverse, List.length_map]
          exact hl
        · show (1 : Int).natAbs < lim
          unfold lim
          exact Nat.one_lt_two_pow (by decide)
end TL

set_option Elab.async false
set_option linter.all false
set_option maxRecDepth 100000
set_option maxHeartbeats 4000000
namespace TL
open PySem PySem.Spec PyProof.Rows L2
/-! ### what the top has written -/
theorem def_mk {K : PySem.W.Frag} {h : Heap} {mg : Str → Option Value} {x : Str} {st : Stmt} {ps : List Str} {f : Addr} {oc kV dc pm cd ct : Value} {od an : Option Addr} {sl : Array (Option Value)} (KX : K.In h) (G : h.Ns mainGlobals mg)
    (hb : ∀ (kV doc pm : Value) (an : Option Addr) (cdv ct : Value) (us : List Value), us.length = ps.length → bindArgs (PySem.W.fnOf x x (defArgs st) (defBody st) (defScope st) .none kV doc pm an cdv ct) ⟨us, []⟩ = pure (ps.zip us))
    (a : PySem.W.nsIn K mainGlobals x = some (some (.ref f))) (l : K.lookup f = some ⟨oc, od, .func (PySem.W.fnOf x x (defArgs st) (defBody st) (defScope st) .none kV dc pm an cd ct), sl⟩) (c : PySem.W.codeIn K cd x = true) (k : PySem.W.keepIn K (.ref f) = true) : DefG K mg x st ps :=
  ⟨f, _, fun_mk l c k, PySem.W.mg_of KX G a, (fun_mk l c k).binds hb⟩
theorem def_then {goal : Prop} {K : PySem.W.Frag} {h : Heap} {mg : Str → Option Value} {x : Str} {st : Stmt} {ps : List Str} {f : Addr} {oc kV dc pm cd ct : Value} {od an : Option Addr} {sl : Array (Option Value)} (KX : K.In h) (G : h.Ns mainGlobals mg)
    (hb : ∀ (kV doc pm : Value) (an : Option Addr) (cdv ct : Value) (us : List Value), us.length = ps.length → bindArgs (PySem.W.fnOf x x (defArgs st) (defBody st) (defScope st) .none kV doc pm an cdv ct) ⟨us, []⟩ = pure (ps.zip us))
    (a : PySem.W.nsIn K mainGlobals x = some (some (.ref f))) (l : K.lookup f = some ⟨oc, od, .func (PySem.W.fnOf x x (defArgs st) (defBody st) (defScope st) .none kV dc pm an cd ct), sl⟩) (c : PySem.W.codeIn K cd x = true) (k : PySem.W.keepIn K (.ref f) = true)
    (next : DefG K mg x st ps → goal) : goal := next (def_mk KX G hb a l c k)
theorem DefG.law {K : PySem.W.Frag} {mg : Str → Option Value} {x x0 : Str} {st : Stmt} {g : Addr} (F : DefG K mg x st [x0]) (hm : mg x = some (.ref g)) : ∃ (fd : FuncData), Fun K x x st g fd ∧ ∀ (s : Shared) (u : Value), K.In s.heap → BindsTo s fd ⟨[u], []⟩ [(x0, u)] := by
  obtain ⟨f, fd, hF, h1, h2⟩ := F.bind
  rw [h1] at hm
  cases hm
  exact ⟨fd, hF, h2⟩
end TL

set_option Elab.async false
set_option linter.all false
set_option maxRecDepth 100000
set_option maxHeartbeats 4000000
namespace TL
open PySem PySem.Spec PyProof.Rows L2

/-! ### turns of loops, typed -/
section
variable {α β : Type} {st : FG} {t : FB} {e : FE} {g : FS} {ρ : Rho} {S : Src}
theorem compL_map (enc : α → D) (q : α → Bool) (z : α → D) : ∀ {xs : List α}, (∀ x ∈ xs, ∃ ρ1, st (enc x) ρ = some ρ1 ∧ t ρ1 S = some (q x, S) ∧ (q x = true → e ρ1 S = some (z x, S))) →
    compL st t e ρ (xs.map enc) S = some ((xs.filter q).map z, S)
  | [], _ => rfl
  | x :: xs, h => by
    obtain ⟨ρ1, h1, h2, h3⟩ := h x (List.mem_cons_self ..)
    have ih := compL_map enc q z (xs := xs) fun y hy => h y (List.mem_cons_of_mem _ hy)
    rw [List.map_cons, compL, h1]
    dsimp only
    rw [h2]
    cases hq : q x with
    | true =>
      dsimp only
      rw [h3 hq]
      dsimp only
      rw [ih, List.filter_cons_of_pos hq, List.map_cons]
    | false =>
      dsimp only
      rw [ih, List.filter_cons_of_neg (by rw [hq]; exact Bool.false_ne_true)]
theorem lc_map (enc : α → D) (q : α → Bool) (z : α → D) {vs : List Nat} {fI : FA} {xs : List α} {S0 : Src} (hI : fI ρ S0 = some (xs.map enc, S)) (hl : xs.length ≤ 100000) (h : ∀ x ∈ xs, ∃ ρ1, st (enc x) (wipeR ρ vs) = some ρ1 ∧ t ρ1 S = some (q x, S) ∧ (q x = true → e ρ1 S = some (z x, S))) :
    lcE vs fI st t e ρ S0 = some (.list ((xs.filter q).map z), S) := by
  unfold lcE
  rw [hI]
  dsimp only
  rw [if_pos (by rw [List.length_map]; exact Nat.le_trans hl (by decide)), compL_map enc q z h]
/-- items that draw -/
theorem compL_src (enc : α → D) (ency : β → D) (R : α → β → Prop) : ∀ {xs : List α} {S : Src}, (∀ x ∈ xs, ∀ S, ∃ ρ1 y S', st (enc x) ρ = some ρ1 ∧ t ρ1 S = some (true, S) ∧ e ρ1 S = some (ency y, S') ∧ R x y) →
    ∃ (ys : List β) (S' : Src), compL st t e ρ (xs.map enc) S = some (ys.map ency, S') ∧ ys.length = xs.length ∧ ∀ (i : Nat) (x : α) (y : β), xs[i]? = some x → ys[i]? = some y → R x y
  | [], S, _ => ⟨[], S, rfl, rfl, fun i x y h => by simp at h⟩
  | x :: xs, S, h => by
    obtain ⟨ρ1, y, S1, h1, h2, h3, hr⟩ := h x (List.mem_cons_self ..) S
    obtain ⟨ys, S2, e2, hl, hR⟩ := compL_src enc ency R (xs := xs) (S := S1) fun y hy => h y (List.mem_cons_of_mem _ hy)
    refine ⟨y :: ys, S2, ?_, by rw [List.length_cons, List.length_cons, hl], fun i a b ha hb => ?_⟩
    · rw [List.map_cons, compL, h1]
      dsimp only
      rw [h2]
      dsimp only
      rw [h3]
      dsimp only
      rw [e2, List.map_cons]
    · cases i with
      | zero => cases ha; cases hb; exact hr
      | succ i => exact hR i a b (by simpa using ha) (by simpa using hb)
theorem forL_inv : ∀ {ds : List D} (I : Nat → Rho → Src → Prop), (∀ i d ρ S, ds[i]? = some d → I i ρ S → ∃ ρ1, st d ρ = some ρ1 ∧ ∃ ρ2 S2, g ρ1 S = some (.nx ρ2 S2) ∧ I (i + 1) ρ2 S2) → ∀ {ρ : Rho} {S : Src}, I 0 ρ S →
    ∃ ρ' S', forL st g ds ρ S = some (.nx ρ' S') ∧ I ds.length ρ' S'
  | [], I, _, ρ, S, h => ⟨ρ, S, rfl, h⟩
  | d :: ds, I, h, ρ, S, h0 => by
    obtain ⟨ρ1, h1, ρ2, S2, h2, h3⟩ := h 0 d ρ S rfl h0
    obtain ⟨ρ', S', h4, h5⟩ := forL_inv (ds := ds) (fun i => I (i + 1)) (fun i e ρ S he hi => h (i + 1) e ρ S (by simpa using he) hi) h3
    refine ⟨ρ', S', ?_, h5⟩
    rw [forL]
    dsimp only
    rw [h1]
    dsimp only
    rw [h2]
    exact h4
/-- the first for which p, or none -/
theorem forL_find {enc : α → D} (p : α → Bool) (v : α → D) (I : Rho → Prop) : ∀ {xs : List α}, (∀ x ∈ xs, ∀ ρ, I ρ → ∃ ρ1, st (enc x) ρ = some ρ1 ∧ (p x = true → g ρ1 S = some (.rt (v x) S)) ∧ (p x = false → ∃ ρ2, g ρ1 S = some (.nx ρ2 S) ∧ I ρ2)) → ∀ {ρ : Rho}, I ρ →
    (∃ x, xs.find? p = some x ∧ forL st g (xs.map enc) ρ S = some (.rt (v x) S)) ∨ (xs.find? p = none ∧ ∃ ρ', forL st g (xs.map enc) ρ S = some (.nx ρ' S) ∧ I ρ')
  | [], _, ρ, hi => .inr ⟨rfl, ρ, rfl, hi⟩
  | x :: xs, h, ρ, hi => by
    obtain ⟨ρ1, h1, h2, h3⟩ := h x (List.mem_cons_self ..) ρ hi
    cases hp : p x with
    | true =>
      refine .inl ⟨x, by rw [List.find?_cons, hp], ?_⟩
      rw [List.map_cons, forL]
      dsimp only
      rw [h1]
      dsimp only
      rw [h2 hp]
    | false =>
      obtain ⟨ρ2, h4, h5⟩ := h3 hp
      have ih := forL_find (enc := enc) p v I (xs := xs) (fun y hy => h y (List.mem_cons_of_mem _ hy)) h5
      have e : forL st g ((x :: xs).map enc) ρ S = forL st g (xs.map enc) ρ2 S := by
        rw [List.map_cons, forL]
        dsimp only
        rw [h1]
        dsimp only
        rw [h4]
      rw [e, List.find?_cons, hp]
      exact ih
end
theorem lcN_val {vs : List Nat} {fI : FA} {st : FG} {t : FB} {e : FN} {ρ ρ2 : Rho} {S S1 S2 : Src} {ds ys : List D} (hI : fI ρ S = some (ds, S1)) (hl : ds.length ≤ 100000) (h : compN vs st t e ds (wipeR ρ vs) S1 = some (ys, ρ2, S2)) : lcN vs fI st t e ρ S = some (.list ys, ρ2, S2) := by
  unfold lcN
  rw [hI]
  dsimp only
  rw [if_pos (Nat.le_trans hl (by decide)), h]
theorem gRetNN_val {ρ ρ' : Rho} {f : FN} {d : D} {S S' : Src} (e : f ρ S = some (d, ρ', S')) : gRetNN f ρ S = some (.rt d S') := by
  unfold gRetNN
  rw [e]
theorem tst_val {ρ : Rho} {f : FE} {b : Bool} {S S' : Src} (e : f ρ S = some (.bool b, S')) : tst f ρ S = some (b, S') := by
  unfold tst
  rw [e]
theorem nodup_len {α : Type} [DecidableEq α] : ∀ {l m : List α}, l.Nodup → (∀ x ∈ l, x ∈ m) → l.length ≤ m.length
  | [], _, _, _ => Nat.zero_le _
  | x :: l, m, nd, h => by
    rw [List.nodup_cons] at nd
    have hx : x ∈ m := h x (List.mem_cons_self ..)
    have ih := nodup_len (l := l) (m := m.erase x) nd.2 fun y hy => (List.mem_erase_of_ne fun e => nd.1 (by rw [← e]; exact hy)).mpr (h y (List.mem_cons_of_mem _ hy))
    rw [List.length_erase_of_mem hx] at ih
    have := List.length_pos_of_mem hx
    rw [List.length_cons]
    omega
theorem gWh_t {t : FB} {g : FS} {n : Nat} {ρ ρ2 : Rho} {S S1 S2 : Src} (et : t ρ S = some (true, S1)) (eg : g ρ S1 = some (.nx ρ2 S2)) : gWh t g (n + 1) ρ S = gWh t g n ρ2 S2 := by
  rw [gWh]
  dsimp only
  rw [et]
  dsimp only
  rw [eg]
theorem gWh_f {t : FB} {g : FS} {n : Nat} {ρ : Rho} {S S1 : Src} (et : t ρ S = some (false, S1)) : gWh t g (n + 1) ρ S = some (.nx ρ S1) := by
  rw [gWh]
  dsimp only
  rw [et]
theorem gIf_t {c : FB} {g h : FS} {ρ : Rho} {S S1 : Src} (e : c ρ S = some (true, S1)) : gIf c g h ρ S = g ρ S1 := by
  unfold gIf
  rw [e]
theorem gIf_f {c : FB} {g h : FS} {ρ : Rho} {S S1 : Src} (e : c ρ S = some (false, S1)) : gIf c g h ρ S = h ρ S1 := by
  unfold gIf
  rw [e]
theorem gSet_val {i : Nat} {f : FE} {ρ : Rho} {S S1 : Src} {d : D} (e : f ρ S = some (d, S1)) : gSet i f ρ S = some (.nx (ρ.set i (some d)) S1) := by
  unfold gSet
  rw [e]
theorem gRet_val {f : FE} {ρ : Rho} {S S1 : Src} {d : D} (e : f ρ S = some (d, S1)) : gRet f ρ S = some (.rt d S1) := by
  unfold gRet
  rw [e]
theorem gFor_val {fI : FA} {st : FG} {g : FS} {ρ : Rho} {S S1 : Src} {ds : List D} (e : fI ρ S = some (ds, S1)) : gFor fI st g ρ S = forL st g ds ρ S1 := by
  unfold gFor
  rw [e]
theorem gPar_val {is : List Nat} {g : FA} {ρ : Rho} {S S1 : Src} {ds : List D} (e : g ρ S = some (ds, S1)) : gPar is g ρ S = some (.nx (setD is ds ρ) S1) := by
  unfold gPar
  rw [e]
theorem gOwn_val {i : Nat} {f : FE} {ρ : Rho} {S S1 : Src} {d : D} (e : f ρ S = some (d, S1)) (m : isMut d = true := by rfl) : gOwn i f ρ S = some (.nx (ρ.set i (some d)) S1) := by
  unfold gOwn
  rw [e]
  exact if_pos m
theorem gApp_val {i : Nat} {f : FE} {ρ : Rho} {S S1 : Src} {d : D} {ds : List D} (e : f ρ S = some (d, S1)) (h : ρ[i]? = some (some (.list ds))) (hl : ds.length ≤ 100000) : gApp i f ρ S = some (.nx (ρ.set i (some (.list (ds ++ [d])))) S1) := by
  unfold gApp
  rw [e]
  dsimp only
  rw [h]
  exact if_pos (Nat.lt_of_le_of_lt hl (by decide))
theorem aC_val {f : FE} {g : FA} {ρ : Rho} {S S1 S2 : Src} {d : D} {ds : List D} (e : f ρ S = some (d, S1)) (h : g ρ S1 = some (ds, S2)) : aC f g ρ S = some (d :: ds, S2) := by
  unfold aC
  rw [e]
  dsimp only
  rw [h]
theorem aM_val {f : FE} {g : FA} {ρ : Rho} {S S1 S2 : Src} {d : D} {ds : List D} (e : f ρ S = some (d, S1)) (h : g ρ S1 = some (ds, S2)) (m : isMut d = true := by rfl) : aM f g ρ S = some (d :: ds, S2) := by
  unfold aM
  rw [e]
  dsimp only
  rw [if_pos m, h]
theorem aC1 {f : FE} {ρ : Rho} {S S1 : Src} {d : D} (e : f ρ S = some (d, S1)) : aC f aN ρ S = some ([d], S1) := aC_val e rfl
theorem cN_val {m : List D → Option D} {g : FA} {ρ : Rho} {S S1 : Src} {d : D} {ds : List D} (e : g ρ S = some (ds, S1)) (h : m ds = some d) : cN m g ρ S = some (d, S1) := by
  unfold cN
  rw [e]
  dsimp only
  rw [h]
theorem cS_val {m : List D → Src → Option (D × Src)} {g : FA} {ρ : Rho} {S S1 S2 : Src} {d : D} {ds : List D} (e : g ρ S = some (ds, S1)) (h : m ds S1 = some (d, S2)) : cS m g ρ S = some (d, S2) := by
  unfold cS
  rw [e]
  exact h
theorem mkT_val {g : FA} {ρ : Rho} {S S1 : Src} {ds : List D} (e : g ρ S = some (ds, S1)) : mkT g ρ S = some (.tuple ds, S1) := by
  unfold mkT
  rw [e]
theorem mkL_val {g : FA} {ρ : Rho} {S S1 : Src} {ds : List D} (e : g ρ S = some (ds, S1)) : mkL g ρ S = some (.list ds, S1) := by
  unfold mkL
  rw [e]
theorem ifE_t {c : FB} {f g : FE} {ρ : Rho} {S S1 : Src} (e : c ρ S = some (true, S1)) : ifE c f g ρ S = f ρ S1 := by
  unfold ifE
  rw [e]
theorem ifE_f {c : FB} {f g : FE} {ρ : Rho} {S S1 : Src} (e : c ρ S = some (false, S1)) : ifE c f g ρ S = g ρ S1 := by
  unfold ifE
  rw [e]
theorem fAnd_t {f g : FB} {ρ : Rho} {S S1 : Src} (e : f ρ S = some (true, S1)) : fAnd f g ρ S = g ρ S1 := by
  unfold fAnd
  rw [e]
theorem fAnd_f {f g : FB} {ρ : Rho} {S S1 : Src} (e : f ρ S = some (false, S1)) : fAnd f g ρ S = some (false, S1) := by
  unfold fAnd
  rw [e]
theorem fAnd_val {f g : FB} {ρ : Rho} {S : Src} {a b : Bool} (e : f ρ S = some (a, S)) (h : g ρ S = some (b, S)) : fAnd f g ρ S = some (a && b, S) := by
  unfold fAnd
  rw [e]
  cases a with
  | true => exact h
  | false => rfl
theorem fOr_val {f g : FB} {ρ : Rho} {S : Src} {a b : Bool} (e : f ρ S = some (a, S)) (h : g ρ S = some (b, S)) : fOr f g ρ S = some (a || b, S) := by
  unfold fOr
  rw [e]
  cases a with
  | true => rfl
  | false => exact h
theorem sl3_val {fa : FE} {fl fh : FO} {ρ : Rho} {S S1 S2 S3 : Src} {a d : D} {l h : Option Int} (ea : fa ρ S = some (a, S1)) (el : fl ρ S1 = some (l, S2)) (eh : fh ρ S2 = some (h, S3)) (e : dSl a l h = some d) : sl3 fa fl fh ρ S = some (d, S3) := by
  unfold sl3
  rw [ea]
  dsimp only
  rw [el]
  dsimp only
  rw [eh]
  dsimp only
  rw [e]
theorem pS_val {f : FE} {ρ : Rho} {S S1 : Src} {i : Int} (e : f ρ S = some (.int i, S1)) : pS f ρ S = some (some i, S1) := by
  unfold pS
  rw [e]
theorem iE_val {f : FE} {ρ : Rho} {S S1 : Src} {d : D} {ds : List D} (e : f ρ S = some (d, S1)) (h : items d = some ds) : iE f ρ S = some (ds, S1) := by
  unfold iE
  rw [e]
  dsimp only
  rw [h]
/-! ### a def's mirror, from its body's -/
theorem runP_rt {L : Nat} {g : FS} {ds : List D} {ρ : Rho} {d : D} {S : Src} (e : ds.map some ++ List.replicate (L - ds.length) none = ρ) (h : g ρ S0 = some (.rt d S)) : runP L g ds = some d := by
  subst e
  unfold runP
  rw [h]
theorem runP_nx {L : Nat} {g : FS} {ds : List D} {ρ ρ' : Rho} {S : Src} (e : ds.map some ++ List.replicate (L - ds.length) none = ρ) (h : g ρ S0 = some (.nx ρ' S)) : runP L g ds = some .none := by
  subst e
  unfold runP
  rw [h]
theorem runS_rt {L : Nat} {g : FS} {ds : List D} {ρ : Rho} {d : D} {S S' : Src} (e : none :: ds.map some ++ List.replicate (L - (ds.length + 1)) none = ρ) (h : g ρ S = some (.rt d S')) : runS L g ds S = some (d, S') := by
  subst e
  unfold runS
  rw [h]
theorem runS_nx {L : Nat} {g : FS} {ds : List D} {ρ ρ' : Rho} {S S' : Src} (e : none :: ds.map some ++ List.replicate (L - (ds.length + 1)) none = ρ) (h : g ρ S = some (.nx ρ' S')) : runS L g ds S = some (.none, S') := by
  subst e
  unfold runS
  rw [h]
/-! ### data that are told apart -/
structure Good {α : Type} [DecidableEq α] (enc : α → D) : Prop where
  plain : ∀ x, (enc x).plain = true
  flat : ∀ x, (enc x).depth ≤ 50
  eqv : ∀ x y, PyData.eqv (enc x) (enc y) = decide (x = y)
section
variable {α : Type} [DecidableEq α] {enc : α → D}
theorem Good.plains (G : Good enc) : ∀ xs : List α, PyData.plainAll (xs.map enc) = true
  | [] => rfl
  | x :: xs => by rw [List.map_cons, PyData.plainAll, G.plain, G.plains xs]; rfl
theorem Good.flats (G : Good enc) : ∀ xs : List α, PyData.depthAll (xs.map enc) ≤ 50
  | [] => Nat.zero_le _
  | x :: xs => by
    rw [List.map_cons, PyData.depthAll]
    exact Nat.max_le.mpr ⟨G.flat x, G.flats xs⟩
theorem Good.any (G : Good enc) (x : α) : ∀ xs : List α, ((xs.map enc).any fun y => PyData.eqv y (enc x)) = decide (x ∈ xs)
  | [] => by simp
  | y :: ys => by
    rw [List.map_cons, List.any_cons, G.eqv, G.any x ys]
    by_cases h : y = x
    · simp [h]
    · have h' : ¬ x = y := fun e => h e.symm
      simp [h, h']
theorem Good.lst (G : Good enc) {x : α} {xs : List α} {inst : Decidable (x ∈ xs)} : dInD (enc x) (.list (xs.map enc)) = some (.bool (decide (x ∈ xs))) := by
  show dIn (enc x) (.list (xs.map enc)) = _
  unfold dIn
  dsimp only
  have h1 := G.flat x
  rw [if_pos ⟨G.plain x, G.plains xs, by omega⟩, G.any]
  congr
theorem Good.tup (G : Good enc) {x : α} {xs : List α} {inst : Decidable (x ∈ xs)} : dInD (enc x) (.tuple (xs.map enc)) = some (.bool (decide (x ∈ xs))) := by
  show dIn (enc x) (.tuple (xs.map enc)) = _
  unfold dIn
  dsimp only
  have h1 := G.flat x
  rw [if_pos ⟨G.plain x, G.plains xs, by omega⟩, G.any]
  congr
theorem Good.nlst (G : Good enc) {x : α} {xs : List α} {inst : Decidable (x ∈ xs)} : dNotInD (enc x) (.list (xs.map enc)) = some (.bool (!decide (x ∈ xs))) := by
  show dNotIn (enc x) (.list (xs.map enc)) = _
  unfold dNotIn
  dsimp only
  have h1 := G.flat x
  rw [if_pos ⟨G.plain x, G.plains xs, by omega⟩, G.any]
  congr
theorem Good.ntup (G : Good enc) {x : α} {xs : List α} {inst : Decidable (x ∈ xs)} : dNotInD (enc x) (.tuple (xs.map enc)) = some (.bool (!decide (x ∈ xs))) := by
  show dNotIn (enc x) (.tuple (xs.map enc)) = _
  unfold dNotIn
  dsimp only
  have h1 := G.flat x
  rw [if_pos ⟨G.plain x, G.plains xs, by omega⟩, G.any]
  congr
theorem Good.eq (G : Good enc) {x y : α} : dEq (enc x) (enc y) = some (.bool (decide (x = y))) := by
  unfold dEq
  have h1 := G.flat x
  rw [if_pos ⟨G.plain x, G.plain y, by omega⟩, G.eqv]
theorem Good.ne (G : Good enc) {x y : α} : dNe (enc x) (enc y) = some (.bool (!decide (x = y))) := by
  unfold dNe
  have h1 := G.flat x
  rw [if_pos ⟨G.plain x, G.plain y, by omega⟩, G.eqv]
theorem Good.eqvs (G : Good enc) : ∀ xs ys : List α, PyData.eqvAll (xs.map enc) (ys.map enc) = decide (xs = ys)
  | [], [] => by rw [List.map_nil, PyData.eqvAll]; rfl
  | [], y :: ys => by rw [List.map_nil, List.map_cons, PyData.eqvAll]; rfl
  | x :: xs, [] => by rw [List.map_nil, List.map_cons, PyData.eqvAll]; rfl
  | x :: xs, y :: ys => by
    rw [List.map_cons, List.map_cons, PyData.eqvAll, G.eqv, G.eqvs xs ys]
    by_cases h : x = y <;> by_cases h' : xs = ys <;> simp [h, h']
/-- tuples and lists of such -/
theorem Good.tups (G : Good enc) (h : ∀ x, (enc x).depth ≤ 40) : Good (fun xs : List α => PyData.tuple (xs.map enc)) := by
  have hd : ∀ xs : List α, PyData.depthAll (xs.map enc) ≤ 40 := fun xs => by
    induction xs with
    | nil => exact Nat.zero_le _
    | cons x xs ih =>
      rw [List.map_cons, PyData.depthAll]
      exact Nat.max_le.mpr ⟨h x, ih⟩
  exact ⟨fun xs => by rw [PyData.plain]; exact G.plains xs, fun xs => by rw [PyData.depth]; have := hd xs; omega, fun xs ys => by rw [PyData.eqv]; exact G.eqvs xs ys⟩
theorem Good.lsts (G : Good enc) (h : ∀ x, (enc x).depth ≤ 40) : Good (fun xs : List α => PyData.list (xs.map enc)) := by
  have hd : ∀ xs : List α, PyData.depthAll (xs.map enc) ≤ 40 := fun xs => by
    induction xs with
    | nil => exact Nat.zero_le _
    | cons x xs ih =>
      rw [List.map_cons, PyData.depthAll]
      exact Nat.max_le.mpr ⟨h x, ih⟩
  exact ⟨fun xs => by rw [PyData.plain]; exact G.plains xs, fun xs => by rw [PyData.depth]; have := hd xs; omega, fun xs ys => by rw [PyData.eqv]; exact G.eqvs xs ys⟩
end
theorem good_str : Good PyData.str := ⟨fun _ => rfl, fun _ => Nat.zero_le _, fun x y => by rw [PyData.eqv]; rfl⟩
theorem good_int : Good PyData.int := ⟨fun _ => rfl, fun _ => Nat.zero_le _, fun x y => by rw [PyData.eqv]; rfl⟩
theorem good_bool : Good PyData.bool := ⟨fun _ => rfl, fun _ => Nat.zero_le _, fun x y => by rw [PyData.eqv]; rfl⟩
/-- the n-th small letter -/
def nm (i : Nat) : D := .str ⟨#[97 + i]⟩
theorem good_nm : Good nm := ⟨fun _ => rfl, fun _ => Nat.zero_le _, fun x y => by
  unfold nm
  rw [PyData.eqv]
  by_cases h : x = y
  · subst h
    simp
  · have : (⟨#[97 + x]⟩ : Str) ≠ ⟨#[97 + y]⟩ := fun e => by
      have e1 := congrArg (fun s : Str => s.cps) e
      simp at e1
      exact h e1
    simp [h, this]⟩
def tn (xs : List Nat) : D := .tuple (xs.map nm)
def ln (xs : List Nat) : D := .list (xs.map nm)
theorem good_tn : Good tn := good_nm.tups fun _ => Nat.zero_le _
theorem good_ln : Good ln := good_nm.lsts fun _ => Nat.zero_le _
def pr (p : Nat × Nat) : D := .tuple [nm p.1, nm p.2]
theorem good_pr : Good pr := ⟨fun _ => rfl, fun x => by simp [pr, nm, PyData.depth, PyData.depthAll], fun x y => by
  have h := good_nm.eqvs [x.1, x.2] [y.1, y.2]
  unfold pr
  rw [PyData.eqv]
  rw [show [nm x.1, nm x.2] = [x.1, x.2].map nm from rfl, show [nm y.1, nm y.2] = [y.1, y.2].map nm from rfl, h]
  by_cases h1 : x.1 = y.1 <;> by_cases h2 : x.2 = y.2 <;> simp [h1, h2, Prod.ext_iff]⟩
/-! ### sorted names -/
theorem nm_le (a b : Nat) : W.dataLe false id (nm a) (nm b) = decide (a ≤ b) := by
  show (!PyProof.Rows.lexLt itemOrd (W.keyToks (nm b)) (W.keyToks (nm a))) = _
  unfold nm
  rw [W.keyToks, W.keyToks, lex_cons]
  show (!(decide ([97 + b] < [97 + a]) || (!decide ([97 + a] < [97 + b]) && lexLt itemOrd [] []))) = _
  have e : lexLt itemOrd [] [] = false := rfl
  rw [e, Bool.and_false, Bool.or_false]
  have h : ([97 + b] < [97 + a]) ↔ b < a := by
    rw [List.cons_lt_cons_iff]
    constructor
    · rintro (h | ⟨_, h⟩)
      · omega
      · exact absurd h (List.lt_irrefl _)
    · intro h
      exact .inl (by omega)
  by_cases hab : b < a
  · rw [decide_eq_true (h.mpr hab), decide_eq_false (by omega)]
    rfl
  · rw [decide_eq_false fun z => hab (h.mp z), decide_eq_true (by omega)]
    rfl
theorem perm_sorted {xs ys : List Nat} (p : xs.Perm ys) (h1 : xs.Pairwise (· < ·)) (h2 : ys.Pairwise (· ≤ ·)) : xs = ys := by
  induction xs generalizing ys with
  | nil => exact (List.nil_perm.mp p).symm
  | cons x xs ih =>
    cases ys with
    | nil => exact absurd p (by simp)
    | cons y ys =>
      rw [List.pairwise_cons] at h1 h2
      have e : x = y := by
        have a : x ∈ y :: ys := p.subset (List.mem_cons_self ..)
        have b : y ∈ x :: xs := p.symm.subset (List.mem_cons_self ..)
        rcases List.mem_cons.mp a with q | q
        · exact q
        · rcases List.mem_cons.mp b with q' | q'
          · exact q'.symm
          · have := h1.1 y q'
            have := h2.1 x q
            omega
      subst e
      rw [ih (List.Perm.cons_inv p) h1.2 h2.2]
/-- sorted(..) of names that are those of zs in some order -/
theorem sort_nm {xs zs : List Nat} (p : xs.Perm zs) (h : zs.Pairwise (· < ·)) : dSorted [.list (xs.map nm)] = some (.list (zs.map nm)) := by
  have al : ∀ a b, W.alike (nm a) (nm b) = true := fun a b => by unfold nm; rw [W.alike]
  unfold dSorted
  dsimp only
  refine (if_pos ⟨fun d hd e he => ?_, .inr fun d hd => ?_, fun d hd => ?_⟩).trans ?_
  · have e1 : sortD (xs.map nm) = (xs.mergeSort fun a b => decide (a ≤ b)).map nm := (List.map_mergeSort fun a _ b _ => (nm_le a b).symm).symm
    have e2 : xs.mergeSort (fun a b => decide (a ≤ b)) = zs := by
      refine (perm_sorted ((p.symm.trans (List.mergeSort_perm xs _).symm)) h ?_).symm
      have := List.pairwise_mergeSort (le := fun a b : Nat => decide (a ≤ b)) (fun a b c h1 h2 => by simp only [decide_eq_true_eq] at *; omega) (fun a b => by simp only [Bool.or_eq_true, decide_eq_true_eq]; omega) xs
      simpa using this
    rw [e1, e2]
  · obtain ⟨a, _, rfl⟩ := List.mem_map.mp hd
    obtain ⟨b, _, rfl⟩ := List.mem_map.mp he
    exact al a b
  · obtain ⟨a, _, rfl⟩ := List.mem_map.mp hd
    rfl
  · obtain ⟨a, _, rfl⟩ := List.mem_map.mp hd
    exact Nat.zero_le _
theorem sort_pr (xs : List (Nat × Nat)) : ∃ ys : List (Nat × Nat), ys.Perm xs ∧ dSorted [.list (xs.map pr)] = some (.list (ys.map pr)) := by
  refine ⟨xs.mergeSort fun a b => W.dataLe false id (pr a) (pr b), List.mergeSort_perm xs _, ?_⟩
  unfold dSorted
  dsimp only
  refine (if_pos ⟨fun d hd e he => ?_, .inl fun d hd => ?_, fun d hd => ?_⟩).trans ?_
  · have e1 : sortD (xs.map pr) = (xs.mergeSort fun a b => W.dataLe false id (pr a) (pr b)).map pr := (List.map_mergeSort (f := pr) (s := W.dataLe false id) fun a _ b _ => rfl).symm
    rw [e1]
  · obtain ⟨a, _, rfl⟩ := List.mem_map.mp hd
    obtain ⟨b, _, rfl⟩ := List.mem_map.mp he
    simp [pr, nm, W.alike, W.alikeAll]
  · obtain ⟨a, _, rfl⟩ := List.mem_map.mp hd
    rfl
  · obtain ⟨a, _, rfl⟩ := List.mem_map.mp hd
    simp [pr, nm, PyData.depth, PyData.depthAll]
end TL

set_option Elab.async false
set_option linter.all false
set_option maxRecDepth 100000
set_option maxHeartbeats 4000000
namespace TL
open PySem PySem.Spec PyProof.Rows L2

/-! ### dict([..]) of pairs -/
def mergeT (kvs more : List (List Key × V)) : List (List Key × V) := more.foldl (fun acc kv => putK acc kv.1 kv.2) kvs
theorem KT_merge {H : Hp} : ∀ {more : List (List Key × V)} {rs : List (List Key × Addr × Value)} {kvs : List (List Key × V)} {vs : List (List Key × Addr × Value)}, KT H more rs → KT H kvs vs → KT H (mergeT kvs more) (storedAllH vs rs) := by
  intro more rs kvs vs r
  unfold KT at r
  induction r generalizing kvs vs with
  | nil => intro q; exact q
  | @cons p q ps qs h t ih =>
    intro r0
    obtain ⟨h1, h2, h3⟩ := h
    have e : KT H (putK kvs p.1 p.2) (storedH vs q.1 q.2.1 q.2.2) := by
      rw [← h1]
      exact KT.put r0 p.1 h2 h3
    exact ih e
theorem length_mergeT : ∀ (more kvs : List (List Key × V)), (mergeT kvs more).length ≤ kvs.length + more.length
  | [], kvs => by
    show kvs.length ≤ _
    rw [List.length_nil]
    omega
  | p :: ps, kvs => by
    show (mergeT (putK kvs p.1 p.2) ps).length ≤ _
    refine Nat.le_trans (length_mergeT ps _) ?_
    have : (putK kvs p.1 p.2).length ≤ kvs.length + 1 := by
      unfold putK
      split
      · rw [List.length_map]
        omega
      · rw [List.length_append]
        exact Nat.le_refl _
    rw [List.length_cons]
    omega
section
variable {X : Cx}
theorem pairs_ofT {pins : List (Addr × Obj)} {σ : L2.St} {H : Hp} {s : Shared} (I : Inv X pins σ H s) : ∀ {ps : List Addr} {kvs : List (List Key × V)}, Paired (fun p kv => ∃ b, SqT X.K H p [.ref b, kv.2] ∧ H b = some (.tup (kv.1.map kV))) ps kvs →
    ∃ xs : List (List Key × Addr × Value), KT H kvs xs ∧ xs.length = ps.length ∧ ∀ (j : Nat) (q : List Key × Addr × Value), xs[j]? = some q → ∃ p : Addr, ps[j]? = some p ∧ IsTup s.heap p #[.ref q.2.1, q.2.2]
  | _, _, .nil => ⟨[], .nil, rfl, fun j q e => by simp at e⟩
  | _, _, .cons (a := p) (b := kv) ⟨b, h, hb⟩ t => by
    obtain ⟨xs, r, hl, hp⟩ := pairs_ofT I t
    obtain ⟨its, rv, ht, _⟩ := I.tuple h
    obtain ⟨u, y, ei, ru, ry⟩ := vals2 rv
    subst ei
    cases ru
    refine ⟨(kv.1, b, y) :: xs, .cons ⟨rfl, hb, ry⟩ r, by rw [List.length_cons, List.length_cons, hl], fun j q e => ?_⟩
    cases j with
    | zero =>
      have e' : (kv.1, b, y) = q := Option.some.inj e
      subst e'
      exact ⟨p, rfl, ht⟩
    | succ j =>
      obtain ⟨b', e1, e2⟩ := hp j q (by simpa using e)
      exact ⟨b', by simpa using e1, e2⟩
/-- dict(xs) of a list of pairs whose keys are tuples -/
theorem call_dictPT (hu : X.A.units + 64 < cLine) (hcalm : X.calm = true) : CallR X (.type "dict") (fun xs H Q => ∃ (a : Addr) (ps : List Addr) (kvs : List (List Key × V)), xs = [.ref a] ∧ SqL X.K H a (ps.map V.ref) ∧ Paired (fun p kv => ∃ b, SqT X.K H p [.ref b, kv.2] ∧ H b = some (.tup (kv.1.map kV))) ps kvs ∧
    ∀ p, H p = none → Q (.ref p) (upd H p (.dT (mergeT [] kvs)))) := by
  intro pins s σ H xs us Q I r q
  obtain ⟨a, ps, kvs, ex, hq, hp, q⟩ := q
  subst ex
  obtain ⟨u, eu, rx⟩ := vals1 r
  subst eu
  cases rx
  obtain ⟨its, rv, pl, hz⟩ := I.list hq
  have ei := refs_at rv
  subst ei
  rw [List.length_map] at hz
  obtain ⟨xs, rel, hl, hpr⟩ := pairs_ofT I hp
  obtain ⟨o, n, ho, hc, hd, hdat⟩ := pl
  have key : ∀ x ∈ xs, (tupleKind (mixKind X.prog X.w)).is s.heap x.1 x.2.1 := fun x hx => by
    have all : ∀ {l : List (List Key × V)} {m : List (List Key × Addr × Value)}, KT H l m → ∀ x ∈ m, (tupleKind (mixKind X.prog X.w)).is s.heap x.1 x.2.1 := by
      intro l m q
      induction q with
      | nil => intro x hx; exact nomatch hx
      | @cons p q ps qs hq t ih =>
        intro x hx
        rcases List.mem_cons.mp hx with e | hx
        · subst e
          exact key_of I.hok (by rw [← hq.1]; exact hq.2.1)
        · exact ih x hx
    exact all rel x hx
  refine call_dict_pairsH (knd := tupleKind (mixKind X.prog X.w)) (ps := xs) (PairArg.list (prog := X.prog) (w := X.w) a (ps.map Value.ref).toArray (fun j => ps.getD j 0) (xs.map fun x => (Value.ref x.2.1, x.2.2))) (I.ok.hd hcalm) (show X.A.units + 1 + 1 < cLine by omega) ⟨⟨o, n, ho, hc, hd, hdat⟩, ?_, fun j k v e => ?_⟩ ⟨by rw [List.length_map], fun j k v e => ?_⟩ (fun h' hk x hx => ?_) (by rw [List.length_map, hl]; exact hz) fun h' tk hd' k => ?_
  · simp [hl]
  · rw [List.getElem?_map] at e
    cases hx : xs[j]? with
    | none => rw [hx] at e; cases e
    | some x =>
      rw [hx] at e
      cases e
      obtain ⟨p, e1, e2⟩ := hpr j x hx
      have eg : ps.getD j 0 = p := by rw [List.getD_eq_getElem?_getD, e1]; rfl
      refine ⟨by simp [e1], .inl ?_⟩
      show s.heap.IsTuple (ps.getD j 0) _
      rw [eg]
      exact e2
  · have e : (xs.map fun x => (Value.ref x.2.1, x.2.2))[j]? = some (k, v) := e
    rw [List.getElem?_map] at e
    cases hx : xs[j]? with
    | none => rw [hx] at e; cases e
    | some x =>
      rw [hx] at e
      cases e
      exact ⟨x.1, x.2.1, rfl, rfl⟩
  · refine tupleKind_stays.stays (fun b o vs n e _ => hk b o (Nat.ne_of_lt (Heap.lt_size e)) (fun z => nomatch z) e) (key x hx)
  · have hm : (s.heap.objs.size == sysModules) = false := beq_eq_false_iff_ne.mpr (Nat.ne_of_gt I.big)
    have hlen : (mergeT [] kvs).length ≤ sizeLine := by
      refine Nat.le_trans (length_mergeT kvs []) ?_
      rw [List.length_nil, Nat.zero_add, Paired.length rel, hl]
      exact hz
    have hf : H s.heap.objs.size = none := I.hok.fresh (Nat.le_refl _)
    obtain ⟨o', es, ep, h1, h2, h3, h4, _, h5⟩ := hd'
    exact ⟨.ref s.heap.objs.size, upd H s.heap.objs.size (.dT (mergeT [] kvs)), I.laid (t' := tk) (fun b u e => k b u (fun z => nomatch z) e) (Nat.le_refl _)
      (show ObjOk X.prog X.w _ _ _ (.dT (mergeT [] kvs)) from ⟨hlen, hm, storedAllH [] xs, KT.keeps (KT_merge rel .nil) (fun b ys e => by rw [upd_ne (ne_of_none e hf)]; exact e), o', es, ep, h1, h2, h3, h4, h5⟩), rfl, q _ hf⟩
end
def pairD : D → Option (D × D)
  | .tuple [k, v] => some (k, v)
  | _ => none
def pairsD : List D → Option (List (D × D))
  | [] => some []
  | d :: ds => match pairD d, pairsD ds with
    | some p, some ps => some (p :: ps)
    | _, _ => none
def isKk (d : D) : Bool := (keyOf d).isSome
def isTk : D → Bool
  | .tuple ds => (keysOf ds).isSome
  | _ => false
def putsD (acc kvs : List (D × D)) : List (D × D) := kvs.foldl (fun a p => putD a p.1 p.2) acc
def dDictK : List D → Option D
  | [.list ps] => match pairsD ps with
    | some kvs => if (kvs.all fun p => isKk p.1) = true then some (.dict (putsD [] kvs)) else none
    | none => none
  | _ => none
def dDictT : List D → Option D
  | [.list ps] => match pairsD ps with
    | some kvs => if (kvs.all fun p => isTk p.1) = true then some (.dict (putsD [(.none, .none)] kvs)) else none
    | none => none
  | _ => none
theorem puts_T : ∀ {kvs : List (D × D)} {v : D} {acc : List (D × D)}, (kvs.all fun p => isTk p.1) = true → putsD ((.none, v) :: acc) kvs = (.none, v) :: putsD acc kvs
  | [], _, _, _ => rfl
  | (k, d) :: kvs, v, acc, h => by
    rw [List.all_cons, Bool.and_eq_true] at h
    obtain ⟨h1, h2⟩ := h
    show putsD (putD ((.none, v) :: acc) k d) kvs = (.none, v) :: putsD (putD acc k d) kvs
    cases k <;> first | (cases h1; done) | skip
    rename_i ds
    obtain ⟨ks, hks⟩ := Option.isSome_iff_exists.mp h1
    have e := keysOf_is hks
    subst e
    rw [show PyData.tuple (ks.map keyD) = tkeyD ks from rfl, putD_T]
    exact puts_T h2
section
variable {H : Hp} {Z : Zn} {κ : Type} [DecidableEq κ] {enc : κ → D}
theorem fold_put (he : ∀ a b, PyData.eqv (enc a) (enc b) = decide (a = b)) : ∀ {kvs : List (D × D)} {kk : List κ} {ws : List V}, kvs.map (·.1) = kk.map enc → kk.length = ws.length → RepV H Z kvs ws →
    ∀ {acc : List (D × D)} {ka : List κ} {va : List V}, acc.map (·.1) = ka.map enc → ka.length = va.length → RepV H Z acc va →
    ∃ (kk' : List κ) (vs' : List V), (putsD acc kvs).map (·.1) = kk'.map enc ∧ RepV H Z (putsD acc kvs) vs' ∧ kk'.length = vs'.length ∧ (kk.zip ws).foldl (fun a kv => putK a kv.1 kv.2) (ka.zip va) = kk'.zip vs'
  | [], kk, ws, e, hl, r, acc, ka, va, ea, la, ra => by
    have : kk = [] := by
      cases kk with
      | nil => rfl
      | cons a b => simp at e
    subst this
    exact ⟨ka, va, ea, ra, la, rfl⟩
  | (k, d) :: kvs, kk, ws, e, hl, r, acc, ka, va, ea, la, ra => by
    cases kk with
    | nil => simp at e
    | cons k1 kk =>
      rw [List.map_cons, List.map_cons, List.cons.injEq] at e
      rw [RepV] at r
      obtain ⟨w, ws, rfl, r1, r2⟩ := r
      have e1 : k = enc k1 := e.1
      subst e1
      obtain ⟨ka', va', q1, q2, q3, q4⟩ := put_val he k1 ea la ra r1
      obtain ⟨kk', vs', p1, p2, p3, p4⟩ := fold_put he (kvs := kvs) (kk := kk) (ws := ws) e.2 (by simpa using hl) r2 q1 q3 q2
      refine ⟨kk', vs', p1, p2, p3, ?_⟩
      rw [List.zip_cons_cons, List.foldl_cons, q4]
      exact p4
theorem pairs_rep {K : PySem.W.Frag} : ∀ {ps : List D} {vs : List V} {kvs : List (D × D)} {kk : List Key}, RepL H Z ps vs → pairsD ps = some kvs → kvs.map (·.1) = kk.map keyD →
    ∃ (as : List Addr) (ws : List V), vs = as.map V.ref ∧ Paired (fun p (kv : Key × V) => SqT K H p [kV kv.1, kv.2]) as (kk.zip ws) ∧ RepV H Z kvs ws ∧ kk.length = ws.length
  | [], vs, kvs, kk, r, e, ek => by
    rw [RepL] at r
    subst r
    cases e
    have : kk = [] := by
      cases kk with
      | nil => rfl
      | cons a b => simp at ek
    subst this
    exact ⟨[], [], rfl, .nil, by rw [RepV], rfl⟩
  | d :: ps, vs, kvs, kk, r, e, ek => by
    rw [RepL] at r
    obtain ⟨w, ws, rfl, r1, r2⟩ := r
    rw [pairsD] at e
    split at e
    · rename_i p kvs' e1 e2
      cases e
      unfold pairD at e1
      split at e1
      · rename_i k v
        cases e1
        cases kk with
        | nil => simp at ek
        | cons k1 kk =>
          rw [List.map_cons, List.map_cons, List.cons.injEq] at ek
          have e3 : k = keyD k1 := ek.1
          subst e3
          obtain ⟨as, us, rfl, h2, h3, h4⟩ := pairs_rep (K := K) r2 e2 ek.2
          rw [Rep] at r1
          obtain ⟨a, xs, rfl, h1, rr⟩ := r1
          rw [RepL] at rr
          obtain ⟨x, xs1, rfl, rx, rr⟩ := rr
          rw [RepL] at rr
          obtain ⟨y, xs2, rfl, ry, rr⟩ := rr
          rw [RepL] at rr
          subst rr
          have ex : x = kV k1 := by
            cases k1 <;> (rw [keyD, Rep] at rx; exact rx)
          subst ex
          exact ⟨a :: as, y :: us, rfl, .cons (.inl (.inl h1)) h2, by rw [RepV]; exact ⟨y, us, rfl, ry, h3⟩, by rw [List.length_cons, List.length_cons, h4]⟩
      · cases e1
    · cases e
theorem pairs_repT {K : PySem.W.Frag} : ∀ {ps : List D} {vs : List V} {kvs : List (D × D)} {kk : List (List Key)}, RepL H Z ps vs → pairsD ps = some kvs → kvs.map (·.1) = kk.map tkeyD →
    ∃ (as : List Addr) (ws : List V), vs = as.map V.ref ∧ Paired (fun p (kv : List Key × V) => ∃ b, SqT K H p [.ref b, kv.2] ∧ H b = some (.tup (kv.1.map kV))) as (kk.zip ws) ∧ RepV H Z kvs ws ∧ kk.length = ws.length
  | [], vs, kvs, kk, r, e, ek => by
    rw [RepL] at r
    subst r
    cases e
    have : kk = [] := by
      cases kk with
      | nil => rfl
      | cons a b => simp at ek
    subst this
    exact ⟨[], [], rfl, .nil, by rw [RepV], rfl⟩
  | d :: ps, vs, kvs, kk, r, e, ek => by
    rw [RepL] at r
    obtain ⟨w, ws, rfl, r1, r2⟩ := r
    rw [pairsD] at e
    split at e
    · rename_i p kvs' e1 e2
      cases e
      unfold pairD at e1
      split at e1
      · rename_i k v
        cases e1
        cases kk with
        | nil => simp at ek
        | cons k1 kk =>
          rw [List.map_cons, List.map_cons, List.cons.injEq] at ek
          have e3 : k = tkeyD k1 := ek.1
          subst e3
          obtain ⟨as, us, rfl, h2, h3, h4⟩ := pairs_repT (K := K) r2 e2 ek.2
          rw [Rep] at r1
          obtain ⟨a, xs, rfl, h1, rr⟩ := r1
          rw [RepL] at rr
          obtain ⟨x, xs1, rfl, rx, rr⟩ := rr
          rw [RepL] at rr
          obtain ⟨y, xs2, rfl, ry, rr⟩ := rr
          rw [RepL] at rr
          subst rr
          unfold tkeyD at rx
          rw [Rep] at rx
          obtain ⟨b, us2, rfl, hb, rb⟩ := rx
          rw [keys_rep rb] at hb
          exact ⟨a :: as, y :: us, rfl, .cons ⟨b, .inl (.inl h1), hb⟩ h2, by rw [RepV]; exact ⟨y, us, rfl, ry, h3⟩, by rw [List.length_cons, List.length_cons, h4]⟩
      · cases e1
    · cases e
end
theorem all_keys : ∀ {kvs : List (D × D)}, (kvs.all fun p => isKk p.1) = true → ∃ kk : List Key, kvs.map (·.1) = kk.map keyD
  | [], _ => ⟨[], rfl⟩
  | (k, d) :: kvs, h => by
    rw [List.all_cons, Bool.and_eq_true] at h
    obtain ⟨kk, e⟩ := all_keys h.2
    obtain ⟨k1, h1⟩ := Option.isSome_iff_exists.mp h.1
    exact ⟨k1 :: kk, by rw [List.map_cons, List.map_cons, e, ← keyOf_is h1]⟩
theorem all_tkeys : ∀ {kvs : List (D × D)}, (kvs.all fun p => isTk p.1) = true → ∃ kk : List (List Key), kvs.map (·.1) = kk.map tkeyD
  | [], _ => ⟨[], rfl⟩
  | (k, d) :: kvs, h => by
    rw [List.all_cons, Bool.and_eq_true] at h
    obtain ⟨kk, e⟩ := all_tkeys h.2
    obtain ⟨h1, _⟩ := h
    cases k <;> first | (cases h1; done) | skip
    rename_i ds
    obtain ⟨k1, h1⟩ := Option.isSome_iff_exists.mp h1
    exact ⟨k1 :: kk, by rw [List.map_cons, List.map_cons, e, keysOf_is h1]; rfl⟩
section
variable {X : Cx} {C : Cf} {ow : Ow} {H : Hp} {fr : Bool} {Q : VK}
theorem Fin2.dic {kvs : List (D × D)} {vs : List V} {p : Addr} {o : HO} (q : Fin2 C ow H fr (.dict kvs) Q) (fz : ∀ p, H p = none → ¬ ZO C ow p) (hp : H p = none) (hd : DicAt (upd H p o) p (kvs.map (·.1)) vs) (r : RepV H (ZO C ow) kvs vs) : Q (.ref p) (upd H p o) := by
  refine q _ _ (.upd hp) ?_ fun _ _ => ⟨p, rfl, hp, vs, hd, (r.more (Z' := fun b => ZO C ow b ∨ b = p) fun b z => z.elim .inl fun z => .inr (by rw [z]; exact hp)).kp (.upd hp)⟩
  rw [Rep]
  exact ⟨p, vs, rfl, hd, fz p hp, r.kp (.upd hp)⟩
theorem c_dictK (hcalm : X.calm = true) : CallR X (.type "dict") (rCl true dDictK) := by
  intro pins s σ H xs us Q I r ⟨C, ow, ds, d, fz, h, e, q⟩
  unfold dDictK at e
  split at e
  · rename_i ps
    split at e
    · rename_i kvs e1
      split at e
      · rename_i hk
        cases e
        obtain ⟨kk, ek⟩ := all_keys hk
        obtain ⟨w, rfl, hw⟩ := h.one
        obtain ⟨p, vs, rfl, hp, _, r1⟩ := hw.lst
        obtain ⟨as, ws, rfl, h2, h3, h4⟩ := pairs_rep (K := X.K) r1 e1 ek
        obtain ⟨kk', vs', q1, q2, q3, q4⟩ := fold_put eqv_key ek h4 h3 (acc := []) (ka := []) (va := []) rfl rfl (by rw [RepV])
        exact call_dictP hcalm pins s σ H _ us Q I r ⟨p, as, kk.zip ws, rfl, .inl (.inl hp), h2, fun p' hp' => by
          have e5 : mergeK [] (kk.zip ws) = kk'.zip vs' := q4
          rw [e5]
          exact q.dic fz hp' (.inl ⟨kk', q1, q3, upd_same⟩) q2⟩
      · cases e
    · cases e
  · cases e
theorem c_dictT (hu : X.A.units + 64 < cLine) (hcalm : X.calm = true) : CallR X (.type "dict") (rCl true dDictT) := by
  intro pins s σ H xs us Q I r ⟨C, ow, ds, d, fz, h, e, q⟩
  unfold dDictT at e
  split at e
  · rename_i ps
    split at e
    · rename_i kvs e1
      split at e
      · rename_i hk
        cases e
        obtain ⟨kk, ek⟩ := all_tkeys hk
        obtain ⟨w, rfl, hw⟩ := h.one
        obtain ⟨p, vs, rfl, hp, _, r1⟩ := hw.lst
        obtain ⟨as, ws, rfl, h2, h3, h4⟩ := pairs_repT (K := X.K) r1 e1 ek
        obtain ⟨kk', vs', q1, q2, q3, q4⟩ := fold_put eqv_tkey ek h4 h3 (acc := []) (ka := []) (va := []) rfl rfl (by rw [RepV])
        exact call_dictPT hu hcalm pins s σ H _ us Q I r ⟨p, as, kk.zip ws, rfl, .inl (.inl hp), h2, fun p' hp' => by
          have e5 : mergeT [] (kk.zip ws) = kk'.zip vs' := q4
          rw [e5]
          refine Fin2.dic (vs := .non :: vs') q fz hp' ?_ ?_
          · rw [puts_T hk]
            exact .inr ⟨kk', by rw [List.map_cons, q1], by rw [List.length_cons, q3], upd_same⟩
          · rw [puts_T hk, RepV]
            exact ⟨.non, vs', rfl, by rw [Rep], q2⟩⟩
      · cases e
    · cases e
  · cases e
end
end TL

set_option Elab.async false
set_option linter.all false
set_option maxRecDepth 100000
set_option maxHeartbeats 4000000
namespace TL
open PySem PySem.Spec PyProof.Rows L2

/-! ### sorted(d) of a dict -/
mutual
theorem readsThere {h : Heap} : ∀ {v : Value} {d : PyData} {as : List Addr}, Reads h v d as → ∀ a ∈ as, ∃ o, h.get? a = some o
  | _, _, _, .none, a, m => nomatch m
  | _, _, _, .bool _, a, m => nomatch m
  | _, _, _, .int _ _, a, m => nomatch m
  | _, _, _, .str _ _, a, m => nomatch m
  | _, _, _, .list (o := o) h1 _ _ h4, a, m => by
    rcases List.mem_cons.mp m with rfl | m
    · exact ⟨o, h1⟩
    · exact readsThereL h4 a m
  | _, _, _, .tuple _ _ _ h4, a, m => readsThereL h4 a m
  | _, _, _, .dict (o := o) h1 _ _ h4 h5, a, m => by
    rw [List.cons_append] at m
    rcases List.mem_cons.mp m with rfl | m
    · exact ⟨o, h1⟩
    · rcases List.mem_append.mp m with m | m
      · exact readsThereL h4 a m
      · exact readsThereL h5 a m
theorem readsThereL {h : Heap} : ∀ {v : List Value} {d : List PyData} {as : List Addr}, ReadsAll h v d as → ∀ a ∈ as, ∃ o, h.get? a = some o
  | _, _, _, .nil, a, m => nomatch m
  | _, _, _, .cons h1 h2, a, m => by
    rcases List.mem_append.mp m with m | m
    · exact readsThere h1 a m
    · exact readsThereL h2 a m
end
section
variable {X : Cx} {pins : List (Addr × Obj)} {σ : L2.St} {H : Hp} {s : Shared}
theorem sorted_col (hu : X.A.units + 64 < cLine) (I : L2.Inv X pins σ H s) {d : Addr} {n : Nat} (hn : n ≤ sizeLine) {Z : Zn} {ds : List D} {Q : VK}
    (hcol : ∀ R : List Value → Shared → Prop, (∀ (h' : Heap) (tk : Nat) (us : List Value), (∀ b o, s.heap.get? b = some o → h'.get? b = some o) → us.length = n → (∃ ks, Vals ks us ∧ RepL H Z ds ks) → R us { s with heap := h', toks := tk }) → wpAny (model X.prog X.w) X.A.in1 (collect (.ref d)) R X.xe s)
    (h1 : ∀ d ∈ ds, ∀ e ∈ ds, W.alike d e = true) (h2 : (∀ d ∈ ds, tup1 d = true) ∨ (∀ d ∈ ds, notTup d = true)) (h3 : ∀ d ∈ ds, d.depth ≤ 60)
    (q : ∀ vs p, RepL H Z (sortD ds) vs → H p = none → Q (.ref p) (upd H p (.lst vs))) :
    wpAny (model X.prog X.w) X.A (call (.builtin "sorted") [.ref d]) (EP X pins σ Q) X.xe s := by
  refine Calls.call_function_entry PyProof.Rows.kind_sorted PyProof.Rows.plain_sorted PyProof.Rows.entry_sorted (PyProof.Rows.args_sorted1 _) ?_
  unfold Builtin.«sorted»
  refine wpAny_bind (m := checkCount "sorted" 1 1 _) (wpAny_pure ?_)
  refine wpAny_bind (hcol _ fun h' tk us hk hal ⟨ks, rv, r1⟩ => ?_)
  have I1 : L2.Inv X pins σ H { s with heap := h', toks := tk } := I.kept hk
  have lz : us.length ≤ sizeLine := by rw [hal]; exact hn
  have lds : ds.length = n := by
    have a1 := RepL.len r1
    have a2 := rv.length
    omega
  refine wpAny_bind (wpAny_newList ?_ lz)
  have hoL : (h'.push (seqObj "list" us.toArray 0)).get? h'.objs.size = some (seqObj "list" us.toArray 0) := Heap.get?_push_size _ rfl
  have ea := each_of r1 rv
  have er0 := each_reads I1 (fun d hd => alike_plain d (h1 d hd d hd)) ea
  have er : W.EachIs (fun v (b : D) => ∃ as, Reads (h'.push (seqObj "list" us.toArray 0)) v b as ∧ h'.objs.size ∉ as) us ds := er0.mono fun v b ⟨as, r⟩ => ⟨as, PyProof.Rows.Reads.keeps (fun _ _ e => Heap.get?_push_of_some _ e) r, fun hm => by
    obtain ⟨o, ho⟩ := readsThere r _ hm
    exact absurd (Heap.lt_size ho) (Nat.lt_irrefl _)⟩
  show wpAny _ _ _ _ _ { s with heap := h'.push (seqObj "list" us.toArray 0), toks := tk }
  refine wpAny_bind (wpAny_holding (W.list_sort_data (s := { s with heap := h'.push (seqObj "list" us.toArray 0), toks := tk }) (enc := id) hoL ea er (by rw [List.map_id]; exact h1) ?_ (by rw [lds]; exact hn) (fun b hb => ?_) fun out hl eo => ?_))
  · rw [List.map_id]
    rcases h2 with h2 | h2
    · refine .inl fun d hd => ?_
      have := h2 d hd
      unfold tup1 at this
      split at this
      · exact ⟨_, _, rfl⟩
      · cases this
    · refine .inr fun d hd => ?_
      have := h2 d hd
      refine ⟨fun z => ?_, fun xs z => ?_⟩ <;> (subst z; cases this)
  · have := h3 b hb
    show X.A.units + 1 + 1 + b.depth < cLine
    omega
  · obtain ⟨vo, ro, rvo⟩ := of_each eo
    obtain ⟨e', he'⟩ := PyProof.Rows.sortedHeap_at (vs := us) (out := out.toArray) hoL
    have hlen : vo.length ≤ sizeLine := by
      rw [RepL.len ro, List.length_mergeSort, lds]
      exact hn
    refine wpAny_pure ⟨_, rfl, .ref h'.objs.size, upd H h'.objs.size (.lst vo), I1.laid (t' := tk) (fun b u e => ?_) (Nat.le_refl _)
      (show ObjOk X.prog X.w _ _ _ (.lst vo) from ⟨hlen, out, e', rvo, he'⟩), rfl, q vo _ ro (I1.hok.fresh (Nat.le_refl _))⟩
    have hb : b < h'.objs.size := Heap.lt_size e
    rw [PyProof.Rows.sortedHeap_old (Nat.ne_of_lt hb) (by rw [size_push']; exact Nat.lt_succ_of_lt hb)]
    exact Heap.get?_push_of_some _ e
theorem sorted_src (hu : X.A.units + 64 < cLine) (hcalm : X.calm = true) (I : L2.Inv X pins σ H s) {T : String} {d : Addr} {n : Nat} {P : Nat → Value → Prop} {OK : Heap → Prop} (K : W.KdlSrc X.prog X.w T d d n P OK) (hok : OK s.heap) (hn : n ≤ sizeLine) {Z : Zn} {ds : List D} {Q : VK}
    (items : ∀ us : List Value, us.length = n → (∀ j v, us[j]? = some v → P j v) → ∃ ks, Vals ks us ∧ RepL H Z ds ks)
    (h1 : ∀ d ∈ ds, ∀ e ∈ ds, W.alike d e = true) (h2 : (∀ d ∈ ds, tup1 d = true) ∨ (∀ d ∈ ds, notTup d = true)) (h3 : ∀ d ∈ ds, d.depth ≤ 60)
    (q : ∀ vs p, RepL H Z (sortD ds) vs → H p = none → Q (.ref p) (upd H p (.lst vs))) :
    wpAny (model X.prog X.w) X.A (call (.builtin "sorted") [.ref d]) (EP X pins σ Q) X.xe s :=
  sorted_col hu I hn (fun R hR => PySem.W.kdu_collect (A := X.A.in1) K (I.ok.hd hcalm) hok hn fun h' tk acc hk hacc => by
    have hal : acc.toList.length = n := by rw [Array.length_toList, hacc.1]
    exact hR h' tk acc.toList hk hal (items acc.toList hal fun j v e => hacc.2 j v (by rw [← Array.getElem?_toList]; exact e))) h1 h2 h3 q
end
def keysD (kvs : List (D × D)) : List D := if isT kvs = true then kvs.tail.map (·.1) else kvs.map (·.1)
def isStr : D → Bool
  | .str _ => true
  | _ => false
def dSortedA : List D → Option D
  | [.dict kvs] => if isT kvs = true ∨ (keysD kvs).all isStr = true then dSorted [.list (keysD kvs)] else none
  | xs => dSorted xs
theorem strs_rep {H : Hp} {Z : Zn} : ∀ {kk : List Key}, ((kk.map keyD).all isStr) = true → ∃ xs : List Str, kk = xs.map Sum.inr ∧ RepL H Z (kk.map keyD) (xs.map V.str)
  | [], _ => ⟨[], rfl, .nil⟩
  | .inl i :: kk, h => by cases h
  | .inr x :: kk, h => by
    obtain ⟨xs, e, r⟩ := strs_rep (H := H) (Z := Z) (kk := kk) h
    exact ⟨x :: xs, by rw [List.map_cons, ← e], .cons (by rw [keyD, Rep]) r⟩
theorem keys_repT {H : Hp} {Z : Zn} : ∀ {kvs : List (List Key × V)} {bs : List Addr}, IsKeys H kvs bs → RepL H Z ((kvs.map (·.1)).map tkeyD) (bs.map V.ref)
  | _, _, .nil => .nil
  | _, _, .cons (a := p) (b := b) h t => by
    refine .cons ?_ (keys_repT t)
    unfold tkeyD
    rw [Rep]
    refine ⟨b, _, rfl, h, ?_⟩
    have : ∀ ks : List Key, RepL H Z (ks.map keyD) (ks.map kV) := fun ks => by
      induction ks with
      | nil => exact .nil
      | cons k ks ih =>
        refine .cons ?_ ih
        cases k <;> (rw [keyD, Rep]; rfl)
    exact this p.1
section
variable {X : Cx}
theorem c_sortedA (hu : X.A.units + 64 < cLine) (hcalm : X.calm = true) : CallR X (.builtin "sorted") (rCl true dSortedA) := by
  intro pins s σ H xs us Q I r ⟨C, ow, ds, d, fz, h, e, q⟩
  unfold dSortedA at e
  split at e
  · rename_i kvs
    split at e
    · rename_i hk
      unfold dSorted at e
      dsimp only at e
      split at e
      · rename_i hz
        obtain ⟨h1, h2, h3⟩ := hz
        cases e
        obtain ⟨w, rfl, hw⟩ := h.one
        obtain ⟨u, rfl, ru⟩ := vals1 r
        obtain ⟨p, vs, rfl, hd, _, r1⟩ := hw.dic
        cases ru
        rcases hd with ⟨kk, e1, e2, e3⟩ | ⟨kk, e1, e2, e3⟩
        · have it : isT kvs = false := isT_K e1
          have ek : keysD kvs = kk.map keyD := by
            unfold keysD
            rw [it, if_neg Bool.false_ne_true, e1]
          rw [it] at hk
          have hs : (kk.map keyD).all isStr = true := by
            rw [← ek]
            exact hk.elim (fun z => nomatch z) id
          obtain ⟨xs, ex, rr⟩ := strs_rep (H := H) (Z := ZO C ow) hs
          obtain ⟨z, lo, vals, rel, dd⟩ := dk_rd I.hok (.inl e3)
          obtain ⟨ep, hat⟩ := dd.dictAt
          have hkeys : vals.map (·.1) = xs.map Sum.inr := by
            rw [← rel.keys, ← ex, List.map_fst_zip (by omega)]
          have hl : vals.length = xs.length := by
            have e := congrArg List.length hkeys
            rw [List.length_map, List.length_map] at e
            exact e
          rw [ek] at h1 h2 h3 q
          refine sorted_src hu hcalm I (PySem.W.kdl_dict (knd := mixKind X.prog X.w) (kvs := vals) (ep := ep) lo) hat ?_ (Z := ZO C ow) (ds := kk.map keyD) (fun us hlu hP => ⟨xs.map V.str, ?_, rr⟩) h1 h2 h3 fun vo p' ro hp' => q.lst fz ro p' hp'
          · rw [rel.length] at z
            exact z
          · have hS : StrsAre us xs := strs_at (by rw [hlu, hl]) fun j v e => by
              obtain ⟨k, x, e1, e2⟩ := hP j v e
              have e3 : (vals.map (·.1))[j]? = some k := by rw [List.getElem?_map, e1]; all_goals rfl
              rw [hkeys, List.getElem?_map] at e3
              cases e4 : xs[j]? with
              | none => rw [e4] at e3; cases e3
              | some y =>
                rw [e4] at e3
                have e5 : Sum.inr y = k := Option.some.inj e3
                subst e5
                obtain ⟨t, ev⟩ := Value.isStrOf_shape (x := y) (v := v) e2
                exact ⟨y, t, rfl, ev⟩
            exact vals_of_strs hS
        · cases kvs with
          | nil => simp at e1
          | cons p0 kvs =>
            obtain ⟨pk, pd⟩ := p0
            rw [List.map_cons, List.cons.injEq] at e1
            have e : pk = .none := e1.1
            subst e
            have ek : keysD ((.none, pd) :: kvs) = kk.map tkeyD := by
              exact e1.2
            rw [ek] at h1 h2 h3 q
            obtain ⟨z, hs, ks, pr, o, es, ep, ho, hx, hdt, he, hn⟩ := (show ObjOk X.prog X.w H s.heap p (.dT (kk.zip vs.tail)) from I.hok _ _ e3)
            have l1 : es.size = ks.length := size_of_entries he
            have l2 : (kk.zip vs.tail).length = ks.length := Paired.length pr
            refine sorted_src hu hcalm I (kdl_raw hs hx hdt) ho (by omega) (Z := ZO C ow) (ds := kk.map tkeyD) (fun us hlu hP => ⟨(ks.map fun x => x.2.1).map V.ref, ?_, ?_⟩) h1 h2 h3 fun vo p' ro hp' => q.lst fz ro p' hp'
            · have ea : us = (ks.map fun x => x.2.1).map Value.ref := by
                rw [List.map_map]
                apply List.ext_getElem?
                intro j
                rw [List.getElem?_map]
                cases hj : us[j]? with
                | none =>
                  have h1 := List.getElem?_eq_none_iff.mp hj
                  rw [List.getElem?_eq_none (by omega)]
                  rfl
                | some v =>
                  obtain ⟨en, hen, hv⟩ := hP j v hj
                  have qe := entry_at he j
                  rw [hen] at qe
                  cases hb : ks[j]? with
                  | none =>
                    rw [hb] at qe
                    exact nomatch (show some en = none from qe)
                  | some b =>
                    rw [hb] at qe
                    have e2 : en = entryOfKey (tupleKind (mixKind X.prog X.w)) b := Option.some.inj qe
                    rw [hv, e2]
                    rfl
              rw [ea]
              exact vals_refs _
            · have := keys_repT (Z := ZO C ow) (isKeys_of pr)
              have hlen : kk.length ≤ vs.tail.length := by
                rw [List.length_tail]
                omega
              rwa [List.map_fst_zip hlen] at this
      · cases e
    · cases e
  · exact c_sorted hu pins s σ H xs us Q I r ⟨C, ow, ds, d, fz, h, e, q⟩
end
end TL

set_option Elab.async false
set_option linter.all false
set_option maxRecDepth 100000
set_option maxHeartbeats 4000000
namespace TL
open PySem PySem.Spec PyProof.Rows L2

theorem bt_dict : bootBuiltins "dict" = some (.type "dict") := by decide +kernel
section
variable {X : Cx} {C : Cf} {kb kd kd2 kd' : Nat → Bool} {ow : Ow} {σ : L2.St} {ρ : Rho} {S S' : Src} {H H' : Hp} {d : D} {v : V}
/-! ### slots that become a def's own: what they held is forgotten -/
def gThaw (is : List Nat) (g : FS) : FS := fun ρ S => g (wipeR ρ is) S
theorem Rel.thaw (R : Rel C kd ow σ ρ S H) {is : List Nat} (h1 : ∀ i, kd2 i = true → kd i = true ∨ i ∈ is) (h2 : ∀ i, kd i = true → kd2 i = true) : Rel C kd2 ow σ (wipeR ρ is) S H := by
  refine ⟨R.dom, R.ft, R.base, R.src, by rw [wipeR_len, R.len], fun p hp => ⟨(R.sr p hp).1, ?_⟩, fun i e q1 q2 => ?_, fun i e q1 q2 => ?_, R.inj, R.dj, R.new⟩
  · have e := (R.sr p hp).2
    have hl : C.sx < ρ.length := (List.getElem?_eq_some_iff.mp e).1
    cases q : (wipeR ρ is)[C.sx]? with
    | none =>
      rw [List.getElem?_eq_none_iff, wipeR_len] at q
      omega
    | some o =>
      cases o with
      | none => rfl
      | some x =>
        rw [(wipeR_some q).1] at e
        cases e
  · obtain ⟨q, n⟩ := wipeR_some q2
    refine R.cl i e ?_ q
    cases hk : kd i with
    | false => rfl
    | true => rw [h2 i hk] at q1; cases q1
  · obtain ⟨q, n⟩ := wipeR_some q2
    rcases h1 i q1 with z | z
    · exact R.own i e z q
    · exact absurd z n
theorem p_thaw {sts : List Stmt} {g : FS} {is : List Nat} (h1 : ∀ i, kd2 i = true → kd i = true ∨ i ∈ is) (h2 : ∀ i, kd i = true → kd2 i = true) (h : PSs X sts (tP C kb kd2 kd' g)) : PSs X sts (tP C kb kd kd' (gThaw is g)) :=
  PSs_imp h fun Dn σ H ⟨ow, ρ, S, o, R, e, k⟩ => ⟨ow, wipeR ρ is, S, o, R.thaw h1 h2, e, k⟩
theorem thaw_sub {l is : List Nat} : ∀ i, kdL (l ++ is) i = true → kdL l i = true ∨ i ∈ is := fun i h => by
  unfold kdL at h ⊢
  rw [List.any_append, Bool.or_eq_true] at h
  rcases h with h | h
  · exact .inl h
  · obtain ⟨j, hj, e⟩ := List.any_eq_true.mp h
    exact .inr (by rw [← Nat.eq_of_beq_eq_true e]; exact hj)
theorem thaw_sup {l is : List Nat} : ∀ i, kdL l i = true → kdL (l ++ is) i = true := fun i h => by
  unfold kdL at h ⊢
  rw [List.any_append, h]
  rfl
/-! ### xs.append(ys.pop(e)) -/
theorem nP_hl {i j : Nat} {f : FE} : ∀ (ρ : Rho) (S : Src) (r : D × Rho × Src), nP j f ρ S = some r → ∀ ds, r.2.1[i]? = some (some (.list ds)) → ∃ es, ρ[i]? = some (some (.list es)) := fun ρ S r e ds h => by
  unfold nP at e
  split at e
  · split at e
    · rename_i es e2
      split at e
      · split at e
        · split at e
          · cases e
            have h : (ρ.set j (some (PyData.list _)))[i]? = some (some (.list ds)) := h
            rw [List.getElem?_set] at h
            split at h
            · rename_i q
              rw [← q]
              exact ⟨es, e2⟩
            · exact ⟨ds, h⟩
          · cases e
        · cases e
      · cases e
    · cases e
  · cases e
/-! ### a text that the top has written -/
theorem x_gstr {x s : Str} {t : Tok} {pos : Pos} (hg : Gl X x) (hm : X.mg x = some (.str s t)) (hd : (x == ("__debug__" : Str)) = false := by decide) : PE X (.Name x pos) (tF C kd (cst (.str s))) :=
  xc (pe_glob hg hm (show RelV (V.str s) (.str s t) from ⟨t, rfl⟩) hd) (fun _ _ => by rw [Rep])
/-! ### xs.extend(ys) -/
def gExt (i : Nat) (f : FE) : FS := fun ρ S => match f ρ S with
  | some (.list es, S1) => (match ρ[i]? with
    | some (some (.list ds)) => if ds.length + es.length ≤ sizeLine then some (.nx (ρ.set i (some (.list (ds ++ es)))) S1) else none
    | _ => none)
  | _ => none
theorem p_ext {s : Stmt} {i : Nat} {f : FE} (h : PS X s (tDrop (tBM X.K "list" rExtend (tVar i) (tCons (tX C kd f) tNil)))) (hk : kd i = true := by rfl) : PS X s (tP C kb kd kd (gExt i f)) :=
  PS_imp h fun Dn σ H ⟨ow, ρ, S, o, R, e, k⟩ => by
    unfold gExt at e
    split at e
    · rename_i es S1 e1
      split at e
      · rename_i ds e2
        split at e
        · rename_i hz
          cases e
          obtain ⟨a, q1, q2, vs, q3, q4⟩ := R.own i _ hk e2
          refine ⟨.ref a, q2, .inl ⟨rfl, vs, .of q3⟩, ow, ρ, S, _, S1, R, e1, fun v H1 k1 s1 r1 => ?_⟩
          have R1 := R.step k1 s1
          have nf := R.nf (.inl ⟨i, q1⟩)
          have q3' := k1.ob _ _ q3 nf
          have hl := RepL.len q4
          rw [Rep] at r1
          obtain ⟨b, ws, rfl, hb, nb, rw'⟩ := r1
          have hl2 := RepL.len rw'
          refine ⟨a, b, vs, ws, rfl, rfl, q3', hb, by rw [hl, hl2]; exact hz, ?_⟩
          have kz : Kp (ZO C ow) H1 (upd H1 a (.lst (vs ++ ws))) := Kp.wr (.inr (.inl ⟨i, q1⟩)) (fun xs z => by rw [q3'] at z; cases z) fun o u z => by rw [q3'] at z; cases z
          obtain ⟨R2, ev, _⟩ := R1.put (d := .list (ds ++ es)) hk q1 q2 (o := .lst (vs ++ ws)) trivial ⟨_, upd_same, ((q4.kp (k1.mono R.fz)).app rw').kp kz⟩
          exact k _ _ ow R2 ((R.ev k1 s1).trans ev)
        · cases e
      · cases e
    · cases e
/-! ### xs[::-1] of a list -/
def u1r (f : FE) : FE := fun ρ S => match f ρ S with
  | some (.list ds, S1) => some (.list ds.reverse, S1)
  | _ => none
theorem x_revL {e : Expr} {f : FE} {k : Nat} {p1 p2 p3 pos : Pos} (he : PE X e (tS C kd f)) : PE X (.Subscript e (.Slice none none (some (.UnaryOp .USub (.Constant (.int 1) k p1) p2)) p3) pos) (tF C kd (u1r f)) :=
  PE_imp (pe_revL he) fun σ H Q ⟨ow, ρ, S, d, S', R, e, k⟩ => by
    unfold u1r at e
    split at e
    · rename_i ds S1 e1
      cases e
      refine ⟨ow, ρ, S, _, S', R, e1, fun v H1 k1 s1 r1 => ?_⟩
      obtain ⟨a, vs, rfl, hp, _, rr⟩ := r1.lst
      refine ⟨a, vs, rfl, .inl (.inl hp), fun p hp' => ?_⟩
      have R1 := R.step k1 s1
      have fin := R.fin (t := true) k1 s1 (fun v H' k2 s2 r fr => k v H' k2 s2 r (fr rfl))
      exact fin.lst (fun p hp => R1.fresh hp) rr.rev p hp'
    · cases e
end
end TL

set_option Elab.async false
set_option linter.all false
set_option maxRecDepth 100000
set_option maxHeartbeats 4000000
namespace TL
open PySem PySem.Spec PyProof.Rows L2

def dSortedB : List D → Option D
  | [.tuple xs] => dSorted [.list xs]
  | xs => dSortedA xs
section
variable {X : Cx}
theorem c_sortedB (hu : X.A.units + 64 < cLine) (hcalm : X.calm = true) : CallR X (.builtin "sorted") (rCl true dSortedB) := by
  intro pins s σ H xs us Q I r ⟨C, ow, ds, d, fz, h, e, q⟩
  unfold dSortedB at e
  split at e
  · rename_i es
    unfold dSorted at e
    dsimp only at e
    split at e
    · rename_i hz
      obtain ⟨h1, h2, h3⟩ := hz
      cases e
      obtain ⟨w, rfl, hw⟩ := h.one
      obtain ⟨u, rfl, ru⟩ := vals1 r
      obtain ⟨p, vs, rfl, hp, r1⟩ := hw.tup
      cases ru
      obtain ⟨its, rv, pl, hzl⟩ := I.tuple (.inl (.inl hp))
      obtain ⟨o, ho, hc, n, hd⟩ := pl
      have l1 : its.length = vs.length := rv.length.symm
      refine sorted_col hu I (n := vs.length) hzl (Z := ZO C ow) (ds := es) (fun R hR => ?_) h1 h2 h3 fun vo p' ro hp' => q.lst fz ro p' hp'
      refine wpAny_collect_seq p (.inr rfl) ho hc hd (fun h' hk => ?_) (by simp; omega)
      have e0 : its.toArray.toList = its := by simp
      rw [e0]
      exact hR h' s.toks its hk l1 ⟨vs, rv, r1⟩
    · cases e
  · exact c_sortedA hu hcalm pins s σ H xs us Q I r ⟨C, ow, ds, d, fz, h, e, q⟩
end
/-! ### min, max of two texts -/
def dMinA : List D → Option D
  | [.str x, .str y] => some (if W.dataLt (.str y) (.str x) = true then .str y else .str x)
  | xs => dMin xs
def dMaxA : List D → Option D
  | [.str x, .str y] => some (if W.dataLt (.str x) (.str y) = true then .str y else .str x)
  | xs => dMax xs
section
variable {prog : Program} {w : World} {A : Around} {E : Value → Shared → Prop} {s : Shared}
theorem txt_at {x y : Str} {t t' : Tok} {i : Nat} {v : Value} (h : #[Value.str x t, Value.str y t'][i]? = some v) (hp : Heap) : Reads hp v ([PyData.str x, PyData.str y].getD i .none) [] ∧ (∃ z, [PyData.str x, PyData.str y].getD i .none = .str z) := by
  match i with
  | 0 => cases h; exact ⟨.str _ _, _, rfl⟩
  | 1 => cases h; exact ⟨.str _ _, _, rfl⟩
  | i + 2 => simp at h
theorem min_txt {x y : Str} {t t' : Tok} {Q : Value → Shared → Prop} (hh : A.handled = none) (hu : A.units + 64 < cLine)
    (h : ∀ h' tk, (∀ c o, s.heap.get? c = some o → h'.get? c = some o) → Q (if W.dataLt (.str y) (.str x) = true then .str y t' else .str x t) { s with heap := h', toks := tk }) :
    wpAny (model prog w) A (call (.builtin "min") [.str x t, .str y t']) Q E s := by
  have hT : (s.heap.push { cls := .type "tuple", data := .seq #[.str x t, .str y t'] }).IsTuple s.heap.objs.size #[.str x t, .str y t'] := ⟨_, Heap.get?_push_size _ rfl, rfl, 0, rfl⟩
  refine call_min_two (wpAny_pyIter_tuple hT ?_)
  have hsz : (s.heap.push { cls := .type "tuple", data := .seq #[.str x t, .str y t'] }).objs.size = s.heap.objs.size + 1 := Heap.size_push ..
  refine ⟨_, [_, s.heap.objs.size], [_], _, _, _, (fun i j => W.dataLt ([PyData.str x, PyData.str y].getD i .none) ([PyData.str x, PyData.str y].getD j .none)), rfl, Walks.tuple (A := A.in1) hh _ s.heap.objs.size (by rw [hsz]; exact Nat.ne_of_lt (Nat.lt_succ_self _)) #[.str x t, .str y t'],
    ⟨⟨_, Heap.get?_push_size _ rfl, rfl, rfl⟩, hT.push _⟩, fun c hc => ?_, by simp, fun i j vi vj s' Q' E' hi hj hq => ?_, fun v h' tk hP hk => ?_⟩
  · show c < ((s.heap.push _).push _).objs.size
    rw [Heap.size_push, hsz]
    rcases List.mem_cons.mp hc with rfl | hc
    · rw [hsz]; exact Nat.lt_succ_self _
    · rcases List.mem_cons.mp hc with rfl | hc
      · exact Nat.lt_succ_of_lt (Nat.lt_succ_self _)
      · cases hc
  · obtain ⟨r1, z1, e1⟩ := txt_at hi s'.heap
    obtain ⟨r2, z2, e2⟩ := txt_at hj s'.heap
    refine W.rcLt_alike _ _ A.in1 s' vi vj _ _ r1 r2 (by rw [e1, e2, W.alike]) (by rw [e1]; exact fun z => nomatch z) ?_ prog w E' Q' hq
    rw [e1, e2]
    show A.units + 1 + 0 < cLine
    omega
  · have hold : ∀ c o, s.heap.get? c = some o → h'.get? c = some o := fun c o e => by
      refine hk c o (fun hm => ?_) (Heap.get?_push_of_some _ (Heap.get?_push_of_some _ e))
      rcases List.mem_cons.mp hm with e1 | hm
      · have := Heap.lt_size e; rw [e1, hsz] at this; exact Nat.lt_irrefl _ (Nat.lt_of_succ_lt this)
      · cases hm
    have := h h' tk hold
    have hv : v = if W.dataLt (.str y) (.str x) = true then .str y t' else .str x t := by
      cases hc : W.dataLt (.str y) (.str x) <;> simp [argBest, hc] at hP <;> simp [hP]
    rw [hv]; exact this
theorem max_txt {x y : Str} {t t' : Tok} {Q : Value → Shared → Prop} (hh : A.handled = none) (hu : A.units + 64 < cLine)
    (h : ∀ h' tk, (∀ c o, s.heap.get? c = some o → h'.get? c = some o) → Q (if W.dataLt (.str x) (.str y) = true then .str y t' else .str x t) { s with heap := h', toks := tk }) :
    wpAny (model prog w) A (call (.builtin "max") [.str x t, .str y t']) Q E s := by
  have hT : (s.heap.push { cls := .type "tuple", data := .seq #[.str x t, .str y t'] }).IsTuple s.heap.objs.size #[.str x t, .str y t'] := ⟨_, Heap.get?_push_size _ rfl, rfl, 0, rfl⟩
  refine call_max_two (wpAny_pyIter_tuple hT ?_)
  have hsz : (s.heap.push { cls := .type "tuple", data := .seq #[.str x t, .str y t'] }).objs.size = s.heap.objs.size + 1 := Heap.size_push ..
  refine ⟨_, [_, s.heap.objs.size], [_], _, _, _, (fun i j => W.dataLt ([PyData.str x, PyData.str y].getD j .none) ([PyData.str x, PyData.str y].getD i .none)), rfl, Walks.tuple (A := A.in1) hh _ s.heap.objs.size (by rw [hsz]; exact Nat.ne_of_lt (Nat.lt_succ_self _)) #[.str x t, .str y t'],
    ⟨⟨_, Heap.get?_push_size _ rfl, rfl, rfl⟩, hT.push _⟩, fun c hc => ?_, by simp, fun i j vi vj s' Q' E' hi hj hq => ?_, fun v h' tk hP hk => ?_⟩
  · show c < ((s.heap.push _).push _).objs.size
    rw [Heap.size_push, hsz]
    rcases List.mem_cons.mp hc with rfl | hc
    · rw [hsz]; exact Nat.lt_succ_self _
    · rcases List.mem_cons.mp hc with rfl | hc
      · exact Nat.lt_succ_of_lt (Nat.lt_succ_self _)
      · cases hc
  · obtain ⟨r1, z1, e1⟩ := txt_at hi s'.heap
    obtain ⟨r2, z2, e2⟩ := txt_at hj s'.heap
    refine W.rcGt_alike _ _ A.in1 s' vi vj _ _ r1 r2 (by rw [e1, e2, W.alike]) (by rw [e1]; exact fun z => nomatch z) ?_ prog w E' Q' hq
    rw [e1, e2]
    show A.units + 1 + 0 < cLine
    omega
  · have hold : ∀ c o, s.heap.get? c = some o → h'.get? c = some o := fun c o e => by
      refine hk c o (fun hm => ?_) (Heap.get?_push_of_some _ (Heap.get?_push_of_some _ e))
      rcases List.mem_cons.mp hm with e1 | hm
      · have := Heap.lt_size e; rw [e1, hsz] at this; exact Nat.lt_irrefl _ (Nat.lt_of_succ_lt this)
      · cases hm
    have := h h' tk hold
    have hv : v = if W.dataLt (.str x) (.str y) = true then .str y t' else .str x t := by
      cases hc : W.dataLt (.str x) (.str y) <;> simp [argBest, hc] at hP <;> simp [hP]
    rw [hv]; exact this
end
section
variable {X : Cx}
theorem c_minA (hu : X.A.units + 64 < cLine) (hc : X.calm = true) : CallR X (.builtin "min") (rCl true dMinA) := by
  intro pins s σ H xs us Q I r ⟨C, ow, ds, d, fz, h, e, q⟩
  unfold dMinA at e
  split at e
  · rename_i x y
    cases e
    obtain ⟨w, z, rfl, hw, hz⟩ := h.two
    obtain rfl := hw.str
    obtain rfl := hz.str
    obtain ⟨u, w', rfl, ⟨t, rfl⟩, ⟨t', rfl⟩⟩ := vals2 r
    refine min_txt (I.ok.hd hc) hu fun h' tk k => ?_
    by_cases hj : W.dataLt (.str y) (.str x) = true
    · rw [if_pos hj] at q ⊢
      exact ⟨.str y, H, I.kept k, ⟨_, rfl⟩, q.atom (by rw [Rep])⟩
    · rw [if_neg hj] at q ⊢
      exact ⟨.str x, H, I.kept k, ⟨_, rfl⟩, q.atom (by rw [Rep])⟩
  · exact c_min hc pins s σ H xs us Q I r ⟨C, ow, ds, d, fz, h, e, q⟩
theorem c_maxA (hu : X.A.units + 64 < cLine) (hc : X.calm = true) : CallR X (.builtin "max") (rCl true dMaxA) := by
  intro pins s σ H xs us Q I r ⟨C, ow, ds, d, fz, h, e, q⟩
  unfold dMaxA at e
  split at e
  · rename_i x y
    cases e
    obtain ⟨w, z, rfl, hw, hz⟩ := h.two
    obtain rfl := hw.str
    obtain rfl := hz.str
    obtain ⟨u, w', rfl, ⟨t, rfl⟩, ⟨t', rfl⟩⟩ := vals2 r
    refine max_txt (I.ok.hd hc) hu fun h' tk k => ?_
    by_cases hj : W.dataLt (.str x) (.str y) = true
    · rw [if_pos hj] at q ⊢
      exact ⟨.str y, H, I.kept k, ⟨_, rfl⟩, q.atom (by rw [Rep])⟩
    · rw [if_neg hj] at q ⊢
      exact ⟨.str x, H, I.kept k, ⟨_, rfl⟩, q.atom (by rw [Rep])⟩
  · exact c_max hc pins s σ H xs us Q I r ⟨C, ow, ds, d, fz, h, e, q⟩
end
end TL

set_option Elab.async false
set_option linter.all false
set_option maxRecDepth 100000
set_option maxHeartbeats 4000000
namespace TL
open PySem PySem.Spec PyProof.Rows L2

theorem bt_str : bootBuiltins "str" = some (.type "str") := by decide +kernel
theorem bt_sum : bootBuiltins "sum" = some (.builtin "sum") := by decide +kernel
section
variable {X : Cx} {C : Cf} {kb kd kd2 kd' : Nat → Bool} {ow : Ow} {σ : L2.St} {ρ : Rho} {S S' : Src} {H H' : Hp} {d : D} {v : V}
/-! ### a raise that is not come to -/
def gBad : FS := fun _ _ => none
theorem p_bad {st : Stmt} : PS X st (tP C kb kd kd' gBad) := ⟨fun pins s σ H D I ⟨ow, ρ, S, o, R, e, k⟩ => by cases e⟩
/-! ### what the top has written -/
theorem x_gint {x : Str} {i : Int} {t : Nat} {pos : Pos} (hg : Gl X x) (hm : X.mg x = some (.int i t)) (hd : (x == ("__debug__" : Str)) = false := by decide) : PE X (.Name x pos) (tF C kd (cst (.int i))) :=
  xc (pe_glob hg hm (show RelV (V.int i) (.int i t) from ⟨t, rfl⟩) hd) (fun _ _ => by rw [Rep])
theorem str_then {goal : Prop} {K : PySem.W.Frag} {h : Heap} {mg : Str → Option Value} {x s : Str} {t : Tok} (KX : K.In h) (G : h.Ns mainGlobals mg) (a : PySem.W.nsIn K mainGlobals x = some (some (.str s t))) (next : (∃ t, mg x = some (.str s t)) → goal) : goal := next ⟨t, PySem.W.mg_of KX G a⟩
theorem int_then {goal : Prop} {K : PySem.W.Frag} {h : Heap} {mg : Str → Option Value} {x : Str} {i : Int} {t : Nat} (KX : K.In h) (G : h.Ns mainGlobals mg) (a : PySem.W.nsIn K mainGlobals x = some (some (.int i t))) (next : (∃ t, mg x = some (.int i t)) → goal) : goal := next ⟨t, PySem.W.mg_of KX G a⟩
/-- a table of texts by texts -/
def KTab (K : PySem.W.Frag) (w : World) (p : Addr) (tab : List (Str × Str)) : Prop := ∀ z v, (z, v) ∈ tab → KDct K w p z (.str v)
theorem tab2_then {goal : Prop} {w : World} {K : PySem.W.Frag} {h : Heap} {mg : Str → Option Value} {x k1 k2 v1 v2 : Str} {t1 t2 : Tok} {p : Addr} {es : Array DictEntry} {n : Nat} (KX : K.In h) (G : h.Ns mainGlobals mg)
    (a : PySem.W.nsIn K mainGlobals x = some (some (.ref p))) (l : K.lookup p = some ⟨.type "dict", none, .dict es n, #[]⟩) (hk : PySem.W.KeysLit w.params es.toList)
    (e1 : PySem.W.nsIn K p k1 = some (some (.str v1 t1))) (e2 : PySem.W.nsIn K p k2 = some (some (.str v2 t2))) (next : (∃ p, mg x = some (.ref p) ∧ KTab K w p [(k1, v1), (k2, v2)]) → goal) : goal :=
  next ⟨p, PySem.W.mg_of KX G a, fun z v hm => by
    simp only [List.mem_cons, Prod.mk.injEq, List.not_mem_nil, or_false] at hm
    rcases hm with ⟨rfl, rfl⟩ | ⟨rfl, rfl⟩
    · exact ⟨es, n, _, l, hk, e1, ⟨t1, rfl⟩⟩
    · exact ⟨es, n, _, l, hk, e2, ⟨t2, rfl⟩⟩⟩
def dTab (tab : List (Str × Str)) : D → Option D
  | .str z => (tab.lookup z).map .str
  | _ => none
theorem lookup_mem {α β : Type} [DecidableEq α] {z : α} {v : β} : ∀ {tab : List (α × β)}, tab.lookup z = some v → (z, v) ∈ tab
  | [], h => by cases h
  | (a, b) :: tab, h => by
    rw [List.lookup_cons] at h
    by_cases e : z = a
    · subst e
      simp at h
      subst h
      exact List.mem_cons_self ..
    · have : (z == a) = false := by simpa using e
      rw [this] at h
      exact List.mem_cons_of_mem _ (lookup_mem h)
theorem x_tab {x : Str} {p : Addr} {tab : List (Str × Str)} {i : Expr} {pos pos2 : Pos} {f : FE} (hg : Gl X x) (hm : X.mg x = some (.ref p)) (ht : KTab X.K X.w p tab) (hi : PE X i (tS C kd f)) (hp : PlainIx i) (hd : (x == ("__debug__" : Str)) = false := by decide) :
    PE X (.Subscript (.Name x pos) i pos2) (tF C kd (u1 (dTab tab) f)) :=
  PE_imp (pe_ix ix_kdict (pe_glob hg hm (show RelV (V.ref p) (.ref p) from rfl) hd) hi hp) fun σ H Q ⟨ow, ρ, S, d, S', R, e, k⟩ => by
    unfold u1 at e
    split at e
    · rename_i a S1 e1
      split at e
      · rename_i d' e2
        cases e
        unfold dTab at e2
        split at e2
        · rename_i z
          obtain ⟨v, hv, rfl⟩ := Option.map_eq_some_iff.mp e2
          refine ⟨ow, ρ, S, _, _, R, e1, fun y H1 k1 s1 r1 => ⟨p, z, .str v, rfl, r1.str, ht z v (lookup_mem hv), ?_⟩⟩
          exact k _ H1 k1 s1 (by rw [Rep]) fun m => by cases m
        · cases e2
      · cases e
    · cases e
/-! ### x.bit_length() -/
def dBits : D → Option D
  | .int i => some (.int (Builtin.Int.intBits i : Nat))
  | _ => none
theorem x_bits {o : Expr} {apos pos : Pos} {f : FE} (ho : PE X o (tS C kd f)) (hbase : attributeBase o "bit_length" X.env (eval o X.env) = eval o X.env := by rfl) (hline : (apos.endLine == pos.line) = true := by rfl) :
    PE X (.Call (.Attribute o "bit_length" apos) [] [] pos) (tF C kd (u1 dBits f)) :=
  PE_imp (pe_bits ho hbase hline) fun σ H Q ⟨ow, ρ, S, d, S', R, e, k⟩ => by
    unfold u1 at e
    split at e
    · rename_i a S1 e1
      split at e
      · rename_i d' e2
        cases e
        unfold dBits at e2
        split at e2
        · rename_i i
          cases e2
          exact ⟨ow, ρ, S, _, _, R, e1, fun y H1 k1 s1 r1 => ⟨i, r1.int, k _ H1 k1 s1 (by rw [Rep]) fun m => by cases m⟩⟩
        · cases e2
      · cases e
    · cases e
/-! ### str(i), sum(xs) -/
def dStr : List D → Option D
  | [.int i] => if i.natAbs.log2 < 1920 then some (.str (toString i)) else none
  | _ => none
theorem c_str : CallR X (.type "str") (rCl true dStr) := by
  intro pins s σ H xs us Q I r ⟨C, ow, ds, d, fz, h, e, q⟩
  unfold dStr at e
  split at e
  · split at e
    · rename_i i hz
      cases e
      obtain ⟨w, rfl, hw⟩ := h.one
      obtain rfl := hw.int
      exact call_str_int pins s σ H _ us Q I r ⟨i, rfl, hz, q.atom (by rw [Rep])⟩
    · cases e
  · cases e
def intsD : List D → Option (List Int)
  | [] => some []
  | .int i :: r => (intsD r).map (i :: ·)
  | _ => none
theorem ints_rep {H : Hp} {Z : Zn} : ∀ {ds : List D} {vs : List V} {ns : List Int}, intsD ds = some ns → RepL H Z ds vs → vs = ns.map V.int
  | [], vs, ns, e, r => by
    cases e
    rw [RepL] at r
    exact r
  | d :: ds, vs, ns, e, r => by
    cases d <;> first | (cases e; done) | skip
    rw [intsD] at e
    obtain ⟨ms, h1, rfl⟩ := Option.map_eq_some_iff.mp e
    rw [RepL] at r
    obtain ⟨w, ws, rfl, r1, r2⟩ := r
    rw [Rep] at r1
    rw [r1, ints_rep h1 r2, List.map_cons]
def dSum : List D → Option D
  | [.list xs] => (intsD xs).map fun ns => .int ns.sum
  | _ => none
theorem c_sum (hc : X.calm = true) : CallR X (.builtin "sum") (rCl true dSum) := by
  intro pins s σ H xs us Q I r ⟨C, ow, ds, d, fz, h, e, q⟩
  unfold dSum at e
  split at e
  · rename_i es
    obtain ⟨ns, hn, rfl⟩ := Option.map_eq_some_iff.mp e
    obtain ⟨w, rfl, hw⟩ := h.one
    obtain ⟨p, vs, rfl, hp, _, r1⟩ := hw.lst
    rw [ints_rep hn r1] at hp
    exact cr_sum hc pins s σ H _ us Q I r ⟨p, ns, rfl, .inl (.inl hp), q.atom (by rw [Rep])⟩
  · cases e
/-! ### i ** j, xs * k -/
def dPow : D → D → Option D
  | .int i, .int j => if 0 ≤ j ∧ j ≤ 1000000 ∧ i.natAbs < 2 ^ 64 then some (.int (i ^ j.toNat)) else none
  | _, _ => none
theorem o_pow : OpR X (binaryOp .Pow) (rT true dPow) := by
  intro pins s σ H x y v u Q I rx ry ⟨C, ow, a, b, d, fz, ha, hb, e, q⟩
  unfold dPow at e
  split at e
  · split at e
    · rename_i hz
      cases e
      obtain rfl := ha.int
      obtain rfl := hb.int
      exact op_pow pins s σ H _ _ v u Q I rx ry ⟨_, _, rfl, rfl, hz, q.atom (by rw [Rep])⟩
    · cases e
  · cases e
theorem RepL.flat {H : Hp} {Z : Zn} {ds : List D} {vs : List V} (r : RepL H Z ds vs) : ∀ n : Nat, RepL H Z (List.replicate n ds).flatten (List.replicate n vs).flatten
  | 0 => .nil
  | n + 1 => by
    rw [List.replicate_succ, List.replicate_succ, List.flatten_cons, List.flatten_cons]
    exact r.app (RepL.flat r n)
def dMulA : D → D → Option D
  | .list xs, .int k => if -(2 ^ 63) ≤ k ∧ k < 2 ^ 63 ∧ xs.length * k.toNat ≤ sizeLine then some (.list (List.replicate k.toNat xs).flatten) else none
  | a, b => dMul a b
theorem o_mulA : OpR X (binaryOp .Mult) (rT true dMulA) := by
  intro pins s σ H x y v u Q I rx ry ⟨C, ow, a, b, d, fz, ha, hb, e, q⟩
  unfold dMulA at e
  split at e
  · split at e
    · rename_i hz
      cases e
      obtain ⟨p, xs, rfl, h1, _, r1⟩ := ha.lst
      obtain rfl := hb.int
      exact op_rep pins s σ H _ _ v u Q I rx ry ⟨_, _, _, rfl, rfl, h1, hz.1, hz.2.1, by rw [RepL.len r1]; exact hz.2.2, q.lst fz (r1.flat _)⟩
    · cases e
  · exact o_mul pins s σ H x y v u Q I rx ry ⟨C, ow, a, b, d, fz, ha, hb, e, q⟩
/-! ### displays with stars -/
def tAV (C : Cf) (kd : Nat → Bool) (f : FA) : TA := fun σ H Q => ∃ ow ρ S ds S', Rel C kd ow σ ρ S H ∧ f ρ S = some (ds, S') ∧
  ∀ vs H', Kp C.foot H H' → SrcOk C S' H' → RepL H' (ZO C ow) ds vs → Q vs H'
theorem av_nil : PA X [] (tAV C kd aN) := PA_imp pa_nil fun σ H Q ⟨ow, ρ, S, d, S', R, e, k⟩ => by
  cases e
  exact k [] H .refl R.src .nil
theorem av_cons {e : Expr} {es : List Expr} {f : FE} {g : FA} (ha : PE X e (tX C kd f)) (hr : PA X es (tAV C kd g)) (hs : starEach (e :: es) X.env = (false, eval e X.env) :: starEach es X.env := by rfl) :
    PA X (e :: es) (tAV C kd (aC f g)) := PA_imp (pa_cons ha hr hs) fun σ H Q ⟨ow, ρ, S, ds, S', R, e, k⟩ => by
  obtain ⟨d, S1, es', e1, e2, rfl⟩ := aC_of e
  refine ⟨ow, ρ, S, d, S1, R, e1, fun v H1 k1 s1 r1 => ⟨ow, ρ, S1, es', S', R.step k1 s1, e2, fun vs H2 k2 s2 r2 => ?_⟩⟩
  exact k _ H2 (k1.trans k2) s2 (.cons (r1.kp (k2.mono R.fz)) r2)
def aS (f : FE) (g : FA) : FA := fun ρ S => match f ρ S with
  | some (.list ds, S1) => (match g ρ S1 with
    | some (es, S2) => some (ds ++ es, S2)
    | none => none)
  | some (.tuple ds, S1) => (match g ρ S1 with
    | some (es, S2) => some (ds ++ es, S2)
    | none => none)
  | _ => none
theorem av_star {e : Expr} {es : List Expr} {f : FE} {g : FA} {p : Pos} (ha : PE X e (tX C kd f)) (hr : PA X es (tAV C kd g)) (hs : starEach (.Starred e p :: es) X.env = (true, eval e X.env) :: starEach es X.env := by rfl) :
    PA X (.Starred e p :: es) (tAV C kd (aS f g)) := PA_imp (StX.pa_star ha hr hs) fun σ H Q ⟨ow, ρ, S, ds, S', R, e, k⟩ => by
  unfold aS at e
  split at e
  · rename_i d1 S1 e1
    split at e
    · rename_i es' S2 e2
      cases e
      refine ⟨ow, ρ, S, _, S1, R, e1, fun v H1 k1 s1 r1 => ?_⟩
      rw [Rep] at r1
      obtain ⟨a, ws, rfl, h1, _, r1⟩ := r1
      exact ⟨a, ws, rfl, .inr (.inl (.inl h1)), ow, ρ, S1, es', _, R.step k1 s1, e2, fun vs H2 k2 s2 r2 => k _ H2 (k1.trans k2) s2 ((r1.kp (k2.mono R.fz)).app r2)⟩
    · cases e
  · rename_i d1 S1 e1
    split at e
    · rename_i es' S2 e2
      cases e
      refine ⟨ow, ρ, S, _, S1, R, e1, fun v H1 k1 s1 r1 => ?_⟩
      rw [Rep] at r1
      obtain ⟨a, ws, rfl, h1, r1⟩ := r1
      exact ⟨a, ws, rfl, .inl (.inl (.inl h1)), ow, ρ, S1, es', _, R.step k1 s1, e2, fun vs H2 k2 s2 r2 => k _ H2 (k1.trans k2) s2 ((r1.kp (k2.mono R.fz)).app r2)⟩
    · cases e
  · cases e
def mkTV (g : FA) : FE := fun ρ S => match g ρ S with
  | some (ds, S1) => if ds.length ≤ sizeLine then some (.tuple ds, S1) else none
  | none => none
def mkLV (g : FA) : FE := fun ρ S => match g ρ S with
  | some (ds, S1) => if ds.length ≤ sizeLine then some (.list ds, S1) else none
  | none => none
theorem x_tupV {es : List Expr} {k0 : Nat} {pos : Pos} {g : FA} (h : PA X es (tAV C kd g)) : PE X (.Tuple es k0 pos) (tF C kd (mkTV g)) :=
  PE_imp (pe_tup h) fun σ H Q ⟨ow, ρ, S, d, S', R, e, k⟩ => by
    unfold mkTV at e
    split at e
    · rename_i ds S1 e1
      split at e
      · rename_i hz
        cases e
        refine ⟨ow, ρ, S, ds, _, R, e1, fun vs H1 k1 s1 r1 => ⟨by rw [RepL.len r1]; exact hz, fun p hp => ?_⟩⟩
        exact (R.fin (t := true) k1 s1 fun v H' k2 s2 r fr => k v H' k2 s2 r (fr rfl)).tup r1 p hp
      · cases e
    · cases e
theorem x_lstV {es : List Expr} {pos : Pos} {g : FA} (h : PA X es (tAV C kd g)) : PE X (.List es pos) (tF C kd (mkLV g)) :=
  PE_imp (pe_lst h) fun σ H Q ⟨ow, ρ, S, d, S', R, e, k⟩ => by
    unfold mkLV at e
    split at e
    · rename_i ds S1 e1
      split at e
      · rename_i hz
        cases e
        refine ⟨ow, ρ, S, ds, _, R, e1, fun vs H1 k1 s1 r1 => ⟨by rw [RepL.len r1]; exact hz, fun p hp => ?_⟩⟩
        have R1 := R.step k1 s1
        exact (R.fin (t := true) k1 s1 fun v H' k2 s2 r fr => k v H' k2 s2 r (fr rfl)).lst (fun p hp => R1.fresh hp) r1 p hp
      · cases e
    · cases e
/-! ### i += e; xs.pop(e) whose item is let go -/
def dAddI : D → D → Option D
  | .int i, .int j => some (.int (i + j))
  | _, _ => none
theorem p_aug {x : Str} {i : Nat} {e : Expr} {f : FE} {pos pos' : Pos} (hN : X.N.Nodup) (hi : X.N[i]? = some x) (hx : Loc X.env.scope x) (he : PE X e (tS C kd f)) (hf : X.fn x = true ∨ X.env.scope.names.lookup x = some .local := by first | exact .inl rfl | exact .inr rfl | assumption)
    (hk : kd i = false := by rfl) (h0 : i ≠ C.sx ∨ C.src = none := by exact .inl (Nat.ne_of_beq_eq_false rfl)) : PS X (.AugAssign (.Name x pos') .Add e pos) (tP C kb kd kd (gSet i (b2 dAddI (rd i) f))) :=
  PS_imp (ps_aug hN hi hx he ip_add hf) fun Dn σ H ⟨ow, ρ, S, o, R, e, k⟩ => by
    obtain ⟨d, S1, e1, rfl⟩ := gSet_of e
    obtain ⟨a, S2, b, e2, e3, e4⟩ := b2_of e1
    obtain ⟨e5, rfl⟩ := rd_of e2
    obtain ⟨v, q, r⟩ := R.cl i a hk e5
    refine ⟨v, q, ow, ρ, _, b, S1, R, e3, fun y H1 k1 s1 r1 => ?_⟩
    unfold dAddI at e4
    split at e4
    · cases e4
      rw [Rep] at r
      have hy := r1.int
      subst r hy
      exact ⟨_, _, rfl, rfl, k _ H1 ow ((R.step k1 s1).set hk h0 (by rw [Rep])) (R.ev k1 s1)⟩
    · cases e4
def gDropN (f : FN) : FS := fun ρ S => match f ρ S with
  | some (_, ρ1, S1) => some (.nx ρ1 S1)
  | none => none
theorem p_dropN {s : Stmt} {f : FN} (h : PS X s (tDrop (tN C kd f))) : PS X s (tP C kb kd kd (gDropN f)) := PS_imp h fun Dn σ H ⟨ow, ρ, S, o, R, e, k⟩ => by
  unfold gDropN at e
  split at e
  · rename_i d ρ1 S1 e1
    cases e
    exact ⟨ow, ρ, S, d, ρ1, S1, R, e1, fun v H' R' ev r1 => k _ H' ow R' ev⟩
  · cases e
end
end TL

set_option Elab.async false
set_option linter.all false
set_option maxRecDepth 100000
set_option maxHeartbeats 4000000
namespace TL
open PySem PySem.Spec PyProof.Rows L2

/-! ### zip of lists or tuples, strict or not -/
def SqIt (t : Bool) (h : Heap) (it l : Addr) (k : Nat) : Prop := match t with
  | true => h.IsTupleIter it l k
  | false => h.IsListIter it l k
def SqOb (t : Bool) (h : Heap) (l : Addr) (xs : Array Value) : Prop := match t with
  | true => h.IsTuple l xs
  | false => h.IsList l xs
abbrev ZpAt (h : Heap) (z tI tO : Addr) (f0 : Value) (st : Bool) : Prop :=
  h.get? z = some { cls := .type "zip", dict := none, data := .fields #[f0, .bool false, .bool st, .ref tI, .ref tO], slots := #[] }
section
variable {t st : Bool} {h h' : Heap} {it l b : Addr} {k : Nat} {xs : Array Value}
theorem SqIt.ext (x : SqIt t h it l k) (hs : Heap.ExtBut b h h') (n : it ≠ b) : SqIt t h' it l k := by
  cases t with
  | true => exact Heap.IsTupleIter.extBut x hs n
  | false => exact Heap.IsListIter.extBut x hs n
theorem SqOb.ext (x : SqOb t h l xs) (hs : Heap.ExtBut b h h') (n : l ≠ b) : SqOb t h' l xs := by
  cases t with
  | true => exact Heap.IsTuple.extBut x hs n
  | false => exact Heap.IsList.extBut x hs n
theorem SqIt.obj (x : SqIt t h it l k) : ∃ o, h.get? it = some o ∧ o.data = .fields #[.ref l, .int k 0] := by
  cases t <;> (obtain ⟨o, h1, _, h2⟩ := x; exact ⟨o, h1, h2⟩)
theorem SqIt.at (x : SqIt t h it l k) (e : ∀ o, h.get? it = some o → h'.get? it = some o) : SqIt t h' it l k := by
  cases t <;> (obtain ⟨o, h1, r⟩ := x; exact ⟨o, e o h1, r⟩)
theorem SqOb.push (x : SqOb t h l xs) (o : Obj) : SqOb t (h.push o) l xs := by
  cases t with
  | true => exact Heap.IsTuple.push x o
  | false => exact Heap.IsList.push x o
theorem SqOb.lt (x : SqOb t h l xs) : l < h.objs.size := by
  cases t <;> (obtain ⟨o, h1, _⟩ := x; exact Heap.lt_size h1)
end
section
variable {prog : Program} {w : World} {A : Around} {E : Value → Shared → Prop} {s : Shared} {t t1 t2 st : Bool}
theorem sq_next {it l : Addr} {k : Nat} {xs : Array Value} {x : Value} {Q : Value → Shared → Prop} (hit : SqIt t s.heap it l k) (hl : SqOb t s.heap l xs) (hx : xs[k]? = some x)
    (hQ : ∀ h', SqIt t h' it l (k + 1) → Heap.SameBut it s.heap h' → Q x { s with heap := h' }) : wpAny (model prog w) A (Builtin.SmallTypes.nextOf (.ref it)) Q E s := by
  cases t with
  | true => exact wpAny_nextOf_tuple_item hit hl hx hQ
  | false => exact wpAny_nextOf_list_item hit hl hx hQ
theorem sq_last {it l : Addr} {k : Nat} {xs : Array Value} {Q : Value → Shared → Prop} (hh : A.handled = none) (hit : SqIt t s.heap it l k) (hl : SqOb t s.heap l xs) (hx : xs[k]? = none)
    (hE : ∀ h' e, Heap.ExtBut it s.heap h' → (∃ o, h'.get? e = some o ∧ o.cls = .type "StopIteration") → E (.ref e) { s with heap := h' }) : wpAny (model prog w) A (Builtin.SmallTypes.nextOf (.ref it)) Q E s := by
  cases t with
  | true => exact wpAny_nextOf_tuple_end hh hit hl hx hE
  | false => exact wpAny_nextOf_list_end hh hit hl hx hE
/-- the draw itself: by its flag -/
theorem sq_draw0 {it l : Addr} {k : Nat} {xs : Array Value} {x : Value} {Q : Option Value → Shared → Prop} (hit : SqIt t s.heap it l k) (hl : SqOb t s.heap l xs) (hx : xs[k]? = some x)
    (hQ : ∀ h', SqIt t h' it l (k + 1) → Heap.SameBut it s.heap h' → Q (some x) { s with heap := h' }) : wpAny (model prog w) A (Builtin.SmallTypes.nextOf (.ref it) >>= fun v => pure (some v)) Q E s :=
  wpAny_bind (sq_next hit hl hx fun h' q1 q2 => wpAny_pure (hQ h' q1 q2))
theorem sq_draw1 {it l : Addr} {k : Nat} {xs : Array Value} {x : Value} {Q : Option Value → Shared → Prop} (hit : SqIt t s.heap it l k) (hl : SqOb t s.heap l xs) (hx : xs[k]? = some x)
    (hQ : ∀ h', SqIt t h' it l (k + 1) → Heap.SameBut it s.heap h' → Q (some x) { s with heap := h' }) : wpAny (model prog w) A (Builtin.SmallTypes.nextOrEnd (.ref it)) Q E s := by
  unfold Builtin.SmallTypes.nextOrEnd
  exact wpAny_bind (wpAny_attempt (sq_next hit hl hx fun h' q1 q2 => wpAny_pure (hQ h' q1 q2)))
theorem sq_none {it l : Addr} {k : Nat} {xs : Array Value} {Q : Option Value → Shared → Prop} (hh : A.handled = none) (hit : SqIt t s.heap it l k) (hl : SqOb t s.heap l xs) (hx : xs[k]? = none)
    (hQ : ∀ h', Heap.ExtBut it s.heap h' → Q none { s with heap := h' }) : wpAny (model prog w) A (Builtin.SmallTypes.nextOrEnd (.ref it)) Q E s := by
  unfold Builtin.SmallTypes.nextOrEnd
  refine wpAny_bind (wpAny_attempt (sq_last hh hit hl hx fun h' e hs he => ?_))
  obtain ⟨o, ho, hc⟩ := he
  refine wpAny_bind (wpAny_isInstance (T := "StopIteration") (b := true) ⟨o, ho, hc⟩ isSubtype_stop ?_)
  exact wpAny_pure (hQ h' hs)
theorem zp_item0 {z tI tO i1 i2 l1 l2 : Addr} {k : Nat} {xs ys : Array Value} {x y a b : Value} {Q : Value → Shared → Prop} (D : ZipApart z tI tO i1 i2 l1 l2)
    (hz : ZpAt s.heap z tI tO .none false) (hI : IsPair s.heap tI (.ref i1) (.ref i2)) (hO : IsPair s.heap tO a b)
    (h1 : SqIt t1 s.heap i1 l1 k) (h2 : SqIt t2 s.heap i2 l2 k) (o1 : SqOb t1 s.heap l1 xs) (o2 : SqOb t2 s.heap l2 ys) (hx : xs[k]? = some x) (hy : ys[k]? = some y)
    (hQ : ∀ h', ZpAt h' z tI tO (rawInt s.heap.objs.size) false → IsPair h' tO x y → SqIt t1 h' i1 l1 (k + 1) → SqIt t2 h' i2 l2 (k + 1) → IsPair h' s.heap.objs.size x y → h'.objs.size = s.heap.objs.size + 1 →
      (∀ c o, c ≠ z → c ≠ tO → c ≠ i1 → c ≠ i2 → s.heap.get? c = some o → h'.get? c = some o) → Q (.ref s.heap.objs.size) { s with heap := h' }) :
    wpAny (model prog w) A (Builtin.«zip.__next__» ⟨[.ref z], []⟩) (fun fin s' => ∃ v, fin = .done (.ret v) ∧ Q v s') E s := by
  show wpAny _ _ (field (.ref z) 2 >>= _) _ _ _
  refine wpAny_bind (wpAny_field hz rfl (x := .bool false) rfl ?_)
  show wpAny _ _ (field (.ref z) 3 >>= _) _ _ _
  refine wpAny_bind (wpAny_field hz rfl (x := .ref tI) rfl (wpAny_bind (wpAny_seqItems hI rfl ?_)))
  show wpAny _ _ (Builtin.SmallTypes.ownedTupleIsFree (.ref z) >>= _) _ _ _
  refine wpAny_bind ?_
  unfold Builtin.SmallTypes.ownedTupleIsFree
  refine wpAny_bind (wpAny_field hz rfl (x := .none) rfl (wpAny_pure ?_))
  simp only [if_true]
  refine wpAny_bind (wpAny_rule (wpAny_bind (wpAny_field hz rfl (x := .ref tO) rfl (wpAny_bind (wpAny_setField_rec hz (by simp) fun g1 hz1 m1 => ?_)))))
  replace hz1 : ZpAt g1 z tI tO .ellipsis false := hz1
  refine wpAny_bind ?_
  simp only [List.zipIdx_cons, List.zipIdx_nil, List.forIn_cons, List.forIn_nil]
  refine wpAny_bind (wpAny_bind (wpAny_onRaise ?_))
  show wpAny _ _ (Builtin.SmallTypes.nextOf (.ref i1) >>= _) _ _ _
  refine wpAny_bind (sq_next (s := { s with heap := g1 }) (h1.ext m1.extBut D.i1z) (o1.ext m1.extBut D.l1z) hx fun g2 w1 m2 => wpAny_pure ?_)
  have hO2 : IsPair g2 tO a b := m2.extBut _ _ D.TOi1 (m1.extBut _ _ D.TOz hO)
  refine wpAny_bind (wpAny_seqItems hO2 rfl (wpAny_bind (wpAny_updateSeq_pair (s := { s with heap := g2 }) hO2 fun g3 hO3 m3 => ?_)))
  replace hO3 : IsPair g3 tO x b := hO3
  refine wpAny_bind (wpAny_letGo (wpAny_pure ?_))
  refine wpAny_bind (wpAny_bind (wpAny_onRaise ?_))
  show wpAny _ _ (Builtin.SmallTypes.nextOf (.ref i2) >>= _) _ _ _
  refine wpAny_bind (sq_next (s := { s with heap := g3 }) (((h2.ext m1.extBut D.i2z).ext m2.extBut D.i12.symm).ext m3.extBut D.TOi2.symm) (((o2.ext m1.extBut D.l2z).ext m2.extBut D.l2i1).ext m3.extBut D.l2TO) hy fun g4 w2 m4 => wpAny_pure ?_)
  have hO4 : IsPair g4 tO x b := m4.extBut _ _ D.TOi2 hO3
  refine wpAny_bind (wpAny_seqItems hO4 rfl (wpAny_bind (wpAny_updateSeq_pair (s := { s with heap := g4 }) hO4 fun g5 hO5 m5 => ?_)))
  replace hO5 : IsPair g5 tO x y := hO5
  refine wpAny_bind (wpAny_letGo (wpAny_pure (wpAny_pure ?_)))
  refine wpAny_bind (wpAny_seqItems hO5 rfl (wpAny_bind (wpAny_newTuple ?_)))
  have sz5 : g5.objs.size = s.heap.objs.size := by rw [m5.1, m4.1, m3.1, m2.1, m1.1]
  have hz5 : ZpAt g5 z tI tO .ellipsis false := m5.extBut _ _ D.TOz.symm (m4.extBut _ _ D.i2z.symm (m3.extBut _ _ D.TOz.symm (m2.extBut _ _ D.i1z.symm hz1)))
  have old5 : ∀ c o, c ≠ z → c ≠ tO → c ≠ i1 → c ≠ i2 → s.heap.get? c = some o → g5.get? c = some o := fun c o c1 c2 c3 c4 e => m5.extBut _ _ c2 (m4.extBut _ _ c4 (m3.extBut _ _ c2 (m2.extBut _ _ c3 (m1.extBut _ _ c1 e))))
  have w15 : SqIt t1 g5 i1 l1 (k + 1) := ((w1.ext m3.extBut D.TOi1.symm).ext m4.extBut D.i12).ext m5.extBut D.TOi1.symm
  have w25 : SqIt t2 g5 i2 l2 (k + 1) := w2.ext m5.extBut D.TOi2.symm
  have zl : z < g5.objs.size := Heap.lt_size hz5
  show wpAny _ _ (Builtin.SmallTypes.ownedTupleHandOut (.ref z) (.ref g5.objs.size) >>= _) _ _ _
  refine wpAny_bind ?_
  unfold Builtin.SmallTypes.ownedTupleHandOut
  have hz6 : ZpAt (g5.push { cls := .type "tuple", data := .seq #[x, y] }) z tI tO .ellipsis false := Heap.get?_push_of_some _ hz5
  refine wpAny_bind (wpAny_setField_rec (s := { s with heap := g5.push { cls := .type "tuple", data := .seq #[x, y] } }) hz6 (by simp) fun g7 hz7 m7 => ?_)
  replace hz7 : ZpAt g7 z tI tO (rawInt g5.objs.size) false := hz7
  refine wpAny_setField_rec (s := { s with heap := g7 }) hz7 (by simp) fun g8 hz8 m8 => ?_
  replace hz8 : ZpAt g8 z tI tO (rawInt g5.objs.size) false := hz8
  have up : ∀ c o, c ≠ z → g5.get? c = some o → g8.get? c = some o := fun c o c1 e => m8.extBut _ _ c1 (m7.extBut _ _ c1 (Heap.get?_push_of_some _ e))
  have new8 : IsPair g8 g5.objs.size x y := m8.extBut _ _ (Nat.ne_of_gt zl) (m7.extBut _ _ (Nat.ne_of_gt zl) (Heap.get?_push_size _ rfl))
  have sz8 : g8.objs.size = g5.objs.size + 1 := by rw [m8.1, m7.1, Heap.size_push]
  rw [sz5] at hz8 new8 sz8
  refine wpAny_pure ⟨_, rfl, ?_⟩
  show Q (.ref g5.objs.size) _
  rw [sz5]
  exact hQ g8 hz8 (up _ _ D.TOz hO5) (w15.at fun o e => up _ o D.i1z e) (w25.at fun o e => up _ o D.i2z e) new8 sz8 fun c o c1 c2 c3 c4 e => up c o c1 (old5 c o c1 c2 c3 c4 e)

theorem zp_item1 {z tI tO i1 i2 l1 l2 : Addr} {k : Nat} {xs ys : Array Value} {x y a b : Value} {Q : Value → Shared → Prop} (D : ZipApart z tI tO i1 i2 l1 l2)
    (hz : ZpAt s.heap z tI tO .none true) (hI : IsPair s.heap tI (.ref i1) (.ref i2)) (hO : IsPair s.heap tO a b)
    (h1 : SqIt t1 s.heap i1 l1 k) (h2 : SqIt t2 s.heap i2 l2 k) (o1 : SqOb t1 s.heap l1 xs) (o2 : SqOb t2 s.heap l2 ys) (hx : xs[k]? = some x) (hy : ys[k]? = some y)
    (hQ : ∀ h', ZpAt h' z tI tO (rawInt s.heap.objs.size) true → IsPair h' tO x y → SqIt t1 h' i1 l1 (k + 1) → SqIt t2 h' i2 l2 (k + 1) → IsPair h' s.heap.objs.size x y → h'.objs.size = s.heap.objs.size + 1 →
      (∀ c o, c ≠ z → c ≠ tO → c ≠ i1 → c ≠ i2 → s.heap.get? c = some o → h'.get? c = some o) → Q (.ref s.heap.objs.size) { s with heap := h' }) :
    wpAny (model prog w) A (Builtin.«zip.__next__» ⟨[.ref z], []⟩) (fun fin s' => ∃ v, fin = .done (.ret v) ∧ Q v s') E s := by
  show wpAny _ _ (field (.ref z) 2 >>= _) _ _ _
  refine wpAny_bind (wpAny_field hz rfl (x := .bool true) rfl ?_)
  show wpAny _ _ (field (.ref z) 3 >>= _) _ _ _
  refine wpAny_bind (wpAny_field hz rfl (x := .ref tI) rfl (wpAny_bind (wpAny_seqItems hI rfl ?_)))
  show wpAny _ _ (Builtin.SmallTypes.ownedTupleIsFree (.ref z) >>= _) _ _ _
  refine wpAny_bind ?_
  unfold Builtin.SmallTypes.ownedTupleIsFree
  refine wpAny_bind (wpAny_field hz rfl (x := .none) rfl (wpAny_pure ?_))
  simp only [if_true]
  refine wpAny_bind (wpAny_rule (wpAny_bind (wpAny_field hz rfl (x := .ref tO) rfl (wpAny_bind (wpAny_setField_rec hz (by simp) fun g1 hz1 m1 => ?_)))))
  replace hz1 : ZpAt g1 z tI tO .ellipsis true := hz1
  refine wpAny_bind ?_
  simp only [List.zipIdx_cons, List.zipIdx_nil, List.forIn_cons, List.forIn_nil]
  refine wpAny_bind (wpAny_bind (wpAny_onRaise ?_))
  show wpAny _ _ (Builtin.SmallTypes.nextOrEnd (.ref i1)) _ _ _
  refine sq_draw1 (s := { s with heap := g1 }) (h1.ext m1.extBut D.i1z) (o1.ext m1.extBut D.l1z) hx fun g2 w1 m2 => ?_
  have hO2 : IsPair g2 tO a b := m2.extBut _ _ D.TOi1 (m1.extBut _ _ D.TOz hO)
  refine wpAny_bind (wpAny_seqItems hO2 rfl (wpAny_bind (wpAny_updateSeq_pair (s := { s with heap := g2 }) hO2 fun g3 hO3 m3 => ?_)))
  replace hO3 : IsPair g3 tO x b := hO3
  refine wpAny_bind (wpAny_letGo (wpAny_pure ?_))
  refine wpAny_bind (wpAny_bind (wpAny_onRaise ?_))
  show wpAny _ _ (Builtin.SmallTypes.nextOrEnd (.ref i2)) _ _ _
  refine sq_draw1 (s := { s with heap := g3 }) (((h2.ext m1.extBut D.i2z).ext m2.extBut D.i12.symm).ext m3.extBut D.TOi2.symm) (((o2.ext m1.extBut D.l2z).ext m2.extBut D.l2i1).ext m3.extBut D.l2TO) hy fun g4 w2 m4 => ?_
  have hO4 : IsPair g4 tO x b := m4.extBut _ _ D.TOi2 hO3
  refine wpAny_bind (wpAny_seqItems hO4 rfl (wpAny_bind (wpAny_updateSeq_pair (s := { s with heap := g4 }) hO4 fun g5 hO5 m5 => ?_)))
  replace hO5 : IsPair g5 tO x y := hO5
  refine wpAny_bind (wpAny_letGo (wpAny_pure (wpAny_pure ?_)))
  refine wpAny_bind (wpAny_seqItems hO5 rfl (wpAny_bind (wpAny_newTuple ?_)))
  have sz5 : g5.objs.size = s.heap.objs.size := by rw [m5.1, m4.1, m3.1, m2.1, m1.1]
  have hz5 : ZpAt g5 z tI tO .ellipsis true := m5.extBut _ _ D.TOz.symm (m4.extBut _ _ D.i2z.symm (m3.extBut _ _ D.TOz.symm (m2.extBut _ _ D.i1z.symm hz1)))
  have old5 : ∀ c o, c ≠ z → c ≠ tO → c ≠ i1 → c ≠ i2 → s.heap.get? c = some o → g5.get? c = some o := fun c o c1 c2 c3 c4 e => m5.extBut _ _ c2 (m4.extBut _ _ c4 (m3.extBut _ _ c2 (m2.extBut _ _ c3 (m1.extBut _ _ c1 e))))
  have w15 : SqIt t1 g5 i1 l1 (k + 1) := ((w1.ext m3.extBut D.TOi1.symm).ext m4.extBut D.i12).ext m5.extBut D.TOi1.symm
  have w25 : SqIt t2 g5 i2 l2 (k + 1) := w2.ext m5.extBut D.TOi2.symm
  have zl : z < g5.objs.size := Heap.lt_size hz5
  show wpAny _ _ (Builtin.SmallTypes.ownedTupleHandOut (.ref z) (.ref g5.objs.size) >>= _) _ _ _
  refine wpAny_bind ?_
  unfold Builtin.SmallTypes.ownedTupleHandOut
  have hz6 : ZpAt (g5.push { cls := .type "tuple", data := .seq #[x, y] }) z tI tO .ellipsis true := Heap.get?_push_of_some _ hz5
  refine wpAny_bind (wpAny_setField_rec (s := { s with heap := g5.push { cls := .type "tuple", data := .seq #[x, y] } }) hz6 (by simp) fun g7 hz7 m7 => ?_)
  replace hz7 : ZpAt g7 z tI tO (rawInt g5.objs.size) true := hz7
  refine wpAny_setField_rec (s := { s with heap := g7 }) hz7 (by simp) fun g8 hz8 m8 => ?_
  replace hz8 : ZpAt g8 z tI tO (rawInt g5.objs.size) true := hz8
  have up : ∀ c o, c ≠ z → g5.get? c = some o → g8.get? c = some o := fun c o c1 e => m8.extBut _ _ c1 (m7.extBut _ _ c1 (Heap.get?_push_of_some _ e))
  have new8 : IsPair g8 g5.objs.size x y := m8.extBut _ _ (Nat.ne_of_gt zl) (m7.extBut _ _ (Nat.ne_of_gt zl) (Heap.get?_push_size _ rfl))
  have sz8 : g8.objs.size = g5.objs.size + 1 := by rw [m8.1, m7.1, Heap.size_push]
  rw [sz5] at hz8 new8 sz8
  refine wpAny_pure ⟨_, rfl, ?_⟩
  show Q (.ref g5.objs.size) _
  rw [sz5]
  exact hQ g8 hz8 (up _ _ D.TOz hO5) (w15.at fun o e => up _ o D.i1z e) (w25.at fun o e => up _ o D.i2z e) new8 sz8 fun c o c1 c2 c3 c4 e => up c o c1 (old5 c o c1 c2 c3 c4 e)

theorem zp_end0 {z tI tO i1 i2 l1 l2 : Addr} {k : Nat} {xs ys : Array Value} {a b : Value} {Q : Fin → Shared → Prop} (hh : A.handled = none) (D : ZipApart z tI tO i1 i2 l1 l2)
    (hz : ZpAt s.heap z tI tO .none false) (hI : IsPair s.heap tI (.ref i1) (.ref i2)) (hO : IsPair s.heap tO a b)
    (h1 : SqIt t1 s.heap i1 l1 k) (h2 : SqIt t2 s.heap i2 l2 k) (o1 : SqOb t1 s.heap l1 xs) (o2 : SqOb t2 s.heap l2 ys) (hend : xs[k]? = none ∨ ys[k]? = none)
    (hE : ∀ h' e, (∀ c o, c ≠ z → c ≠ tO → c ≠ i1 → c ≠ i2 → s.heap.get? c = some o → h'.get? c = some o) → (∃ o, h'.get? e = some o ∧ o.cls = .type "StopIteration") → E (.ref e) { s with heap := h' }) :
    wpAny (model prog w) A (Builtin.«zip.__next__» ⟨[.ref z], []⟩) Q E s := by
  show wpAny _ _ (field (.ref z) 2 >>= _) _ _ _
  refine wpAny_bind (wpAny_field hz rfl (x := .bool false) rfl ?_)
  show wpAny _ _ (field (.ref z) 3 >>= _) _ _ _
  refine wpAny_bind (wpAny_field hz rfl (x := .ref tI) rfl (wpAny_bind (wpAny_seqItems hI rfl ?_)))
  show wpAny _ _ (Builtin.SmallTypes.ownedTupleIsFree (.ref z) >>= _) _ _ _
  refine wpAny_bind ?_
  unfold Builtin.SmallTypes.ownedTupleIsFree
  refine wpAny_bind (wpAny_field hz rfl (x := .none) rfl (wpAny_pure ?_))
  simp only [if_true]
  refine wpAny_bind (wpAny_rule (wpAny_bind (wpAny_field hz rfl (x := .ref tO) rfl (wpAny_bind (wpAny_setField_rec hz (by simp) fun g1 hz1 m1 => ?_)))))
  replace hz1 : ZpAt g1 z tI tO .ellipsis false := hz1
  refine wpAny_bind ?_
  simp only [List.zipIdx_cons, List.zipIdx_nil, List.forIn_cons, List.forIn_nil]
  refine wpAny_bind (wpAny_bind (wpAny_onRaise ?_))
  show wpAny _ _ (Builtin.SmallTypes.nextOf (.ref i1) >>= _) _ _ _
  cases hx : xs[k]? with
  | none =>
    refine wpAny_bind (sq_last (s := { s with heap := g1 }) hh (h1.ext m1.extBut D.i1z) (o1.ext m1.extBut D.l1z) hx fun g2 e m2 he => ?_)
    obtain ⟨oe, hoe, hce⟩ := he
    have hz2 : ZpAt g2 z tI tO .ellipsis false := m2 _ _ D.i1z.symm hz1
    have ez : e ≠ z := fun q => by subst q; rw [hz2] at hoe; cases hoe; simp at hce
    exact wpAny_setField_rec (s := { s with heap := g2 }) hz2 (by simp) fun g3 _ m3 => hE g3 e (fun c o c1 _ c3 _ q => m3.extBut _ _ c1 (m2 _ _ c3 (m1.extBut _ _ c1 q))) ⟨oe, m3.extBut _ _ ez hoe, hce⟩
  | some x =>
    have hy : ys[k]? = none := by rcases hend with q | q; rw [hx] at q; cases q; exact q
    refine wpAny_bind (sq_next (s := { s with heap := g1 }) (h1.ext m1.extBut D.i1z) (o1.ext m1.extBut D.l1z) hx fun g2 w1 m2 => wpAny_pure ?_)
    have hO2 : IsPair g2 tO a b := m2.extBut _ _ D.TOi1 (m1.extBut _ _ D.TOz hO)
    refine wpAny_bind (wpAny_seqItems hO2 rfl (wpAny_bind (wpAny_updateSeq_pair (s := { s with heap := g2 }) hO2 fun g3 hO3 m3 => ?_)))
    refine wpAny_bind (wpAny_letGo (wpAny_pure ?_))
    refine wpAny_bind (wpAny_bind (wpAny_onRaise ?_))
    show wpAny _ _ (Builtin.SmallTypes.nextOf (.ref i2) >>= _) _ _ _
    refine wpAny_bind (sq_last (s := { s with heap := g3 }) hh (((h2.ext m1.extBut D.i2z).ext m2.extBut D.i12.symm).ext m3.extBut D.TOi2.symm) (((o2.ext m1.extBut D.l2z).ext m2.extBut D.l2i1).ext m3.extBut D.l2TO) hy fun g4 e m4 he => ?_)
    obtain ⟨oe, hoe, hce⟩ := he
    have hz4 : ZpAt g4 z tI tO .ellipsis false := m4 _ _ D.i2z.symm (m3.extBut _ _ D.TOz.symm (m2.extBut _ _ D.i1z.symm hz1))
    have ez : e ≠ z := fun q => by subst q; rw [hz4] at hoe; cases hoe; simp at hce
    exact wpAny_setField_rec (s := { s with heap := g4 }) hz4 (by simp) fun g5 _ m5 => hE g5 e (fun c o c1 c2 c3 c4 q => m5.extBut _ _ c1 (m4 _ _ c4 (m3.extBut _ _ c2 (m2.extBut _ _ c3 (m1.extBut _ _ c1 q))))) ⟨oe, m5.extBut _ _ ez hoe, hce⟩

theorem zp_end1 {z tI tO i1 i2 l1 l2 : Addr} {k : Nat} {xs ys : Array Value} {a b : Value} {Q : Fin → Shared → Prop} (hh : A.handled = none) (D : ZipApart z tI tO i1 i2 l1 l2)
    (hz : ZpAt s.heap z tI tO .none true) (hI : IsPair s.heap tI (.ref i1) (.ref i2)) (hO : IsPair s.heap tO a b)
    (h1 : SqIt t1 s.heap i1 l1 k) (h2 : SqIt t2 s.heap i2 l2 k) (o1 : SqOb t1 s.heap l1 xs) (o2 : SqOb t2 s.heap l2 ys) (hend : xs[k]? = none ∧ ys[k]? = none)
    (hE : ∀ h' e, (∀ c o, c ≠ z → c ≠ tO → c ≠ i1 → c ≠ i2 → s.heap.get? c = some o → h'.get? c = some o) → (∃ o, h'.get? e = some o ∧ o.cls = .type "StopIteration") → E (.ref e) { s with heap := h' }) :
    wpAny (model prog w) A (Builtin.«zip.__next__» ⟨[.ref z], []⟩) Q E s := by
  show wpAny _ _ (field (.ref z) 2 >>= _) _ _ _
  refine wpAny_bind (wpAny_field hz rfl (x := .bool true) rfl ?_)
  show wpAny _ _ (field (.ref z) 3 >>= _) _ _ _
  refine wpAny_bind (wpAny_field hz rfl (x := .ref tI) rfl (wpAny_bind (wpAny_seqItems hI rfl ?_)))
  show wpAny _ _ (Builtin.SmallTypes.ownedTupleIsFree (.ref z) >>= _) _ _ _
  refine wpAny_bind ?_
  unfold Builtin.SmallTypes.ownedTupleIsFree
  refine wpAny_bind (wpAny_field hz rfl (x := .none) rfl (wpAny_pure ?_))
  simp only [if_true]
  refine wpAny_bind (wpAny_rule (wpAny_bind (wpAny_field hz rfl (x := .ref tO) rfl (wpAny_bind (wpAny_setField_rec hz (by simp) fun g1 hz1 m1 => ?_)))))
  replace hz1 : ZpAt g1 z tI tO .ellipsis true := hz1
  refine wpAny_bind ?_
  simp only [List.zipIdx_cons, List.zipIdx_nil, List.forIn_cons, List.forIn_nil]
  refine wpAny_bind (wpAny_bind (wpAny_onRaise ?_))
  show wpAny _ _ (Builtin.SmallTypes.nextOrEnd (.ref i1)) _ _ _
  refine sq_none (s := { s with heap := g1 }) hh (h1.ext m1.extBut D.i1z) (o1.ext m1.extBut D.l1z) hend.1 fun g2 m2 => ?_
  have hz2 : ZpAt g2 z tI tO .ellipsis true := m2 _ _ D.i1z.symm hz1
  refine wpAny_bind (wpAny_setField_rec (s := { s with heap := g2 }) hz2 (by simp) fun g3 _ m3 => ?_)
  have h2' : SqIt t2 g3 i2 l2 k := ((h2.ext m1.extBut D.i2z).ext m2 D.i12.symm).ext m3.extBut D.i2z
  have o2' : SqOb t2 g3 l2 ys := ((o2.ext m1.extBut D.l2z).ext m2 D.l2i1).ext m3.extBut D.l2z
  refine wpAny_bind ?_
  show wpAny _ _ (forIn ((List.drop 1 [Value.ref i1, Value.ref i2]).zipIdx 1) PUnit.unit _ >>= fun _ => rule "zip.__next__.all-ended" >>= fun _ => Builtin.SmallTypes.stopIteration) _ _ _
  simp only [List.drop_succ_cons, List.drop_zero, List.zipIdx_cons, List.zipIdx_nil, List.forIn_cons, List.forIn_nil]
  refine wpAny_bind (wpAny_bind ?_)
  refine wpAny_bind (sq_none (s := { s with heap := g3 }) hh h2' o2' hend.2 fun g4 m4 => ?_)
  simp only [Option.isSome_none, Bool.false_eq_true, if_false]
  refine wpAny_pure (wpAny_pure (wpAny_bind (wpAny_rule ?_)))
  show wpAny _ _ (newExc (.type "StopIteration") [] >>= _) _ _ _
  refine wpAny_bind ?_
  simp only [newExc, newTuple]
  refine wpAny_bind (wpAny_newObj_type ?_ (by size_fits))
  refine wpAny_bind (m := firstArgMember _ _) (wpAny_of_eq (a := Value.none) (by first | rfl | (simp only [firstArgMember]; rfl)) ?_)
  refine wpAny_newObj_type ?_ (by size_fits)
  simp only [raiseNew]
  refine wpAny_bind (wpAny_handled ?_)
  rw [hh]
  refine wpAny_bind (wpAny_pure (wpAny_throw ?_))
  exact hE _ _ (fun c o c1 _ c3 c4 q => Heap.get?_push_of_some _ (Heap.get?_push_of_some _ (m4 _ _ c4 (m3.extBut _ _ c1 (m2 _ _ c3 (m1.extBut _ _ c1 q)))))) ⟨_, Heap.get?_push_size _ rfl, rfl⟩
end
end TL

set_option Elab.async false
set_option linter.all false
set_option maxRecDepth 100000
set_option maxHeartbeats 4000000
namespace TL
open PySem PySem.Spec PyProof.Rows L2

def EndOk (st : Bool) (a b : Option Value) : Prop := match st with
  | true => a = none ∧ b = none
  | false => a = none ∨ b = none
section
variable {prog : Program} {w : World} {A : Around} {E : Value → Shared → Prop} {s : Shared} {t1 t2 st : Bool}
theorem zp_nextItem {z tI tO i1 i2 l1 l2 : Addr} {k : Nat} {xs ys : Array Value} {x y a b : Value} {Q : Option Value → Shared → Prop} (D : ZipApart z tI tO i1 i2 l1 l2)
    (hz : ZpAt s.heap z tI tO .none st) (hI : IsPair s.heap tI (.ref i1) (.ref i2)) (hO : IsPair s.heap tO a b)
    (h1 : SqIt t1 s.heap i1 l1 k) (h2 : SqIt t2 s.heap i2 l2 k) (o1 : SqOb t1 s.heap l1 xs) (o2 : SqOb t2 s.heap l2 ys) (hx : xs[k]? = some x) (hy : ys[k]? = some y)
    (hQ : ∀ h', ZpAt h' z tI tO (rawInt s.heap.objs.size) st → IsPair h' tO x y → SqIt t1 h' i1 l1 (k + 1) → SqIt t2 h' i2 l2 (k + 1) → IsPair h' s.heap.objs.size x y → h'.objs.size = s.heap.objs.size + 1 →
      (∀ c o, c ≠ z → c ≠ tO → c ≠ i1 → c ≠ i2 → s.heap.get? c = some o → h'.get? c = some o) → Q (some (.ref s.heap.objs.size)) { s with heap := h' }) :
    wpAny (model prog w) A (pyNext (.ref z)) Q E s := by
  have hT : s.TypeIs (.ref z) "zip" := ⟨_, hz, rfl⟩
  unfold pyNext
  refine wpAny_bind (wpAny_attempt (wpAny_callSpecial?_slot (name := Str.ofString "__next__") hT F.slot_zip_next (wpAny_call_entry F.slot_zip_next hT F.entry_zip_next ?_ (F.args_zip_next_1 _))))
  cases st with
  | false => exact zp_item0 D hz hI hO h1 h2 o1 o2 hx hy fun h' a1 a2 a3 a4 a5 a6 a7 => wpAny_pure (hQ h' a1 a2 a3 a4 a5 a6 a7)
  | true => exact zp_item1 D hz hI hO h1 h2 o1 o2 hx hy fun h' a1 a2 a3 a4 a5 a6 a7 => wpAny_pure (hQ h' a1 a2 a3 a4 a5 a6 a7)
theorem zp_nextEnd {z tI tO i1 i2 l1 l2 : Addr} {k : Nat} {xs ys : Array Value} {a b : Value} {Q : Option Value → Shared → Prop} (hh : A.handled = none) (D : ZipApart z tI tO i1 i2 l1 l2)
    (hz : ZpAt s.heap z tI tO .none st) (hI : IsPair s.heap tI (.ref i1) (.ref i2)) (hO : IsPair s.heap tO a b)
    (h1 : SqIt t1 s.heap i1 l1 k) (h2 : SqIt t2 s.heap i2 l2 k) (o1 : SqOb t1 s.heap l1 xs) (o2 : SqOb t2 s.heap l2 ys) (hend : EndOk st xs[k]? ys[k]?)
    (hQ : ∀ h', (∀ c o, c ≠ z → c ≠ tO → c ≠ i1 → c ≠ i2 → s.heap.get? c = some o → h'.get? c = some o) → Q none { s with heap := h' }) : wpAny (model prog w) A (pyNext (.ref z)) Q E s := by
  have hT : s.TypeIs (.ref z) "zip" := ⟨_, hz, rfl⟩
  unfold pyNext
  refine wpAny_bind (wpAny_attempt (wpAny_callSpecial?_slot (name := Str.ofString "__next__") hT F.slot_zip_next (wpAny_call_entry F.slot_zip_next hT F.entry_zip_next ?_ (F.args_zip_next_1 _))))
  cases st with
  | false =>
    refine zp_end0 hh D hz hI hO h1 h2 o1 o2 hend fun h' e hk he => ?_
    obtain ⟨o, ho, hc⟩ := he
    exact wpAny_bind (wpAny_isInstance (T := "StopIteration") (b := true) ⟨o, ho, hc⟩ isSubtype_stop (wpAny_pure (hQ _ hk)))
  | true =>
    refine zp_end1 hh D hz hI hO h1 h2 o1 o2 hend fun h' e hk he => ?_
    obtain ⟨o, ho, hc⟩ := he
    exact wpAny_bind (wpAny_isInstance (T := "StopIteration") (b := true) ⟨o, ho, hc⟩ isSubtype_stop (wpAny_pure (hQ _ hk)))
theorem zp_letGo {elts : List Expr} {kk : Nat} {pos : Pos} {z tI tO T : Addr} {Q : Unit → Shared → Prop} (hz : ZpAt s.heap z tI tO (rawInt T) st)
    (hQ : ∀ h', ZpAt h' z tI tO .none st → Heap.SameBut z s.heap h' → Q () { s with heap := h' }) : wpAny (model prog w) A (letOwnedTupleGo (.Tuple elts kk pos) (.ref z) (.ref T)) Q E s := by
  unfold letOwnedTupleGo
  refine wpAny_bind (wpAny_load hz ?_)
  show wpAny _ _ (if (["enumerate", "zip", "dict_itemiterator", "dict_reverseitemiterator", "odict_iterator", "itertools.zip_longest", "itertools.pairwise"].contains "zip" &&
      (#[rawInt T, .bool false, .bool st, .ref tI, .ref tO] : Array Value)[0]? == some (rawInt T)) = true then _ else _) Q E s
  rw [if_pos (by simp)]
  refine wpAny_bind (wpAny_rule ?_)
  show wpAny _ _ (setField (.ref z) 0 .none) Q E s
  exact wpAny_setField_rec hz (by simp) fun h' hz' hs' => hQ h' hz' hs'
theorem zp_iter {z tI tO : Addr} {f0 : Value} {Q : Value → Shared → Prop} (hz : ZpAt s.heap z tI tO f0 st) (h : Q (.ref z) s) : wpAny (model prog w) A (pyIter (.ref z)) Q E s := by
  have hT : s.TypeIs (.ref z) "zip" := ⟨_, hz, rfl⟩
  refine wpAny_pyIter_slot hT F.slot_zip_iter (wpAny_call_entry F.slot_zip_iter hT F.entry_zip_iter ?_ (F.args_zip_iter_1 _))
  show wpAny _ _ (ret (.ref z)) _ _ s
  exact wpAny_pure ⟨_, rfl, "zip", _, hT, F.slot_zip_next.lookup, h⟩
def sqNew (t : Bool) (l : Addr) : Obj := match t with
  | true => { cls := .type "tuple_iterator", data := .fields #[.ref l, .int 0 0] }
  | false => { cls := .type "list_iterator", data := .fields #[.ref l, .int 0 0] }
theorem sq_begin {t : Bool} {l : Addr} {xs : Array Value} {Q : Value → Shared → Prop} (o : SqOb t s.heap l xs) (h : Q (.ref s.heap.objs.size) { s with heap := s.heap.push (sqNew t l) }) : wpAny (model prog w) A (pyIter (.ref l)) Q E s := by
  cases t with
  | true => exact wpAny_pyIter_tuple o h
  | false => exact wpAny_pyIter_list o h
theorem sqNew_it {t : Bool} {l : Addr} {h : Heap} {it : Addr} (e : h.get? it = some (sqNew t l)) : SqIt t h it l 0 := by
  cases t with
  | true => exact ⟨_, e, rfl, rfl⟩
  | false => exact ⟨_, e, rfl, rfl⟩
end
abbrev zq1 (h : Heap) (t1 : Bool) (l1 : Addr) : Heap := h.push (sqNew t1 l1)
abbrev zq2 (h : Heap) (t1 t2 : Bool) (l1 l2 : Addr) : Heap := (zq1 h t1 l1).push (sqNew t2 l2)
abbrev zq3 (h : Heap) (t1 t2 : Bool) (l1 l2 : Addr) : Heap := (zq2 h t1 t2 l1 l2).push { cls := .type "tuple", data := .seq #[.ref h.objs.size, .ref (zq1 h t1 l1).objs.size] }
abbrev zq4 (h : Heap) (t1 t2 : Bool) (l1 l2 : Addr) : Heap := (zq3 h t1 t2 l1 l2).push { cls := .type "tuple", data := .seq #[.none, .none] }
abbrev zq5 (h : Heap) (t1 t2 st : Bool) (l1 l2 : Addr) : Heap := (zq4 h t1 t2 l1 l2).push { cls := .type "zip", data := .fields #[.none, .bool false, .bool st, .ref (zq2 h t1 t2 l1 l2).objs.size, .ref (zq3 h t1 t2 l1 l2).objs.size] }
theorem zp_new0 (t1 t2 : Bool) (l1 l2 : Addr) (xs ys : Array Value) : Meets (Builtin.«zip.__new__» ⟨[.type "zip", .ref l1, .ref l2], []⟩) (fun _ R s => SqOb t1 s.heap l1 xs ∧ SqOb t2 s.heap l2 ys ∧
    R (.ok (.ret (.ref (zq4 s.heap t1 t2 l1 l2).objs.size))) { s with heap := zq5 s.heap t1 t2 false l1 l2 }) :=
  .of_wp fun prog w A R s h => by
    obtain ⟨hp, g, d, tk, os⟩ := s; obtain ⟨hl1, hl2, h⟩ := h
    have hsub := sub_zip
    have q1 : ∀ {A' : Around} {E : Value → Shared → Prop} {Q : Value → Shared → Prop}, Q (.ref hp.objs.size) ⟨zq1 hp t1 l1, g, d, tk, os⟩ → wpAny (model prog w) A' (pyIter (.ref l1)) Q E ⟨hp, g, d, tk, os⟩ := fun q => sq_begin (s := ⟨hp, g, d, tk, os⟩) hl1 q
    have q2 : ∀ {A' : Around} {E : Value → Shared → Prop} {Q : Value → Shared → Prop}, Q (.ref (zq1 hp t1 l1).objs.size) ⟨zq2 hp t1 t2 l1 l2, g, d, tk, os⟩ → wpAny (model prog w) A' (pyIter (.ref l2)) Q E ⟨zq1 hp t1 l1, g, d, tk, os⟩ := fun q => sq_begin (s := ⟨zq1 hp t1 l1, g, d, tk, os⟩) (hl2.push _) q
    wp_walk using q1, q2
    exact ⟨_, rfl, h⟩
theorem zp_new1 (t1 t2 st : Bool) (l1 l2 : Addr) (xs ys : Array Value) : Meets (Builtin.«zip.__new__» ⟨[.type "zip", .ref l1, .ref l2], [(Str.ofString "strict", .bool st)]⟩) (fun _ R s => SqOb t1 s.heap l1 xs ∧ SqOb t2 s.heap l2 ys ∧
    R (.ok (.ret (.ref (zq4 s.heap t1 t2 l1 l2).objs.size))) { s with heap := zq5 s.heap t1 t2 st l1 l2 }) :=
  .of_wp fun prog w A R s h => by
    obtain ⟨hp, g, d, tk, os⟩ := s; obtain ⟨hl1, hl2, h⟩ := h
    have hsub := sub_zip
    have e2 : (Str.ofString "strict" != ("strict" : Str)) = false := by decide +kernel
    have q1 : ∀ {A' : Around} {E : Value → Shared → Prop} {Q : Value → Shared → Prop}, Q (.ref hp.objs.size) ⟨zq1 hp t1 l1, g, d, tk, os⟩ → wpAny (model prog w) A' (pyIter (.ref l1)) Q E ⟨hp, g, d, tk, os⟩ := fun q => sq_begin (s := ⟨hp, g, d, tk, os⟩) hl1 q
    have q2 : ∀ {A' : Around} {E : Value → Shared → Prop} {Q : Value → Shared → Prop}, Q (.ref (zq1 hp t1 l1).objs.size) ⟨zq2 hp t1 t2 l1 l2, g, d, tk, os⟩ → wpAny (model prog w) A' (pyIter (.ref l2)) Q E ⟨zq1 hp t1 l1, g, d, tk, os⟩ := fun q => sq_begin (s := ⟨zq1 hp t1 l1, g, d, tk, os⟩) (hl2.push _) q
    cases st
    · wp_walk using q1, q2
      exact ⟨_, rfl, h⟩
    · wp_walk using q1, q2
      exact ⟨_, rfl, h⟩
end TL

set_option Elab.async false
set_option linter.all false
set_option maxRecDepth 100000
set_option maxHeartbeats 4000000
namespace TL
open PySem PySem.Spec PyProof.Rows L2

theorem zp_type1 (a b c : Value) (st : Bool) : checkTypeCall "zip" ⟨[a, b], [(Str.ofString "strict", .bool st)]⟩ = pure () := by kernel_rfl
theorem zp_newc1 (a b : Value) (st : Bool) : checkBuiltinCall "zip.__new__" ⟨[.type "zip", a, b], [(Str.ofString "strict", .bool st)]⟩ = pure () := by kernel_rfl
theorem zp_init1 (obj a b : Value) (st : Bool) : argsOk "object.__init__" ⟨[obj, a, b], [(Str.ofString "strict", .bool st)]⟩ := by unfold argsOk; kernel_rfl
section
variable {prog : Program} {w : World} {A : Around} {E : Value → Shared → Prop} {s : Shared} {t1 t2 st : Bool}
def ZpFin (Q : Value → Shared → Prop) (s : Shared) (t1 t2 st : Bool) (l1 l2 : Addr) : Prop :=
  ∀ h', ZpAt h' (s.heap.objs.size + 4) (s.heap.objs.size + 2) (s.heap.objs.size + 3) .none st → IsPair h' (s.heap.objs.size + 2) (.ref s.heap.objs.size) (.ref (s.heap.objs.size + 1)) →
    IsPair h' (s.heap.objs.size + 3) .none .none → SqIt t1 h' s.heap.objs.size l1 0 → SqIt t2 h' (s.heap.objs.size + 1) l2 0 → h'.objs.size = s.heap.objs.size + 5 →
    (∀ c o, s.heap.get? c = some o → h'.get? c = some o) → Q (.ref (s.heap.objs.size + 4)) { s with heap := h' }
theorem zp_made {l1 l2 : Addr} {Q : Value → Shared → Prop} (h : ZpFin Q s t1 t2 st l1 l2) :
    (∃ o, (zq5 s.heap t1 t2 st l1 l2).get? (zq4 s.heap t1 t2 l1 l2).objs.size = some o ∧ o.cls = .type "zip") ∧ Q (.ref (zq4 s.heap t1 t2 l1 l2).objs.size) { s with heap := zq5 s.heap t1 t2 st l1 l2 } := by
  have z1 : (zq1 s.heap t1 l1).objs.size = s.heap.objs.size + 1 := Heap.size_push ..
  have z2 : (zq2 s.heap t1 t2 l1 l2).objs.size = s.heap.objs.size + 2 := by rw [Heap.size_push, z1]
  have z3 : (zq3 s.heap t1 t2 l1 l2).objs.size = s.heap.objs.size + 3 := by rw [Heap.size_push, z2]
  have z4 : (zq4 s.heap t1 t2 l1 l2).objs.size = s.heap.objs.size + 4 := by rw [Heap.size_push, z3]
  have z5 : (zq5 s.heap t1 t2 st l1 l2).objs.size = s.heap.objs.size + 5 := by rw [Heap.size_push, z4]
  have g5 : (zq5 s.heap t1 t2 st l1 l2).get? (zq4 s.heap t1 t2 l1 l2).objs.size = some _ := Heap.get?_push_size _ rfl
  have g4 : (zq5 s.heap t1 t2 st l1 l2).get? (zq3 s.heap t1 t2 l1 l2).objs.size = some _ := Heap.get?_push_of_some _ (Heap.get?_push_size _ rfl)
  have g3 : (zq5 s.heap t1 t2 st l1 l2).get? (zq2 s.heap t1 t2 l1 l2).objs.size = some _ := Heap.get?_push_of_some _ (Heap.get?_push_of_some _ (Heap.get?_push_size _ rfl))
  have n1 : (sqNew t1 l1).isFreed = false := by cases t1 <;> rfl
  have n2 : (sqNew t2 l2).isFreed = false := by cases t2 <;> rfl
  have g2 : (zq5 s.heap t1 t2 st l1 l2).get? (zq1 s.heap t1 l1).objs.size = some (sqNew t2 l2) := Heap.get?_push_of_some _ (Heap.get?_push_of_some _ (Heap.get?_push_of_some _ (Heap.get?_push_size _ n2)))
  have g1 : (zq5 s.heap t1 t2 st l1 l2).get? s.heap.objs.size = some (sqNew t1 l1) := Heap.get?_push_of_some _ (Heap.get?_push_of_some _ (Heap.get?_push_of_some _ (Heap.get?_push_of_some _ (Heap.get?_push_size _ n1))))
  rw [z2, z3, z4] at g5
  rw [z1, z2] at g3
  rw [z3] at g4
  rw [z1] at g2
  rw [z4]
  exact ⟨⟨_, g5, rfl⟩, h _ g5 g3 g4 (sqNew_it g1) (sqNew_it g2) z5 fun c o x => Heap.get?_push_of_some _ (Heap.get?_push_of_some _ (Heap.get?_push_of_some _ (Heap.get?_push_of_some _ (Heap.get?_push_of_some _ x))))⟩
theorem zp_call0 {l1 l2 : Addr} {xs ys : Array Value} {Q : Value → Shared → Prop} (o1 : SqOb t1 s.heap l1 xs) (o2 : SqOb t2 s.heap l2 ys) (h : ZpFin Q s t1 t2 false l1 l2) : wpAny (model prog w) A (call (.type "zip") [.ref l1, .ref l2]) Q E s := by
  refine callType_new F.called_zip (by decide) (F.typeCall_zip_2 _ _) (F.newCall_zip_2 _ _) (fun obj => F.args_object_init_3 obj _ _) F.entry_zip_new (zp_new0 t1 t2 l1 l2 xs ys) ⟨o1, o2, ?_⟩
  exact zp_made h
theorem zp_call1 {l1 l2 : Addr} {xs ys : Array Value} {Q : Value → Shared → Prop} (o1 : SqOb t1 s.heap l1 xs) (o2 : SqOb t2 s.heap l2 ys) (h : ZpFin Q s t1 t2 st l1 l2) :
    wpAny (model prog w) A (call (.type "zip") [.ref l1, .ref l2] [(Str.ofString "strict", .bool st)]) Q E s := by
  refine callType_newKw F.called_zip (by decide) (zp_type1 _ _ .none st) (zp_newc1 _ _ st) (fun obj => zp_init1 obj _ _ st) F.entry_zip_new (zp_new1 t1 t2 st l1 l2 xs ys) ⟨o1, o2, ?_⟩
  exact zp_made h
end
/-- a list or a tuple, as L2 tells it -/
def SqV (t : Bool) (K : PySem.W.Frag) (H : Hp) (a : Addr) (xs : List V) : Prop := match t with
  | true => SqT K H a xs
  | false => SqL K H a xs
section
variable {X : Cx} {pins : List (Addr × Obj)} {σ : L2.St} {H : Hp} {s : Shared}
theorem SqV.seq (I : L2.Inv X pins σ H s) {t : Bool} {a : Addr} {xs : List V} (h : SqV t X.K H a xs) : ∃ its : List Value, Vals xs its ∧ SqOb t s.heap a its.toArray := by
  cases t with
  | true =>
    obtain ⟨its, r, p, _⟩ := I.tuple h
    exact ⟨its, r, p⟩
  | false =>
    obtain ⟨its, r, p, _⟩ := I.list h
    exact ⟨its, r, p.isList⟩
theorem SqV.inj (I : L2.Inv X pins σ H s) {t : Bool} {a : Addr} {xs ys : List V} (h : SqV t X.K H a xs) (h' : SqV t X.K H a ys) : xs = ys := by
  cases t with
  | true => exact I.tuple_inj h h'
  | false => exact I.list_inj h h'
end
def ItzG (st t1 t2 : Bool) (K : PySem.W.Frag) (a b : Addr) : It :=
  ⟨fun i H => ∃ (xs ys : List V) (x y : V), SqV t1 K H a xs ∧ SqV t2 K H b ys ∧ xs[i]? = some x ∧ ys[i]? = some y,
    fun i H v H' => ∃ T x y, v = .ref T ∧ H T = none ∧ H' = upd H T (.tup [x, y]) ∧ (∀ xs, SqV t1 K H a xs → xs[i]? = some x) ∧ ∀ ys, SqV t2 K H b ys → ys[i]? = some y,
    fun i H => ∃ xs ys : List V, SqV t1 K H a xs ∧ SqV t2 K H b ys ∧ (match st with
      | true => xs.length ≤ i ∧ ys.length ≤ i
      | false => xs.length ≤ i ∨ ys.length ≤ i)⟩
theorem turn_zipG {P : Program} {w : World} {K : PySem.W.Frag} {elts : List Expr} {kk : Nat} {tpos : Pos} {a b z tI tO i1 i2 : Addr} {st t1 t2 : Bool} (D : ZipApart z tI tO i1 i2 a b) :
    Turn P w K (.Tuple elts kk tpos) (ItzG st t1 t2 K a b) [z, tI, tO, i1, i2] z (fun i h => ZpAt h z tI tO .none st ∧ IsPair h tI (.ref i1) (.ref i2) ∧ (∃ x y, IsPair h tO x y) ∧ SqIt t1 h i1 a i ∧ SqIt t2 h i2 b i) where
  mem := by simp
  obj := fun i h hs c hc => by
    obtain ⟨hz, hI, ⟨x, y, hO⟩, h1, h2⟩ := hs
    obtain ⟨o1, e1, d1⟩ := h1.obj
    obtain ⟨o2, e2, d2⟩ := h2.obj
    have e' : c = z ∨ c = tI ∨ c = tO ∨ c = i1 ∨ c = i2 := by simpa using hc
    rcases e' with q | q | q | q | q
    · rw [q]; exact ⟨_, hz, fun v q => nomatch q⟩
    · rw [q]; exact ⟨_, hI, fun v q => nomatch q⟩
    · rw [q]; exact ⟨_, hO, fun v q => nomatch q⟩
    · rw [q]; exact ⟨o1, e1, fun v q => by rw [d1] at q; cases q⟩
    · rw [q]; exact ⟨o2, e2, fun v q => by rw [d2] at q; cases q⟩
  keep := fun i h h' hs k => by
    obtain ⟨hz, hI, ⟨x, y, hO⟩, h1, h2⟩ := hs
    exact ⟨k z (by simp) _ hz, k tI (by simp) _ hI, ⟨x, y, k tO (by simp) _ hO⟩, h1.at fun o q => k i1 (by simp) o q, h2.at fun o q => k i2 (by simp) o q⟩
  item := by
    intro X hP hw hK hc i pins s σ H E I hf hs hg
    subst hP hw hK
    obtain ⟨hz, hI, ⟨x0, y0, hO⟩, h1, h2⟩ := hs
    obtain ⟨xs, ys, x, y, qx, qy, hx, hy⟩ := hg
    obtain ⟨its, rv, p⟩ := qx.seq I
    obtain ⟨its2, rv2, p2⟩ := qy.seq I
    obtain ⟨u, hu, ru⟩ := rv.get hx
    obtain ⟨u2, hu2, ru2⟩ := rv2.get hy
    have hzl : z < s.heap.objs.size := Heap.lt_size hz
    refine zp_nextItem D hz hI hO h1 h2 p p2 (x := u) (y := u2) (by simpa using hu) (by simpa using hu2) fun h' z' O' h1' h2' hT hsz hk => ?_
    refine ⟨_, rfl, zp_letGo (s := { s with heap := h' }) z' fun h'' z'' sb => ?_⟩
    have hT2 : h''.get? s.heap.objs.size = some { cls := .type "tuple", data := .seq #[u, u2] } := (sb.2 _ (Nat.ne_of_gt hzl)).trans hT
    have new : ObjOk X.prog X.w (upd H s.heap.objs.size (.tup [x, y])) h'' s.heap.objs.size (.tup [x, y]) := ⟨by show 2 ≤ sizeLine; decide, [u, u2], .cons ru (.cons ru2 .nil), ⟨_, hT2, rfl, _, rfl⟩⟩
    have I1 : L2.Inv X pins σ (upd H s.heap.objs.size (.tup [x, y])) { s with heap := h'' } :=
      I.turnedNew (t' := s.toks) (ch := [z, tI, tO, i1, i2]) (fun c o hb q => (sb.2 c (fun q' => hb (by simp [q']))).trans (hk c o (fun q' => hb (by simp [q'])) (fun q' => hb (by simp [q'])) (fun q' => hb (by simp [q'])) (fun q' => hb (by simp [q'])) q)) hf (Nat.le_refl _) new
    refine ⟨.ref s.heap.objs.size, _, I1, rfl, ⟨_, x, y, rfl, I.hok.fresh (Nat.le_refl _), rfl, fun l hl => by rw [hl.inj I qx]; exact hx, fun l hl => by rw [hl.inj I qy]; exact hy⟩, ⟨z'', ?_, ⟨u, u2, ?_⟩, ?_, ?_⟩, fun c hcm => ?_⟩
    · exact (sb.2 _ D.TIz).trans (hk _ _ D.TIz D.TITO D.TIi1 D.TIi2 hI)
    · exact (sb.2 _ D.TOz).trans O'
    · exact h1'.at fun o q => (sb.2 _ D.i1z).trans q
    · exact h2'.at fun o q => (sb.2 _ D.i2z).trans q
    · have hlt : c < s.heap.objs.size := by
        have e' : c = z ∨ c = tI ∨ c = tO ∨ c = i1 ∨ c = i2 := by simpa using hcm
        rcases e' with q | q | q | q | q
        · rw [q]; exact hzl
        · rw [q]; exact Heap.lt_size hI
        · rw [q]; exact Heap.lt_size hO
        · rw [q]; obtain ⟨_, e1, _⟩ := h1.obj; exact Heap.lt_size e1
        · rw [q]; obtain ⟨_, e2, _⟩ := h2.obj; exact Heap.lt_size e2
      rw [upd_ne (Nat.ne_of_lt hlt)]
      exact (hf c hcm).1
  done := by
    intro X hP hw hK hc i pins s σ H E I hf hs hg
    subst hP hw hK
    obtain ⟨hz, hI, ⟨x0, y0, hO⟩, h1, h2⟩ := hs
    obtain ⟨xs, ys, qx, qy, hend⟩ := hg
    obtain ⟨its, rv, p⟩ := qx.seq I
    obtain ⟨its2, rv2, p2⟩ := qy.seq I
    have l1 := rv.length
    have l2 := rv2.length
    have he : EndOk st its.toArray[i]? its2.toArray[i]? := by
      cases st with
      | true => exact ⟨by simp; omega, by simp; omega⟩
      | false =>
        rcases hend with q | q
        · exact .inl (by simp; omega)
        · exact .inr (by simp; omega)
    exact zp_nextEnd (I.ok.hd hc) D hz hI hO h1 h2 p p2 he fun h' hk => ⟨rfl, I.turnedL (t' := s.toks) (ch := [z, tI, tO, i1, i2]) (fun c o hb q =>
      hk c o (fun q' => hb (by simp [q'])) (fun q' => hb (by simp [q'])) (fun q' => hb (by simp [q'])) (fun q' => hb (by simp [q'])) q) hf⟩
  self := fun A i s Q E hs h => zp_iter hs.1 h
def iZipG (st : Bool) (K : PySem.W.Frag) (ta : TA) : TI := fun σ H R => ta σ H fun vs H1 => ∃ (t1 t2 : Bool) (a b : Addr) (xs ys : List V), vs = [.ref a, .ref b] ∧ SqV t1 K H1 a xs ∧ SqV t2 K H1 b ys ∧ R (ItzG st t1 t2 K a b) H1
section
variable {X : Cx} {pins : List (Addr × Obj)} {σ : L2.St} {H : Hp} {s : Shared} {elts : List Expr} {kk : Nat} {tpos : Pos} {st t1 t2 : Bool} {a b : Addr} {xs ys : List V} {R : It → Hp → Prop}
theorem zp_pie (I : L2.Inv X pins σ H s) (qx : SqV t1 X.K H a xs) (qy : SqV t2 X.K H b ys) (q : R (ItzG st t1 t2 X.K a b) H) :
    ZpFin (fun v s1 => wpAny (model X.prog X.w) X.A (pyIter v) (PIE X pins σ (.Tuple elts kk tpos) R) X.xe s1) s t1 t2 st a b := by
  intro h' hz hI hO h1 h2 hsz hk
  obtain ⟨its, rv, p⟩ := qx.seq I
  obtain ⟨its2, rv2, p2⟩ := qy.seq I
  refine zp_iter hz ?_
  have I2 : L2.Inv X pins σ H { s with heap := h' } := I.kept (t' := s.toks) hk
  refine ⟨s.heap.objs.size + 4, [s.heap.objs.size + 4, s.heap.objs.size + 2, s.heap.objs.size + 3, s.heap.objs.size, s.heap.objs.size + 1], _, _, H, rfl, I2, turn_zipG (PySem.W.ktu_apart s.heap.objs.size a b p.lt p2.lt), ⟨hz, hI, ⟨_, _, hO⟩, h1, h2⟩, fun c hcm => ?_, q⟩
  have e' : c = s.heap.objs.size + 4 ∨ c = s.heap.objs.size + 2 ∨ c = s.heap.objs.size + 3 ∨ c = s.heap.objs.size ∨ c = s.heap.objs.size + 1 := by simpa using hcm
  have hle : s.heap.objs.size ≤ c := by
    rcases e' with q | q | q | q | q
    · rw [q]; exact Nat.le_add_right _ _
    · rw [q]; exact Nat.le_add_right _ _
    · rw [q]; exact Nat.le_add_right _ _
    · rw [q]; exact Nat.le_refl _
    · rw [q]; exact Nat.le_add_right _ _
  exact I.fpOk hle (I.hok.fresh hle)
end
theorem pi_zipG {X : Cx} {e e2 : Expr} {ta : TA} {p pos tpos : Pos} {elts : List Expr} {kk : Nat} (hg : Gl X "zip") (hm : X.mg "zip" = none) (ha : PA X [e, e2] ta)
    (hs : starEach [e, e2] X.env = (false, eval e X.env) :: starEach [e2] X.env := by rfl) (hpl : (backTo pos (starEach [e2] X.env)).any (·.1) = false := by rfl) :
    PI X (.Tuple elts kk tpos) (.Call (.Name "zip" p) [e, e2] [] pos) (iZipG false X.K ta) := by
  refine ⟨fun pins s σ H R I h => ?_⟩
  refine Call_ (ld_blt I hg hm PyProof.Rows.boot_zip (PyProof.Rows.callWith_type1 (thn (ha.run pos pins s σ H _ I h) fun us s1 ⟨vs, H1, I1, r1, q1⟩ => ?_) hs hpl))
  obtain ⟨t1, t2, a, b, xs, ys, ex, qx, qy, q⟩ := q1
  subst ex
  cases r1 with
  | cons r rr =>
    cases rr with
    | cons r' rr =>
      cases rr
      cases r
      cases r'
      obtain ⟨its, rv, o1⟩ := qx.seq I1
      obtain ⟨its2, rv2, o2⟩ := qy.seq I1
      exact zp_call0 o1 o2 (zp_pie I1 qx qy q)
end TL

set_option Elab.async false
set_option linter.all false
set_option maxRecDepth 100000
set_option maxHeartbeats 4000000
namespace TL
open PySem PySem.Spec PyProof.Rows L2

theorem callTyKw {M : Model} {A : Around} {E : Value → Shared → Prop} {s : Shared} {env : Env} {pos : Pos} {T : String} {e : Expr} {rest : List Expr} {kws : List Keyword} {Q : Value → Shared → Prop}
    (h : wpAny M A (spliced (backTo pos (starEach (e :: rest) env))) (fun vs s₁ => wpAny M A (evalAll ((backToKw pos (keywordEach kws env)).map (·.2)))
      (fun kvs s₂ => wpAny M A (call (.type T) vs (((backToKw pos (keywordEach kws env)).filterMap (·.1)).zip kvs)) Q E s₂) E s₁) E s)
    (he : starEach (e :: rest) env = (false, eval e env) :: starEach rest env) (hplain : (backTo pos (starEach (e :: rest) env)).any (·.1) = false)
    (hall : (backToKw pos (keywordEach kws env)).all (·.1.isSome) = true) (hkw : (backToKw pos (keywordEach kws env)).any (·.1.isNone) = false) :
    wpAny M A (callWith pos (.type T) [] (backTo pos (starEach (e :: rest) env)) (backToKw pos (keywordEach kws env))) Q E s := by
  unfold callWith
  refine wpAny_bind (wpAny_holding (wpAny_mono (PyProof.Rows.evalArgs_kw2 (Q := fun a s₁ => wpAny M A (call (.type T) a.pos a.kw) Q E s₁) hall h he) (fun a s₁ h₁ => wpAny_bind (wpAny_standAt ?_)) fun _ _ x => x))
  simp only [hplain, hkw, Bool.or_false]
  refine wpAny_bind (wpAny_pure ?_)
  exact wpAny_bind (wpAny_mono h₁ (fun r s₂ hr => wpAny_bind (wpAny_holding (wpAny_point (wpAny_pure hr)))) fun _ _ x => x)
theorem pi_zipK {X : Cx} {e e2 : Expr} {ta : TA} {p pos tpos kp cp : Pos} {j : Nat} {elts : List Expr} {kk : Nat} {st : Bool} (hg : Gl X "zip") (hm : X.mg "zip" = none) (ha : PA X [e, e2] ta)
    (hs : starEach [e, e2] X.env = (false, eval e X.env) :: starEach [e2] X.env := by rfl) (hpl : (backTo pos (starEach [e, e2] X.env)).any (·.1) = false := by rfl) :
    PI X (.Tuple elts kk tpos) (.Call (.Name "zip" p) [e, e2] [⟨some "strict", .Constant (.bool st) j cp, kp⟩] pos) (iZipG st X.K ta) := by
  refine ⟨fun pins s σ H R I h => ?_⟩
  have hk : PK X [⟨some "strict", .Constant (.bool st) j cp, kp⟩] (tCons (tC (.bl st)) tNil) := pk_cons pe_bl pk_nil
  refine wpAny_Call_Name_kw (ld_blt I hg hm PyProof.Rows.boot_zip (callTyKw (thn (ha.run pos pins s σ H _ I h) fun us s1 ⟨vs, H1, I1, r1, q1⟩ =>
    thn (hk.run pos pins s1 σ H1 (fun ws H2 => ws = [.bl st] ∧ H2 = H1) I1 ⟨rfl, rfl⟩) fun ws s2 ⟨zs, H2, I2, r2, ez, eH⟩ => ?_) hs hpl rfl rfl))
  subst ez eH
  obtain ⟨t1, t2, a, b, xs, ys, ex, qx, qy, q⟩ := q1
  subst ex
  obtain ⟨u, rfl, ru⟩ := vals1 r2
  cases ru
  cases r1 with
  | cons r rr =>
    cases rr with
    | cons r' rr =>
      cases rr
      cases r
      cases r'
      obtain ⟨its, rv, o1⟩ := qx.seq I2
      obtain ⟨its2, rv2, o2⟩ := qy.seq I2
      exact zp_call1 o1 o2 (zp_pie I2 qx qy q)
/-! ### by data -/
def seqD : D → Option (Bool × List D)
  | .list ds => some (false, ds)
  | .tuple ds => some (true, ds)
  | _ => none
def zipD (st : Bool) (a b : D) : Option (List D) := match seqD a, seqD b with
  | some (_, ds), some (_, es) => if st = true ∧ ds.length ≠ es.length then none else some (List.zipWith (fun x y => .tuple [x, y]) ds es)
  | _, _ => none
def iZpG (st : Bool) (g : FA) : FA := fun ρ S => match g ρ S with
  | some ([a, b], S1) => (zipD st a b).map fun ds => (ds, S1)
  | _ => none
section
variable {X : Cx} {C : Cf} {kd : Nat → Bool} {ow : Ow}
theorem seq_rep {K : PySem.W.Frag} {H : Hp} {Z : Zn} {a : D} {t : Bool} {ds : List D} {v : V} (e : seqD a = some (t, ds)) (r : Rep H Z a v) : ∃ (p : Addr) (vs : List V), v = .ref p ∧ RepL H Z ds vs ∧ ∀ H2, Kp Z H H2 → SqV t K H2 p vs := by
  cases a <;> first | (cases e; done) | skip
  · cases e
    rw [Rep] at r
    obtain ⟨p, vs, rfl, h1, n, r1⟩ := r
    exact ⟨p, vs, rfl, r1, fun H2 k => .inl (.inl (k.ob _ _ h1 n))⟩
  · cases e
    rw [Rep] at r
    obtain ⟨p, vs, rfl, h1, r1⟩ := r
    exact ⟨p, vs, rfl, r1, fun H2 k => .inl (.inl (k.tp _ _ h1))⟩
theorem walk_zipG {K : PySem.W.Frag} {H1 : Hp} {Zk : Zn} {a b : Addr} {vs ws : List V} {ds es : List D} {st t1 t2 : Bool} (hz : ∀ z, Zk z → ZO C ow z) (h : ∀ H2, Kp Zk H1 H2 → SqV t1 K H2 a vs) (r : RepL H1 (ZO C ow) ds vs) (h' : ∀ H2, Kp Zk H1 H2 → SqV t2 K H2 b ws) (r' : RepL H1 (ZO C ow) es ws)
    (hst : st = true → ds.length = es.length) :
    Walk C ow H1 Zk (ItzG st t1 t2 K a b) (List.zipWith (fun x y => .tuple [x, y]) ds es) := fun i H2 k => by
  have hl := RepL.len r
  have hl' := RepL.len r'
  rw [List.length_zipWith]
  refine ⟨fun hi => ⟨⟨vs, ws, vs[i]'(by omega), ws[i]'(by omega), h H2 k, h' H2 k, List.getElem?_eq_getElem _, List.getElem?_eq_getElem _⟩, fun x H3 y => ?_⟩, fun hi => ⟨vs, ws, h H2 k, h' H2 k, ?_⟩⟩
  · obtain ⟨T, x', y', rfl, hT, rfl, y1, y2⟩ := y
    obtain ⟨d, e, q⟩ := r.got (y1 vs (h H2 k))
    obtain ⟨d', e', q'⟩ := r'.got (y2 ws (h' H2 k))
    refine ⟨.upd hT, .tuple [d, d'], by rw [List.getElem?_zipWith, e, e'], fun Z' h3 h4 => ?_⟩
    rw [Rep]
    exact ⟨T, _, rfl, upd_same, .cons (((q.more h3).kp (k.mono h4)).kp (.upd hT)) (.cons (((q'.more h3).kp (k.mono h4)).kp (.upd hT)) .nil)⟩
  · cases st with
    | true =>
      have := hst rfl
      exact ⟨by omega, by omega⟩
    | false =>
      show vs.length ≤ i ∨ ws.length ≤ i
      omega
theorem zip_go {st st2 : Bool} {g : FA} {σ : L2.St} {H : Hp} {R : It → Hp → Prop} (h : tI C kd st (iZpG st2 g) σ H R) : iZipG st2 X.K (tAX C kd 2 g) σ H R := by
  obtain ⟨ow, ρ, S, ds, S', r, e, k⟩ := h
  unfold iZpG at e
  split at e
  · rename_i x y S1 e1
    obtain ⟨zs, hz, e2⟩ := Option.map_eq_some_iff.mp e
    cases e2
    unfold zipD at hz
    split at hz
    · rename_i t1 ds1 t2 es1 q1 q2
      split at hz
      · cases hz
      · rename_i hl
        cases hz
        refine ⟨ow, ρ, S, _, S', r, e1, fun vs H1 k1 s1 r1 _ => ?_⟩
        have R1 := r.step k1 s1
        rw [RepL] at r1
        obtain ⟨w, ws, rfl, h1, h2⟩ := r1
        rw [RepL] at h2
        obtain ⟨w2, ws2, rfl, h3, h4⟩ := h2
        rw [RepL] at h4
        subst h4
        obtain ⟨b1, us, rfl, r2, o1⟩ := seq_rep (K := X.K) q1 h1
        obtain ⟨b2, us2, rfl, r3, o2⟩ := seq_rep (K := X.K) q2 h3
        have zz : ∀ q, (if st = true then chg C ow else C.foot) q → ZO C ow q := fun q z => by
          split at z
          · exact R1.cz _ z
          · exact R1.fz _ z
        refine ⟨t1, t2, b1, b2, us, us2, rfl, o1 _ .refl, o2 _ .refl, k _ _ k1 s1 (walk_zipG zz (fun H2 k => o1 H2 (k.mono zz)) r2 (fun H2 k => o2 H2 (k.mono zz)) r3 fun e => ?_)⟩
        subst e
        exact Classical.byContradiction fun n => hl ⟨rfl, n⟩
    · cases hz
  · cases e
theorem i_zipG {a b : Expr} {g : FA} {p pos tpos : Pos} {elts : List Expr} {kk : Nat} {st : Bool} (hg : Gl X "zip") (hm : X.mg "zip" = none) (ha : PA X [a, b] (tAX C kd 2 g))
    (hs : starEach [a, b] X.env = (false, eval a X.env) :: starEach [b] X.env := by rfl) (hs2 : (backTo pos (starEach [b] X.env)).any (·.1) = false := by rfl) :
    PI X (.Tuple elts kk tpos) (.Call (.Name "zip" p) [a, b] [] pos) (tI C kd st (iZpG false g)) := PI_imp (pi_zipG hg hm ha hs hs2) fun σ H R h => zip_go h
theorem i_zipK {a b : Expr} {g : FA} {p pos tpos kp cp : Pos} {j : Nat} {elts : List Expr} {kk : Nat} {st st2 : Bool} (hg : Gl X "zip") (hm : X.mg "zip" = none) (ha : PA X [a, b] (tAX C kd 2 g))
    (hs : starEach [a, b] X.env = (false, eval a X.env) :: starEach [b] X.env := by rfl) (hs2 : (backTo pos (starEach [a, b] X.env)).any (·.1) = false := by rfl) :
    PI X (.Tuple elts kk tpos) (.Call (.Name "zip" p) [a, b] [⟨some "strict", .Constant (.bool st2) j cp, kp⟩] pos) (tI C kd st (iZpG st2 g)) := PI_imp (pi_zipK hg hm ha hs hs2) fun σ H R h => zip_go h
end
end TL

set_option Elab.async false
set_option linter.all false
set_option maxRecDepth 100000
set_option maxHeartbeats 4000000
namespace TL
open PySem PySem.Spec PyProof.Rows L2

/-! ### enumerate of a list or a tuple -/
theorem sq_draws {prog : Program} {w : World} {A : Around} {t : Bool} (hh : A.handled = none) (it l : Addr) (hne : l ≠ it) (items : Array Value) :
    Draws prog w A.in1 it [it, l] items.size (fun i v => items[i]? = some v) (fun i h => SqIt t h it l i ∧ SqOb t h l items) where
  live := fun _ _ st => let ⟨o, ho, _⟩ := st.1.obj; ⟨o, ho⟩
  frame := fun _ _ _ st hk => ⟨st.1.at fun o e => hk it (by simp) o e, by
    cases t with
    | true => exact Heap.IsTuple.at st.2 fun o e => hk l (by simp) o e
    | false => exact Heap.IsList.at st.2 fun o e => hk l (by simp) o e⟩
  item := fun i s Q E hi st hQ => by
    refine sq_next st.1 st.2 (x := items[i]) (by simp [hi]) fun h' hit' hs' => ?_
    exact hQ _ h' s.toks (by simp [hi]) ⟨hit', st.2.ext hs'.extBut hne⟩ hs'
  done := fun s Q E st hE => sq_last hh st.1 st.2 (by simp) hE
set_option maxHeartbeats 1000000 in
theorem en_new {v : Value} {o : Obj} {H : Heap → Prop} (B : Begins v o H) :
    Meets (Builtin.«enumerate.__new__» ⟨[.type "enumerate", v], []⟩) (fun _ R s => H s.heap ∧
      R (.ok (.ret (.ref (s.heap.push o).objs.size))) { s with heap := (s.heap.push o).push { cls := .type "enumerate", data := .fields #[.none, .bool false, .ref s.heap.objs.size, rawInt 0, .none, .none] } }) :=
  .of_wp fun prog w A R s h => by
    obtain ⟨hp, g, d, tk, os⟩ := s; obtain ⟨h1, h⟩ := h
    have hsub := sub_enumerate
    have q1 : ∀ {A' : Around} {E : Value → Shared → Prop} {Q : Value → Shared → Prop}, Q (.ref hp.objs.size) ⟨hp.push o, g, d, tk, os⟩ → wpAny (model prog w) A' (pyIter v) Q E ⟨hp, g, d, tk, os⟩ :=
      fun q => B.iter prog w _ _ ⟨hp, g, d, tk, os⟩ _ h1 q
    wp_walk using q1
    refine wpAny_stack_any fun st => wpAny_pure ?_
    split
    · rename_i c _ _ _ _ _
      cases (c == Value.type "enumerate")
      · wp_walk using q1
        exact ⟨_, rfl, h⟩
      · wp_walk using q1
        exact ⟨_, rfl, h⟩
    · wp_walk using q1
      exact ⟨_, rfl, h⟩
theorem sq_begins (t : Bool) (l : Addr) (items : Array Value) : Begins (.ref l) (sqNew t l) fun h => SqOb t h l items := by
  cases t with
  | true => exact begins_tuple l items
  | false => exact begins_list l items
section
variable {prog : Program} {w : World} {A : Around} {E : Value → Shared → Prop} {s : Shared}
theorem en_call {t : Bool} {l : Addr} {items : Array Value} {Q : Value → Shared → Prop} (hl : SqOb t s.heap l items)
    (h : ∀ h', IsEnum h' (s.heap.objs.size + 1) s.heap.objs.size 0 .none → SqIt t h' s.heap.objs.size l 0 → h'.objs.size = s.heap.objs.size + 2 →
      (∀ b o, s.heap.get? b = some o → h'.get? b = some o) → Q (.ref (s.heap.objs.size + 1)) { s with heap := h' }) :
    wpAny (model prog w) A (call (.type "enumerate") [.ref l]) Q E s := by
  have B := sq_begins t l items
  refine callType_new F.called_enumerate (by decide) (F.typeCall_enumerate_1 _) (F.newCall_enumerate_1 _) (fun obj => F.args_object_init_2 obj _) F.entry_enumerate_new (en_new B) ⟨hl, ?_⟩
  have hz : (s.heap.push (sqNew t l)).objs.size = s.heap.objs.size + 1 := Heap.size_push ..
  show _ ∧ _
  rw [hz]
  have he : IsEnum ((s.heap.push (sqNew t l)).push { cls := .type "enumerate", data := .fields #[.none, .bool false, .ref s.heap.objs.size, rawInt 0, .none, .none] }) (s.heap.objs.size + 1) s.heap.objs.size 0 .none := by
    have := Heap.get?_push_size (s.heap.push (sqNew t l)) (o := { cls := .type "enumerate", data := .fields #[.none, .bool false, .ref s.heap.objs.size, rawInt 0, .none, .none] }) rfl
    rw [hz] at this; exact this
  refine ⟨⟨_, he, rfl⟩, h _ he (sqNew_it (Heap.get?_push_of_some _ (Heap.get?_push_size _ B.free))) (by rw [Heap.size_push, hz]) fun b o x => Heap.get?_push_of_some _ (Heap.get?_push_of_some _ x)⟩
end
def IteG (t : Bool) (K : PySem.W.Frag) (a : Addr) : It :=
  ⟨fun i H => ∃ (xs : List V) (x : V), SqV t K H a xs ∧ xs[i]? = some x, fun i H v H' => ∃ T x, v = .ref T ∧ H T = none ∧ H' = upd H T (.tup [.int (i : Nat), x]) ∧ ∀ xs, SqV t K H a xs → xs[i]? = some x, fun i H => ∃ xs : List V, SqV t K H a xs ∧ xs.length ≤ i⟩
theorem turn_enumG {P : Program} {w : World} {K : PySem.W.Frag} {elts : List Expr} {kk : Nat} {tpos : Pos} {t : Bool} (a e it : Addr) :
    Turn P w K (.Tuple elts kk tpos) (IteG t K a) [e, it] e (fun i h => (∃ old, IsEnum h e it ((i : Nat) : Int) old) ∧ SqIt t h it a i ∧ e ≠ it ∧ e ≠ a ∧ a ≠ it) where
  mem := by simp
  obj := fun i h st b hb => by
    obtain ⟨⟨old, he⟩, hi, _⟩ := st
    obtain ⟨o, ho, hd⟩ := hi.obj
    have e' : b = e ∨ b = it := by simpa using hb
    rcases e' with z | z
    · rw [z]; exact ⟨_, he, fun v q => nomatch q⟩
    · rw [z]; exact ⟨o, ho, fun v q => by rw [hd] at q; cases q⟩
  keep := fun i h h' st k => let ⟨⟨old, he⟩, hi, hne⟩ := st; ⟨⟨old, k e (by simp) _ he⟩, hi.at fun o q => k it (by simp) o q, hne⟩
  item := by
    intro X hP hw hK hc i pins s σ H E I hf st hg
    subst hP hw hK
    obtain ⟨⟨old, he⟩, hit, hne, hea, hai⟩ := st
    obtain ⟨xs, x, hq, hx⟩ := hg
    obtain ⟨its, rv, p⟩ := hq.seq I
    obtain ⟨u, hu, ru⟩ := rv.get hx
    have hel : e < s.heap.objs.size := Heap.lt_size he
    have hil : it < s.heap.objs.size := by obtain ⟨_, q, _⟩ := hit.obj; exact Heap.lt_size q
    have hlt : i < its.toArray.size := by
      have := (List.getElem?_eq_some_iff.mp hu).1
      simpa using this
    refine wpAny_pyNext_enum_itemD (sq_draws (t := t) (I.ok.hd hc) it a hai its.toArray) he ⟨hit, p⟩ hlt hne (by simp [hne, hea]) fun u' h' tk hu' ho hst hT hsz hk => ?_
    obtain ⟨hit', p'⟩ := hst
    obtain rfl : u' = u := by
      have hu' : its.toArray[i]? = some u' := hu'
      have h2 : its[i]? = some u' := by simpa using hu'
      rw [hu] at h2
      cases h2
      rfl
    refine ⟨_, rfl, wpAny_letOwnedTupleGo_enum (s := { s with heap := h', toks := tk + 1 }) ho fun h'' he' sb => ?_⟩
    have hT2 : h''.get? s.heap.objs.size = some { cls := .type "tuple", data := .seq #[.int i tk, u'] } := (sb.2 _ (Nat.ne_of_gt hel)).trans hT
    have new : ObjOk X.prog X.w (upd H s.heap.objs.size (.tup [.int (i : Nat), x])) h'' s.heap.objs.size (.tup [.int (i : Nat), x]) :=
      ⟨by show 2 ≤ sizeLine; decide, [.int i tk, u'], .cons ⟨_, rfl⟩ (.cons ru .nil), ⟨_, hT2, rfl, _, rfl⟩⟩
    have I1 : L2.Inv X pins σ (upd H s.heap.objs.size (.tup [.int (i : Nat), x])) { s with heap := h'', toks := tk + 1 } :=
      I.turnedNew (ch := [e, it]) (fun b ob hb q => (sb.2 b (fun z => hb (by simp [z]))).trans (hk b ob (fun z => hb (by simp [z])) (fun z => hb (by simp [z])) q)) hf (Nat.le_refl _) new
    refine ⟨.ref s.heap.objs.size, _, I1, rfl, ⟨_, x, rfl, I.hok.fresh (Nat.le_refl _), rfl, fun ys hy => by rw [hy.inj I hq]; exact hx⟩, ⟨⟨u', ?_⟩, hit'.at fun o q => (sb.2 it (Ne.symm hne)).trans q, hne, hea, hai⟩, fun b hb => ?_⟩
    · have e1 : ((i + 1 : Nat) : Int) = (i : Int) + 1 := by omega
      rw [e1]; exact he'
    · have hb' : b < s.heap.objs.size := by
        have e' : b = e ∨ b = it := by simpa using hb
        rcases e' with z | z
        · rw [z]; exact hel
        · rw [z]; exact hil
      rw [upd_ne (Nat.ne_of_lt hb')]
      exact (hf b hb).1
  done := by
    intro X hP hw hK hc i pins s σ H E I hf st hg
    subst hP hw hK
    obtain ⟨⟨old, he⟩, hit, hne, hea, hai⟩ := st
    obtain ⟨xs, hq, hx⟩ := hg
    obtain ⟨its, rv, p⟩ := hq.seq I
    obtain ⟨f0, f1, f2, f3, f4, f5⟩ := hf it (by simp)
    have hl := rv.length
    have hT : s.TypeIs (.ref e) "enumerate" := ⟨_, he, rfl⟩
    unfold pyNext
    refine wpAny_bind (wpAny_attempt (wpAny_callSpecial?_slot (name := Str.ofString "__next__") hT F.slot_enumerate_next
      (wpAny_call_entry F.slot_enumerate_next hT F.entry_enumerate_next ?_ (F.args_enumerate_next_1 _))))
    show wpAny _ _ (field (.ref e) 2 >>= _) _ _ _
    refine wpAny_bind (wpAny_field he rfl (x := .ref it) rfl ?_)
    have hn : its.toArray[i]? = none := by simp; omega
    refine wpAny_bind (sq_last (I.ok.hd hc) hit p hn fun h' x eb hx' => ?_)
    obtain ⟨o, ho, hcx⟩ := hx'
    refine wpAny_bind (wpAny_isInstance (T := "StopIteration") (b := true) ⟨o, ho, hcx⟩ isSubtype_stop ?_)
    exact wpAny_pure ⟨rfl, I.turned (t' := s.toks) (fun b o hb q => eb b o hb q) f0 f1 f3 f4 f5⟩
  self := fun A i s Q E st h => let ⟨⟨_, he⟩, _⟩ := st; wpAny_pyIter_enum he h
def iEnumG (K : PySem.W.Frag) (ta : TA) : TI := fun σ H R => ta σ H fun vs H1 => ∃ (t : Bool) (a : Addr) (xs : List V), vs = [.ref a] ∧ SqV t K H1 a xs ∧ R (IteG t K a) H1
theorem pi_enumG {X : Cx} {e : Expr} {ta : TA} {p pos tpos : Pos} {elts : List Expr} {kk : Nat} (hg : Gl X "enumerate") (hm : X.mg "enumerate" = none) (ha : PA X [e] ta) (hs : starEach [e] X.env = [(false, eval e X.env)] := by rfl) :
    PI X (.Tuple elts kk tpos) (.Call (.Name "enumerate" p) [e] [] pos) (iEnumG X.K ta) := by
  refine ⟨fun pins s σ H R I h => ?_⟩
  refine Call_ (ld_blt I hg hm boot_enumerate (PyProof.Rows.callWith_type1 (thn (ha.run pos pins s σ H _ I h) fun us s1 ⟨vs, H1, I1, r1, q1⟩ => ?_) hs rfl))
  obtain ⟨t, a, xs, ex, hq, q⟩ := q1
  subst ex
  cases r1 with
  | cons r rr =>
    cases rr
    cases r
    obtain ⟨its, rv, p'⟩ := hq.seq I1
    refine en_call p' fun h' he hit hsz hk => wpAny_pyIter_enum he ?_
    have I2 : L2.Inv X pins σ H1 { s1 with heap := h' } := I1.kept (t' := s1.toks) hk
    have hal := p'.lt
    refine ⟨s1.heap.objs.size + 1, [s1.heap.objs.size + 1, s1.heap.objs.size], _, _, H1, rfl, I2, turn_enumG (t := t) a (s1.heap.objs.size + 1) s1.heap.objs.size, ⟨⟨.none, he⟩, hit, Nat.succ_ne_self _, ?_, ?_⟩, fun b hb => ?_, q⟩
    · exact Nat.ne_of_gt (Nat.lt_succ_of_lt hal)
    · exact Nat.ne_of_lt hal
    · have e' : b = s1.heap.objs.size + 1 ∨ b = s1.heap.objs.size := by simpa using hb
      have hle : s1.heap.objs.size ≤ b := by
        rcases e' with z | z
        · rw [z]; exact Nat.le_add_right _ _
        · rw [z]; exact Nat.le_refl _
      exact I1.fpOk hle (I1.hok.fresh hle)
section
variable {X : Cx} {C : Cf} {kd : Nat → Bool} {ow : Ow}
def iEnG (g : FA) : FA := fun ρ S => match g ρ S with
  | some ([a], S1) => (match seqD a with
    | some (_, ds) => some (enumD 0 ds, S1)
    | none => none)
  | _ => none
theorem walk_enumG {K : PySem.W.Frag} {H1 : Hp} {Zk : Zn} {a : Addr} {t : Bool} {vs : List V} {ds : List D} (hz : ∀ z, Zk z → ZO C ow z) (h : ∀ H2, Kp Zk H1 H2 → SqV t K H2 a vs) (r : RepL H1 (ZO C ow) ds vs) :
    Walk C ow H1 Zk (IteG t K a) (enumD 0 ds) := fun i H2 k => by
  have h2 := h H2 k
  have hl := RepL.len r
  rw [enumD_len]
  refine ⟨fun hi => ⟨⟨vs, vs[i]'(by omega), h2, List.getElem?_eq_getElem _⟩, fun x H3 y => ?_⟩, fun hi => ⟨vs, h2, by omega⟩⟩
  obtain ⟨T, x', rfl, hT, rfl, y⟩ := y
  obtain ⟨d, e, q⟩ := r.got (y vs h2)
  refine ⟨.upd hT, .tuple [.int ((0 + i : Nat) : Int), d], enumD_get ds 0 i d e, fun Z' h3 h4 => ?_⟩
  rw [Rep]
  refine ⟨T, _, rfl, upd_same, .cons ?_ (.cons (((q.more h3).kp (k.mono h4)).kp (.upd hT)) .nil)⟩
  rw [Rep, Nat.zero_add]
theorem i_enumG {a : Expr} {g : FA} {p pos tpos : Pos} {elts : List Expr} {kk : Nat} {st : Bool} (hg : Gl X "enumerate") (hm : X.mg "enumerate" = none) (ha : PA X [a] (tAX C kd 1 g)) (hs : starEach [a] X.env = [(false, eval a X.env)] := by rfl) :
    PI X (.Tuple elts kk tpos) (.Call (.Name "enumerate" p) [a] [] pos) (tI C kd st (iEnG g)) :=
  PI_imp (pi_enumG hg hm ha hs) fun σ H R ⟨ow, ρ, S, ds, S', r, e, k⟩ => by
    unfold iEnG at e
    split at e
    · rename_i x S1 e1
      split at e
      · rename_i t1 ds1 q1
        cases e
        refine ⟨ow, ρ, S, _, S', r, e1, fun vs H1 k1 s1 r1 _ => ?_⟩
        have R1 := r.step k1 s1
        rw [RepL] at r1
        obtain ⟨w, ws, rfl, h1, h2⟩ := r1
        rw [RepL] at h2
        subst h2
        obtain ⟨b1, us, rfl, r2, o1⟩ := seq_rep (K := X.K) q1 h1
        have zz : ∀ q, (if st = true then chg C ow else C.foot) q → ZO C ow q := fun q z => by
          split at z
          · exact R1.cz _ z
          · exact R1.fz _ z
        exact ⟨t1, b1, us, rfl, o1 _ .refl, k _ _ k1 s1 (walk_enumG zz (fun H2 k => o1 H2 (k.mono zz)) r2)⟩
      · cases e
    · cases e
end
end TL

set_option Elab.async false
set_option linter.all false
set_option maxRecDepth 100000
set_option maxHeartbeats 4000000
namespace TL
open PySem PySem.Spec PyProof.Rows L2

/-! ### sorted(a dict whatever its keys) -/
def dSortedC : List D → Option D
  | [.dict kvs] => dSorted [.list (keysD kvs)]
  | xs => dSortedB xs
theorem mix_rep {H : Hp} {Z : Zn} : ∀ kk : List Key, RepL H Z (kk.map keyD) (kk.map kV)
  | [] => .nil
  | k :: kk => .cons (by cases k <;> (rw [keyD, Rep]; rfl)) (mix_rep kk)
theorem mix_vals {us : List Value} {kk : List Key} (hl : us.length = kk.length) (h : ∀ (j : Nat) v, us[j]? = some v → ∃ k, kk[j]? = some k ∧ keyIs k v = true) : Vals (kk.map kV) us := by
  induction us generalizing kk with
  | nil =>
    have : kk = [] := List.length_eq_zero_iff.mp hl.symm
    subst this
    exact .nil
  | cons u us ih =>
    cases kk with
    | nil => cases hl
    | cons k kk =>
      obtain ⟨k', e1, e2⟩ := h 0 u rfl
      cases e1
      refine .cons ?_ (ih (by simpa using hl) fun j v e => h (j + 1) v (by simpa using e))
      rcases keyIs_shape e2 with ⟨i, t, rfl, rfl⟩ | ⟨x, t, rfl, rfl⟩
      · exact ⟨t, rfl⟩
      · exact ⟨t, rfl⟩
section
variable {X : Cx}
theorem c_sortedC (hu : X.A.units + 64 < cLine) (hcalm : X.calm = true) : CallR X (.builtin "sorted") (rCl true dSortedC) := by
  intro pins s σ H xs us Q I r ⟨C, ow, ds, d, fz, h, e, q⟩
  unfold dSortedC at e
  split at e
  · rename_i kvs
    cases it : isT kvs with
    | true =>
      refine c_sortedA hu hcalm pins s σ H xs us Q I r ⟨C, ow, _, d, fz, h, ?_, q⟩
      unfold dSortedA
      dsimp only
      rw [if_pos (.inl it)]
      exact e
    | false =>
      unfold dSorted at e
      dsimp only at e
      split at e
      · rename_i hz
        obtain ⟨h1, h2, h3⟩ := hz
        cases e
        obtain ⟨w, rfl, hw⟩ := h.one
        obtain ⟨u, rfl, ru⟩ := vals1 r
        obtain ⟨p, vs, rfl, hd, _, r1⟩ := hw.dic
        cases ru
        rcases hd with ⟨kk, e1, e2, e3⟩ | ⟨kk, e1, e2, e3⟩
        · have ek : keysD kvs = kk.map keyD := by
            unfold keysD
            rw [it, if_neg Bool.false_ne_true, e1]
          obtain ⟨z, lo, vals, rel, dd⟩ := dk_rd I.hok (.inl e3)
          obtain ⟨ep, hat⟩ := dd.dictAt
          have hkeys : vals.map (·.1) = kk := by
            rw [← rel.keys, List.map_fst_zip (by omega)]
          have hl : vals.length = kk.length := by
            have e := congrArg List.length hkeys
            rw [List.length_map] at e
            exact e
          rw [ek] at h1 h2 h3 q
          refine sorted_src hu hcalm I (PySem.W.kdl_dict (knd := mixKind X.prog X.w) (kvs := vals) (ep := ep) lo) hat ?_ (Z := ZO C ow) (ds := kk.map keyD) (fun us hlu hP => ⟨kk.map kV, ?_, mix_rep kk⟩) h1 h2 h3 fun vo p' ro hp' => q.lst fz ro p' hp'
          · rw [rel.length] at z
            exact z
          · refine mix_vals (by rw [hlu, hl]) fun j v e => ?_
            obtain ⟨k, x, e1, e2⟩ := hP j v e
            refine ⟨k, ?_, e2⟩
            rw [← hkeys, List.getElem?_map, e1]
            rfl
        · cases kvs with
          | nil => simp at e1
          | cons p0 kvs =>
            obtain ⟨pk, pd⟩ := p0
            rw [List.map_cons, List.cons.injEq] at e1
            have e : pk = .none := e1.1
            subst e
            cases it
      · cases e
  · exact c_sortedB hu hcalm pins s σ H xs us Q I r ⟨C, ow, ds, d, fz, h, e, q⟩
end
end TL

set_option Elab.async false
set_option linter.all false
set_option maxRecDepth 100000
set_option maxHeartbeats 4000000
namespace TL
open PySem PySem.Spec PyProof.Rows L2

section
variable {X : Cx} {C : Cf} {kb kd kd2 kd' : Nat → Bool} {ow : Ow} {σ : L2.St} {ρ : Rho} {S S' : Src} {H H' : Hp} {d : D} {v : V}
/-! ### int(text) -/
def dIntA : List D → Option D
  | [.str a] => if a.length ≤ 640 then (PySem.intText? a).map .int else none
  | xs => dInt xs
theorem c_intA : CallR X (.type "int") (rCl true dIntA) := by
  intro pins s σ H xs us Q I r ⟨C, ow, ds, d, fz, h, e, q⟩
  unfold dIntA at e
  split at e
  · rename_i a
    split at e
    · rename_i hl
      obtain ⟨n, hn, rfl⟩ := Option.map_eq_some_iff.mp e
      obtain ⟨w, rfl, hw⟩ := h.one
      obtain rfl := hw.str
      exact call_int_str pins s σ H _ us Q I r ⟨a, n, rfl, hn, hl, q.atom (by rw [Rep])⟩
    · cases e
  · exact c_int pins s σ H xs us Q I r ⟨C, ow, ds, d, fz, h, e, q⟩
/-! ### text * int -/
def repS (x : Str) (n : Nat) : Str := ⟨(List.replicate n x.cps).foldl (· ++ ·) #[]⟩
theorem fold_size (a : Array Nat) : ∀ (n : Nat) (acc : Array Nat), ((List.replicate n a).foldl (· ++ ·) acc).size = acc.size + n * a.size
  | 0, acc => by simp
  | n + 1, acc => by
    rw [List.replicate_succ, List.foldl_cons, fold_size a n, Array.size_append, Nat.succ_mul]
    omega
theorem repS_len (x : Str) (n : Nat) : (repS x n).length = n * x.length := by
  show ((List.replicate n x.cps).foldl (· ++ ·) #[]).size = _
  rw [fold_size]
  simp
  rfl
def dMulS : D → D → Option D
  | .str x, .int k => if 1 < k ∧ k ≤ 1000 ∧ 0 < x.length ∧ x.length ≤ 1000 then some (.str (repS x k.toNat)) else none
  | a, b => dMulA a b
theorem o_mulS : OpR X (binaryOp .Mult) (rT true dMulS) := by
  intro pins s σ H x y v u Q I rx ry ⟨C, ow, a, b, d, fz, ha, hb, e, q⟩
  unfold dMulS at e
  split at e
  · rename_i a k
    split at e
    · rename_i hz
      obtain ⟨z1, z2, z3, z4⟩ := hz
      cases e
      obtain rfl := ha.str
      obtain rfl := hb.int
      obtain ⟨t, rfl⟩ := rx
      obtain ⟨t2, rfl⟩ := ry
      have n1 : ¬ k < 1 := by omega
      have n2 : (k == 1 || a.length == 0) = false := by
        rw [Bool.or_eq_false_iff]
        exact ⟨beq_eq_false_iff_ne.mpr (by omega), beq_eq_false_iff_ne.mpr (by omega)⟩
      have hm : a.length * k.toNat ≤ 1000 * 1000 := Nat.mul_le_mul z4 (by omega)
      refine P.mul_str ?_ (fun _ _ => ?_) (fun _ _ => ?_) ?_
      · rw [decide_eq_false (by omega), decide_eq_false (by omega)]
        rfl
      · have h1 : (1000 : Int) ≤ (2 ^ 63 - 1) / k := by
          rw [Int.le_ediv_iff_mul_le (by omega)]
          omega
        omega
      · show decide (a.length * k.toNat > sizeLine) = false
        have : (1000 * 1000 : Nat) ≤ sizeLine := by decide
        exact decide_eq_false (by omega)
      · rw [if_neg n1, n2, if_neg Bool.false_ne_true]
        refine ⟨?_, .str (repS a k.toNat), H, I.tok _, ⟨_, rfl⟩, q.atom (by rw [Rep])⟩
        have e1 : (repS a k.toNat).length = k.toNat * a.length := repS_len a _
        show (repS a k.toNat).length ≤ sizeLine
        have : (1000 * 1000 : Nat) ≤ sizeLine := by decide
        rw [e1, Nat.mul_comm]
        omega
    · cases e
  · exact o_mulA pins s σ H x y v u Q I rx ry ⟨C, ow, a, b, d, fz, ha, hb, e, q⟩
/-! ### dict displays of constants -/
theorem pairs_const {σ : L2.St} {H : Hp} {Q : List (V × V) → Hp → Prop} : ∀ (ps : List (V × V)), Q ps H → tPairs (ps.map fun p => (tC p.1, tC p.2)) σ H Q
  | [], h => h
  | p :: ps, h => pairs_const (Q := fun r H' => Q ((p.1, p.2) :: r) H') ps h
theorem x_dispC {keys : List (Option Expr)} {values : List Expr} {pos : Pos} {trs : List (TE × TE)} (kk : List Key) (vs : List V) (kvs : List (D × D)) (h : PPs X pos keys values trs) (ht : trs = ((kk.zip vs).map fun p => (kV p.1, p.2)).map fun p => (tC p.1, tC p.2))
    (hall : keys.all (·.isSome) = true) (hl : keys.length = values.length) (h0 : keys ≠ []) (h15 : keys.length ≤ 15) (hk : kvs.map (·.1) = kk.map keyD) (hz : kk.length = vs.length) (hn : (kk.zip vs).length ≤ 15) (hv : ∀ H Z, RepV H Z kvs vs) (hm : mergeK [] (kk.zip vs) = kk.zip vs) :
    PE X (.Dict keys values pos) (tF C kd (cst (.dict kvs))) := PE_imp (pe_disp h hall hl h0 h15) fun σ H Q ⟨ow, ρ, S, d, S', R, e, k⟩ => by
  cases e
  subst ht
  intro p hp
  refine pairs_const ((kk.zip vs).map fun p => (kV p.1, p.2)) ?_
  refine ⟨upd_same, kk.zip vs, rfl, hn, ?_⟩
  have hu : upd (upd H p (.dK [])) p (.dK (mergeK [] (kk.zip vs))) = upd H p (.dK (kk.zip vs)) := by
    rw [hm]
    funext b
    by_cases hb : b = p
    · rw [hb, upd_same, upd_same]
    · rw [upd_ne hb, upd_ne hb, upd_ne hb]
  rw [hu]
  have hd : DicAt (upd H p (.dK (kk.zip vs))) p (kvs.map (·.1)) vs := .inl ⟨kk, hk, hz, upd_same⟩
  refine k _ _ (.upd hp) (R.src.upd hp) ?_ fun _ => ⟨p, rfl, hp, vs, hd, hv _ _⟩
  rw [Rep]
  exact ⟨p, vs, rfl, hd, R.fresh hp, hv _ _⟩
theorem rv_nil {Z : Zn} : RepV H Z [] [] := by rw [RepV]
theorem rv_cons {Z : Zn} {k d : D} {v : V} {kvs : List (D × D)} {vs : List V} (h : Rep H Z d v) (r : RepV H Z kvs vs) : RepV H Z ((k, d) :: kvs) (v :: vs) := by
  rw [RepV]
  exact ⟨v, vs, rfl, h, r⟩
theorem rv_str {Z : Zn} {x : Str} : Rep H Z (.str x) (.str x) := by rw [Rep]
theorem rv_int {Z : Zn} {x : Int} : Rep H Z (.int x) (.int x) := by rw [Rep]
theorem rv_non {Z : Zn} : Rep H Z .none .non := by rw [Rep]
theorem rv_bl {Z : Zn} {b : Bool} : Rep H Z (.bool b) (.bl b) := by rw [Rep]
end
end TL

set_option Elab.async false
set_option linter.all false
set_option maxRecDepth 100000
set_option maxHeartbeats 4000000
namespace LW
open PySem PySem.Spec PyProof.Rows L2 TL
def g_post_told : FS :=
  (gRet (mkT (aC (rd 0) (aC (ifE (tst (b2 dEq (mkT (aC (rd 2) (aC (rd 3) aN))) (mkT (aC (cst (.int 0)) (aC (cst (.int 1)) aN))))) (cst (.str "apart")) (rd 1)) (aC (rd 2) (aC (rd 3) aN))))))
def m_post_told : List D → Option D := runP 4 g_post_told
def g_web_told : FS :=
  (gSeq (gSet 2 (cN dDictK (aC (lcE [3] (iE (rd 0)) (sN 3) bT (mkT (aC (b2 dSub2 (rd 3) (cst (.int 0))) (aC (cN m_post_told (aC (b2 dSub2 (rd 3) (cst (.int 0))) (aC (b2 dSub2 (rd 3) (cst (.int 1))) (aC (b2 dSub2 (rd 3) (cst (.int 2))) (aC (b2 dSub2 (rd 3) (cst (.int 3))) aN))))) aN)))) aN)))
  (gSeq (gSet 4 (cN dDictT (aC (lcE [5] (iE (rd 1)) (sN 5) bT (mkT (aC (cN dTuple (aC (cN dSortedB (aC (rd 5) aN)) aN)) (aC (cst (.bool true)) aN)))) aN)))
  (gRet (mkT (aC (cN dTuple (aC (lcE [6] (iE (cN dSortedB (aC (rd 2) aN))) (sN 6) bT (b2 dSub2 (rd 2) (rd 6))) aN)) (aC (cN dTuple (aC (cN dSortedB (aC (rd 4) aN)) aN)) aN))))))
def m_web_told : List D → Option D := runP 7 g_web_told
def g_names_of : FS :=
  (gRet (cN dTuple (aC (lcE [1] (iE (b2 dSub2 (rd 0) (cst (.int 0)))) (sN 1) bT (b2 dSub2 (rd 1) (cst (.int 0)))) aN)))
def m_names_of : List D → Option D := runP 2 g_names_of
def g_are_tied : FS :=
  (gRet (b2 dInD (cN dTuple (aC (cN dSortedB (aC (mkL (aC (rd 1) (aC (rd 2) aN))) aN)) aN)) (b2 dSub2 (rd 0) (cst (.int 1)))))
def m_are_tied : List D → Option D := runP 3 g_are_tied
def g_neighbours : FS :=
  (gRet (cN dTuple (aC (lcE [2] (iE (cN m_names_of (aC (rd 0) aN))) (sN 2) (fAnd (tst (b2 dNe (rd 2) (rd 1))) (tst (cN m_are_tied (aC (rd 0) (aC (rd 1) (aC (rd 2) aN)))))) (rd 2)) aN)))
def m_neighbours : List D → Option D := runP 3 g_neighbours
def g_post_of : FS :=
  (gRet (b2 dSub2 (lcE [2] (iE (b2 dSub2 (rd 0) (cst (.int 0)))) (sN 2) (tst (b2 dEq (b2 dSub2 (rd 2) (cst (.int 0))) (rd 1))) (rd 2)) (cst (.int 0))))
def m_post_of : List D → Option D := runP 3 g_post_of
def g_web_over : FS :=
  (gSeq (gPar [1, 2] (aC (cN m_names_of (aC (rd 0) aN)) (aM (mkL aN) aN)))
  (gSeq (gFor (iEnG (aC (rd 1) aN)) (sT (sC (sN 3) (sC (sN 4) s0))) (gExt 2 (lcE [5] (iE (sl3 (rd 1) (pS (b2 dAdd (rd 3) (cst (.int 1)))) pN)) (sN 5) (fNot (tst (cN m_are_tied (aC (rd 0) (aC (rd 4) (aC (rd 5) aN)))))) (mkT (aC (rd 4) (aC (rd 5) aN))))))
  (gRet (cN m_web_told (aC (lcE [6, 7, 8, 9] (iE (b2 dSub2 (rd 0) (cst (.int 0)))) (sT (sC (sN 6) (sC (sN 7) (sC (sN 8) (sC (sN 9) s0))))) bT (mkT (aC (rd 6) (aC (u1 (dTab [("apart", "tied"), ("tied", "apart")]) (rd 7)) (aC (rd 8) (aC (rd 9) aN)))))) (aC (rd 2) aN))))))
def m_web_over : List D → Option D := runP 10 g_web_over
def g_copies_at : FS :=
  (gSeq (gOwn 2 (mkL aN))
  (gSeq (gFor (iE (b2 dSub2 (rd 0) (cst (.int 0)))) (sT (sC (sN 3) (sC (sN 4) (sC (sN 5) (sC (sN 6) s0))))) (gExt 2 (lcE [7] (iR1 (aC (b2 dAdd (b2 dMul (rd 5) (rd 1)) (rd 6)) aN)) (sN 7) bT (mkT (aC (rd 3) (aC (rd 7) aN))))))
  (gRet (rd 2))))
def m_copies_at : List D → Option D := runP 8 g_copies_at
def g_plain_tie : FS :=
  (gSeq (gIf (tst (b2 dEq (b2 dSub2 (rd 1) (cst (.int 0))) (b2 dSub2 (rd 2) (cst (.int 0))))) (gRet (cN dInt (aC (bE (fAnd (tst (b2 dNe (rd 1) (rd 2))) (tst (b2 dEq (b2 dSub2 (cN m_post_of (aC (rd 0) (aC (b2 dSub2 (rd 1) (cst (.int 0))) aN))) (cst (.int 1))) (cst (.str "tied")))))) aN))) gN)
  (gRet (cN dInt (aC (cN m_are_tied (aC (rd 0) (aC (b2 dSub2 (rd 1) (cst (.int 0))) (aC (b2 dSub2 (rd 2) (cst (.int 0))) aN)))) aN))))
def m_plain_tie : List D → Option D := runP 3 g_plain_tie
def g_plain_web : FS :=
  (gSeq (gSet 2 (cN m_copies_at (aC (rd 0) (aC (rd 1) aN))))
  (gRet (mkT (aC (cN dTuple (aC (rd 2) aN)) (aC (cN dTuple (aC (lcE [4] (iE (rd 2)) (sN 4) bT (cN dTuple (aC (lcE [3] (iE (rd 2)) (sN 3) bT (cN m_plain_tie (aC (rd 0) (aC (rd 4) (aC (rd 3) aN))))) aN))) aN)) aN)))))
def m_plain_web : List D → Option D := runP 5 g_plain_web
def g_web_without : FS :=
  (gSeq (gSet 2 (lcE [3, 4] (iE (b2 dSub2 (rd 0) (cst (.int 1)))) (sT (sC (sN 3) (sC (sN 4) s0))) (fAnd (tst (b2 dNotInD (rd 3) (rd 1))) (tst (b2 dNotInD (rd 4) (rd 1)))) (mkT (aC (rd 3) (aC (rd 4) aN)))))
  (gRet (cN m_web_told (aC (lcE [5] (iE (b2 dSub2 (rd 0) (cst (.int 0)))) (sN 5) (tst (b2 dNotInD (b2 dSub2 (rd 5) (cst (.int 0))) (rd 1))) (rd 5)) (aC (rd 2) aN)))))
def m_web_without : List D → Option D := runP 6 g_web_without
def g_known_ties : FS :=
  (gSeq (gOwn 1 newT)
  (gSeq (gFor (iE (b2 dSub2 (rd 0) (cst (.int 1)))) (sT (sC (sN 2) (sC (sN 3) s0))) (gM (mT (mC (mPut 1 (mkT (aC (rd 2) (aC (rd 3) aN)))) (mC (mPut 1 (mkT (aC (rd 3) (aC (rd 2) aN)))) m0))) (mkT (aC (cst (.bool true)) (aC (cst (.bool true)) aN)))))
  (gRet (rd 1))))
def m_known_ties : List D → Option D := runP 4 g_known_ties
def g_is_split : FS :=
  (gSeq (gSet 3 (b2 dInD (mkT (aC (rd 2) (aC (b2 dSub2 (rd 1) (cst (.int 0))) aN))) (rd 0)))
  (gRet (cN dAny (aC (lcE [4] (iE (rd 1)) (sN 4) bT (b2 dNe (b2 dInD (mkT (aC (rd 2) (aC (rd 4) aN))) (rd 0)) (rd 3))) aN))))
def m_is_split : List D → Option D := runP 5 g_is_split
def g_first_splitter : FS :=
  (gSeq (gFor (iE (rd 1)) (sN 3) (gIf (fAnd (tst (b2 dNotInD (rd 3) (rd 2))) (tst (cN m_is_split (aC (rd 0) (aC (rd 2) (aC (rd 3) aN)))))) (gRet (rd 3)) gN))
  (gRet (cst .none)))
def m_first_splitter : List D → Option D := runP 4 g_first_splitter
def g_is_part : FS :=
  (gRet (b2 dIsN (cN m_first_splitter (aC (cN m_known_ties (aC (rd 0) aN)) (aC (cN m_names_of (aC (rd 0) aN)) (aC (rd 1) aN)))) (cst .none)))
def m_is_part : List D → Option D := runP 2 g_is_part
def g_least_part : FS :=
  (gSeq (gPar [2, 3] (aC (cN m_known_ties (aC (rd 0) aN)) (aC (cN m_names_of (aC (rd 0) aN)) aN)))
  (gSeq (gOwn 4 (cN dListA (aC (rd 1) aN)))
  (gSeq (gSet 5 (cI m_first_splitter (aC (rd 2) (aC (rd 3) (aC (rd 4) aN)))))
  (gSeq (gWh (tst (b2 dNotN (rd 5) (cst .none))) (gSeq (gApp 4 (rd 5))
    (gSet 5 (cI m_first_splitter (aC (rd 2) (aC (rd 3) (aC (rd 4) aN)))))) 20)
  (gRet (cN dTuple (aC (cN dSortedB (aC (rd 4) aN)) aN)))))))
def m_least_part : List D → Option D := runP 6 g_least_part
def g__law_pick : FS := gPick
def m__law_pick : List D → Src → Option (D × Src) := runS 4 g__law_pick
def g__law_of : FS :=
  (gRet (b2 dSub2 (rd 1) (cS m__law_pick (aC (cN dLen (aC (rd 1) aN)) aN))))
def m__law_of : List D → Src → Option (D × Src) := runS 2 g__law_of
def g_is_long : FS :=
  (gRet (bE (fOr (tst (b2 dGt (u1 dBits (rd 0)) (cst (.int 997)))) (tst (b2 dGt (cN dLen (aC (cN dStr (aC (cN dAbs (aC (rd 0) aN)) aN)) aN)) (cst (.int 300)))))))
def m_is_long : List D → Option D := runP 1 g_is_long
def g_not_long : FS :=
  (gSeq (gFor (iE (rd 0)) (sN 1) (gIf (tst (cN dAny (aC (lcE [2] (iE (rd 1)) (sN 2) bT (cN m_is_long (aC (rd 2) aN))) aN))) gBad gN))
  (gRet (rd 0)))
def m_not_long : List D → Option D := runP 3 g_not_long
def g_number_line : FS :=
  (gRet (cN m_not_long (aC (mkT (aC (mkT (aC (cst (.int 0)) (aC (rd 0) (aC (rd 1) aN)))) aN)) aN)))
def m_number_line : List D → Option D := runP 2 g_number_line
def g_line_at : FS :=
  (gSeq (gUnp (sT (sC (sN 2) (sC (sN 3) (sC (sN 4) s0)))) (b2 dSub2 (lcE [5] (iE (rd 0)) (sN 5) (tst (b2 dLe (b2 dSub2 (rd 5) (cst (.int 0))) (rd 1))) (rd 5)) (u1 dNeg (cst (.int 1)))))
  (gRet (mkT (aC (b2 dAdd (rd 3) (b2 dMul (rd 4) (b2 dSub (rd 1) (rd 2)))) (aC (rd 4) aN)))))
def m_line_at : List D → Option D := runP 6 g_line_at
def g_number_at : FS :=
  (gRet (b2 dSub2 (cN m_line_at (aC (rd 0) (aC (rd 1) aN))) (cst (.int 0))))
def m_number_at : List D → Option D := runP 2 g_number_at
def g_next_unlike : FS :=
  (gSeq (gUnp (sT (sC (sN 2) (sC (sN 3) (sC (sN 4) s0)))) (rd 1))
  (gSeq (gFor (iEnG (aC (rd 0) aN)) (sT (sC (sN 5) (sC (sN 6) s0))) (gSeq (gSet 7 (ifE (tst (b2 dLt (b2 dAdd (rd 5) (cst (.int 1))) (cN dLen (aC (rd 0) aN)))) (b2 dSub2 (b2 dSub2 (rd 0) (b2 dAdd (rd 5) (cst (.int 1)))) (cst (.int 0))) (cst .none)))
    (gSeq (gSet 8 (cN dMaxA (aC (b2 dSub2 (rd 6) (cst (.int 0))) (aC (b2 dAdd (rd 2) (cst (.int 2))) aN))))
    (gIf (fOr (tst (b2 dIsN (rd 7) (cst .none))) (tst (b2 dLt (rd 8) (rd 7)))) (gSeq (gUnp (sT (sC (sN 9) (sC (sN 10) s0))) (cN m_line_at (aC (mkT (aC (rd 6) aN)) (aC (rd 8) aN))))
    (gSeq (gIf (tst (b2 dNe (rd 9) (b2 dAdd (rd 3) (b2 dMul (rd 4) (b2 dSub (rd 8) (rd 2)))))) (gRet (rd 8)) gN)
    (gIf (fAnd (tst (b2 dNe (rd 10) (rd 4))) (fOr (tst (b2 dIsN (rd 7) (cst .none))) (tst (b2 dLt (b2 dAdd (rd 8) (cst (.int 1))) (rd 7))))) (gRet (b2 dAdd (rd 8) (cst (.int 1)))) gN))) gN))))
  (gRet (cst .none))))
def m_next_unlike : List D → Option D := runP 11 g_next_unlike
def g_number_told : FS :=
  (gSeq (gPar [1, 2] (aM (mkL aN) (aC (cst (.int 0)) aN)))
  (gSeq (gIf (tst (b2 dEq (cN dLen (aC (rd 0) aN)) (cst (.int 1)))) (gRet (cN m_not_long (aC (mkT (aC (cN dTuple (aC (b2 dSub2 (rd 0) (cst (.int 0))) aN)) aN)) aN))) gN)
  (gSeq (gWh (tst (b2 dNotN (rd 2) (cst .none))) (gSeq (gIf (tst (b2 dEq (cN dLen (aC (rd 1) aN)) (cst (.int 60)))) gBad gN)
    (gSeq (gSet 3 (cN m_number_at (aC (rd 0) (aC (rd 2) aN))))
    (gSeq (gApp 1 (mkT (aC (rd 2) (aC (rd 3) (aC (b2 dSub (cN m_number_at (aC (rd 0) (aC (b2 dAdd (rd 2) (cst (.int 1))) aN))) (rd 3)) aN)))))
    (gSet 2 (cN m_next_unlike (aC (rd 0) (aC (b2 dSub2 (rd 1) (u1 dNeg (cst (.int 1)))) aN))))))) 100000)
  (gRet (cN m_not_long (aC (cN dTuple (aC (rd 1) aN)) aN))))))
def m_number_told : List D → Option D := runP 4 g_number_told
def g_beside : FS :=
  (gSeq (gSet 2 (cN dSortedC (aC (cN dDictK (aC (lcE [3] (iE (mkTV (aS (rd 0) (aS (rd 1) aN)))) (sN 3) bT (mkT (aC (b2 dSub2 (rd 3) (cst (.int 0))) (aC (cst (.bool true)) aN)))) aN)) aN)))
  (gSeq (gSet 4 (mkLV (aS (sl3 (rd 2) (pS (cst (.int 1))) pN) (aC (cst .none) aN))))
  (gRet (lcE [5, 6] (iZpG true (aC (rd 2) (aC (rd 4) aN))) (sT (sC (sN 5) (sC (sN 6) s0))) bT (mkT (aC (rd 5) (aC (rd 6) (aC (cN m_line_at (aC (rd 0) (aC (rd 5) aN))) (aC (cN m_line_at (aC (rd 1) (aC (rd 5) aN))) aN)))))))))
def m_beside : List D → Option D := runP 7 g_beside
def g_numbers_sum : FS :=
  (gRet (cN m_number_told (aC (lcE [2, 3, 4, 5] (iE (cN m_beside (aC (rd 0) (aC (rd 1) aN)))) (sT (sC (sN 2) (sC (sN 3) (sC (sN 4) (sC (sN 5) s0))))) bT (mkT (aC (rd 2) (aC (b2 dAdd (b2 dSub2 (rd 4) (cst (.int 0))) (b2 dSub2 (rd 5) (cst (.int 0)))) (aC (b2 dAdd (b2 dSub2 (rd 4) (cst (.int 1))) (b2 dSub2 (rd 5) (cst (.int 1)))) aN))))) aN)))
def m_numbers_sum : List D → Option D := runP 6 g_numbers_sum
def g_copies_told : FS :=
  (gSeq (gUnp (sT (sC (sN 1) (sC (sN 2) (sC (sN 3) (sC (sN 4) s0))))) (cN m_post_of (aC (rd 0) (aC (rd 1) aN))))
  (gRet (cN m_number_line (aC (rd 4) (aC (rd 3) aN)))))
def m_copies_told : List D → Option D := runP 5 g_copies_told
def g_is_all : FS :=
  (gSeq (gFor (iEnG (aC (rd 1) aN)) (sT (sC (sN 3) (sC (sN 4) s0))) (gIf (tst (cN dAny (aC (lcE [5] (iE (sl3 (rd 1) (pS (b2 dAdd (rd 3) (cst (.int 1)))) pN)) (sN 5) bT (b2 dNe (cN m_are_tied (aC (rd 0) (aC (rd 4) (aC (rd 5) aN)))) (b2 dEq (rd 2) (cst (.str "tied"))))) aN))) (gRet (cst (.bool false))) gN))
  (gRet (cst (.bool true))))
def m_is_all : List D → Option D := runP 6 g_is_all
def g_weight_told : FS :=
  (gSeq (gSet 3 (cN m_number_line (aC (cst (.int 0)) (aC (cst (.int 0)) aN))))
  (gSeq (gFor (iE (rd 1)) (sN 4) (gSeq (gSet 5 (b2 dEq (b2 dSub2 (cN m_post_of (aC (rd 0) (aC (rd 4) aN))) (cst (.int 1))) (rd 2)))
    (gSet 3 (cN m_numbers_sum (aC (rd 3) (aC (ifE (tst (rd 5)) (cN m_copies_told (aC (rd 0) (aC (rd 4) aN))) (cN m_number_line (aC (cst (.int 1)) (aC (cst (.int 0)) aN)))) aN))))))
  (gRet (rd 3))))
def m_weight_told : List D → Option D := runP 6 g_weight_told
def g_size_told : FS :=
  (gSeq (gSet 1 (cN m_number_line (aC (cst (.int 0)) (aC (cst (.int 0)) aN))))
  (gSeq (gFor (iE (cN m_names_of (aC (rd 0) aN))) (sN 2) (gSet 1 (cN m_numbers_sum (aC (rd 1) (aC (cN m_copies_told (aC (rd 0) (aC (rd 2) aN))) aN)))))
  (gRet (rd 1))))
def m_size_told : List D → Option D := runP 3 g_size_told
def g__law_mixed : FS :=
  (gSeq (gOwn 2 (cN dListA (aC (rd 1) aN)))
  (gRetNN (lcN [3] (iR1 (aC (cN dLen (aC (rd 2) aN)) aN)) (sN 3) bT (nP 2 (cS m__law_pick (aC (cN dLen (aC (rd 2) aN)) aN))))))
def m__law_mixed : List D → Src → Option (D × Src) := runS 4 g__law_mixed
end LW

set_option Elab.async false
set_option linter.all false
set_option maxRecDepth 100000
set_option maxHeartbeats 4000000
namespace LW
open PySem PySem.Spec PyProof.Rows L2 TL

/-! ### mirrors, gone through from the front -/
def KE (f : FE) (ρ : Rho) (S : Src) (K : D → Src → Prop) : Prop := ∃ d S', f ρ S = some (d, S') ∧ K d S'
def KB (f : FB) (ρ : Rho) (S : Src) (K : Bool → Src → Prop) : Prop := ∃ d S', f ρ S = some (d, S') ∧ K d S'
def KA (f : FA) (ρ : Rho) (S : Src) (K : List D → Src → Prop) : Prop := ∃ d S', f ρ S = some (d, S') ∧ K d S'
def KO (f : FO) (ρ : Rho) (S : Src) (K : Option Int → Src → Prop) : Prop := ∃ d S', f ρ S = some (d, S') ∧ K d S'
def KN (f : FN) (ρ : Rho) (S : Src) (K : D → Rho → Src → Prop) : Prop := ∃ d ρ' S', f ρ S = some (d, ρ', S') ∧ K d ρ' S'
def KM (f : FM) (d : D) (ρ : Rho) (S : Src) (K : Rho → Src → Prop) : Prop := ∃ ρ' S', f d ρ S = some (ρ', S') ∧ K ρ' S'
def KMs (f : FMs) (ds : List D) (ρ : Rho) (S : Src) (K : Rho → Src → Prop) : Prop := ∃ ρ' S', f ds ρ S = some (ρ', S') ∧ K ρ' S'
def KS (g : FS) (ρ : Rho) (S : Src) (P : Res → Prop) : Prop := ∃ r, g ρ S = some r ∧ P r
section
variable {ρ : Rho} {S S' : Src}
theorem KE.imp {f : FE} {K L : D → Src → Prop} (h : KE f ρ S K) (i : ∀ d S', K d S' → L d S') : KE f ρ S L := by
  obtain ⟨d, S', e, k⟩ := h
  exact ⟨d, S', e, i _ _ k⟩
theorem KS.imp {g : FS} {P Q : Res → Prop} (h : KS g ρ S P) (i : ∀ r, P r → Q r) : KS g ρ S Q := by
  obtain ⟨r, e, k⟩ := h
  exact ⟨r, e, i _ k⟩
theorem KE.eq {f : FE} {d : D} (h : KE f ρ S fun x S' => x = d ∧ S' = S) : f ρ S = some (d, S) := by
  obtain ⟨x, S', e, rfl, rfl⟩ := h
  exact e
theorem KB.eq {f : FB} {d : Bool} (h : KB f ρ S fun x S' => x = d ∧ S' = S) : f ρ S = some (d, S) := by
  obtain ⟨x, S', e, rfl, rfl⟩ := h
  exact e
theorem KE.of {f : FE} {d : D} {K : D → Src → Prop} (h : f ρ S = some (d, S')) (k : K d S') : KE f ρ S K := ⟨d, S', h, k⟩
theorem KB.of {f : FB} {d : Bool} {K : Bool → Src → Prop} (h : f ρ S = some (d, S')) (k : K d S') : KB f ρ S K := ⟨d, S', h, k⟩
theorem KA.of {f : FA} {d : List D} {K : List D → Src → Prop} (h : f ρ S = some (d, S')) (k : K d S') : KA f ρ S K := ⟨d, S', h, k⟩
theorem KN.of {f : FN} {d : D} {ρ' : Rho} {K : D → Rho → Src → Prop} (h : f ρ S = some (d, ρ', S')) (k : K d ρ' S') : KN f ρ S K := ⟨d, ρ', S', h, k⟩
/-! expressions -/
theorem ke_rd {i : Nat} {d : D} {K : D → Src → Prop} (h : ρ[i]? = some (some d)) (k : K d S) : KE (rd i) ρ S K := ⟨d, S, by unfold rd; rw [h], k⟩
theorem ke_cst {d : D} {K : D → Src → Prop} (k : K d S) : KE (cst d) ρ S K := ⟨d, S, rfl, k⟩
theorem ke_b2 {f : D → D → Option D} {fa fb : FE} {K : D → Src → Prop} (h : KE fa ρ S fun a S1 => KE fb ρ S1 fun b S2 => ∃ d, f a b = some d ∧ K d S2) : KE (b2 f fa fb) ρ S K := by
  obtain ⟨a, S1, e1, b, S2, e2, d, e3, k⟩ := h
  exact ⟨d, S2, b2_val e1 e2 e3, k⟩
theorem ke_u1 {f : D → Option D} {fa : FE} {K : D → Src → Prop} (h : KE fa ρ S fun a S1 => ∃ d, f a = some d ∧ K d S1) : KE (u1 f fa) ρ S K := by
  obtain ⟨a, S1, e1, d, e3, k⟩ := h
  exact ⟨d, S1, by unfold u1; rw [e1]; dsimp only; rw [e3], k⟩
theorem ke_u1r {fa : FE} {K : D → Src → Prop} (h : KE fa ρ S fun a S1 => ∃ ds, a = .list ds ∧ K (.list ds.reverse) S1) : KE (u1r fa) ρ S K := by
  obtain ⟨a, S1, e1, ds, rfl, k⟩ := h
  exact ⟨_, S1, by unfold u1r; rw [e1], k⟩
theorem ke_cN {m : List D → Option D} {g : FA} {K : D → Src → Prop} (h : KA g ρ S fun ds S1 => ∃ d, m ds = some d ∧ K d S1) : KE (cN m g) ρ S K := by
  obtain ⟨ds, S1, e1, d, e2, k⟩ := h
  exact ⟨d, S1, cN_val e1 e2, k⟩
theorem ke_cI {m : List D → Option D} {g : FA} {K : D → Src → Prop} (h : KA g ρ S fun ds S1 => ∃ d, m ds = some d ∧ imm d = true ∧ K d S1) : KE (cI m g) ρ S K := by
  obtain ⟨ds, S1, e1, d, e2, i, k⟩ := h
  refine ⟨d, S1, ?_, k⟩
  unfold cI
  rw [e1]
  dsimp only
  rw [e2]
  exact if_pos i
theorem ke_cS {m : List D → Src → Option (D × Src)} {g : FA} {K : D → Src → Prop} (h : KA g ρ S fun ds S1 => ∃ d S2, m ds S1 = some (d, S2) ∧ K d S2) : KE (cS m g) ρ S K := by
  obtain ⟨ds, S1, e1, d, S2, e2, k⟩ := h
  exact ⟨d, S2, cS_val e1 e2, k⟩
theorem ke_mkT {g : FA} {K : D → Src → Prop} (h : KA g ρ S fun ds S1 => K (.tuple ds) S1) : KE (mkT g) ρ S K := by
  obtain ⟨ds, S1, e, k⟩ := h
  exact ⟨_, S1, mkT_val e, k⟩
theorem ke_mkL {g : FA} {K : D → Src → Prop} (h : KA g ρ S fun ds S1 => K (.list ds) S1) : KE (mkL g) ρ S K := by
  obtain ⟨ds, S1, e, k⟩ := h
  exact ⟨_, S1, mkL_val e, k⟩
theorem ke_mkTV {g : FA} {K : D → Src → Prop} (h : KA g ρ S fun ds S1 => ds.length ≤ 100000 ∧ K (.tuple ds) S1) : KE (mkTV g) ρ S K := by
  obtain ⟨ds, S1, e, l, k⟩ := h
  refine ⟨_, S1, ?_, k⟩
  unfold mkTV
  rw [e]
  exact if_pos (Nat.le_trans l (by decide))
theorem ke_mkLV {g : FA} {K : D → Src → Prop} (h : KA g ρ S fun ds S1 => ds.length ≤ 100000 ∧ K (.list ds) S1) : KE (mkLV g) ρ S K := by
  obtain ⟨ds, S1, e, l, k⟩ := h
  refine ⟨_, S1, ?_, k⟩
  unfold mkLV
  rw [e]
  exact if_pos (Nat.le_trans l (by decide))
theorem ke_newK {K : D → Src → Prop} (k : K (.dict []) S) : KE newK ρ S K := ⟨_, S, rfl, k⟩
theorem ke_newT {K : D → Src → Prop} (k : K (.dict [(.none, .none)]) S) : KE newT ρ S K := ⟨_, S, rfl, k⟩
theorem ke_bE {f : FB} {K : D → Src → Prop} (h : KB f ρ S fun b S1 => K (.bool b) S1) : KE (bE f) ρ S K := by
  obtain ⟨b, S1, e, k⟩ := h
  exact ⟨_, S1, by unfold bE; rw [e], k⟩
theorem ke_ifE {c : FB} {f g : FE} {K : D → Src → Prop} (h : KB c ρ S fun b S1 => (b = true → KE f ρ S1 K) ∧ (b = false → KE g ρ S1 K)) : KE (ifE c f g) ρ S K := by
  obtain ⟨b, S1, e, k1, k2⟩ := h
  cases b with
  | true =>
    obtain ⟨d, S2, e2, k⟩ := k1 rfl
    exact ⟨d, S2, by rw [ifE_t e]; exact e2, k⟩
  | false =>
    obtain ⟨d, S2, e2, k⟩ := k2 rfl
    exact ⟨d, S2, by rw [ifE_f e]; exact e2, k⟩
theorem ke_sl3 {fa : FE} {fl fh : FO} {K : D → Src → Prop} (h : KE fa ρ S fun a S1 => KO fl ρ S1 fun l S2 => KO fh ρ S2 fun u S3 => ∃ d, dSl a l u = some d ∧ K d S3) : KE (sl3 fa fl fh) ρ S K := by
  obtain ⟨a, S1, e1, l, S2, e2, u, S3, e3, d, e4, k⟩ := h
  exact ⟨d, S3, sl3_val e1 e2 e3 e4, k⟩
theorem ko_N {K : Option Int → Src → Prop} (k : K none S) : KO pN ρ S K := ⟨none, S, rfl, k⟩
theorem ko_S {f : FE} {K : Option Int → Src → Prop} (h : KE f ρ S fun d S1 => ∃ i, d = .int i ∧ K (some i) S1) : KO (pS f) ρ S K := by
  obtain ⟨d, S1, e, i, rfl, k⟩ := h
  exact ⟨_, S1, pS_val e, k⟩
/-! arguments -/
theorem ka_N {K : List D → Src → Prop} (k : K [] S) : KA aN ρ S K := ⟨[], S, rfl, k⟩
theorem ka_C {f : FE} {g : FA} {K : List D → Src → Prop} (h : KE f ρ S fun d S1 => KA g ρ S1 fun ds S2 => K (d :: ds) S2) : KA (aC f g) ρ S K := by
  obtain ⟨d, S1, e1, ds, S2, e2, k⟩ := h
  exact ⟨_, S2, aC_val e1 e2, k⟩
theorem ka_M {f : FE} {g : FA} {K : List D → Src → Prop} (h : KE f ρ S fun d S1 => isMut d = true ∧ KA g ρ S1 fun ds S2 => K (d :: ds) S2) : KA (aM f g) ρ S K := by
  obtain ⟨d, S1, e1, m, ds, S2, e2, k⟩ := h
  exact ⟨_, S2, aM_val e1 e2 m, k⟩
theorem ka_S {f : FE} {g : FA} {K : List D → Src → Prop} (h : KE f ρ S fun d S1 => ∃ xs, (d = .list xs ∨ d = .tuple xs) ∧ KA g ρ S1 fun ds S2 => K (xs ++ ds) S2) : KA (aS f g) ρ S K := by
  obtain ⟨d, S1, e1, xs, q, ds, S2, e2, k⟩ := h
  refine ⟨_, S2, ?_, k⟩
  unfold aS
  rw [e1]
  rcases q with rfl | rfl
  · dsimp only
    rw [e2]
  · dsimp only
    rw [e2]
theorem ka_iE {f : FE} {K : List D → Src → Prop} (h : KE f ρ S fun d S1 => ∃ ds, items d = some ds ∧ K ds S1) : KA (iE f) ρ S K := by
  obtain ⟨d, S1, e1, ds, e2, k⟩ := h
  exact ⟨_, S1, iE_val e1 e2, k⟩
theorem ka_iEnG {g : FA} {K : List D → Src → Prop} (h : KA g ρ S fun ds S1 => ∃ a t xs, ds = [a] ∧ seqD a = some (t, xs) ∧ K (enumD 0 xs) S1) : KA (iEnG g) ρ S K := by
  obtain ⟨ds, S1, e1, a, t, xs, rfl, e2, k⟩ := h
  refine ⟨_, S1, ?_, k⟩
  unfold iEnG
  rw [e1]
  dsimp only
  rw [e2]
theorem ka_iZpG {st : Bool} {g : FA} {K : List D → Src → Prop} (h : KA g ρ S fun ds S1 => ∃ a b zs, ds = [a, b] ∧ zipD st a b = some zs ∧ K zs S1) : KA (iZpG st g) ρ S K := by
  obtain ⟨ds, S1, e1, a, b, zs, rfl, e2, k⟩ := h
  refine ⟨_, S1, ?_, k⟩
  unfold iZpG
  rw [e1]
  dsimp only
  rw [e2]
  rfl
theorem upto_nat (n : Nat) : upto 0 n = (List.range n).map fun i => PyData.int (i : Nat) := by
  unfold upto
  refine List.map_congr_left fun i _ => ?_
  rw [Int.zero_add]
theorem ka_iR1 {g : FA} {K : List D → Src → Prop} (h : KA g ρ S fun ds S1 => ∃ j : Int, ds = [.int j] ∧ (-(2 ^ 62) ≤ j ∧ j < 2 ^ 62) ∧ K ((List.range j.toNat).map fun i => PyData.int (i : Nat)) S1) : KA (iR1 g) ρ S K := by
  obtain ⟨ds, S1, e1, j, rfl, e2, k⟩ := h
  refine ⟨_, S1, ?_, k⟩
  unfold iR1
  rw [e1]
  dsimp only
  rw [if_pos e2, upto_nat]
theorem ka_iR2 {g : FA} {K : List D → Src → Prop} (h : KA g ρ S fun ds S1 => ∃ i j : Int, ds = [.int i, .int j] ∧ (-(2 ^ 62) ≤ i ∧ i < 2 ^ 62 ∧ -(2 ^ 62) ≤ j ∧ j < 2 ^ 62) ∧ K ((List.range (j - i).toNat).map fun k => PyData.int (i + (k : Nat))) S1) : KA (iR2 g) ρ S K := by
  obtain ⟨ds, S1, e1, i, j, rfl, e2, k⟩ := h
  refine ⟨_, S1, ?_, k⟩
  unfold iR2
  rw [e1]
  dsimp only
  rw [if_pos e2]
  rfl
/-! tests -/
theorem kb_tst {f : FE} {K : Bool → Src → Prop} (h : KE f ρ S fun d S1 => ∃ b, d = .bool b ∧ K b S1) : KB (tst f) ρ S K := by
  obtain ⟨d, S1, e, b, rfl, k⟩ := h
  exact ⟨b, S1, tst_val e, k⟩
theorem kb_bT {K : Bool → Src → Prop} (k : K true S) : KB bT ρ S K := ⟨true, S, rfl, k⟩
theorem kb_not {f : FB} {K : Bool → Src → Prop} (h : KB f ρ S fun b S1 => K (!b) S1) : KB (fNot f) ρ S K := by
  obtain ⟨b, S1, e, k⟩ := h
  exact ⟨_, S1, by unfold fNot; rw [e], k⟩
/-- both sides are looked at, and draw nothing -/
theorem kb_and {f g : FB} {K : Bool → Src → Prop} (h : KB f ρ S fun a S1 => S1 = S ∧ KB g ρ S fun b S2 => S2 = S ∧ K (a && b) S) : KB (fAnd f g) ρ S K := by
  obtain ⟨a, S1, e1, rfl, b, S2, e2, rfl, k⟩ := h
  exact ⟨_, _, fAnd_val e1 e2, k⟩
theorem kb_or {f g : FB} {K : Bool → Src → Prop} (h : KB f ρ S fun a S1 => S1 = S ∧ KB g ρ S fun b S2 => S2 = S ∧ K (a || b) S) : KB (fOr f g) ρ S K := by
  obtain ⟨a, S1, e1, rfl, b, S2, e2, rfl, k⟩ := h
  exact ⟨_, _, fOr_val e1 e2, k⟩
/-- the second side is looked at if need be -/
theorem kb_and' {f g : FB} {K : Bool → Src → Prop} (h : KB f ρ S fun a S1 => (a = true → KB g ρ S1 K) ∧ (a = false → K false S1)) : KB (fAnd f g) ρ S K := by
  obtain ⟨a, S1, e1, k1, k2⟩ := h
  cases a with
  | true =>
    obtain ⟨b, S2, e2, k⟩ := k1 rfl
    exact ⟨b, S2, by unfold fAnd; rw [e1]; exact e2, k⟩
  | false => exact ⟨false, S1, by unfold fAnd; rw [e1], k2 rfl⟩
theorem kb_or' {f g : FB} {K : Bool → Src → Prop} (h : KB f ρ S fun a S1 => (a = false → KB g ρ S1 K) ∧ (a = true → K true S1)) : KB (fOr f g) ρ S K := by
  obtain ⟨a, S1, e1, k1, k2⟩ := h
  cases a with
  | false =>
    obtain ⟨b, S2, e2, k⟩ := k1 rfl
    exact ⟨b, S2, by unfold fOr; rw [e1]; exact e2, k⟩
  | true => exact ⟨true, S1, by unfold fOr; rw [e1], k2 rfl⟩
theorem ke_ch {f f' : D → D → Option D} {fa fb fc : FE} {K : D → Src → Prop} (h : KE fa ρ S fun a S1 => KE fb ρ S1 fun b S2 => ∃ q, f a b = some (.bool q) ∧ (q = true → KE fc ρ S2 fun c S3 => ∃ d, f' b c = some d ∧ K d S3) ∧ (q = false → K (.bool false) S2)) : KE (ch f f' fa fb fc) ρ S K := by
  obtain ⟨a, S1, e1, b, S2, e2, q, e3, k1, k2⟩ := h
  unfold KE ch
  rw [e1]
  dsimp only
  rw [e2]
  dsimp only
  rw [e3]
  cases q with
  | true =>
    obtain ⟨c, S3, e4, d, e5, k⟩ := k1 rfl
    refine ⟨d, S3, ?_, k⟩
    dsimp only
    rw [e4]
    dsimp only
    rw [e5]
  | false => exact ⟨_, S2, rfl, k2 rfl⟩
/-! comprehensions -/
theorem ke_lc {α : Type} (enc : α → D) (q : α → Bool) (z : α → D) {vs : List Nat} {fI : FA} {st : FG} {t : FB} {e : FE} {K : D → Src → Prop}
    (h : KA fI ρ S fun ds S1 => ∃ xs : List α, ds = xs.map enc ∧ xs.length ≤ 100000 ∧ (∀ x ∈ xs, ∃ ρ1, st (enc x) (wipeR ρ vs) = some ρ1 ∧ KB t ρ1 S1 fun b S2 => b = q x ∧ S2 = S1 ∧ (q x = true → KE e ρ1 S1 fun d S3 => d = z x ∧ S3 = S1)) ∧ K (.list ((xs.filter q).map z)) S1) :
    KE (lcE vs fI st t e) ρ S K := by
  obtain ⟨ds, S1, e1, xs, rfl, hl, hx, k⟩ := h
  refine ⟨_, S1, lc_map enc q z e1 hl (fun x hm => ?_), k⟩
  obtain ⟨ρ1, a1, b, S2, a2, rfl, rfl, a3⟩ := hx x hm
  exact ⟨ρ1, a1, a2, fun w => (a3 w).eq⟩
/-- without a test -/
theorem ke_lcA {α : Type} (enc : α → D) (z : α → D) {vs : List Nat} {fI : FA} {st : FG} {e : FE} {K : D → Src → Prop}
    (h : KA fI ρ S fun ds S1 => ∃ xs : List α, ds = xs.map enc ∧ xs.length ≤ 100000 ∧ (∀ x ∈ xs, ∃ ρ1, st (enc x) (wipeR ρ vs) = some ρ1 ∧ KE e ρ1 S1 fun d S3 => d = z x ∧ S3 = S1) ∧ K (.list (xs.map z)) S1) :
    KE (lcE vs fI st bT e) ρ S K := by
  refine ke_lc enc (fun _ => true) z ?_
  obtain ⟨ds, S1, e1, xs, rfl, hl, hx, k⟩ := h
  refine ⟨_, S1, e1, xs, rfl, hl, fun x hm => ?_, by rw [show xs.filter (fun _ => true) = xs by simp]; exact k⟩
  obtain ⟨ρ1, a1, a2⟩ := hx x hm
  exact ⟨ρ1, a1, true, S1, rfl, rfl, rfl, fun _ => a2⟩
/-- tests that draw: some of them -/
theorem compL_some {α : Type} (enc : α → D) (z : α → D) {st : FG} {t : FB} {e : FE} {ρ : Rho} : ∀ {xs : List α} {S : Src}, (∀ x ∈ xs, ∃ ρ1, st (enc x) ρ = some ρ1 ∧ ∀ S, KB t ρ1 S fun b S2 => b = true → KE e ρ1 S2 fun d S3 => d = z x) →
    ∃ (ys : List α) (S' : Src), ys.Sublist xs ∧ compL st t e ρ (xs.map enc) S = some (ys.map z, S')
  | [], S, _ => ⟨[], S, .slnil, rfl⟩
  | x :: xs, S, h => by
    obtain ⟨ρ1, h1, h2⟩ := h x (List.mem_cons_self ..)
    obtain ⟨b, S2, h3, h4⟩ := h2 S
    rw [List.map_cons]
    unfold compL
    rw [h1]
    dsimp only
    rw [h3]
    cases b with
    | true =>
      obtain ⟨d, S3, h5, rfl⟩ := h4 rfl
      obtain ⟨ys, S', h6, h7⟩ := compL_some enc z (xs := xs) (S := S3) fun y hy => h y (List.mem_cons_of_mem _ hy)
      refine ⟨x :: ys, S', .cons_cons _ h6, ?_⟩
      dsimp only
      rw [h5]
      dsimp only
      rw [h7]
      rfl
    | false =>
      obtain ⟨ys, S', h6, h7⟩ := compL_some enc z (xs := xs) (S := S2) fun y hy => h y (List.mem_cons_of_mem _ hy)
      exact ⟨ys, S', .cons _ h6, h7⟩
theorem ke_lcS {α : Type} (enc : α → D) (z : α → D) {vs : List Nat} {fI : FA} {st : FG} {t : FB} {e : FE} {K : D → Src → Prop}
    (h : KA fI ρ S fun ds S1 => ∃ xs : List α, ds = xs.map enc ∧ xs.length ≤ 100000 ∧ (∀ x ∈ xs, ∃ ρ1, st (enc x) (wipeR ρ vs) = some ρ1 ∧ ∀ S, KB t ρ1 S fun b S2 => b = true → KE e ρ1 S2 fun d S3 => d = z x) ∧ ∀ (ys : List α) (S' : Src), ys.Sublist xs → K (.list (ys.map z)) S') :
    KE (lcE vs fI st t e) ρ S K := by
  obtain ⟨ds, S1, e1, xs, rfl, hl, hx, k⟩ := h
  obtain ⟨ys, S', h6, h7⟩ := compL_some enc z (S := S1) hx
  refine ⟨_, S', ?_, k ys S' h6⟩
  unfold lcE
  rw [e1]
  dsimp only
  rw [if_pos (by rw [List.length_map]; exact Nat.le_trans hl (by decide)), h7]
/-- items that draw -/
theorem ke_lcD {α β : Type} (enc : α → D) (ency : β → D) (R : α → β → Prop) {vs : List Nat} {fI : FA} {st : FG} {e : FE} {K : D → Src → Prop}
    (h : KA fI ρ S fun ds S1 => ∃ xs : List α, ds = xs.map enc ∧ xs.length ≤ 100000 ∧ (∀ x ∈ xs, ∃ ρ1, st (enc x) (wipeR ρ vs) = some ρ1 ∧ ∀ S, KE e ρ1 S fun d S3 => ∃ y, d = ency y ∧ R x y) ∧ ∀ (ys : List β) S', ys.length = xs.length → (∀ (i : Nat) x y, xs[i]? = some x → ys[i]? = some y → R x y) → K (.list (ys.map ency)) S') :
    KE (lcE vs fI st bT e) ρ S K := by
  obtain ⟨ds, S1, e1, xs, rfl, hl, hx, k⟩ := h
  obtain ⟨ys, S', h1, h2, h3⟩ := compL_src enc ency R (st := st) (t := bT) (e := e) (ρ := wipeR ρ vs) (xs := xs) (S := S1) fun x hm S => by
    obtain ⟨ρ1, a1, a2⟩ := hx x hm
    obtain ⟨d, S3, a3, y, rfl, a4⟩ := a2 S
    exact ⟨ρ1, y, S3, a1, rfl, a3, a4⟩
  refine ⟨_, S', ?_, k ys S' h2 h3⟩
  unfold lcE
  rw [e1]
  dsimp only
  rw [if_pos (by rw [List.length_map]; exact Nat.le_trans hl (by decide)), h1]
/-! statements -/
def seqP (h : FS) (P : Res → Prop) : Res → Prop
  | .nx ρ1 S1 => KS h ρ1 S1 P
  | .bk ρ1 S1 => P (.bk ρ1 S1)
  | .ct ρ1 S1 => P (.ct ρ1 S1)
  | .rt d S1 => P (.rt d S1)
variable {P : Res → Prop}
theorem ks_seq {g h : FS} (k : KS g ρ S (seqP h P)) : KS (gSeq g h) ρ S P := by
  obtain ⟨r, e, k⟩ := k
  unfold KS gSeq
  rw [e]
  cases r with
  | nx ρ1 S1 => exact k
  | bk ρ1 S1 => exact ⟨_, rfl, k⟩
  | ct ρ1 S1 => exact ⟨_, rfl, k⟩
  | rt d S1 => exact ⟨_, rfl, k⟩
theorem ks_unseq {g h : FS} (k : KS (gSeq g h) ρ S P) : KS g ρ S (seqP h P) := by
  obtain ⟨r, e, k⟩ := k
  unfold gSeq at e
  cases q : g ρ S with
  | none => rw [q] at e; cases e
  | some r0 =>
    rw [q] at e
    refine ⟨r0, q, ?_⟩
    cases r0 with
    | nx ρ1 S1 => exact ⟨r, e, k⟩
    | bk ρ1 S1 => cases e; exact k
    | ct ρ1 S1 => cases e; exact k
    | rt d S1 => cases e; exact k
theorem ks_N (k : P (.nx ρ S)) : KS gN ρ S P := ⟨_, rfl, k⟩
theorem ks_bk (k : P (.bk ρ S)) : KS gBk ρ S P := ⟨_, rfl, k⟩
theorem ks_ct (k : P (.ct ρ S)) : KS gCt ρ S P := ⟨_, rfl, k⟩
theorem ks_set {i : Nat} {f : FE} (h : KE f ρ S fun d S1 => P (.nx (ρ.set i (some d)) S1)) : KS (gSet i f) ρ S P := by
  obtain ⟨d, S1, e, k⟩ := h
  exact ⟨_, gSet_val e, k⟩
theorem ks_own {i : Nat} {f : FE} (h : KE f ρ S fun d S1 => isMut d = true ∧ P (.nx (ρ.set i (some d)) S1)) : KS (gOwn i f) ρ S P := by
  obtain ⟨d, S1, e, m, k⟩ := h
  exact ⟨_, gOwn_val e m, k⟩
theorem ks_par {is : List Nat} {g : FA} (h : KA g ρ S fun ds S1 => P (.nx (setD is ds ρ) S1)) : KS (gPar is g) ρ S P := by
  obtain ⟨ds, S1, e, k⟩ := h
  exact ⟨_, gPar_val e, k⟩
theorem ks_unp {st : FG} {f : FE} (h : KE f ρ S fun d S1 => ∃ ρ1, st d ρ = some ρ1 ∧ P (.nx ρ1 S1)) : KS (gUnp st f) ρ S P := by
  obtain ⟨d, S1, e, ρ1, e1, k⟩ := h
  refine ⟨_, ?_, k⟩
  unfold gUnp
  rw [e]
  dsimp only
  rw [e1]
theorem ks_ret {f : FE} (h : KE f ρ S fun d S1 => P (.rt d S1)) : KS (gRet f) ρ S P := by
  obtain ⟨d, S1, e, k⟩ := h
  exact ⟨_, gRet_val e, k⟩
theorem ks_retN (k : P (.rt .none S)) : KS gRetN ρ S P := ⟨_, rfl, k⟩
theorem ks_if {c : FB} {g h : FS} (k : KB c ρ S fun b S1 => (b = true → KS g ρ S1 P) ∧ (b = false → KS h ρ S1 P)) : KS (gIf c g h) ρ S P := by
  obtain ⟨b, S1, e, k1, k2⟩ := k
  cases b with
  | true =>
    obtain ⟨r, e2, k⟩ := k1 rfl
    exact ⟨r, by rw [gIf_t e]; exact e2, k⟩
  | false =>
    obtain ⟨r, e2, k⟩ := k2 rfl
    exact ⟨r, by rw [gIf_f e]; exact e2, k⟩
/-- a test that does not hold -/
theorem ks_ifF {c : FB} {g h : FS} (k : KB c ρ S fun b S1 => b = false ∧ KS h ρ S1 P) : KS (gIf c g h) ρ S P := by
  obtain ⟨b, S1, e, rfl, r, e2, k⟩ := k
  exact ⟨r, by rw [gIf_f e]; exact e2, k⟩
theorem ks_ifT {c : FB} {g h : FS} (k : KB c ρ S fun b S1 => b = true ∧ KS g ρ S1 P) : KS (gIf c g h) ρ S P := by
  obtain ⟨b, S1, e, rfl, r, e2, k⟩ := k
  exact ⟨r, by rw [gIf_t e]; exact e2, k⟩
theorem ks_app {i : Nat} {f : FE} (h : KE f ρ S fun d S1 => ∃ ds, ρ[i]? = some (some (.list ds)) ∧ ds.length ≤ 100000 ∧ P (.nx (ρ.set i (some (.list (ds ++ [d])))) S1)) : KS (gApp i f) ρ S P := by
  obtain ⟨d, S1, e, ds, h1, h2, k⟩ := h
  exact ⟨_, gApp_val e h1 h2, k⟩
theorem ks_ext {i : Nat} {f : FE} (h : KE f ρ S fun d S1 => ∃ es ds, d = .list es ∧ ρ[i]? = some (some (.list ds)) ∧ ds.length + es.length ≤ 100000 ∧ P (.nx (ρ.set i (some (.list (ds ++ es)))) S1)) : KS (gExt i f) ρ S P := by
  obtain ⟨d, S1, e, es, ds, rfl, h1, h2, k⟩ := h
  refine ⟨_, ?_, k⟩
  unfold gExt
  rw [e]
  dsimp only
  rw [h1]
  exact if_pos (Nat.le_trans h2 (by decide))
theorem ks_putK {i : Nat} {fk fv : FE} (h : KE fv ρ S fun d S1 => KE fk ρ S1 fun k S2 => ∃ ρ', TL.putAt i k d ρ = some ρ' ∧ P (.nx ρ' S2)) : KS (gPutK i fk fv) ρ S P := by
  obtain ⟨d, S1, e1, k, S2, e2, ρ', e3, p⟩ := h
  refine ⟨_, ?_, p⟩
  unfold gPutK
  rw [e1]
  dsimp only
  rw [e2]
  dsimp only
  rw [e3]
theorem ks_thaw {is : List Nat} {g : FS} (h : KS g (wipeR ρ is) S P) : KS (gThaw is g) ρ S P := h
theorem ks_setN {i : Nat} {f : FN} (h : KN f ρ S fun d ρ1 S1 => P (.nx (ρ1.set i (some d)) S1)) : KS (gSetN i f) ρ S P := by
  obtain ⟨d, ρ1, S1, e, k⟩ := h
  refine ⟨_, ?_, k⟩
  unfold gSetN
  rw [e]
theorem ks_retNN {f : FN} (h : KN f ρ S fun d ρ1 S1 => P (.rt d S1)) : KS (gRetNN f) ρ S P := by
  obtain ⟨d, ρ1, S1, e, k⟩ := h
  exact ⟨_, gRetNN_val e, k⟩
theorem ks_dropN {f : FN} (h : KN f ρ S fun d ρ1 S1 => P (.nx ρ1 S1)) : KS (gDropN f) ρ S P := by
  obtain ⟨d, ρ1, S1, e, k⟩ := h
  refine ⟨_, ?_, k⟩
  unfold gDropN
  rw [e]
theorem ks_appN {i : Nat} {f : FN} (h : KN f ρ S fun d ρ1 S1 => ∃ ds, ρ1[i]? = some (some (.list ds)) ∧ ds.length ≤ 100000 ∧ P (.nx (ρ1.set i (some (.list (ds ++ [d])))) S1)) : KS (gAppN i f) ρ S P := by
  obtain ⟨d, ρ1, S1, e, ds, h1, h2, k⟩ := h
  refine ⟨_, ?_, k⟩
  unfold gAppN
  rw [e]
  dsimp only
  rw [h1]
  exact if_pos (Nat.lt_of_le_of_lt h2 (by decide))
theorem ks_M {st : FM} {f : FE} (h : KE f ρ S fun d S1 => KM st d ρ S1 fun ρ1 S2 => P (.nx ρ1 S2)) : KS (gM st f) ρ S P := by
  obtain ⟨d, S1, e, ρ1, S2, e2, k⟩ := h
  refine ⟨_, ?_, k⟩
  unfold gM
  rw [e]
  dsimp only
  rw [e2]
theorem km_T {g : FMs} {ds : List D} {K : Rho → Src → Prop} (h : KMs g ds ρ S K) : KM (mT g) (.tuple ds) ρ S K := h
theorem kms_0 {K : Rho → Src → Prop} (h : K ρ S) : KMs m0 [] ρ S K := ⟨ρ, S, rfl, h⟩
theorem kms_C {f : FM} {g : FMs} {d : D} {ds : List D} {K : Rho → Src → Prop} (h : KM f d ρ S fun ρ1 S1 => KMs g ds ρ1 S1 K) : KMs (mC f g) (d :: ds) ρ S K := by
  obtain ⟨ρ1, S1, e, ρ2, S2, e2, k⟩ := h
  refine ⟨ρ2, S2, ?_, k⟩
  unfold mC
  dsimp only
  rw [e]
  exact e2
theorem km_put {i : Nat} {fk : FE} {d : D} {K : Rho → Src → Prop} (h : KE fk ρ S fun k S1 => ∃ ρ', TL.putAt i k d ρ = some ρ' ∧ K ρ' S1) : KM (mPut i fk) d ρ S K := by
  obtain ⟨k, S1, e, ρ', e2, p⟩ := h
  refine ⟨ρ', S1, ?_, p⟩
  unfold mPut
  rw [e]
  dsimp only
  rw [e2]
theorem putAt_val {i : Nat} {k d : D} {kvs : List (D × D)} (h : ρ[i]? = some (some (.dict kvs))) (ok : okKey kvs k = true) (hl : kvs.length ≤ 100000) : TL.putAt i k d ρ = some (ρ.set i (some (.dict (putD kvs k d)))) := by
  unfold TL.putAt
  rw [h]
  exact if_pos ⟨ok, Nat.lt_of_le_of_lt hl (by decide)⟩
/-! pops -/
theorem kn_P {i : Nat} {f : FE} {K : D → Rho → Src → Prop} (h : KE f ρ S fun j S1 => ∃ (ds : List D) (k : Nat) (d : D), ρ[i]? = some (some (.list ds)) ∧ j = .int (k : Nat) ∧ ds[k]? = some d ∧ ds.length ≤ 100000 ∧ K d (ρ.set i (some (.list (ds.eraseIdx k)))) S1) : KN (nP i f) ρ S K := by
  obtain ⟨j, S1, e, ds, k, d, h1, rfl, h2, h3, q⟩ := h
  refine ⟨d, _, S1, ?_, q⟩
  have hk : k < ds.length := (List.getElem?_eq_some_iff.mp h2).1
  unfold nP
  rw [e]
  dsimp only
  rw [h1]
  dsimp only
  rw [if_pos (by omega)]
  have e2 : seqIndex? (k : Int) ds.length = some k := by
    unfold seqIndex?
    simp only [show ¬ ((k : Int) < 0) from by omega, if_false, Int.toNat_natCast]
    simp [hk]
  rw [e2]
  dsimp only
  rw [h2]
/-! loops -/
/-- how a loop's lap may end -/
def lapP (I : Rho → Src → Prop) (Q : Rho → Src → Prop) (P : Res → Prop) : Res → Prop
  | .nx ρ1 S1 => I ρ1 S1
  | .ct ρ1 S1 => I ρ1 S1
  | .bk ρ1 S1 => Q ρ1 S1
  | .rt d S1 => P (.rt d S1)
theorem forL_rule {st : FG} {g : FS} : ∀ {ds : List D} (I : Nat → Rho → Src → Prop), (∀ i d ρ S, ds[i]? = some d → I i ρ S → ∃ ρ1, st d ρ = some ρ1 ∧ KS g ρ1 S (lapP (I (i + 1)) (fun ρ S => P (.nx ρ S)) P)) → (∀ ρ S, I ds.length ρ S → P (.nx ρ S)) → ∀ {ρ : Rho} {S : Src}, I 0 ρ S →
    KS (forL st g ds) ρ S P
  | [], I, _, h2, ρ, S, h => ⟨_, rfl, h2 ρ S h⟩
  | d :: ds, I, h, h2, ρ, S, h0 => by
    obtain ⟨ρ1, e1, r, e2, q⟩ := h 0 d ρ S rfl h0
    have nxt : ∀ ρ2 S2, I 1 ρ2 S2 → KS (forL st g ds) ρ2 S2 P := fun ρ2 S2 hi => forL_rule (ds := ds) (fun i => I (i + 1)) (fun i e ρ S he hi => h (i + 1) e ρ S (by simpa using he) hi) h2 hi
    unfold KS
    rw [forL]
    dsimp only
    rw [e1]
    dsimp only
    rw [e2]
    cases r with
    | nx ρ2 S2 => exact nxt ρ2 S2 q
    | ct ρ2 S2 => exact nxt ρ2 S2 q
    | bk ρ2 S2 => exact ⟨_, rfl, q⟩
    | rt v S2 => exact ⟨_, rfl, q⟩
theorem ks_for {fI : FA} {st : FG} {g : FS} (h : KA fI ρ S fun ds S1 => ∃ I : Nat → Rho → Src → Prop, I 0 ρ S1 ∧ (∀ i d ρ S, ds[i]? = some d → I i ρ S → ∃ ρ1, st d ρ = some ρ1 ∧ KS g ρ1 S (lapP (I (i + 1)) (fun ρ S => P (.nx ρ S)) P)) ∧ (∀ ρ S, I ds.length ρ S → P (.nx ρ S))) : KS (gFor fI st g) ρ S P := by
  obtain ⟨ds, S1, e, I, h0, h1, h2⟩ := h
  obtain ⟨r, e2, k⟩ := forL_rule I h1 h2 h0
  exact ⟨r, by rw [gFor_val e]; exact e2, k⟩
/-- over typed items -/
theorem ks_forT {α : Type} {fI : FA} {st : FG} {g : FS} (enc : α → D) (h : KA fI ρ S fun ds S1 => ∃ xs : List α, ds = xs.map enc ∧ ∃ I : Nat → Rho → Src → Prop, I 0 ρ S1 ∧ (∀ i x ρ S, xs[i]? = some x → I i ρ S → ∃ ρ1, st (enc x) ρ = some ρ1 ∧ KS g ρ1 S (lapP (I (i + 1)) (fun ρ S => P (.nx ρ S)) P)) ∧ (∀ ρ S, I xs.length ρ S → P (.nx ρ S))) : KS (gFor fI st g) ρ S P := by
  refine ks_for ?_
  obtain ⟨ds, S1, e, xs, rfl, I, h0, h1, h2⟩ := h
  refine ⟨_, S1, e, I, h0, fun i d ρ S hd hi => ?_, fun ρ S hi => h2 ρ S (by rwa [List.length_map] at hi)⟩
  rw [List.getElem?_map] at hd
  obtain ⟨x, hx, rfl⟩ := Option.map_eq_some_iff.mp hd
  exact h1 i x ρ S hx hi
theorem gWh_rule {t : FB} {g : FS} : ∀ (n : Nat) (I : Nat → Rho → Src → Prop), (∀ m ρ S, m < n → I m ρ S → KB t ρ S fun b S1 => (b = true → m + 1 < n ∧ KS g ρ S1 (lapP (I (m + 1)) (fun ρ S => P (.nx ρ S)) P)) ∧ (b = false → P (.nx ρ S1))) → 0 < n → ∀ {ρ : Rho} {S : Src}, I 0 ρ S → KS (gWh t g n) ρ S P
  | 0, I, _, hn, _, _, _ => absurd hn (Nat.lt_irrefl _)
  | n + 1, I, h, _, ρ, S, h0 => by
    obtain ⟨b, S1, e1, k1, k2⟩ := h 0 ρ S (Nat.succ_pos _) h0
    unfold KS
    rw [gWh]
    dsimp only
    rw [e1]
    cases b with
    | false => exact ⟨_, rfl, k2 rfl⟩
    | true =>
      obtain ⟨hn, r, e2, q⟩ := k1 rfl
      have nxt : ∀ ρ2 S2, I 1 ρ2 S2 → KS (gWh t g n) ρ2 S2 P := fun ρ2 S2 hi => gWh_rule n (fun m => I (m + 1)) (fun m ρ S hm hi => by
        obtain ⟨b, S1, e1, k1, k2⟩ := h (m + 1) ρ S (Nat.succ_lt_succ hm) hi
        exact ⟨b, S1, e1, fun w => ⟨Nat.lt_of_succ_lt_succ (k1 w).1, (k1 w).2⟩, k2⟩) (by omega) hi
      dsimp only
      rw [e2]
      cases r with
      | nx ρ2 S2 => exact nxt ρ2 S2 q
      | ct ρ2 S2 => exact nxt ρ2 S2 q
      | bk ρ2 S2 => exact ⟨_, rfl, q⟩
      | rt v S2 => exact ⟨_, rfl, q⟩
/-! mirrors of defs -/
def retP (d : D) : Res → Prop
  | .rt v _ => v = d
  | .nx _ _ => PyData.none = d
  | _ => False
theorem kp_run {L : Nat} {g : FS} {ds : List D} {d : D} (h : KS g (ds.map some ++ List.replicate (L - ds.length) none) S0 (retP d)) : runP L g ds = some d := by
  obtain ⟨r, e, k⟩ := h
  unfold runP
  rw [e]
  cases r with
  | rt v S1 => cases k; rfl
  | nx ρ1 S1 => cases k; rfl
  | bk ρ1 S1 => cases k
  | ct ρ1 S1 => cases k
def retS (K : D → Src → Prop) : Res → Prop
  | .rt v S1 => K v S1
  | .nx _ S1 => K .none S1
  | _ => False
theorem kp_runS {L : Nat} {g : FS} {ds : List D} {K : D → Src → Prop} (h : KS g (none :: ds.map some ++ List.replicate (L - (ds.length + 1)) none) S (retS K)) : ∃ d S', runS L g ds S = some (d, S') ∧ K d S' := by
  obtain ⟨r, e, k⟩ := h
  unfold runS
  rw [e]
  cases r with
  | rt v S1 => exact ⟨_, _, rfl, k⟩
  | nx ρ1 S1 => exact ⟨_, _, rfl, k⟩
  | bk ρ1 S1 => cases k
  | ct ρ1 S1 => cases k
end
/-! ### values -/
theorem add_ii (i j : Int) : dAdd (.int i) (.int j) = some (.int (i + j)) := rfl
theorem sub_ii (i j : Int) : dSub (.int i) (.int j) = some (.int (i - j)) := rfl
theorem lt_ii (i j : Int) : dLt (.int i) (.int j) = some (.bool (decide (i < j))) := rfl
theorem le_ii (i j : Int) : dLe (.int i) (.int j) = some (.bool (decide (i ≤ j))) := rfl
theorem gt_ii (i j : Int) : dGt (.int i) (.int j) = some (.bool (decide (j < i))) := rfl
theorem ge_ii (i j : Int) : dGe (.int i) (.int j) = some (.bool (decide (j ≤ i))) := rfl
theorem neg_i (i : Int) : dNeg (.int i) = some (.int (-i)) := rfl
theorem len_l (xs : List D) : dLen [.list xs] = some (.int xs.length) := rfl
theorem len_t (xs : List D) : dLen [.tuple xs] = some (.int xs.length) := rfl
theorem tup_l (xs : List D) : dTuple [.list xs] = some (.tuple xs) := rfl
theorem tup_t (xs : List D) : dTuple [.tuple xs] = some (.tuple xs) := rfl
theorem lst_l (xs : List D) : dListA [.list xs] = some (.list xs) := rfl
theorem lst_t (xs : List D) : dListA [.tuple xs] = some (.list xs) := rfl
theorem add_ll {xs ys : List D} (h : xs.length + ys.length ≤ 100000) : dAdd (.list xs) (.list ys) = some (.list (xs ++ ys)) := if_pos (Nat.le_trans h (by decide))
theorem add_tt {xs ys : List D} (h : xs.length + ys.length ≤ 100000) : dAdd (.tuple xs) (.tuple ys) = some (.tuple (xs ++ ys)) := if_pos (Nat.le_trans h (by decide))
theorem ix0 {d : D} {ds : List D} : dSub2 (.tuple (d :: ds)) (.int 0) = some d := by
  show atI (d :: ds) 0 = some d
  exact atI_nat (j := 0) rfl
theorem ix1 {d e : D} {ds : List D} : dSub2 (.tuple (d :: e :: ds)) (.int 1) = some e := by
  show atI (d :: e :: ds) 1 = some e
  exact atI_nat (j := 1) rfl
theorem ix2 {d e f : D} {ds : List D} : dSub2 (.tuple (d :: e :: f :: ds)) (.int 2) = some f := by
  show atI (d :: e :: f :: ds) 2 = some f
  exact atI_nat (j := 2) rfl
theorem ix3 {d e f g : D} {ds : List D} : dSub2 (.tuple (d :: e :: f :: g :: ds)) (.int 3) = some g := by
  show atI (d :: e :: f :: g :: ds) 3 = some g
  exact atI_nat (j := 3) rfl
theorem ixl0 {d : D} {ds : List D} : dSub2 (.list (d :: ds)) (.int 0) = some d := by
  show atI (d :: ds) 0 = some d
  exact atI_nat (j := 0) rfl
theorem ixl1 {d e : D} {ds : List D} : dSub2 (.list (d :: e :: ds)) (.int 1) = some e := by
  show atI (d :: e :: ds) 1 = some e
  exact atI_nat (j := 1) rfl
theorem ixL {ds : List D} {i : Nat} {d : D} (h : ds[i]? = some d) : dSub2 (.list ds) (.int (i : Nat)) = some d := atI_nat h
theorem ixT {ds : List D} {i : Nat} {d : D} (h : ds[i]? = some d) : dSub2 (.tuple ds) (.int (i : Nat)) = some d := atI_nat h
theorem ke_rd' {ρ : Rho} {S : Src} {i : Nat} {K : D → Src → Prop} (h : ∃ d, ρ[i]? = some (some d) ∧ K d S) : KE (rd i) ρ S K := by
  obtain ⟨d, h, k⟩ := h
  exact ke_rd h k
theorem seqP_nx {h : FS} {P : Res → Prop} {ρ : Rho} {S : Src} (k : KS h ρ S P) : seqP h P (.nx ρ S) := k
theorem seqP_rt {h : FS} {P : Res → Prop} {d : D} {S : Src} (k : P (.rt d S)) : seqP h P (.rt d S) := k
theorem seqP_bk {h : FS} {P : Res → Prop} {ρ : Rho} {S : Src} (k : P (.bk ρ S)) : seqP h P (.bk ρ S) := k
theorem seqP_ct {h : FS} {P : Res → Prop} {ρ : Rho} {S : Src} (k : P (.ct ρ S)) : seqP h P (.ct ρ S) := k
theorem lapP_nx {I Q : Rho → Src → Prop} {P : Res → Prop} {ρ : Rho} {S : Src} (k : I ρ S) : lapP I Q P (.nx ρ S) := k
theorem lapP_ct {I Q : Rho → Src → Prop} {P : Res → Prop} {ρ : Rho} {S : Src} (k : I ρ S) : lapP I Q P (.ct ρ S) := k
theorem lapP_bk {I Q : Rho → Src → Prop} {P : Res → Prop} {ρ : Rho} {S : Src} (k : Q ρ S) : lapP I Q P (.bk ρ S) := k
theorem lapP_rt {I Q : Rho → Src → Prop} {P : Res → Prop} {d : D} {S : Src} (k : P (.rt d S)) : lapP I Q P (.rt d S) := k
theorem retP_rt {d v : D} {S : Src} (k : v = d) : retP d (.rt v S) := k
theorem retS_rt {K : D → Src → Prop} {v : D} {S : Src} (k : K v S) : retS K (.rt v S) := k
end LW

set_option Elab.async false
set_option linter.all false
set_option maxRecDepth 100000
set_option maxHeartbeats 4000000
namespace LW
open PySem PySem.Spec PyProof.Rows L2 TL

/-! ### orders -/
section
variable {α : Type}
/-- data in order -/
def oLe (enc : α → D) (a b : α) : Bool := W.dataLe false id (enc a) (enc b)
structure Ord (enc : α → D) : Prop where
  al : ∀ a b, W.alike (enc a) (enc b) = true
  sh : (∀ a, tup1 (enc a) = true) ∨ (∀ a, notTup (enc a) = true)
  dp : ∀ a, (enc a).depth ≤ 60
  anti : ∀ a b, oLe enc a b = true → oLe enc b a = true → a = b
theorem oLe_trans (enc : α → D) {a b c : α} (h1 : oLe enc a b = true) (h2 : oLe enc b c = true) : oLe enc a c = true :=
  (W.sortLe_total (listOrd itemOrd) false fun z : α => W.keyToks (enc z)).trans a b c h1 h2
theorem oLe_total (enc : α → D) (a b : α) : oLe enc a b = true ∨ oLe enc b a = true :=
  (W.sortLe_total (listOrd itemOrd) false fun z : α => W.keyToks (enc z)).total a b
theorem oLe_refl (enc : α → D) (a : α) : oLe enc a a = true := (oLe_total enc a a).elim id id
theorem uniq_sorted {le : α → α → Bool} (anti : ∀ a b, le a b = true → le b a = true → a = b) : ∀ {xs ys : List α}, xs.Perm ys → xs.Pairwise (fun a b => le a b = true) → ys.Pairwise (fun a b => le a b = true) → xs = ys
  | [], ys, p, _, _ => (List.nil_perm.mp p).symm
  | x :: xs, ys, p, h1, h2 => by
    cases ys with
    | nil => exact absurd p (by simp)
    | cons y ys =>
      rw [List.pairwise_cons] at h1 h2
      have e : x = y := by
        have a : x ∈ y :: ys := p.subset (List.mem_cons_self ..)
        have b : y ∈ x :: xs := p.symm.subset (List.mem_cons_self ..)
        rcases List.mem_cons.mp a with q | q
        · exact q
        · rcases List.mem_cons.mp b with q' | q'
          · exact q'.symm
          · exact anti _ _ (h1.1 y q') (h2.1 x q)
      subst e
      rw [uniq_sorted anti (List.Perm.cons_inv p) h1.2 h2.2]
variable {enc : α → D}
def oSort (enc : α → D) (xs : List α) : List α := xs.mergeSort (oLe enc)
theorem oSort_perm (xs : List α) : (oSort enc xs).Perm xs := List.mergeSort_perm xs _
theorem oSort_pair (xs : List α) : (oSort enc xs).Pairwise fun a b => oLe enc a b = true :=
  List.pairwise_mergeSort (le := oLe enc) (fun a b c => oLe_trans enc) (fun a b => by rw [Bool.or_eq_true]; exact oLe_total enc a b) xs
theorem Ord.sort1 (O : Ord enc) (xs : List α) : dSorted [.list (xs.map enc)] = some (.list ((oSort enc xs).map enc)) := by
  unfold dSorted
  dsimp only
  refine (if_pos ⟨fun d hd e he => ?_, O.sh.imp (fun h d hd => ?_) (fun h d hd => ?_), fun d hd => ?_⟩).trans ?_
  · have e1 : sortD (xs.map enc) = (xs.mergeSort (oLe enc)).map enc := (List.map_mergeSort (f := enc) (s := W.dataLe false id) fun a _ b _ => rfl).symm
    rw [e1]
    rfl
  · obtain ⟨a, _, rfl⟩ := List.mem_map.mp hd
    obtain ⟨b, _, rfl⟩ := List.mem_map.mp he
    exact O.al a b
  · obtain ⟨a, _, rfl⟩ := List.mem_map.mp hd
    exact h a
  · obtain ⟨a, _, rfl⟩ := List.mem_map.mp hd
    exact h a
  · obtain ⟨a, _, rfl⟩ := List.mem_map.mp hd
    exact O.dp a
theorem Ord.sortL (O : Ord enc) (xs : List α) : dSortedB [.list (xs.map enc)] = some (.list ((oSort enc xs).map enc)) := O.sort1 xs
theorem Ord.sortT (O : Ord enc) (xs : List α) : dSortedB [.tuple (xs.map enc)] = some (.list ((oSort enc xs).map enc)) := O.sort1 xs
theorem Ord.uniq (O : Ord enc) {xs ys : List α} (p : xs.Perm ys) (h : ys.Pairwise fun a b => oLe enc a b = true) : oSort enc xs = ys :=
  uniq_sorted O.anti ((oSort_perm xs).trans p) (oSort_pair xs) h
theorem Ord.perm (O : Ord enc) {xs ys : List α} (p : xs.Perm ys) : oSort enc xs = oSort enc ys :=
  uniq_sorted O.anti (((oSort_perm xs).trans p).trans (oSort_perm ys).symm) (oSort_pair xs) (oSort_pair ys)
/-- strictly in order -/
def oLt (enc : α → D) (a b : α) : Prop := oLe enc a b = true ∧ a ≠ b
theorem Ord.lt_trans (O : Ord enc) {a b c : α} (h1 : oLt enc a b) (h2 : oLt enc b c) : oLt enc a c :=
  ⟨oLe_trans enc h1.1 h2.1, fun e => h1.2 (O.anti a b h1.1 (by rw [e]; exact h2.1))⟩
theorem Ord.asymm (O : Ord enc) {a b : α} (h1 : oLt enc a b) (h2 : oLt enc b a) : False := h1.2 (O.anti _ _ h1.1 h2.1)
theorem Ord.tri (O : Ord enc) (a b : α) (h : a ≠ b) : oLt enc a b ∨ oLt enc b a := (oLe_total enc a b).imp (fun q => ⟨q, h⟩) fun q => ⟨q, h.symm⟩
theorem Ord.le_iff (O : Ord enc) {a b : α} : oLe enc a b = true ↔ ¬ oLt enc b a := by
  constructor
  · exact fun h q => q.2 (O.anti _ _ q.1 h)
  · intro h
    rcases oLe_total enc a b with q | q
    · exact q
    · by_cases e : a = b
      · rw [e]; exact oLe_refl enc b
      · exact absurd ⟨q, fun e' => e e'.symm⟩ h
theorem lt_nodup {xs : List α} (h : xs.Pairwise (oLt enc)) : xs.Nodup := h.imp fun q => q.2
theorem lt_le {xs : List α} (h : xs.Pairwise (oLt enc)) : xs.Pairwise fun a b => oLe enc a b = true := h.imp fun q => q.1
theorem nodup_lt {xs : List α} (n : xs.Nodup) (h : xs.Pairwise fun a b => oLe enc a b = true) : xs.Pairwise (oLt enc) := (List.pairwise_and_iff.mpr ⟨h, n⟩)
theorem oSort_lt {xs : List α} (n : xs.Nodup) : (oSort enc xs).Pairwise (oLt enc) := nodup_lt ((oSort_perm xs).nodup_iff.mpr n) (oSort_pair xs)
theorem Ord.uniqLt (O : Ord enc) {xs ys : List α} (hx : xs.Pairwise (oLt enc)) (hy : ys.Pairwise (oLt enc)) (h : ∀ z, z ∈ xs ↔ z ∈ ys) [DecidableEq α] : xs = ys :=
  uniq_sorted O.anti ((List.perm_ext_iff_of_nodup (lt_nodup hx) (lt_nodup hy)).mpr h) (lt_le hx) (lt_le hy)
end
/-! ### texts -/
def sS : Str → D := PyData.str
theorem str_toks {x y : Str} (h : x.cps.toList = y.cps.toList) : x = y := W.str_of_cps h
theorem oLe_str (a b : Str) : oLe sS a b = true ↔ ¬ b.cps.toList < a.cps.toList := by
  show (!PyProof.Rows.lexLt itemOrd (W.keyToks (.str b)) (W.keyToks (.str a))) = true ↔ _
  rw [W.keyToks, W.keyToks, lex_cons]
  show (!(decide (b.cps.toList < a.cps.toList) || (!decide (a.cps.toList < b.cps.toList) && lexLt itemOrd [] []))) = true ↔ _
  have e : lexLt itemOrd [] [] = false := rfl
  rw [e, Bool.and_false, Bool.or_false]
  simp
theorem lt_str (a b : Str) : W.dataLt (.str a) (.str b) = decide (a.cps.toList < b.cps.toList) := by
  show PyProof.Rows.lexLt itemOrd (W.keyToks (.str a)) (W.keyToks (.str b)) = _
  rw [W.keyToks, W.keyToks, lex_cons]
  show (decide (a.cps.toList < b.cps.toList) || (!decide (b.cps.toList < a.cps.toList) && lexLt itemOrd [] [])) = _
  have e : lexLt itemOrd [] [] = false := rfl
  rw [e, Bool.and_false, Bool.or_false]
theorem ord_str : Ord sS where
  al := fun a b => by unfold sS; rw [W.alike]
  sh := .inr fun a => rfl
  dp := fun a => Nat.zero_le _
  anti := fun a b h1 h2 => by
    rw [oLe_str] at h1 h2
    exact str_toks (List.le_antisymm (List.not_lt.mp h1) (List.not_lt.mp h2))
/-! ### pairs of texts -/
def prS (p : Str × Str) : D := .tuple [.str p.1, .str p.2]
theorem good_prS : Good prS := ⟨fun _ => rfl, fun x => by simp [prS, PyData.depth, PyData.depthAll], fun x y => by
  have h := good_str.eqvs [x.1, x.2] [y.1, y.2]
  unfold prS
  rw [PyData.eqv]
  rw [show [PyData.str x.1, PyData.str x.2] = [x.1, x.2].map PyData.str from rfl, show [PyData.str y.1, PyData.str y.2] = [y.1, y.2].map PyData.str from rfl, h]
  by_cases h1 : x.1 = y.1 <;> by_cases h2 : x.2 = y.2 <;> simp [h1, h2, Prod.ext_iff]⟩
def iN (x y : Int ⊕ List Nat) : Bool := itemOrd.blt x y
def lx (l m : List (Int ⊕ List Nat)) : Bool := PyProof.Rows.lexLt itemOrd l m
theorem lexC (x y : Int ⊕ List Nat) (r t : List (Int ⊕ List Nat)) : lx (x :: r) (y :: t) = (iN x y || (!iN y x && lx r t)) := lex_cons (O := itemOrd) x y r t
theorem lexN : lx [] [] = false := rfl
theorem oLe_lx {α : Type} (enc : α → D) (a b : α) : oLe enc a b = !lx (W.keyToks (enc b)) (W.keyToks (enc a)) := rfl
theorem iN_str (a b : Str) : iN (.inr a.cps.toList) (.inr b.cps.toList) = decide (a.cps.toList < b.cps.toList) := rfl
theorem iN_int (a b : Int) : iN (.inl a) (.inl b) = decide (a < b) := rfl
theorem oLe_prS (p q : Str × Str) : oLe prS p q = true ↔ (p.1 ≠ q.1 ∧ oLe sS p.1 q.1 = true) ∨ (p.1 = q.1 ∧ oLe sS p.2 q.2 = true) := by
  rw [oLe_lx]
  unfold prS
  rw [W.keyToks, W.keyToks]
  simp only [W.keyToksAll, W.keyToks, List.cons_append, List.nil_append, lexC, lexN, iN_str, iN_int]
  rw [oLe_str, oLe_str]
  by_cases h : p.1 = q.1
  · rw [h]
    have hi : ¬ q.1.cps.toList < q.1.cps.toList := List.lt_irrefl _
    simp [hi]
  · have h2 : ¬ (p.1.cps.toList < q.1.cps.toList) ∨ ¬ (q.1.cps.toList < p.1.cps.toList) := by
      by_cases q1 : p.1.cps.toList < q.1.cps.toList
      · exact .inr fun q2 => List.lt_irrefl _ (List.lt_trans q1 q2)
      · exact .inl q1
    have h3 : p.1.cps.toList < q.1.cps.toList ∨ q.1.cps.toList < p.1.cps.toList := by
      rcases ord_str.tri p.1 q.1 h with z | z
      · by_cases q1 : p.1.cps.toList < q.1.cps.toList
        · exact .inl q1
        · have := (oLe_str q.1 p.1).mpr q1
          exact absurd (ord_str.anti _ _ z.1 this) h
      · by_cases q1 : q.1.cps.toList < p.1.cps.toList
        · exact .inr q1
        · have := (oLe_str p.1 q.1).mpr q1
          exact absurd (ord_str.anti _ _ this z.1) h
    by_cases q1 : p.1.cps.toList < q.1.cps.toList <;> by_cases q2 : q.1.cps.toList < p.1.cps.toList <;> simp_all
theorem ord_prS : Ord prS where
  al := fun a b => by simp [prS, W.alike, W.alikeAll]
  sh := .inl fun a => rfl
  dp := fun a => by simp [prS, PyData.depth, PyData.depthAll]
  anti := fun a b h1 h2 => by
    rw [oLe_prS] at h1 h2
    rcases h1 with ⟨n, h⟩ | ⟨e, h⟩
    · rcases h2 with ⟨n2, h2⟩ | ⟨e, h2⟩
      · exact absurd (ord_str.anti _ _ h h2) n
      · exact absurd e.symm n
    · rcases h2 with ⟨n, _⟩ | ⟨_, h2⟩
      · exact absurd e.symm n
      · exact Prod.ext e (ord_str.anti _ _ h h2)
end LW

set_option Elab.async false
set_option linter.all false
set_option maxRecDepth 100000
set_option maxHeartbeats 4000000
namespace LW
open PySem PySem.Spec PyProof.Rows L2 TL

/-! ### webs -/
structure Po where
  n : Str
  k : Bool
  a : Int
  b : Int
deriving DecidableEq
def kD (k : Bool) : D := .str (if k then "tied" else "apart")
def pD (z : Po) : D := .tuple [.str z.n, kD z.k, .int z.a, .int z.b]
def tS (xs : List Str) : D := .tuple (xs.map .str)
def lS (xs : List Str) : D := .list (xs.map .str)
def wD (zs : List Po) (ts : List (Str × Str)) : D := .tuple [.tuple (zs.map pD), .tuple (ts.map prS)]
theorem kD_inj : ∀ x y, PyData.eqv (kD x) (kD y) = decide (x = y) := fun x y => by
  unfold kD
  rw [PyData.eqv]
  cases x <;> cases y <;> decide
theorem good_kD : Good kD := ⟨fun _ => rfl, fun _ => Nat.zero_le _, kD_inj⟩
theorem good_pD : Good pD := ⟨fun _ => rfl, fun x => by simp [pD, kD, PyData.depth, PyData.depthAll], fun x y => by
  unfold pD
  rw [PyData.eqv]
  simp only [PyData.eqvAll, good_str.eqv, kD_inj, good_int.eqv]
  obtain ⟨n, k, a, b⟩ := x
  obtain ⟨n', k', a', b'⟩ := y
  simp only [Po.mk.injEq]
  by_cases h1 : n = n' <;> by_cases h2 : k = k' <;> by_cases h3 : a = a' <;> by_cases h4 : b = b' <;> simp [h1, h2, h3, h4]⟩
theorem filter_all {α : Type} (xs : List α) : xs.filter (fun _ => true) = xs := by simp
theorem names_of_eq {zs : List Po} {ts : List (Str × Str)} (hl : zs.length ≤ 1000) : m_names_of [wD zs ts] = some (tS (zs.map Po.n)) := by
  have h : lcE [1] (iE (b2 dSub2 (rd 0) (cst (.int 0)))) (sN 1) bT (b2 dSub2 (rd 1) (cst (.int 0))) [some (wD zs ts), none] S0 = some (.list ((zs.filter fun _ => true).map fun z => .str z.n), S0) := by
    refine lc_map pD (fun _ => true) (fun z => .str z.n) (S := S0) ?_ (by omega) fun z hz => ?_
    · simp [iE, b2, rd, cst, wD, ix0, items]
    · exact ⟨_, rfl, rfl, fun _ => by simp [wipeR, sN, b2, rd, cst, pD, ix0]⟩
  rw [filter_all] at h
  simp [m_names_of, runP, g_names_of, gRet, cN, aC, aN, h, dTuple, tS]
/-- a pair, its lesser name ahead -/
def ordP (p : Str × Str) : Str × Str := if oLe sS p.1 p.2 = true then p else (p.2, p.1)
theorem sort2 (a b : Str) : dSortedB [.list [.str a, .str b]] = some (.list [.str (ordP (a, b)).1, .str (ordP (a, b)).2]) := by
  have h := ord_str.sortL [a, b]
  have e : oSort sS [a, b] = [(ordP (a, b)).1, (ordP (a, b)).2] := by
    unfold ordP
    split
    · rename_i q
      refine ord_str.uniq (.refl _) ?_
      simp [q]
    · rename_i q
      refine ord_str.uniq (List.Perm.swap b a []) ?_
      have := (oLe_total sS a b).resolve_left q
      simp [this]
  rw [e] at h
  exact h
theorem sort2T (p : Str × Str) : dSortedB [prS p] = some (.list [.str (ordP p).1, .str (ordP p).2]) := sort2 p.1 p.2
theorem ordP_swap (a b : Str) : ordP (a, b) = ordP (b, a) := by
  unfold ordP
  dsimp only
  by_cases h1 : oLe sS a b = true <;> by_cases h2 : oLe sS b a = true
  · rw [if_pos h1, if_pos h2, ord_str.anti _ _ h1 h2]
  · rw [if_pos h1, if_neg h2]
  · rw [if_neg h1, if_pos h2]
  · exact absurd ((oLe_total sS a b).resolve_left h1) h2
theorem ordP_lt {p : Str × Str} (h : oLt sS p.1 p.2) : ordP p = p := if_pos h.1
def tiedS (ts : List (Str × Str)) (a b : Str) : Bool := decide (ordP (a, b) ∈ ts)
theorem are_tied_eq {zs : List Po} {ts : List (Str × Str)} (a b : Str) : m_are_tied [wD zs ts, .str a, .str b] = some (.bool (tiedS ts a b)) := by
  have h1 := sort2 a b
  have h2 : dInD (prS (ordP (a, b))) (.tuple (ts.map prS)) = some (.bool (decide (ordP (a, b) ∈ ts))) := good_prS.tup
  have h3 : dTuple [.list [.str (ordP (a, b)).1, .str (ordP (a, b)).2]] = some (prS (ordP (a, b))) := rfl
  simp [m_are_tied, runP, g_are_tied, gRet, b2, cN, aC, aN, mkL, rd, cst, h1, h3, wD, ix1, h2, tiedS]
theorem neighbours_eq {zs : List Po} {ts : List (Str × Str)} (hl : zs.length ≤ 1000) (a : Str) : m_neighbours [wD zs ts, .str a] = some (tS ((zs.map Po.n).filter fun o => !decide (o = a) && tiedS ts a o)) := by
  have h0 := names_of_eq (ts := ts) hl
  have h : lcE [2] (iE (cN m_names_of (aC (rd 0) aN))) (sN 2) (fAnd (tst (b2 dNe (rd 2) (rd 1))) (tst (cN m_are_tied (aC (rd 0) (aC (rd 1) (aC (rd 2) aN)))))) (rd 2) [some (wD zs ts), some (.str a), none] S0 =
      some (.list (((zs.map Po.n).filter fun o => !decide (o = a) && tiedS ts a o).map .str), S0) := by
    refine lc_map .str _ .str (S := S0) ?_ (by rw [List.length_map]; omega) fun o ho => ?_
    · exact iE_val (d := tS (zs.map Po.n)) (cN_val (aC1 (d := wD zs ts) rfl) h0) rfl
    · have e1 : wipeR [some (wD zs ts), some (.str a), none] [2] = [some (wD zs ts), some (.str a), none] := rfl
      rw [e1]
      refine ⟨[some (wD zs ts), some (.str a), some (.str o)], rfl, fAnd_val (tst_val (b2_val (S1 := S0) (S2 := S0) (a := .str o) (b := .str a) rfl rfl good_str.ne)) (tst_val (cN_val (ds := [wD zs ts, .str a, .str o]) rfl (are_tied_eq a o))), fun _ => rfl⟩
  exact runP_rt (ρ := [some (wD zs ts), some (.str a), none]) (S := S0) rfl (gRet_val (cN_val (aC1 h) rfl))
theorem filter_one {α : Type} [DecidableEq α] {β : Type} (f : β → α) : ∀ {xs : List β} {x : β}, x ∈ xs → (xs.map f).Nodup → xs.filter (fun y => decide (f y = f x)) = [x]
  | [], x, h, _ => by cases h
  | y :: ys, x, h, nd => by
    rw [List.map_cons, List.nodup_cons] at nd
    rcases List.mem_cons.mp h with rfl | h
    · rw [List.filter_cons_of_pos (by simp), List.filter_eq_nil_iff.mpr]
      intro z hz
      rw [decide_eq_true_eq]
      intro e
      exact nd.1 (List.mem_map.mpr ⟨z, hz, e⟩)
    · have : f y ≠ f x := fun e => nd.1 (List.mem_map.mpr ⟨x, h, e.symm⟩)
      rw [List.filter_cons_of_neg (by simp [this]), filter_one f h nd.2]
theorem post_of_eq {zs : List Po} {ts : List (Str × Str)} (hl : zs.length ≤ 1000) (nd : (zs.map Po.n).Nodup) {z : Po} (hz : z ∈ zs) : m_post_of [wD zs ts, .str z.n] = some (pD z) := by
  have h : lcE [2] (iE (b2 dSub2 (rd 0) (cst (.int 0)))) (sN 2) (tst (b2 dEq (b2 dSub2 (rd 2) (cst (.int 0))) (rd 1))) (rd 2) [some (wD zs ts), some (.str z.n), none] S0 = some (.list ((zs.filter fun y => decide (y.n = z.n)).map pD), S0) := by
    refine lc_map pD _ pD (S := S0) ?_ (by omega) fun y hy => ?_
    · exact iE_val (d := .tuple (zs.map pD)) (b2_val (S1 := S0) (S2 := S0) (a := wD zs ts) (b := .int 0) rfl rfl ix0) rfl
    · have e1 : wipeR [some (wD zs ts), some (.str z.n), none] [2] = [some (wD zs ts), some (.str z.n), none] := rfl
      rw [e1]
      refine ⟨[some (wD zs ts), some (.str z.n), some (pD y)], rfl, tst_val (b2_val (S1 := S0) (S2 := S0) (a := .str y.n) (b := .str z.n) (b2_val (S1 := S0) (S2 := S0) (a := pD y) (b := .int 0) rfl rfl ix0) rfl good_str.eq), fun _ => rfl⟩
  rw [filter_one Po.n hz nd] at h
  exact runP_rt (ρ := [some (wD zs ts), some (.str z.n), none]) (S := S0) rfl (gRet_val (b2_val (S1 := S0) (S2 := S0) (a := .list [pD z]) (b := .int 0) h rfl ixl0))
/-- one that stands once is lone -/
def fixP (z : Po) : Po := if z.a = 0 ∧ z.b = 1 then { z with k := false } else z
theorem eq2 (a b c d : Int) : dEq (.tuple [.int a, .int b]) (.tuple [.int c, .int d]) = some (.bool (decide (a = c ∧ b = d))) := by
  unfold dEq
  have e : PyData.eqv (.tuple [.int a, .int b]) (.tuple [.int c, .int d]) = decide (a = c ∧ b = d) := by
    rw [PyData.eqv]
    simp only [PyData.eqvAll, good_int.eqv]
    by_cases h1 : a = c <;> by_cases h2 : b = d <;> simp [h1, h2]
  rw [e]
  exact if_pos ⟨rfl, rfl, by simp [PyData.depth, PyData.depthAll]⟩
theorem post_told_eq (z : Po) : m_post_told [.str z.n, kD z.k, .int z.a, .int z.b] = some (pD (fixP z)) := by
  have h : tst (b2 dEq (mkT (aC (rd 2) (aC (rd 3) aN))) (mkT (aC (cst (.int 0)) (aC (cst (.int 1)) aN)))) [some (.str z.n), some (kD z.k), some (.int z.a), some (.int z.b)] S0 = some (decide (z.a = 0 ∧ z.b = 1), S0) :=
    tst_val (b2_val (S1 := S0) (S2 := S0) (a := .tuple [.int z.a, .int z.b]) (b := .tuple [.int 0, .int 1]) rfl rfl (eq2 ..))
  have e : pD (fixP z) = .tuple [.str z.n, kD (fixP z).k, .int z.a, .int z.b] := by
    unfold fixP
    split <;> rfl
  rw [e]
  refine runP_rt (ρ := [some (.str z.n), some (kD z.k), some (.int z.a), some (.int z.b)]) (S := S0) rfl (gRet_val (mkT_val (aC_val (S1 := S0) rfl (aC_val (S1 := S0) (S2 := S0) (d := kD (fixP z).k) ?_ rfl))))
  unfold fixP
  by_cases q : z.a = 0 ∧ z.b = 1
  · rw [decide_eq_true q] at h
    rw [if_pos q, ifE_t h]
    rfl
  · rw [decide_eq_false q] at h
    rw [if_neg q, ifE_f h]
    rfl
end LW

set_option Elab.async false
set_option linter.all false
set_option maxRecDepth 100000
set_option maxHeartbeats 4000000
namespace LW
open PySem PySem.Spec PyProof.Rows L2 TL

/-! ### sorted(dict(..)) of pairs -/
theorem keys_puts {α : Type} [DecidableEq α] {enc : α → D} (he : ∀ a b, PyData.eqv (enc a) (enc b) = decide (a = b)) (v : α → D) : ∀ (xs us : List α) (acc : List (D × D)), acc.map (·.1) = us.map enc → us.Nodup →
    ∃ us' : List α, (putsD acc (xs.map fun x => (enc x, v x))).map (·.1) = us'.map enc ∧ us'.Nodup ∧ (∀ x, x ∈ us' ↔ x ∈ us ∨ x ∈ xs) ∧ us'.length ≤ us.length + xs.length
  | [], us, acc, e, nd => ⟨us, e, nd, fun x => by simp, by simp⟩
  | x :: xs, us, acc, e, nd => by
    have hany : (acc.any fun p => PyData.eqv p.1 (enc x)) = decide (x ∈ us) := by
      have : ∀ (acc : List (D × D)) (us : List α), acc.map (·.1) = us.map enc → (acc.any fun p => PyData.eqv p.1 (enc x)) = decide (x ∈ us) := by
        intro acc
        induction acc with
        | nil =>
          intro us e
          cases us with
          | nil => simp
          | cons a b => simp at e
        | cons p acc ih =>
          intro us e
          cases us with
          | nil => simp at e
          | cons a us =>
            rw [List.map_cons, List.map_cons, List.cons.injEq] at e
            rw [List.any_cons, ih us e.2, e.1, he]
            by_cases h : a = x
            · simp [h]
            · have h' : ¬ x = a := fun q => h q.symm
              simp [h, h']
      exact this acc us e
    show ∃ us', (putsD (putD acc (enc x) (v x)) (xs.map fun x => (enc x, v x))).map (·.1) = _ ∧ _
    by_cases hx : x ∈ us
    · have e1 : (putD acc (enc x) (v x)).map (·.1) = us.map enc := by
        unfold putD
        rw [hany, if_pos (by simp [hx]), List.map_map, ← e]
        apply List.map_congr_left
        intro p _
        show (if _ then _ else _ : D × D).1 = p.1
        split <;> rfl
      obtain ⟨us', h1, h2, h3, h4⟩ := keys_puts he v xs us _ e1 nd
      refine ⟨us', h1, h2, fun y => ?_, by rw [List.length_cons]; omega⟩
      rw [h3, List.mem_cons]
      constructor
      · rintro (q | q)
        · exact .inl q
        · exact .inr (.inr q)
      · rintro (q | rfl | q)
        · exact .inl q
        · exact .inl hx
        · exact .inr q
    · have e1 : (putD acc (enc x) (v x)).map (·.1) = (us ++ [x]).map enc := by
        unfold putD
        rw [hany, if_neg (by simp [hx]), List.map_append, e, List.map_append]
        rfl
      obtain ⟨us', h1, h2, h3, h4⟩ := keys_puts he v xs (us ++ [x]) _ e1 (by
        rw [List.nodup_append]
        refine ⟨nd, by simp, fun a ha b hb => ?_⟩
        rw [List.mem_singleton] at hb
        subst hb
        exact fun e => hx (e ▸ ha))
      refine ⟨us', h1, h2, fun y => ?_, by rw [List.length_cons]; rw [List.length_append] at h4; simp at h4; omega⟩
      rw [h3, List.mem_append, List.mem_singleton, List.mem_cons, or_assoc]
theorem pairs_enc {α : Type} {enc : α → D} {v : α → D} : ∀ xs : List α, pairsD (xs.map fun x => .tuple [enc x, v x]) = some (xs.map fun x => (enc x, v x))
  | [] => rfl
  | x :: xs => by
    rw [List.map_cons, pairsD, pairs_enc xs]
    rfl
theorem putsD_cons (acc : List (D × D)) (p : D × D) (ps : List (D × D)) : putsD acc (p :: ps) = putsD (putD acc p.1 p.2) ps := rfl
theorem puts_nodup {α β : Type} [DecidableEq α] {enc : α → D} (he : ∀ a b, PyData.eqv (enc a) (enc b) = decide (a = b)) (f : β → α) (v : β → D) : ∀ (xs us : List β), ((us ++ xs).map f).Nodup →
    putsD (us.map fun x => (enc (f x), v x)) (xs.map fun x => (enc (f x), v x)) = (us ++ xs).map fun x => (enc (f x), v x)
  | [], us, _ => by rw [List.append_nil]; rfl
  | x :: xs, us, nd => by
    have hany : ((us.map fun x => (enc (f x), v x)).any fun p => PyData.eqv p.1 (enc (f x))) = false := by
      rw [List.any_map, List.any_eq_false]
      intro y hy
      show ¬ PyData.eqv (enc (f y)) (enc (f x)) = true
      rw [he, decide_eq_true_eq]
      intro e
      rw [List.map_append, List.nodup_append] at nd
      exact nd.2.2 (f y) (List.mem_map.mpr ⟨y, hy, rfl⟩) (f x) (List.mem_map.mpr ⟨x, List.mem_cons_self .., rfl⟩) e
    rw [List.map_cons, putsD_cons]
    have e1 : putD (us.map fun x => (enc (f x), v x)) (enc (f x)) (v x) = (us ++ [x]).map fun x => (enc (f x), v x) := by
      unfold putD
      rw [hany, if_neg Bool.false_ne_true, List.map_append]
      rfl
    dsimp only
    rw [e1, puts_nodup he f v xs (us ++ [x]) (by rw [List.append_assoc]; exact nd), List.append_assoc]
    rfl
theorem sorted_keysK {kvs : List (D × D)} {xs : List Str} (h : kvs.map (·.1) = xs.map .str) : dSortedB [.dict kvs] = some (lS (oSort sS xs)) := by
  have ek : isT kvs = false := by
    cases kvs with
    | nil => rfl
    | cons p r =>
      cases xs with
      | nil => cases h
      | cons a us =>
        rw [List.map_cons, List.map_cons, List.cons.injEq] at h
        obtain ⟨pk, pv⟩ := p
        have e := h.1
        dsimp only at e
        subst e
        rfl
  have e2 : keysD kvs = xs.map .str := by
    unfold keysD
    rw [ek, if_neg Bool.false_ne_true, h]
  have hall : (xs.map PyData.str).all isStr = true := by
    rw [List.all_map, List.all_eq_true]
    intro p _
    rfl
  show (if isT kvs = true ∨ (keysD kvs).all isStr = true then dSorted [.list (keysD kvs)] else none) = _
  rw [e2, if_pos (.inr hall)]
  exact ord_str.sort1 xs
theorem sorted_keysT {kvs : List (D × D)} {xs : List (Str × Str)} (h : kvs.map (·.1) = xs.map prS) {v : D} : dSortedB [.dict ((.none, v) :: kvs)] = some (.list ((oSort prS xs).map prS)) := by
  have e2 : keysD ((.none, v) :: kvs) = xs.map prS := by
    unfold keysD
    rw [show isT ((PyData.none, v) :: kvs) = true from rfl, if_pos rfl, List.tail_cons, h]
  show (if isT ((PyData.none, v) :: kvs) = true ∨ (keysD ((PyData.none, v) :: kvs)).all isStr = true then dSorted [.list (keysD ((PyData.none, v) :: kvs))] else none) = _
  rw [if_pos (.inl rfl), e2]
  exact ord_prS.sort1 xs
theorem fixP_n (z : Po) : (fixP z).n = z.n := by
  unfold fixP
  split <;> rfl
theorem look_enc {α β : Type} [DecidableEq α] {enc : α → D} (he : ∀ a b, PyData.eqv (enc a) (enc b) = decide (a = b)) (f : β → α) (v : β → D) : ∀ {xs : List β}, (xs.map f).Nodup → ∀ {x : β}, x ∈ xs → lookD (xs.map fun x => (enc (f x), v x)) (enc (f x)) = some (v x)
  | [], _, x, h => by cases h
  | y :: ys, nd, x, h => by
    rw [List.map_cons, List.nodup_cons] at nd
    unfold lookD
    rw [List.map_cons, List.find?_cons]
    dsimp only
    rw [he]
    rcases List.mem_cons.mp h with rfl | h
    · rw [decide_eq_true rfl]
      rfl
    · have : f y ≠ f x := fun e => nd.1 (List.mem_map.mpr ⟨x, h, e.symm⟩)
      rw [decide_eq_false this]
      exact look_enc he f v nd.2 h
theorem web_told_eq {P T : D} {qs zs : List Po} {ls ts : List (Str × Str)} (hP : items P = some (qs.map pD)) (hT : items T = some (ls.map prS)) (hq : qs.length ≤ 1000) (hl : ls.length ≤ 100000)
    (hz : zs.Pairwise fun x y => oLt sS x.n y.n) (hp : (qs.map fixP).Perm zs) (ht : ts.Pairwise (oLt prS)) (hm : ∀ p, p ∈ ts ↔ ∃ q ∈ ls, ordP q = p) : m_web_told [P, T] = some (wD zs ts) := by
  have hzn : (zs.map Po.n).Pairwise (oLt sS) := List.pairwise_map.mpr hz
  have hqn : (qs.map Po.n).Perm (zs.map Po.n) := by
    have := hp.map Po.n
    rw [List.map_map] at this
    have e : (qs.map (Po.n ∘ fixP)) = qs.map Po.n := List.map_congr_left fun z _ => fixP_n z
    rwa [e] at this
  have nq : (qs.map Po.n).Nodup := hqn.nodup_iff.mpr (lt_nodup hzn)
  have hzl : zs.length ≤ 1000 := by
    have := hp.length_eq
    rw [List.length_map] at this
    omega
  -- posts
  have e1 : lcE [3] (iE (rd 0)) (sN 3) bT (mkT (aC (b2 dSub2 (rd 3) (cst (.int 0))) (aC (cN m_post_told (aC (b2 dSub2 (rd 3) (cst (.int 0))) (aC (b2 dSub2 (rd 3) (cst (.int 1))) (aC (b2 dSub2 (rd 3) (cst (.int 2))) (aC (b2 dSub2 (rd 3) (cst (.int 3))) aN))))) aN))) [some P, some T, none, none, none, none, none] S0 =
      some (.list ((qs.filter fun _ => true).map fun q => .tuple [.str q.n, pD (fixP q)]), S0) := by
    refine lc_map pD (fun _ => true) (fun q => .tuple [.str q.n, pD (fixP q)]) (S := S0) (iE_val (d := P) rfl hP) (by omega) fun q _ => ⟨_, rfl, rfl, fun _ => ?_⟩
    have e0 : wipeR [some P, some T, none, none, none, none, none] [3] = [some P, some T, none, none, none, none, none] := rfl
    rw [e0]
    have a0 : b2 dSub2 (rd 3) (cst (.int 0)) [some P, some T, none, some (pD q), none, none, none] S0 = some (.str q.n, S0) := b2_val (S1 := S0) (S2 := S0) (a := pD q) (b := .int 0) rfl rfl ix0
    have a1 : b2 dSub2 (rd 3) (cst (.int 1)) [some P, some T, none, some (pD q), none, none, none] S0 = some (kD q.k, S0) := b2_val (S1 := S0) (S2 := S0) (a := pD q) (b := .int 1) rfl rfl ix1
    have a2 : b2 dSub2 (rd 3) (cst (.int 2)) [some P, some T, none, some (pD q), none, none, none] S0 = some (.int q.a, S0) := b2_val (S1 := S0) (S2 := S0) (a := pD q) (b := .int 2) rfl rfl ix2
    have a3 : b2 dSub2 (rd 3) (cst (.int 3)) [some P, some T, none, some (pD q), none, none, none] S0 = some (.int q.b, S0) := b2_val (S1 := S0) (S2 := S0) (a := pD q) (b := .int 3) rfl rfl ix3
    exact mkT_val (aC_val a0 (aC1 (cN_val (aC_val a0 (aC_val a1 (aC_val a2 (aC1 a3)))) (post_told_eq q))))
  rw [filter_all] at e1
  have e2 : dDictK [.list (qs.map fun q => .tuple [.str q.n, pD (fixP q)])] = some (.dict (qs.map fun q => (.str q.n, pD (fixP q)))) := by
    unfold dDictK
    dsimp only
    rw [pairs_enc (enc := fun q : Po => .str q.n) (v := fun q => pD (fixP q)) qs]
    dsimp only
    have e0 := puts_nodup good_str.eqv Po.n (fun q => pD (fixP q)) qs [] (by rw [List.nil_append]; exact nq)
    rw [List.nil_append, List.map_nil] at e0
    rw [if_pos, e0]
    rw [List.all_map, List.all_eq_true]
    intro p _
    rfl
  -- ties
  have e3 : lcE [5] (iE (rd 1)) (sN 5) bT (mkT (aC (cN dTuple (aC (cN dSortedB (aC (rd 5) aN)) aN)) (aC (cst (.bool true)) aN))) [some P, some T, some (.dict (qs.map fun q => (.str q.n, pD (fixP q)))), none, none, none, none] S0 =
      some (.list ((ls.filter fun _ => true).map fun p => .tuple [prS (ordP p), .bool true]), S0) := by
    refine lc_map prS (fun _ => true) (fun p => .tuple [prS (ordP p), .bool true]) (S := S0) (iE_val (d := T) rfl hT) (by omega) fun p _ => ⟨_, rfl, rfl, fun _ => ?_⟩
    exact mkT_val (aC_val (S1 := S0) (cN_val (aC1 (S1 := S0) (cN_val (aC1 (S1 := S0) (d := prS p) rfl) (sort2T p))) rfl) rfl)
  rw [filter_all] at e3
  obtain ⟨us, u1, u2, u3, u4⟩ := keys_puts (enc := prS) (fun a b => good_prS.eqv a b) (fun _ => .bool true) (ls.map ordP) [] [] rfl .nil
  have e4 : dDictT [.list (ls.map fun p => .tuple [prS (ordP p), .bool true])] = some (.dict ((.none, .none) :: putsD [] ((ls.map ordP).map fun p => (prS p, .bool true)))) := by
    have hk : (((ls.map ordP).map fun p => (prS p, PyData.bool true)).all fun p => isTk p.1) = true := by
      rw [List.all_map, List.all_eq_true]
      intro p _
      rfl
    unfold dDictT
    dsimp only
    have := pairs_enc (enc := prS) (v := fun _ => .bool true) (ls.map ordP)
    rw [List.map_map] at this
    rw [show (ls.map fun p => PyData.tuple [prS (ordP p), .bool true]) = ls.map ((fun x => PyData.tuple [prS x, .bool true]) ∘ ordP) from rfl, this]
    dsimp only
    rw [if_pos hk, puts_T hk]
  have hus : oSort prS us = ts := by
    refine ord_prS.uniqLt (oSort_lt u2) ht fun z => ?_
    rw [(oSort_perm us).mem_iff, u3, hm]
    simp only [List.not_mem_nil, false_or, List.mem_map]
  have hs : oSort sS (qs.map Po.n) = zs.map Po.n := ord_str.uniq hqn (lt_le hzn)
  -- the body
  let ρ0 : Rho := [some P, some T, none, none, none, none, none]
  let KD : D := .dict (qs.map fun q => (.str q.n, pD (fixP q)))
  let PD : D := .dict ((.none, .none) :: putsD [] ((ls.map ordP).map fun p => (prS p, .bool true)))
  refine runP_rt (ρ := ρ0) (S := S0) rfl ?_
  unfold g_web_told
  refine (gSeq_nx (ρ1 := [some P, some T, some KD, none, none, none, none]) (S1 := S0) (gSet_val (d := KD) (cN_val (aC1 e1) e2))).trans ?_
  refine (gSeq_nx (ρ1 := [some P, some T, some KD, none, some PD, none, none]) (S1 := S0) (gSet_val (d := PD) (cN_val (aC1 e3) e4))).trans ?_
  have e5 : lcE [6] (iE (cN dSortedB (aC (rd 2) aN))) (sN 6) bT (b2 dSub2 (rd 2) (rd 6)) [some P, some T, some KD, none, some PD, none, none] S0 = some (.list ((zs.filter fun _ => true).map pD), S0) := by
    refine lc_map (fun z : Po => .str z.n) (fun _ => true) pD (S := S0) (iE_val (d := lS (zs.map Po.n)) (cN_val (aC1 (d := KD) rfl) ?_) ?_) (by omega) fun z hzz => ⟨_, rfl, rfl, fun _ => ?_⟩
    · have := sorted_keysK (kvs := qs.map fun q => (PyData.str q.n, pD (fixP q))) (xs := qs.map Po.n) (by rw [List.map_map, List.map_map]; rfl)
      rw [hs] at this
      exact this
    · show some ((zs.map Po.n).map PyData.str) = _
      rw [List.map_map]
      rfl
    · obtain ⟨q, hq', rfl⟩ := List.mem_map.mp (hp.symm.subset hzz)
      refine b2_val (S1 := S0) (S2 := S0) (a := KD) (b := .str (fixP q).n) rfl rfl ?_
      rw [fixP_n]
      have hk : okKey (qs.map fun q => (PyData.str q.n, pD (fixP q))) (.str q.n) = true := by
        unfold okKey
        have ek : isT (qs.map fun q => (PyData.str q.n, pD (fixP q))) = false := by
          cases qs <;> rfl
        rw [ek]
        rfl
      show dGet KD (.str q.n) = _
      show (if okKey (qs.map fun q => (PyData.str q.n, pD (fixP q))) (.str q.n) = true then lookD (qs.map fun q => (PyData.str q.n, pD (fixP q))) (.str q.n) else none) = _
      rw [if_pos hk]
      exact look_enc good_str.eqv Po.n (fun q => pD (fixP q)) nq hq'
  rw [filter_all] at e5
  have e6 : cN dSortedB (aC (rd 4) aN) [some P, some T, some KD, none, some PD, none, none] S0 = some (.list (ts.map prS), S0) := by
    refine cN_val (aC1 (d := PD) rfl) ?_
    have := sorted_keysT (v := .none) u1
    rw [hus] at this
    exact this
  exact gRet_val (mkT_val (aC_val (cN_val (aC1 e5) rfl) (aC1 (cN_val (aC1 e6) rfl))))
end LW

set_option Elab.async false
set_option linter.all false
set_option maxRecDepth 100000
set_option maxHeartbeats 4000000
namespace LW
open PySem PySem.Spec PyProof.Rows L2 TL

theorem drop_cut {ds : List D} {i : Nat} (hi : i ≤ ds.length) : dSl (.list ds) (some (i : Int)) none = some (.list (ds.drop i)) := by
  show some (PyData.list (TL.cutD ds (some (i : Int)) none)) = _
  unfold TL.cutD
  rw [HT.sIx_nat, HT.sIx_none]
  congr 2
  rw [Nat.min_eq_left hi]
  exact List.take_of_length_le (by rw [List.length_drop]; exact Nat.le_refl _)
theorem drop_cutT {ds : List D} {i : Nat} (hi : i ≤ ds.length) : dSl (.tuple ds) (some (i : Int)) none = some (.tuple (ds.drop i)) := by
  show some (PyData.tuple (TL.cutD ds (some (i : Int)) none)) = _
  unfold TL.cutD
  rw [HT.sIx_nat, HT.sIx_none]
  congr 2
  rw [Nat.min_eq_left hi]
  exact List.take_of_length_le (by rw [List.length_drop]; exact Nat.le_refl _)
theorem take_cut {ds : List D} {i : Nat} : dSl (.list ds) none (some (i : Int)) = some (.list (ds.take i)) := by
  show some (PyData.list (TL.cutD ds none (some (i : Int)))) = _
  unfold TL.cutD
  rw [HT.sIx_nat, HT.sIx_none]
  congr 2
  rw [List.drop_zero, Nat.sub_zero]
  by_cases h : i ≤ ds.length
  · rw [Nat.min_eq_left h]
  · rw [Nat.min_eq_right (by omega), List.take_of_length_le (Nat.le_refl _), List.take_of_length_le (by omega)]
theorem gExt_val {i : Nat} {f : FE} {ρ : Rho} {S S1 : Src} {es ds : List D} (e : f ρ S = some (.list es, S1)) (h : ρ[i]? = some (some (.list ds))) (hl : ds.length + es.length ≤ 100000) : gExt i f ρ S = some (.nx (ρ.set i (some (.list (ds ++ es)))) S1) := by
  unfold gExt
  rw [e]
  dsimp only
  rw [h]
  exact if_pos (Nat.le_trans hl (by decide))
theorem enumD_at {ds : List D} {i : Nat} {d : D} (h : (enumD 0 ds)[i]? = some d) : ∃ x, ds[i]? = some x ∧ d = .tuple [.int (i : Nat), x] := by
  have hl : i < ds.length := by
    have := (List.getElem?_eq_some_iff.mp h).1
    rwa [enumD_len] at this
  refine ⟨ds[i], List.getElem?_eq_getElem hl, ?_⟩
  have := enumD_get ds 0 i ds[i] (List.getElem?_eq_getElem hl)
  rw [h] at this
  cases this
  rw [Nat.zero_add]
/-! ### pairs of a row -/
def pairsOf {α : Type} : List α → List (α × α)
  | [] => []
  | x :: xs => xs.map (fun y => (x, y)) ++ pairsOf xs
def pairsUp {α : Type} (xs : List α) (i : Nat) : List (α × α) := (List.range i).flatMap fun j => match xs[j]? with
  | some x => (xs.drop (j + 1)).map fun y => (x, y)
  | none => []
theorem pairsUp_all {α : Type} : ∀ xs : List α, pairsUp xs xs.length = pairsOf xs
  | [] => rfl
  | x :: xs => by
    unfold pairsUp
    rw [List.length_cons, List.range_succ_eq_map, List.flatMap_cons, List.flatMap_map, pairsOf, ← pairsUp_all xs]
    rfl
theorem pairsUp_succ {α : Type} {xs : List α} {i : Nat} {x : α} (h : xs[i]? = some x) : pairsUp xs (i + 1) = pairsUp xs i ++ (xs.drop (i + 1)).map fun y => (x, y) := by
  unfold pairsUp
  rw [List.range_succ, List.flatMap_append, List.flatMap_cons, List.flatMap_nil, List.append_nil, h]
theorem pairsOf_mem {xs : List Str} (h : xs.Pairwise (oLt sS)) {p : Str × Str} : p ∈ pairsOf xs ↔ p.1 ∈ xs ∧ p.2 ∈ xs ∧ oLt sS p.1 p.2 := by
  induction xs with
  | nil => simp [pairsOf]
  | cons x xs ih =>
    rw [List.pairwise_cons] at h
    rw [pairsOf, List.mem_append, ih h.2, List.mem_map, List.mem_cons, List.mem_cons]
    constructor
    · rintro (⟨y, hy, rfl⟩ | ⟨h1, h2, h3⟩)
      · exact ⟨.inl rfl, .inr hy, h.1 y hy⟩
      · exact ⟨.inr h1, .inr h2, h3⟩
    · rintro ⟨h1 | h1, h2 | h2, h3⟩
      · rw [h1, h2] at h3; exact absurd rfl h3.2
      · exact .inl ⟨p.2, h2, by rw [← h1]⟩
      · rw [h2] at h3; exact (ord_str.asymm h3 (h.1 _ h1)).elim
      · exact .inr ⟨h1, h2, h3⟩
theorem lt_prS {p q : Str × Str} : oLt prS p q ↔ oLt sS p.1 q.1 ∨ (p.1 = q.1 ∧ oLt sS p.2 q.2) := by
  unfold oLt
  rw [oLe_prS]
  constructor
  · rintro ⟨⟨n, h⟩ | ⟨e, h⟩, hn⟩
    · exact .inl ⟨h, n⟩
    · exact .inr ⟨e, h, fun e2 => hn (Prod.ext e e2)⟩
  · rintro (⟨h, n⟩ | ⟨e, h, n⟩)
    · exact ⟨.inl ⟨n, h⟩, fun e => n (congrArg Prod.fst e)⟩
    · exact ⟨.inr ⟨e, h⟩, fun e2 => n (congrArg Prod.snd e2)⟩
theorem pairsOf_lt {xs : List Str} (h : xs.Pairwise (oLt sS)) : (pairsOf xs).Pairwise (oLt prS) := by
  induction xs with
  | nil => exact .nil
  | cons x xs ih =>
    have h0 := h
    rw [List.pairwise_cons] at h
    rw [pairsOf, List.pairwise_append]
    refine ⟨List.pairwise_map.mpr (h.2.imp fun {a b} (q : oLt sS a b) => (lt_prS.mpr (.inr ⟨rfl, q⟩) : oLt prS (x, a) (x, b))), ih h.2, fun p hp q hq => ?_⟩
    obtain ⟨y, _, rfl⟩ := List.mem_map.mp hp
    exact lt_prS.mpr (.inl (h.1 _ ((pairsOf_mem h.2).mp hq).1))
theorem pairsOf_len {α : Type} : ∀ xs : List α, (pairsOf xs).length ≤ xs.length * xs.length
  | [] => Nat.zero_le _
  | x :: xs => by
    have := pairsOf_len xs
    rw [pairsOf, List.length_append, List.length_map, List.length_cons, Nat.mul_add, Nat.add_mul]
    omega
/-- the ties of names by a relation -/
def tsOf (xs : List Str) (R : Str → Str → Bool) : List (Str × Str) := (pairsOf xs).filter fun p => R p.1 p.2
def Sym (R : Str → Str → Bool) : Prop := ∀ a b, R a b = R b a
theorem tsOf_lt {xs : List Str} {R : Str → Str → Bool} (h : xs.Pairwise (oLt sS)) : (tsOf xs R).Pairwise (oLt prS) := (pairsOf_lt h).sublist List.filter_sublist
theorem tsOf_len (xs : List Str) (R : Str → Str → Bool) : (tsOf xs R).length ≤ xs.length * xs.length := Nat.le_trans (List.length_filter_le _ _) (pairsOf_len xs)
theorem tsOf_mem {xs : List Str} {R : Str → Str → Bool} (h : xs.Pairwise (oLt sS)) {p : Str × Str} : p ∈ tsOf xs R ↔ (p.1 ∈ xs ∧ p.2 ∈ xs ∧ oLt sS p.1 p.2) ∧ R p.1 p.2 = true := by
  unfold tsOf
  rw [List.mem_filter, pairsOf_mem h]
theorem tied_tsOf {xs : List Str} {R : Str → Str → Bool} (h : xs.Pairwise (oLt sS)) (s : Sym R) {a b : Str} : tiedS (tsOf xs R) a b = (decide (a ∈ xs) && decide (b ∈ xs) && !decide (a = b) && R a b) := by
  unfold tiedS
  rw [Bool.eq_iff_iff, decide_eq_true_eq, tsOf_mem h]
  simp only [Bool.and_eq_true, decide_eq_true_eq, Bool.not_eq_true', decide_eq_false_iff_not]
  unfold ordP
  dsimp only
  split
  · rename_i q
    exact ⟨fun ⟨⟨h1, h2, h3⟩, h4⟩ => ⟨⟨⟨h1, h2⟩, h3.2⟩, h4⟩, fun ⟨⟨⟨h1, h2⟩, h3⟩, h4⟩ => ⟨⟨h1, h2, q, h3⟩, h4⟩⟩
  · rename_i q
    have q' := (oLe_total sS a b).resolve_left q
    exact ⟨fun ⟨⟨h1, h2, h3⟩, h4⟩ => ⟨⟨⟨h2, h1⟩, fun e => h3.2 e.symm⟩, by rw [s a b]; exact h4⟩, fun ⟨⟨⟨h1, h2⟩, h3⟩, h4⟩ => ⟨⟨h2, h1, q', fun e => h3 e.symm⟩, by rw [s b a]; exact h4⟩⟩
theorem tied_in {xs : List Str} {R : Str → Str → Bool} (h : xs.Pairwise (oLt sS)) (s : Sym R) {a b : Str} (ha : a ∈ xs) (hb : b ∈ xs) (n : a ≠ b) : tiedS (tsOf xs R) a b = R a b := by
  rw [tied_tsOf h s, decide_eq_true ha, decide_eq_true hb, decide_eq_false n]
  simp
theorem tied_sym (ts : List (Str × Str)) : Sym (tiedS ts) := fun a b => by unfold tiedS; rw [ordP_swap]
theorem tsOf_congr {xs : List Str} {R R' : Str → Str → Bool} (h : xs.Pairwise (oLt sS)) (e : ∀ a ∈ xs, ∀ b ∈ xs, a ≠ b → R a b = R' a b) : tsOf xs R = tsOf xs R' := by
  unfold tsOf
  refine List.filter_congr fun p hp => ?_
  have := (pairsOf_mem h).mp hp
  exact e _ this.1 _ this.2.1 this.2.2.2
theorem pairsOf_filter {α : Type} (q : α → Bool) : ∀ xs : List α, pairsOf (xs.filter q) = (pairsOf xs).filter fun p => q p.1 && q p.2
  | [] => rfl
  | x :: xs => by
    rw [pairsOf, List.filter_append, ← pairsOf_filter q xs]
    by_cases h : q x = true
    · rw [List.filter_cons_of_pos h, pairsOf]
      congr 1
      rw [List.filter_map]
      congr 1
      refine (List.filter_congr fun y _ => ?_)
      show q y = (q x && q y)
      rw [h, Bool.true_and]
    · rw [List.filter_cons_of_neg h]
      have : (xs.map fun y => (x, y)).filter (fun p => q p.1 && q p.2) = [] := by
        rw [List.filter_eq_nil_iff]
        intro p hp
        obtain ⟨y, _, rfl⟩ := List.mem_map.mp hp
        rw [Bool.not_eq_true] at h
        dsimp only
        rw [h]
        exact Bool.false_ne_true
      rw [this, List.nil_append]
/-! ### over a web -/
def ovP (z : Po) : Po := fixP { z with k := !z.k }
theorem tab_kD (k : Bool) : dTab [("apart", "tied"), ("tied", "apart")] (kD k) = some (kD (!k)) := by
  cases k <;> rfl
theorem web_over_eq {zs : List Po} {ts : List (Str × Str)} (hz : zs.Pairwise fun x y => oLt sS x.n y.n) (hl : zs.length ≤ 100) : m_web_over [wD zs ts] = some (wD (zs.map ovP) (tsOf (zs.map Po.n) fun a b => !tiedS ts a b)) := by
  have hzn : (zs.map Po.n).Pairwise (oLt sS) := List.pairwise_map.mpr hz
  have h0 := names_of_eq (ts := ts) (zs := zs) (by omega)
  let xs := zs.map Po.n
  have hxl : xs.length ≤ 100 := by show (zs.map Po.n).length ≤ 100; rw [List.length_map]; exact hl
  let r : Str × Str → Bool := fun p => !tiedS ts p.1 p.2
  have hpl : ∀ i, ((pairsUp xs i).filter r).length ≤ 10000 ∨ xs.length < i := fun i => by
    by_cases hi : i ≤ xs.length
    · left
      have h1 : (pairsUp xs i).Sublist (pairsUp xs xs.length) := by
        show List.Sublist ((List.range i).flatMap _) ((List.range xs.length).flatMap _)
        rw [show xs.length = i + (xs.length - i) by omega, List.range_add, List.flatMap_append]
        exact List.sublist_append_left _ _
      have h2 := h1.length_le
      rw [pairsUp_all] at h2
      have h3 := pairsOf_len xs
      have h4 : xs.length * xs.length ≤ 100 * 100 := Nat.mul_le_mul hxl hxl
      have h5 := List.length_filter_le r (pairsUp xs i)
      omega
    · exact .inr (by omega)
  have hpar : gPar [1, 2] (aC (cN m_names_of (aC (rd 0) aN)) (aM (mkL aN) aN)) [some (wD zs ts), none, none, none, none, none, none, none, none, none] S0 = some (.nx [some (wD zs ts), some (tS xs), some (.list []), none, none, none, none, none, none, none] S0) :=
    gPar_val (aC_val (cN_val (aC1 (d := wD zs ts) rfl) h0) (aM_val (d := .list []) rfl rfl))
  obtain ⟨ρ', S', hf, hinv⟩ := forL_inv (st := sT (sC (sN 3) (sC (sN 4) s0))) (g := gExt 2 (lcE [5] (iE (sl3 (rd 1) (pS (b2 dAdd (rd 3) (cst (.int 1)))) pN)) (sN 5) (fNot (tst (cN m_are_tied (aC (rd 0) (aC (rd 4) (aC (rd 5) aN)))))) (mkT (aC (rd 4) (aC (rd 5) aN)))))
    (ds := enumD 0 (xs.map .str)) (fun i ρ S => S = S0 ∧ ∃ x y, ρ = [some (wD zs ts), some (tS xs), some (.list (((pairsUp xs i).filter r).map prS)), x, y, none, none, none, none, none]) (fun i d ρ S hd ⟨hS, x, y, hρ⟩ => by
      subst hS hρ
      obtain ⟨o, ho, rfl⟩ := enumD_at hd
      rw [List.getElem?_map] at ho
      obtain ⟨one, hone, rfl⟩ := Option.map_eq_some_iff.mp ho
      clear ho
      have ho : xs[i]? = some one := hone
      have hi : i < xs.length := (List.getElem?_eq_some_iff.mp ho).1
      refine ⟨[some (wD zs ts), some (tS xs), some (.list (((pairsUp xs i).filter r).map prS)), some (.int (i : Nat)), some (.str one), none, none, none, none, none], rfl, _, S0, gExt_val (es := (((xs.drop (i + 1)).filter fun o => r (one, o)).map fun o => prS (one, o))) ?_ rfl ?_, rfl, some (.int (i : Nat)), some (.str one), ?_⟩
      · refine lc_map .str (fun o => r (one, o)) (fun o => prS (one, o)) (S := S0) (xs := xs.drop (i + 1)) ?_ (by rw [List.length_drop]; omega) fun o _ => ?_
        · refine iE_val (d := .tuple ((xs.drop (i + 1)).map .str)) (sl3_val (S1 := S0) (S2 := S0) (a := tS xs) (l := some ((i + 1 : Nat) : Int)) rfl (pS_val (b2_val (S1 := S0) (S2 := S0) (a := .int (i : Nat)) (b := .int 1) rfl rfl ?_)) rfl ?_) rfl
          · show some (PyData.int ((i : Nat) + 1)) = _
            rfl
          · show dSl (.tuple (xs.map PyData.str)) _ _ = _
            rw [drop_cutT (by rw [List.length_map]; omega), List.map_drop]
        · refine ⟨[some (wD zs ts), some (tS xs), some (.list (((pairsUp xs i).filter r).map prS)), some (.int (i : Nat)), some (.str one), some (.str o), none, none, none, none], rfl, ?_, fun _ => rfl⟩
          have := are_tied_eq (zs := zs) (ts := ts) one o
          have h1 : tst (cN m_are_tied (aC (rd 0) (aC (rd 4) (aC (rd 5) aN)))) [some (wD zs ts), some (tS xs), some (.list (((pairsUp xs i).filter r).map prS)), some (.int (i : Nat)), some (.str one), some (.str o), none, none, none, none] S0 = some (tiedS ts one o, S0) :=
            tst_val (cN_val (ds := [wD zs ts, .str one, .str o]) rfl this)
          unfold fNot
          rw [h1]
      · have h1 := (hpl i).resolve_right (by omega)
        have h2 := List.length_filter_le (fun o => r (one, o)) (xs.drop (i + 1))
        rw [List.length_drop] at h2
        rw [List.length_map, List.length_map]
        omega
      · rw [pairsUp_succ ho, List.filter_append, List.map_append, List.filter_map, List.map_map]
        rfl) (ρ := [some (wD zs ts), some (tS xs), some (.list []), none, none, none, none, none, none, none]) (S := S0) ⟨rfl, none, none, rfl⟩
  rw [enumD_len, List.length_map, pairsUp_all] at hinv
  obtain ⟨rfl, x, y, rfl⟩ := hinv
  have hfor : gFor (iEnG (aC (rd 1) aN)) (sT (sC (sN 3) (sC (sN 4) s0))) (gExt 2 (lcE [5] (iE (sl3 (rd 1) (pS (b2 dAdd (rd 3) (cst (.int 1)))) pN)) (sN 5) (fNot (tst (cN m_are_tied (aC (rd 0) (aC (rd 4) (aC (rd 5) aN)))))) (mkT (aC (rd 4) (aC (rd 5) aN)))))
      [some (wD zs ts), some (tS xs), some (.list []), none, none, none, none, none, none, none] S0 = some (.nx [some (wD zs ts), some (tS xs), some (.list (((pairsOf xs).filter r).map prS)), x, y, none, none, none, none, none] S0) := by
    rw [gFor_val (S1 := S0) (ds := enumD 0 (xs.map .str)) rfl]
    exact hf
  refine runP_rt (ρ := [some (wD zs ts), none, none, none, none, none, none, none, none, none]) (S := S0) rfl ((gSeq_nx hpar).trans ((gSeq_nx hfor).trans (gRet_val ?_)))
  have e1 : lcE [6, 7, 8, 9] (iE (b2 dSub2 (rd 0) (cst (.int 0)))) (sT (sC (sN 6) (sC (sN 7) (sC (sN 8) (sC (sN 9) s0))))) bT (mkT (aC (rd 6) (aC (u1 (dTab [("apart", "tied"), ("tied", "apart")]) (rd 7)) (aC (rd 8) (aC (rd 9) aN)))))
      [some (wD zs ts), some (tS xs), some (.list (((pairsOf xs).filter r).map prS)), x, y, none, none, none, none, none] S0 = some (.list ((zs.filter fun _ => true).map fun z => pD { z with k := !z.k }), S0) := by
    refine lc_map pD (fun _ => true) (fun z => pD { z with k := !z.k }) (S := S0) (iE_val (d := .tuple (zs.map pD)) (b2_val (S1 := S0) (S2 := S0) (a := wD zs ts) (b := .int 0) rfl rfl ix0) rfl) (by omega) fun z _ => ⟨[some (wD zs ts), some (tS xs), some (.list (((pairsOf xs).filter r).map prS)), x, y, none, some (.str z.n), some (kD z.k), some (.int z.a), some (.int z.b)], rfl, rfl, fun _ => ?_⟩
    refine mkT_val (aC_val (S1 := S0) rfl (aC_val (S1 := S0) (d := kD (!z.k)) ?_ rfl))
    unfold u1
    rw [show rd 7 [some (wD zs ts), some (tS xs), some (.list (((pairsOf xs).filter r).map prS)), x, y, none, some (.str z.n), some (kD z.k), some (.int z.a), some (.int z.b)] S0 = some (kD z.k, S0) from rfl]
    dsimp only
    rw [tab_kD]
  rw [filter_all] at e1
  refine cN_val (aC_val e1 (aC1 (d := .list (((pairsOf xs).filter r).map prS)) rfl)) ?_
  have hov : (zs.map ovP).map Po.n = zs.map Po.n := by
    rw [List.map_map]
    exact List.map_congr_left fun z _ => fixP_n _
  refine web_told_eq (qs := zs.map fun z => { z with k := !z.k }) (ls := (pairsOf xs).filter r) ?_ rfl (by rw [List.length_map]; omega) ?_ ?_ ?_ (tsOf_lt hzn) fun p => ?_
  · show some _ = some _
    rw [List.map_map]
    rfl
  · have h3 := List.length_filter_le r (pairsOf xs)
    have h4 := pairsOf_len xs
    have h5 : xs.length * xs.length ≤ 100 * 100 := Nat.mul_le_mul hxl hxl
    omega
  · rw [← List.pairwise_map, hov]
    exact hzn
  · rw [List.map_map]
    exact .refl _
  · show p ∈ (pairsOf xs).filter r ↔ _
    constructor
    · intro h
      exact ⟨p, h, ordP_lt ((pairsOf_mem hzn).mp (List.mem_filter.mp h).1).2.2⟩
    · rintro ⟨q, h, rfl⟩
      rw [ordP_lt ((pairsOf_mem hzn).mp (List.mem_filter.mp h).1).2.2]
      exact h
end LW

set_option Elab.async false
set_option linter.all false
set_option maxRecDepth 100000
set_option maxHeartbeats 4000000
namespace LW
open PySem PySem.Spec PyProof.Rows L2 TL

/-! ### lots, as lists or tuples -/
structure IsLot (L : D) (lot : List Str) : Prop where
  it : items L = some (lot.map .str)
  nin : ∀ p, dNotInD (.str p) L = some (.bool (!decide (p ∈ lot)))
  isin : ∀ p, dInD (.str p) L = some (.bool (decide (p ∈ lot)))
  i0 : ∀ a r, lot = a :: r → dSub2 L (.int 0) = some (.str a)
  len : dLen [L] = some (.int lot.length)
  lst : dListA [L] = some (lS lot)
  tup : dTuple [L] = some (tS lot)
  srt : dSortedB [L] = some (lS (oSort sS lot))
  seq : ∃ t, seqD L = some (t, lot.map .str)
  cut : ∀ i : Nat, i ≤ lot.length → ∃ L', dSl L (some (i : Int)) none = some L' ∧ items L' = some ((lot.drop i).map .str)
theorem lot_tS (lot : List Str) : IsLot (tS lot) lot := ⟨rfl, fun p => good_str.ntup, fun p => good_str.tup, fun a r e => by rw [e]; exact ix0, by unfold dLen tS; simp, rfl, rfl, ord_str.sortT lot, ⟨_, rfl⟩, fun i hi => ⟨_, drop_cutT (by rw [List.length_map]; exact hi), by show some _ = some _; rw [List.map_drop]⟩⟩
theorem lot_lS (lot : List Str) : IsLot (lS lot) lot := ⟨rfl, fun p => good_str.nlst, fun p => good_str.lst, fun a r e => by rw [e]; exact ixl0, by unfold dLen lS; simp, rfl, rfl, ord_str.sortL lot, ⟨_, rfl⟩, fun i hi => ⟨_, drop_cut (by rw [List.length_map]; exact hi), by show some _ = some _; rw [List.map_drop]⟩⟩
/-! ### a web without some posts -/
theorem web_without_eq {zs : List Po} {ts : List (Str × Str)} {L : D} {lot : List Str} (hz : zs.Pairwise fun x y => oLt sS x.n y.n) (hl : zs.length ≤ 100) (hf : ∀ z ∈ zs, fixP z = z) (ht : ts.Pairwise (oLt prS)) (ho : ∀ p ∈ ts, oLt sS p.1 p.2) (htl : ts.length ≤ 10000) (hL : IsLot L lot) :
    m_web_without [wD zs ts, L] = some (wD (zs.filter fun z => !decide (z.n ∈ lot)) (ts.filter fun p => !decide (p.1 ∈ lot) && !decide (p.2 ∈ lot))) := by
  let q : Str × Str → Bool := fun p => !decide (p.1 ∈ lot) && !decide (p.2 ∈ lot)
  have e1 : lcE [3, 4] (iE (b2 dSub2 (rd 0) (cst (.int 1)))) (sT (sC (sN 3) (sC (sN 4) s0))) (fAnd (tst (b2 dNotInD (rd 3) (rd 1))) (tst (b2 dNotInD (rd 4) (rd 1)))) (mkT (aC (rd 3) (aC (rd 4) aN))) [some (wD zs ts), some L, none, none, none, none] S0 =
      some (.list ((ts.filter q).map prS), S0) := by
    refine lc_map prS q prS (S := S0) (iE_val (d := .tuple (ts.map prS)) (b2_val (S1 := S0) (S2 := S0) (a := wD zs ts) (b := .int 1) rfl rfl ix1) rfl) (by omega) fun p _ => ⟨[some (wD zs ts), some L, none, some (.str p.1), some (.str p.2), none], rfl, ?_, fun _ => rfl⟩
    exact fAnd_val (tst_val (b2_val (S1 := S0) (S2 := S0) (a := .str p.1) (b := L) rfl rfl (hL.nin p.1))) (tst_val (b2_val (S1 := S0) (S2 := S0) (a := .str p.2) (b := L) rfl rfl (hL.nin p.2)))
  refine runP_rt (ρ := [some (wD zs ts), some L, none, none, none, none]) (S := S0) rfl ((gSeq_nx (gSet_val e1)).trans (gRet_val ?_))
  have e2 : lcE [5] (iE (b2 dSub2 (rd 0) (cst (.int 0)))) (sN 5) (tst (b2 dNotInD (b2 dSub2 (rd 5) (cst (.int 0))) (rd 1))) (rd 5) [some (wD zs ts), some L, some (.list ((ts.filter q).map prS)), none, none, none] S0 = some (.list ((zs.filter fun z => !decide (z.n ∈ lot)).map pD), S0) := by
    refine lc_map pD _ pD (S := S0) (iE_val (d := .tuple (zs.map pD)) (b2_val (S1 := S0) (S2 := S0) (a := wD zs ts) (b := .int 0) rfl rfl ix0) rfl) (by omega) fun z _ => ⟨[some (wD zs ts), some L, some (.list ((ts.filter q).map prS)), none, none, some (pD z)], rfl, ?_, fun _ => rfl⟩
    exact tst_val (b2_val (S1 := S0) (S2 := S0) (a := .str z.n) (b := L) (b2_val (S1 := S0) (S2 := S0) (a := pD z) (b := .int 0) rfl rfl ix0) rfl (hL.nin z.n))
  refine cN_val (aC_val e2 (aC1 (d := .list ((ts.filter q).map prS)) rfl)) ?_
  refine web_told_eq (qs := zs.filter fun z => !decide (z.n ∈ lot)) (ls := ts.filter q) rfl rfl ?_ ?_ (hz.sublist List.filter_sublist) ?_ (ht.sublist List.filter_sublist) fun p => ?_
  · exact Nat.le_trans (List.length_filter_le _ _) (by omega)
  · exact Nat.le_trans (List.length_filter_le _ _) (by omega)
  · have e : (zs.filter fun z => !decide (z.n ∈ lot)).map fixP = zs.filter fun z => !decide (z.n ∈ lot) := by
      have := List.map_congr_left (l := zs.filter fun z => !decide (z.n ∈ lot)) (f := fixP) (g := id) fun z hz' => hf z (List.mem_filter.mp hz').1
      rwa [List.map_id] at this
    rw [e]
  · constructor
    · intro h
      exact ⟨p, h, ordP_lt (ho p (List.mem_filter.mp h).1)⟩
    · rintro ⟨p', h, rfl⟩
      rw [ordP_lt (ho p' (List.mem_filter.mp h).1)]
      exact h
/-! ### canonical webs -/
structure WebOk (zs : List Po) : Prop where
  lt : zs.Pairwise fun x y => oLt sS x.n y.n
  len : zs.length ≤ 100
  fix : ∀ z ∈ zs, fixP z = z
def cw (zs : List Po) (R : Str → Str → Bool) : D := wD zs (tsOf (zs.map Po.n) R)
section
variable {zs : List Po} {R : Str → Str → Bool}
theorem WebOk.nms (h : WebOk zs) : (zs.map Po.n).Pairwise (oLt sS) := List.pairwise_map.mpr h.lt
theorem WebOk.nd (h : WebOk zs) : (zs.map Po.n).Nodup := lt_nodup h.nms
theorem WebOk.tl (h : WebOk zs) : (tsOf (zs.map Po.n) R).length ≤ 10000 := by
  have h1 := tsOf_len (zs.map Po.n) R
  have h2 := h.len
  rw [List.length_map] at h1
  have h3 : zs.length * zs.length ≤ 100 * 100 := Nat.mul_le_mul h2 h2
  omega
theorem ovP_fix (z : Po) : fixP (ovP z) = ovP z := by
  unfold ovP fixP
  by_cases q : z.a = 0 ∧ z.b = 1
  · simp [q]
  · simp [q]
theorem ovP_n (z : Po) : (ovP z).n = z.n := fixP_n _
theorem ov_names (zs : List Po) : (zs.map ovP).map Po.n = zs.map Po.n := by
  rw [List.map_map]
  exact List.map_congr_left fun z _ => ovP_n z
theorem WebOk.ov (h : WebOk zs) : WebOk (zs.map ovP) := ⟨by rw [← List.pairwise_map, ov_names]; exact h.nms, by rw [List.length_map]; exact h.len, fun z hz => by
  obtain ⟨y, _, rfl⟩ := List.mem_map.mp hz
  exact ovP_fix y⟩
theorem WebOk.sub (h : WebOk zs) (q : Po → Bool) : WebOk (zs.filter q) := ⟨h.lt.sublist List.filter_sublist, Nat.le_trans (List.length_filter_le _ _) h.len, fun z hz => h.fix z (List.mem_filter.mp hz).1⟩
theorem cw_over (h : WebOk zs) (s : Sym R) : m_web_over [cw zs R] = some (cw (zs.map ovP) fun a b => !R a b) := by
  unfold cw
  rw [web_over_eq h.lt h.len, ov_names]
  congr 2
  refine tsOf_congr h.nms fun a ha b hb n => ?_
  rw [tied_in h.nms s ha hb n]
theorem filter_names (q : Str → Bool) (zs : List Po) : (zs.filter fun z => q z.n).map Po.n = (zs.map Po.n).filter q := by
  rw [List.filter_map]
  rfl
theorem cw_without (h : WebOk zs) {L : D} {lot : List Str} (hL : IsLot L lot) : m_web_without [cw zs R, L] = some (cw (zs.filter fun z => !decide (z.n ∈ lot)) R) := by
  unfold cw
  rw [web_without_eq h.lt h.len h.fix (tsOf_lt h.nms) (fun p hp => ((tsOf_mem h.nms).mp hp).1.2.2) h.tl hL, filter_names (fun n => !decide (n ∈ lot))]
  congr 2
  unfold tsOf
  rw [pairsOf_filter, List.filter_filter, List.filter_filter]
  refine List.filter_congr fun p _ => ?_
  rw [Bool.and_comm]
theorem cw_names (h : WebOk zs) : m_names_of [cw zs R] = some (tS (zs.map Po.n)) := names_of_eq (by have := h.len; omega)
theorem cw_tied (h : WebOk zs) (s : Sym R) {a b : Str} (ha : a ∈ zs.map Po.n) (hb : b ∈ zs.map Po.n) (n : a ≠ b) : m_are_tied [cw zs R, .str a, .str b] = some (.bool (R a b)) := by
  unfold cw
  rw [are_tied_eq, tied_in h.nms s ha hb n]
theorem cw_near (h : WebOk zs) (s : Sym R) {a : Str} (ha : a ∈ zs.map Po.n) : m_neighbours [cw zs R, .str a] = some (tS ((zs.map Po.n).filter fun o => !decide (o = a) && R a o)) := by
  unfold cw
  rw [neighbours_eq (by have := h.len; omega)]
  congr 2
  refine List.filter_congr fun o ho => ?_
  by_cases e : o = a
  · simp [e]
  · rw [tied_in h.nms s ha ho fun q => e q.symm]
theorem cw_post (h : WebOk zs) {z : Po} (hz : z ∈ zs) : m_post_of [cw zs R, .str z.n] = some (pD z) := post_of_eq (by have := h.len; omega) h.nd hz
end
/-! ### copies -/
def cpD (c : Str × Nat) : D := .tuple [.str c.1, .int (c.2 : Nat)]
theorem good_cpD : Good cpD := ⟨fun _ => rfl, fun x => by simp [cpD, PyData.depth, PyData.depthAll], fun x y => by
  unfold cpD
  rw [PyData.eqv]
  simp only [PyData.eqvAll, good_str.eqv, good_int.eqv]
  by_cases h1 : x.1 = y.1 <;> by_cases h2 : x.2 = y.2 <;> simp [h1, h2, Prod.ext_iff, Int.ofNat_inj]⟩
def cpsOf (n : Int) (z : Po) : List (Str × Nat) := (List.range (z.a * n + z.b).toNat).map fun i => (z.n, i)
def cps (zs : List Po) (n : Int) : List (Str × Nat) := zs.flatMap (cpsOf n)
theorem upto_zero (n : Nat) : upto 0 n = (List.range n).map fun i => PyData.int (i : Nat) := by
  unfold upto
  refine List.map_congr_left fun i _ => ?_
  rw [Int.zero_add]
theorem copies_at_eq {zs : List Po} {ts : List (Str × Str)} {n : Int} (hl : zs.length ≤ 100) (hn : -(2 ^ 64) < n ∧ n < 2 ^ 64) (hb : ∀ z ∈ zs, 0 ≤ z.a * n + z.b ∧ z.a * n + z.b ≤ 900) : m_copies_at [wD zs ts, .int n] = some (.list ((cps zs n).map cpD)) := by
  have hlen : ∀ i, (cps (zs.take i) n).length ≤ 900 * (zs.take i).length := fun i => by
    unfold cps
    rw [List.length_flatMap]
    have : ∀ ys : List Po, (∀ z ∈ ys, z.a * n + z.b ≤ 900) → (ys.map fun a => (cpsOf n a).length).sum ≤ 900 * ys.length := fun ys => by
      induction ys with
      | nil => intro _; simp
      | cons y ys ih =>
        intro h
        have h1 := ih fun z hz => h z (List.mem_cons_of_mem _ hz)
        have h2 := h y (List.mem_cons_self ..)
        rw [List.map_cons, List.sum_cons, List.length_cons]
        have : (cpsOf n y).length ≤ 900 := by
          unfold cpsOf
          rw [List.length_map, List.length_range]
          omega
        omega
    exact this _ fun z hz => (hb z (List.mem_of_mem_take hz)).2
  obtain ⟨ρ', S', hf, hinv⟩ := forL_inv (st := sT (sC (sN 3) (sC (sN 4) (sC (sN 5) (sC (sN 6) s0))))) (g := gExt 2 (lcE [7] (iR1 (aC (b2 dAdd (b2 dMul (rd 5) (rd 1)) (rd 6)) aN)) (sN 7) bT (mkT (aC (rd 3) (aC (rd 7) aN)))))
    (ds := zs.map pD) (fun i ρ S => S = S0 ∧ ∃ a b c d, ρ = [some (wD zs ts), some (.int n), some (.list ((cps (zs.take i) n).map cpD)), a, b, c, d, none]) (fun i d ρ S hd ⟨hS, a, b, c, e, hρ⟩ => by
      subst hS hρ
      rw [List.getElem?_map] at hd
      obtain ⟨z, hz, rfl⟩ := Option.map_eq_some_iff.mp hd
      have hzm : z ∈ zs := List.mem_of_getElem? hz
      have hbz := hb z hzm
      have hi : i < zs.length := (List.getElem?_eq_some_iff.mp hz).1
      refine ⟨[some (wD zs ts), some (.int n), some (.list ((cps (zs.take i) n).map cpD)), some (.str z.n), some (kD z.k), some (.int z.a), some (.int z.b), none], rfl, _, S0, gExt_val (es := (cpsOf n z).map cpD) ?_ rfl ?_, rfl, some (.str z.n), some (kD z.k), some (.int z.a), some (.int z.b), ?_⟩
      · have h := lc_map (ρ := [some (wD zs ts), some (.int n), some (.list ((cps (zs.take i) n).map cpD)), some (.str z.n), some (kD z.k), some (.int z.a), some (.int z.b), none]) (vs := [7]) (st := sN 7) (t := bT) (e := mkT (aC (rd 3) (aC (rd 7) aN)))
          (fI := iR1 (aC (b2 dAdd (b2 dMul (rd 5) (rd 1)) (rd 6)) aN)) (S := S0) (S0 := S0) (fun i : Nat => PyData.int (i : Nat)) (fun _ => true) (fun i => cpD (z.n, i)) (xs := List.range (z.a * n + z.b).toNat) ?_ (by rw [List.length_range]; omega) fun j _ => ⟨_, rfl, rfl, fun _ => rfl⟩
        · rw [filter_all] at h
          rw [h]
          unfold cpsOf
          rw [List.map_map]
          rfl
        · have h1 : aC (b2 dAdd (b2 dMul (rd 5) (rd 1)) (rd 6)) aN [some (wD zs ts), some (.int n), some (.list ((cps (zs.take i) n).map cpD)), some (.str z.n), some (kD z.k), some (.int z.a), some (.int z.b), none] S0 = some ([.int (z.a * n + z.b)], S0) :=
            aC1 (b2_val (S1 := S0) (S2 := S0) (a := .int (z.a * n)) (b := .int z.b) (b2_val (S1 := S0) (S2 := S0) (a := .int z.a) (b := .int n) rfl rfl (if_pos (.inr hn))) rfl rfl)
          unfold iR1
          rw [h1]
          dsimp only
          rw [if_pos (by omega), upto_zero]
      · have h1 := hlen i
        rw [List.length_take] at h1
        have h2 : (cpsOf n z).length ≤ 900 := by
          unfold cpsOf
          rw [List.length_map, List.length_range]
          omega
        rw [List.length_map, List.length_map]
        omega
      · have : cps (zs.take (i + 1)) n = cps (zs.take i) n ++ cpsOf n z := by
          unfold cps
          rw [List.take_add_one, hz, List.flatMap_append]
          simp
        rw [this, List.map_append]
        rfl) (ρ := [some (wD zs ts), some (.int n), some (.list []), none, none, none, none, none]) (S := S0) ⟨rfl, none, none, none, none, rfl⟩
  rw [List.length_map, List.take_length] at hinv
  obtain ⟨rfl, a, b, c, d, rfl⟩ := hinv
  refine runP_rt (ρ := [some (wD zs ts), some (.int n), none, none, none, none, none, none]) (S := S0) rfl ((gSeq_nx (ρ1 := [some (wD zs ts), some (.int n), some (.list []), none, none, none, none, none]) (S1 := S0) (gOwn_val (d := .list []) rfl)).trans ((gSeq_nx (S1 := S0) (ρ1 := [some (wD zs ts), some (.int n), some (.list ((cps zs n).map cpD)), a, b, c, d, none]) ?_).trans (gRet_val rfl)))
  rw [gFor_val (S1 := S0) (ds := zs.map pD) (iE_val (d := .tuple (zs.map pD)) (b2_val (S1 := S0) (S2 := S0) (a := wD zs ts) (b := .int 0) rfl rfl ix0) rfl)]
  exact hf
end LW

set_option Elab.async false
set_option linter.all false
set_option maxRecDepth 100000
set_option maxHeartbeats 4000000
namespace LW
open PySem PySem.Spec PyProof.Rows L2 TL

/-! ### plain webs -/
def bI (b : Bool) : Int := if b = true then 1 else 0
def kOf (zs : List Po) (s : Str) : Bool := match zs.find? fun z => decide (z.n = s) with
  | some z => z.k
  | none => false
theorem find_nd {α β : Type} [DecidableEq β] (f : α → β) : ∀ {xs : List α}, (xs.map f).Nodup → ∀ {x : α}, x ∈ xs → xs.find? (fun y => decide (f y = f x)) = some x
  | [], _, x, h => by cases h
  | y :: ys, nd, x, h => by
    rw [List.map_cons, List.nodup_cons] at nd
    rw [List.find?_cons]
    rcases List.mem_cons.mp h with rfl | h
    · rw [decide_eq_true rfl]
    · have : f y ≠ f x := fun e => nd.1 (List.mem_map.mpr ⟨x, h, e.symm⟩)
      rw [decide_eq_false this]
      exact find_nd f nd.2 h
theorem kOf_eq {zs : List Po} (nd : (zs.map Po.n).Nodup) {z : Po} (hz : z ∈ zs) : kOf zs z.n = z.k := by
  unfold kOf
  rw [find_nd Po.n nd hz]
def ptie (zs : List Po) (R : Str → Str → Bool) (c d : Str × Nat) : Bool := if c.1 = d.1 then !decide (c = d) && kOf zs c.1 else R c.1 d.1
theorem cps_mem {zs : List Po} {n : Int} {c : Str × Nat} : c ∈ cps zs n ↔ ∃ z ∈ zs, c.1 = z.n ∧ c.2 < (z.a * n + z.b).toNat := by
  unfold cps
  rw [List.mem_flatMap]
  constructor
  · rintro ⟨z, hz, h⟩
    unfold cpsOf at h
    obtain ⟨i, hi, rfl⟩ := List.mem_map.mp h
    exact ⟨z, hz, rfl, List.mem_range.mp hi⟩
  · rintro ⟨z, hz, h1, h2⟩
    refine ⟨z, hz, List.mem_map.mpr ⟨c.2, List.mem_range.mpr h2, ?_⟩⟩
    rw [← h1]
theorem int_of (b : Bool) : dInt [.bool b] = some (.int (bI b)) := by
  cases b <;> rfl
theorem plain_tie_eq {zs : List Po} {R : Str → Str → Bool} (h : WebOk zs) (s : Sym R) {z z' : Po} (hz : z ∈ zs) (hz' : z' ∈ zs) (i j : Nat) : m_plain_tie [cw zs R, cpD (z.n, i), cpD (z'.n, j)] = some (.int (bI (ptie zs R (z.n, i) (z'.n, j)))) := by
  let ρ : Rho := [some (cw zs R), some (cpD (z.n, i)), some (cpD (z'.n, j))]
  have a1 : b2 dSub2 (rd 1) (cst (.int 0)) ρ S0 = some (.str z.n, S0) := b2_val (S1 := S0) (S2 := S0) (a := cpD (z.n, i)) (b := .int 0) rfl rfl ix0
  have a2 : b2 dSub2 (rd 2) (cst (.int 0)) ρ S0 = some (.str z'.n, S0) := b2_val (S1 := S0) (S2 := S0) (a := cpD (z'.n, j)) (b := .int 0) rfl rfl ix0
  have c1 : tst (b2 dEq (b2 dSub2 (rd 1) (cst (.int 0))) (b2 dSub2 (rd 2) (cst (.int 0)))) ρ S0 = some (decide (z.n = z'.n), S0) := tst_val (b2_val a1 a2 good_str.eq)
  refine runP_rt (ρ := ρ) (S := S0) rfl ?_
  unfold g_plain_tie
  by_cases e : z.n = z'.n
  · rw [decide_eq_true e] at c1
    refine gSeq_rt ((gIf_t c1).trans (gRet_val (cN_val (aC1 (d := .bool (ptie zs R (z.n, i) (z'.n, j))) ?_) (int_of _))))
    have d1 : tst (b2 dNe (rd 1) (rd 2)) ρ S0 = some (!decide ((z.n, i) = (z'.n, j)), S0) := tst_val (b2_val (S1 := S0) (S2 := S0) (a := cpD (z.n, i)) (b := cpD (z'.n, j)) rfl rfl good_cpD.ne)
    have d2 : tst (b2 dEq (b2 dSub2 (cN m_post_of (aC (rd 0) (aC (b2 dSub2 (rd 1) (cst (.int 0))) aN))) (cst (.int 1))) (cst (.str "tied"))) ρ S0 = some (z.k, S0) := by
      refine tst_val (b2_val (S1 := S0) (S2 := S0) (a := kD z.k) (b := .str "tied") (b2_val (S1 := S0) (S2 := S0) (a := pD z) (b := .int 1) (cN_val (aC_val (S1 := S0) rfl (aC1 a1)) (cw_post h hz)) rfl ix1) rfl ?_)
      have := good_kD.eq (x := z.k) (y := true)
      rw [show kD true = PyData.str "tied" from rfl] at this
      rw [this]
      cases z.k <;> rfl
    have d3 := fAnd_val d1 d2
    unfold bE
    rw [d3]
    dsimp only
    unfold ptie
    rw [if_pos e, kOf_eq h.nd hz]
  · rw [decide_eq_false e] at c1
    refine (gSeq_nx (ρ1 := ρ) (S1 := S0) ((gIf_f c1).trans rfl)).trans (gRet_val (cN_val (aC1 (cN_val (aC_val (S1 := S0) rfl (aC_val a1 (aC1 a2))) (cw_tied h s (List.mem_map.mpr ⟨z, hz, rfl⟩) (List.mem_map.mpr ⟨z', hz', rfl⟩) e))) ?_))
    rw [int_of]
    unfold ptie
    rw [if_neg e]
def rowsD (zs : List Po) (R : Str → Str → Bool) (cs : List (Str × Nat)) : D := .tuple (cs.map fun c => .tuple (cs.map fun d => .int (bI (ptie zs R c d))))
theorem plain_web_eq {zs : List Po} {R : Str → Str → Bool} {n : Int} (h : WebOk zs) (s : Sym R) (hn : -(2 ^ 64) < n ∧ n < 2 ^ 64) (hb : ∀ z ∈ zs, 0 ≤ z.a * n + z.b ∧ z.a * n + z.b ≤ 900) (hc : (cps zs n).length ≤ 100000) :
    m_plain_web [cw zs R, .int n] = some (.tuple [.tuple ((cps zs n).map cpD), rowsD zs R (cps zs n)]) := by
  have e0 := copies_at_eq (ts := tsOf (zs.map Po.n) R) h.len hn hb
  let cs := cps zs n
  refine runP_rt (ρ := [some (cw zs R), some (.int n), none, none, none]) (S := S0) rfl ((gSeq_nx (gSet_val (cN_val (ds := [cw zs R, .int n]) rfl e0))).trans (gRet_val (mkT_val ?_)))
  have e1 : lcE [4] (iE (rd 2)) (sN 4) bT (cN dTuple (aC (lcE [3] (iE (rd 2)) (sN 3) bT (cN m_plain_tie (aC (rd 0) (aC (rd 4) (aC (rd 3) aN))))) aN)) [some (cw zs R), some (.int n), some (.list (cs.map cpD)), none, none] S0 =
      some (.list ((cs.filter fun _ => true).map fun c => .tuple (cs.map fun d => .int (bI (ptie zs R c d)))), S0) := by
    refine lc_map cpD (fun _ => true) (fun c => .tuple (cs.map fun d => .int (bI (ptie zs R c d)))) (S := S0) (iE_val (d := .list (cs.map cpD)) rfl rfl) hc fun c hcm => ⟨[some (cw zs R), some (.int n), some (.list (cs.map cpD)), none, some (cpD c)], rfl, rfl, fun _ => ?_⟩
    have e2 : lcE [3] (iE (rd 2)) (sN 3) bT (cN m_plain_tie (aC (rd 0) (aC (rd 4) (aC (rd 3) aN)))) [some (cw zs R), some (.int n), some (.list (cs.map cpD)), none, some (cpD c)] S0 = some (.list ((cs.filter fun _ => true).map fun d => .int (bI (ptie zs R c d))), S0) := by
      refine lc_map cpD (fun _ => true) (fun d => .int (bI (ptie zs R c d))) (S := S0) (iE_val (d := .list (cs.map cpD)) rfl rfl) hc fun d hdm => ⟨[some (cw zs R), some (.int n), some (.list (cs.map cpD)), some (cpD d), some (cpD c)], rfl, rfl, fun _ => ?_⟩
      obtain ⟨z, hz, h1, _⟩ := cps_mem.mp hcm
      obtain ⟨z', hz', h2, _⟩ := cps_mem.mp hdm
      have := plain_tie_eq h s hz hz' c.2 d.2
      rw [← h1, ← h2] at this
      exact cN_val (ds := [cw zs R, cpD c, cpD d]) rfl this
    rw [filter_all] at e2
    exact cN_val (aC1 e2) rfl
  rw [filter_all] at e1
  exact aC_val (S1 := S0) (cN_val (aC1 (d := .list (cs.map cpD)) rfl) rfl) (aC1 (cN_val (aC1 e1) rfl))
/-! ### known ties -/
/-- a dict whose keys are the pairs of R -/
structure Kn (R : Str → Str → Bool) (kvs : List (D × D)) : Prop where
  hd : isT kvs = true
  any : ∀ i j, (kvs.any fun p => PyData.eqv p.1 (prS (i, j))) = R i j
theorem ok_prS {kvs : List (D × D)} (h : isT kvs = true) (p : Str × Str) : okKey kvs (prS p) = true := by
  unfold okKey
  rw [if_pos h]
  rfl
theorem Kn.inD {R : Str → Str → Bool} {kvs : List (D × D)} (K : Kn R kvs) (i j : Str) : dInD (prS (i, j)) (.dict kvs) = some (.bool (R i j)) := by
  unfold dInD
  dsimp only
  rw [if_pos (ok_prS K.hd _), K.any]
def tied (ts : List (Str × Str)) (i j : Str) : Bool := decide ((i, j) ∈ ts) || decide ((j, i) ∈ ts)
theorem Kn.put {R : Str → Str → Bool} {kvs : List (D × D)} (K : Kn R kvs) (a b : Str) (v : D) : Kn (fun i j => R i j || (decide (i = a) && decide (j = b))) (putD kvs (prS (a, b)) v) := by
  have e : ∀ i j, PyData.eqv (prS (a, b)) (prS (i, j)) = (decide (i = a) && decide (j = b)) := fun i j => by
    rw [good_prS.eqv]
    have c1 : (a = i) ↔ (i = a) := ⟨Eq.symm, Eq.symm⟩
    have c2 : (b = j) ↔ (j = b) := ⟨Eq.symm, Eq.symm⟩
    simp only [Prod.mk.injEq, c1, c2]
    by_cases h1 : i = a <;> by_cases h2 : j = b <;> simp [h1, h2]
  unfold putD
  split
  · rename_i h
    refine ⟨?_, fun i j => ?_⟩
    · have := K.hd
      cases kvs with
      | nil => cases this
      | cons p r =>
        obtain ⟨k, w⟩ := p
        cases k <;> first | (cases this; done) | skip
        rw [List.map_cons]
        split <;> rfl
    · rw [List.any_map]
      have hh : ((fun p => PyData.eqv p.1 (prS (i, j))) ∘ fun p : D × D => if PyData.eqv p.1 (prS (a, b)) = true then (p.1, v) else p) = fun p => PyData.eqv p.1 (prS (i, j)) := by
        funext p
        show PyData.eqv (if PyData.eqv p.1 (prS (a, b)) = true then (p.1, v) else p).1 _ = _
        split <;> rfl
      rw [hh, K.any]
      by_cases hij : i = a ∧ j = b
      · obtain ⟨rfl, rfl⟩ := hij
        rw [← K.any, h]
        rfl
      · have : (decide (i = a) && decide (j = b)) = false := by
          rw [← Bool.not_eq_true, Bool.and_eq_true, decide_eq_true_eq, decide_eq_true_eq]
          exact hij
        rw [this, Bool.or_false]
  · refine ⟨?_, fun i j => ?_⟩
    · have := K.hd
      cases kvs with
      | nil => cases this
      | cons p r =>
        obtain ⟨k, w⟩ := p
        cases k <;> first | (cases this; done) | rfl
    · rw [List.any_append, K.any, List.any_cons, List.any_nil, Bool.or_false, e]
theorem putD_len (kvs : List (D × D)) (k v : D) : (putD kvs k v).length ≤ kvs.length + 1 := by
  unfold putD
  split
  · rw [List.length_map]; omega
  · rw [List.length_append]; exact Nat.le_refl _
theorem kn0 : Kn (fun _ _ => false) [(.none, .none)] := ⟨rfl, fun i j => rfl⟩
theorem known_eq {zs : List Po} {ts : List (Str × Str)} (hl : ts.length ≤ 10000) : ∃ kvs, m_known_ties [wD zs ts] = some (.dict kvs) ∧ Kn (tied ts) kvs := by
  have hb : ∀ (p : Str × Str) (kvs : List (D × D)) (x y : Option D), isT kvs = true → kvs.length < 100000 → isT (putD kvs (prS p) (.bool true)) = true → gM (mT (mC (mPut 1 (mkT (aC (rd 2) (aC (rd 3) aN)))) (mC (mPut 1 (mkT (aC (rd 3) (aC (rd 2) aN)))) m0))) (mkT (aC (cst (.bool true)) (aC (cst (.bool true)) aN)))
      [some (wD zs ts), some (.dict kvs), some (PyData.str p.1), some (PyData.str p.2)] S0 = some (.nx [some (wD zs ts), some (.dict (putD (putD kvs (prS p) (.bool true)) (prS (p.2, p.1)) (.bool true))), some (PyData.str p.1), some (PyData.str p.2)] S0) := by
    intro p kvs x y h1 h2 h3
    have z : (100000 : Nat) < sizeLine := by decide
    have l2 := putD_len kvs (prS p) (.bool true)
    have e1 : TL.putAt 1 (prS p) (.bool true) [some (wD zs ts), some (.dict kvs), some (PyData.str p.1), some (PyData.str p.2)] = some [some (wD zs ts), some (.dict (putD kvs (prS p) (.bool true))), some (PyData.str p.1), some (PyData.str p.2)] := by
      unfold TL.putAt
      show (if okKey kvs (prS p) = true ∧ kvs.length < sizeLine then _ else _) = _
      rw [if_pos ⟨ok_prS h1 _, by omega⟩]
      rfl
    have e2 : TL.putAt 1 (prS (p.2, p.1)) (.bool true) [some (wD zs ts), some (.dict (putD kvs (prS p) (.bool true))), some (PyData.str p.1), some (PyData.str p.2)] = some [some (wD zs ts), some (.dict (putD (putD kvs (prS p) (.bool true)) (prS (p.2, p.1)) (.bool true))), some (PyData.str p.1), some (PyData.str p.2)] := by
      unfold TL.putAt
      show (if okKey (putD kvs (prS p) (.bool true)) (prS (p.2, p.1)) = true ∧ (putD kvs (prS p) (.bool true)).length < sizeLine then _ else _) = _
      rw [if_pos ⟨ok_prS h3 _, by omega⟩]
      rfl
    have p1 : prS p = .tuple [PyData.str p.1, PyData.str p.2] := rfl
    have p2 : prS (p.2, p.1) = .tuple [PyData.str p.2, PyData.str p.1] := rfl
    rw [p1] at e1 e2
    rw [p2] at e2
    simp [gM, mT, mC, mPut, m0, mkT, aC, aN, rd, cst, e1, e2, p1, p2]
  have hi : iE (b2 dSub2 (rd 0) (cst (.int 1))) [some (wD zs ts), some (.dict [(.none, .none)]), none, none] S0 = some (ts.map prS, S0) := by
    simp [iE, b2, rd, cst, wD, ix1, items]
  obtain ⟨ρ', S', e1, kvs, x, y, rfl, rfl, hk, _⟩ := forL_inv (st := sT (sC (sN 2) (sC (sN 3) s0))) (g := gM (mT (mC (mPut 1 (mkT (aC (rd 2) (aC (rd 3) aN)))) (mC (mPut 1 (mkT (aC (rd 3) (aC (rd 2) aN)))) m0))) (mkT (aC (cst (.bool true)) (aC (cst (.bool true)) aN))))
    (ds := ts.map prS) (fun n ρ S => ∃ kvs x y, ρ = [some (wD zs ts), some (.dict kvs), x, y] ∧ S = S0 ∧ Kn (tied (ts.take n)) kvs ∧ kvs.length ≤ 2 * n + 1) (fun n d ρ S hd ⟨kvs, x, y, e1, e2, hk, hz⟩ => by
      subst e1 e2
      rw [List.getElem?_map] at hd
      cases hp : ts[n]? with
      | none => rw [hp] at hd; cases hd
      | some p =>
        rw [hp] at hd
        cases hd
        have hn : n < ts.length := (List.getElem?_eq_some_iff.mp hp).1
        have k1 := hk.put p.1 p.2 (.bool true)
        have k2 := k1.put p.2 p.1 (.bool true)
        refine ⟨[some (wD zs ts), some (.dict kvs), some (PyData.str p.1), some (PyData.str p.2)], rfl, _, S0, hb p kvs x y hk.hd (by omega) k1.hd, _, _, _, rfl, rfl, ?_, ?_⟩
        · have : (fun i j => (tied (ts.take n) i j || (decide (i = p.1) && decide (j = p.2))) || (decide (i = p.2) && decide (j = p.1))) = tied (ts.take (n + 1)) := by
            funext i j
            unfold tied
            rw [List.take_add_one, hp]
            simp only [List.mem_append, Option.toList, List.mem_singleton, Prod.ext_iff]
            by_cases a1 : i = p.1 <;> by_cases a2 : j = p.2 <;> by_cases a3 : i = p.2 <;> by_cases a4 : j = p.1 <;> by_cases a5 : (i, j) ∈ ts.take n <;> by_cases a6 : (j, i) ∈ ts.take n <;> simp_all
          rw [← this]
          exact k2
        · have l1 := putD_len kvs (prS p) (.bool true)
          have l2 := putD_len (putD kvs (prS p) (.bool true)) (prS (p.2, p.1)) (.bool true)
          exact Nat.le_trans l2 (by omega))
    (ρ := [some (wD zs ts), some (.dict [(.none, .none)]), none, none]) (S := S0) ⟨_, _, _, rfl, rfl, kn0, by decide⟩
  rw [List.length_map, List.take_length] at hk
  refine ⟨kvs, ?_, hk⟩
  unfold m_known_ties runP g_known_ties
  have ea : gOwn 1 newT [some (wD zs ts), none, none, none] S0 = some (.nx [some (wD zs ts), some (.dict [(.none, .none)]), none, none] S0) := rfl
  rw [show (List.map some [wD zs ts] ++ List.replicate (4 - [wD zs ts].length) none) = [some (wD zs ts), none, none, none] from rfl, gSeq_nx ea]
  have eb : gFor (iE (b2 dSub2 (rd 0) (cst (.int 1)))) (sT (sC (sN 2) (sC (sN 3) s0))) (gM (mT (mC (mPut 1 (mkT (aC (rd 2) (aC (rd 3) aN)))) (mC (mPut 1 (mkT (aC (rd 3) (aC (rd 2) aN)))) m0))) (mkT (aC (cst (.bool true)) (aC (cst (.bool true)) aN))))
      [some (wD zs ts), some (.dict [(.none, .none)]), none, none] S0 = some (.nx [some (wD zs ts), some (.dict kvs), x, y] S0) := by
    unfold gFor
    rw [hi]
    exact e1
  rw [gSeq_nx eb]
  rfl

/-! ### splitters -/
def split (R : Str → Str → Bool) (lot : List Str) (p : Str) : Bool := lot.any fun one => !decide (R p one = R p (lot.headD ⟨#[]⟩))
theorem bits_map {α : Type} (f : α → Bool) : ∀ xs : List α, bits (xs.map fun x => .bool (f x)) = some (xs.map f)
  | [] => rfl
  | x :: xs => by
    rw [List.map_cons, bits, bits_map f xs]
    rfl
theorem is_split_eq {R : Str → Str → Bool} {kvs : List (D × D)} {L : D} {lot : List Str} (K : Kn R kvs) (hL : IsLot L lot) (h0 : lot ≠ []) (hl : lot.length ≤ 1000) (p : Str) : m_is_split [.dict kvs, L, PyData.str p] = some (.bool (split R lot p)) := by
  obtain ⟨a, r, rfl⟩ : ∃ a r, lot = a :: r := by
    cases lot with
    | nil => exact absurd rfl h0
    | cons a r => exact ⟨a, r, rfl⟩
  have e0 := hL.i0 a r rfl
  have k1 : ∀ q, dInD (.tuple [PyData.str p, PyData.str q]) (.dict kvs) = some (.bool (R p q)) := fun q => K.inD p q
  have h : lcE [4] (iE (rd 1)) (sN 4) bT (b2 dNe (b2 dInD (mkT (aC (rd 2) (aC (rd 4) aN))) (rd 0)) (rd 3)) [some (.dict kvs), some L, some (PyData.str p), some (.bool (R p a)), none] S0 =
      some (.list (((a :: r).filter fun _ => true).map fun one => .bool (!decide (R p one = R p a))), S0) := by
    refine lc_map PyData.str (fun _ => true) (fun one => .bool (!decide (R p one = R p a))) (S := S0) ?_ (by omega) fun z hz => ?_
    · simp [iE, rd, hL.it]
    · refine ⟨_, rfl, rfl, fun _ => ?_⟩
      have := good_bool.ne (x := R p z) (y := R p a)
      simp [wipeR, b2, mkT, aC, aN, rd, k1, this]
  rw [filter_all] at h
  have hb : bits ((a :: r).map fun one => .bool (!decide (R p one = R p a))) = some ((a :: r).map fun one => !decide (R p one = R p a)) := bits_map _ _
  have hs : dAny [.list ((a :: r).map fun one => .bool (!decide (R p one = R p a)))] = some (.bool (split R (a :: r) p)) := by
    unfold dAny
    dsimp only
    rw [hb]
    unfold split
    simp [List.any_map]
  unfold m_is_split runP g_is_split
  have e1 : gSet 3 (b2 dInD (mkT (aC (rd 2) (aC (b2 dSub2 (rd 1) (cst (.int 0))) aN))) (rd 0)) [some (.dict kvs), some L, some (PyData.str p), none, none] S0 = some (.nx [some (.dict kvs), some L, some (PyData.str p), some (.bool (R p a)), none] S0) := by
    simp [gSet, b2, mkT, aC, aN, rd, cst, e0, k1]
  rw [show (List.map some [PyData.dict kvs, L, PyData.str p] ++ List.replicate (5 - [PyData.dict kvs, L, PyData.str p].length) none) = [some (.dict kvs), some L, some (PyData.str p), none, none] from rfl, gSeq_nx e1]
  simp only [gRet, cN, aC, aN, h, hs]
def optD : Option Str → D
  | some p => PyData.str p
  | none => .none
def splitter (R : Str → Str → Bool) (names lot : List Str) : Option Str := names.find? fun p => !decide (p ∈ lot) && split R lot p
theorem first_splitter_eq {R : Str → Str → Bool} {kvs : List (D × D)} {L : D} {lot names : List Str} (K : Kn R kvs) (hL : IsLot L lot) (h0 : lot ≠ []) (hl : lot.length ≤ 1000) : m_first_splitter [.dict kvs, tS names, L] = some (optD (splitter R names lot)) := by
  unfold m_first_splitter runP g_first_splitter
  rw [show (List.map some [PyData.dict kvs, tS names, L] ++ List.replicate (4 - [PyData.dict kvs, tS names, L].length) none) = [some (.dict kvs), some (tS names), some L, none] from rfl]
  have hf := forL_find (st := sN 3) (g := gIf (fAnd (tst (b2 dNotInD (rd 3) (rd 2))) (tst (cN m_is_split (aC (rd 0) (aC (rd 2) (aC (rd 3) aN)))))) (gRet (rd 3)) gN) (S := S0) (enc := PyData.str) (fun p => !decide (p ∈ lot) && split R lot p) PyData.str
    (fun ρ => ∃ x, ρ = [some (.dict kvs), some (tS names), some L, x]) (xs := names) (fun p _ ρ ⟨x, e⟩ => by
      subst e
      refine ⟨[some (.dict kvs), some (tS names), some L, some (PyData.str p)], rfl, fun hp => ?_, fun hp => ⟨[some (.dict kvs), some (tS names), some L, some (PyData.str p)], ?_, _, rfl⟩⟩
      · rw [Bool.and_eq_true] at hp
        have n1 := hL.nin p
        rw [hp.1] at n1
        have n2 := is_split_eq K hL h0 hl p
        rw [hp.2] at n2
        simp [gIf, fAnd, tst, b2, rd, n1, cN, aC, aN, n2, gRet]
      · have n1 := hL.nin p
        cases hq : (!decide (p ∈ lot)) with
        | false =>
          rw [hq] at n1
          simp [gIf, fAnd, tst, b2, rd, n1, gN]
        | true =>
          rw [hq] at n1
          rw [hq, Bool.true_and] at hp
          have n2 := is_split_eq K hL h0 hl p
          rw [hp] at n2
          simp [gIf, fAnd, tst, b2, rd, n1, cN, aC, aN, n2, gN]) (ρ := [some (.dict kvs), some (tS names), some L, none]) ⟨none, rfl⟩
  have hi : iE (rd 1) [some (.dict kvs), some (tS names), some L, none] S0 = some (names.map PyData.str, S0) := by simp [iE, rd, tS, items]
  rcases hf with ⟨p, h1, h2⟩ | ⟨h1, ρ', h2, x, rfl⟩
  · have : splitter R names lot = some p := h1
    rw [this, gSeq_rt (S1 := S0) (d := PyData.str p) (by unfold gFor; rw [hi]; exact h2)]
    rfl
  · have : splitter R names lot = none := h1
    rw [this, gSeq_nx (ρ1 := [some (.dict kvs), some (tS names), some L, x]) (S1 := S0) (by unfold gFor; rw [hi]; exact h2)]
    rfl
section
variable {zs : List Po} {ts : List (Str × Str)} {L : D} {lot : List Str}
theorem isN_opt : ∀ o : Option Str, isN (optD o) = o.isNone
  | none => rfl
  | some _ => rfl
theorem is_part_eq (hz : zs.length ≤ 1000) (ht : ts.length ≤ 10000) (hL : IsLot L lot) (h0 : lot ≠ []) (hl : lot.length ≤ 1000) : m_is_part [wD zs ts, L] = some (.bool (splitter (tied ts) (zs.map Po.n) lot).isNone) := by
  obtain ⟨kvs, e1, K⟩ := known_eq (zs := zs) ht
  have e2 := names_of_eq (zs := zs) (ts := ts) hz
  have e3 := first_splitter_eq (names := zs.map Po.n) K hL h0 hl
  simp [m_is_part, runP, g_is_part, gRet, b2, cN, aC, aN, rd, cst, e1, e2, e3, dIsN, isN_opt]
end
end LW

set_option Elab.async false
set_option linter.all false
set_option maxRecDepth 100000
set_option maxHeartbeats 4000000
namespace LW
open PySem PySem.Spec PyProof.Rows L2 TL

theorem small1000 {n : Nat} (h : n ≤ 1000) : n < sizeLine := Nat.lt_of_le_of_lt h (by decide)
/-! ### the law's own splitter -/
theorem split_false {R : Str → Str → Bool} {lot : List Str} {p : Str} : split R lot p = false ↔ ∀ x ∈ lot, ∀ y ∈ lot, R p x = R p y := by
  cases lot with
  | nil => simp [split]
  | cons a r =>
    unfold split
    rw [List.headD_cons, List.any_eq_false]
    constructor
    · intro h
      have h' : ∀ x ∈ a :: r, R p x = R p a := fun x hx => by simpa using h x hx
      intro x hx y hy
      rw [h' x hx, h' y hy]
    · intro h x hx
      have := h x hx a (List.mem_cons_self ..)
      simp [this]
theorem split_count {R : Str → Str → Bool} {lot : List Str} {p : Str} (h0 : lot ≠ []) : (decide (0 < (lot.filter (R p)).length) && decide ((lot.filter (R p)).length < lot.length)) = split R lot p := by
  cases hs : split R lot p with
  | false =>
    have h := split_false.mp hs
    cases lot with
    | nil => exact absurd rfl h0
    | cons a r =>
      have all : ∀ x ∈ a :: r, R p x = R p a := fun x hx => h x hx a (List.mem_cons_self ..)
      cases ha : R p a with
      | false =>
        have : (a :: r).filter (R p) = [] := by
          rw [List.filter_eq_nil_iff]
          intro x hx
          rw [all x hx, ha]
          exact Bool.false_ne_true
        rw [this]
        rfl
      | true =>
        have : (a :: r).filter (R p) = a :: r := by
          rw [List.filter_eq_self]
          intro x hx
          rw [all x hx, ha]
        rw [this]
        simp
  | true =>
    rw [Bool.and_eq_true, decide_eq_true_eq, decide_eq_true_eq]
    have hn : ¬ ∀ x ∈ lot, ∀ y ∈ lot, R p x = R p y := fun h => by
      rw [split_false.mpr h] at hs
      cases hs
    constructor
    · apply Nat.pos_of_ne_zero
      intro e
      have e := List.length_eq_zero_iff.mp e
      rw [List.filter_eq_nil_iff] at e
      apply hn
      intro x hx y hy
      have h1 := e x hx
      have h2 := e y hy
      rw [Bool.not_eq_true] at h1 h2
      rw [h1, h2]
    · apply Nat.lt_of_le_of_ne (List.length_filter_le _ _)
      intro e
      have e : lot.filter (R p) = lot := List.filter_sublist.eq_of_length e
      rw [List.filter_eq_self] at e
      apply hn
      intro x hx y hy
      rw [e x hx, e y hy]
/-! ### least parts -/
def isPart (R : Str → Str → Bool) (names P : List Str) : Prop := ∀ p ∈ names, p ∉ P → ∀ x ∈ P, ∀ y ∈ P, R p x = R p y
theorem splitter_none {R : Str → Str → Bool} {names P : List Str} : splitter R names P = none ↔ isPart R names P := by
  unfold splitter isPart
  rw [List.find?_eq_none]
  constructor
  · intro h p hp hn
    have := h p hp
    rw [Bool.and_eq_true, not_and, Bool.not_eq_true'] at this
    exact split_false.mp (by simpa using this (by simpa using hn))
  · intro h p hp
    rw [Bool.and_eq_true]
    rintro ⟨h1, h2⟩
    rw [split_false.mpr (h p hp (by simpa using h1))] at h2
    cases h2
theorem splitter_some {R : Str → Str → Bool} {names P : List Str} {p : Str} (h : splitter R names P = some p) : p ∈ names ∧ p ∉ P ∧ ¬ ∀ x ∈ P, ∀ y ∈ P, R p x = R p y := by
  unfold splitter at h
  have h1 := List.find?_some h
  rw [Bool.and_eq_true] at h1
  refine ⟨List.mem_of_find?_eq_some h, by simpa using h1.1, fun z => ?_⟩
  have h2 := h1.2
  rw [split_false.mpr z] at h2
  cases h2
theorem isPart_same {R : Str → Str → Bool} {names P Q : List Str} (h : ∀ x, x ∈ P ↔ x ∈ Q) (hp : isPart R names P) : isPart R names Q := fun p pn pq x hx y hy => hp p pn (fun z => pq ((h p).mp z)) x ((h x).mpr hx) y ((h y).mpr hy)
section
variable {zs : List Po} {ts : List (Str × Str)}
theorem least_loop {R : Str → Str → Bool} {kvs : List (D × D)} {names : List Str} {w L0 : D} (K : Kn R kvs) (hn : names.length ≤ 19) : ∀ (n : Nat) (lot : List Str), lot ≠ [] → lot.Nodup → (∀ x ∈ lot, x ∈ names) → names.length + 1 ≤ lot.length + n →
    ∃ lot', gWh (tst (b2 dNotN (rd 5) (cst .none))) (gSeq (gApp 4 (rd 5)) (gSet 5 (cI m_first_splitter (aC (rd 2) (aC (rd 3) (aC (rd 4) aN)))))) n [some w, some L0, some (.dict kvs), some (tS names), some (lS lot), some (optD (splitter R names lot))] S0 =
      some (.nx [some w, some L0, some (.dict kvs), some (tS names), some (lS lot'), some (optD (splitter R names lot'))] S0) ∧ splitter R names lot' = none ∧ lot'.Nodup ∧ (∀ x ∈ lot, x ∈ lot') ∧ (∀ x ∈ lot', x ∈ names) ∧
      ∀ P, isPart R names P → (∀ x ∈ lot, x ∈ P) → ∀ x ∈ lot', x ∈ P := by
  have sub_len : ∀ l : List Str, l.Nodup → (∀ x ∈ l, x ∈ names) → l.length ≤ names.length := fun l nd h => nodup_len nd h
  intro n
  induction n with
  | zero =>
    intro lot h0 nd hs hl
    have := sub_len lot nd hs
    omega
  | succ n ih =>
    intro lot h0 nd hs hl
    have hlen := sub_len lot nd hs
    cases hq : splitter R names lot with
    | none =>
      refine ⟨lot, ?_, hq, nd, fun x hx => hx, hs, fun P _ h => h⟩
      rw [hq]
      exact gWh_f rfl
    | some p =>
      obtain ⟨p1, p2, p3⟩ := splitter_some hq
      have nd' : (lot ++ [p]).Nodup := by
        rw [List.nodup_append]
        refine ⟨nd, by simp, fun a ha b hb => ?_⟩
        rw [List.mem_singleton] at hb
        subst hb
        exact fun e => p2 (e ▸ ha)
      have hs' : ∀ x ∈ lot ++ [p], x ∈ names := fun x hx => (List.mem_append.mp hx).elim (hs x) fun z => by rw [List.mem_singleton.mp z]; exact p1
      obtain ⟨lot', e1, e2, e3, e4, e5, e6⟩ := ih (lot ++ [p]) (by simp) nd' hs' (by rw [List.length_append, List.length_singleton]; omega)
      refine ⟨lot', ?_, e2, e3, fun x hx => e4 x (List.mem_append_left _ hx), e5, fun P hP h x hx => e6 P hP (fun y hy => ?_) x hx⟩
      · have ea : gApp 4 (rd 5) [some w, some L0, some (.dict kvs), some (tS names), some (lS lot), some (PyData.str p)] S0 = some (.nx [some w, some L0, some (.dict kvs), some (tS names), some (lS (lot ++ [p])), some (PyData.str p)] S0) := by
          have hz : (lot.map PyData.str).length < sizeLine := by
            rw [List.length_map]
            exact small1000 (by omega)
          unfold gApp
          simp only [rd, List.getElem?_cons_succ, List.getElem?_cons_zero, lS]
          rw [if_pos hz, List.map_append]
          rfl
        have hfs := first_splitter_eq (names := names) K (lot_lS (lot ++ [p])) (by simp) (by rw [List.length_append, List.length_singleton]; omega)
        have hi : TL.imm (optD (splitter R names (lot ++ [p]))) = true := by
          cases splitter R names (lot ++ [p]) <;> rfl
        have eb : gSet 5 (cI m_first_splitter (aC (rd 2) (aC (rd 3) (aC (rd 4) aN)))) [some w, some L0, some (.dict kvs), some (tS names), some (lS (lot ++ [p])), some (PyData.str p)] S0 =
            some (.nx [some w, some L0, some (.dict kvs), some (tS names), some (lS (lot ++ [p])), some (optD (splitter R names (lot ++ [p])))] S0) := by
          simp only [gSet, cI, aC, aN, rd, List.getElem?_cons_succ, List.getElem?_cons_zero, hfs]
          rw [if_pos hi]
          rfl
        have et : tst (b2 dNotN (rd 5) (cst .none)) [some w, some L0, some (.dict kvs), some (tS names), some (lS lot), some (PyData.str p)] S0 = some (true, S0) := rfl
        exact (gWh_t (n := n) et ((gSeq_nx ea).trans eb)).trans e1
      · rcases List.mem_append.mp hy with hy | hy
        · exact h y hy
        · rw [List.mem_singleton.mp hy]
          apply Classical.byContradiction
          intro hpP
          exact p3 fun a ha b hb => hP p p1 hpP a (h a ha) b (h b hb)
end

theorem tied_eq (xs : List Str) {R : Str → Str → Bool} (h : xs.Pairwise (oLt sS)) (s : Sym R) (a b : Str) : tied (tsOf xs R) a b = (decide (a ∈ xs) && decide (b ∈ xs) && !decide (a = b) && R a b) := by
  rw [← tied_tsOf h s]
  unfold tied tiedS
  rw [Bool.eq_iff_iff, Bool.or_eq_true, decide_eq_true_eq, decide_eq_true_eq, decide_eq_true_eq]
  unfold ordP
  dsimp only
  split
  · rename_i q
    refine ⟨fun z => z.elim id fun z => ?_, .inl⟩
    exact absurd (ord_str.anti _ _ q ((tsOf_mem h).mp z).1.2.2.1).symm ((tsOf_mem h).mp z).1.2.2.2
  · rename_i q
    refine ⟨fun z => z.elim (fun z => ?_) id, .inr⟩
    exact absurd ((tsOf_mem h).mp z).1.2.2.1 q
theorem isPart_tied {xs : List Str} {R : Str → Str → Bool} (h : xs.Pairwise (oLt sS)) (s : Sym R) {P : List Str} (hP : ∀ x ∈ P, x ∈ xs) : isPart (tied (tsOf xs R)) xs P ↔ isPart R xs P := by
  have e : ∀ p ∈ xs, p ∉ P → ∀ x ∈ P, tied (tsOf xs R) p x = R p x := fun p hp hn x hx => by
    rw [tied_eq xs h s, decide_eq_true hp, decide_eq_true (hP x hx), decide_eq_false fun q => hn (by rw [q]; exact hx)]
    simp
  constructor
  · intro q p hp hn x hx y hy
    rw [← e p hp hn x hx, ← e p hp hn y hy]
    exact q p hp hn x hx y hy
  · intro q p hp hn x hx y hy
    rw [e p hp hn x hx, e p hp hn y hy]
    exact q p hp hn x hx y hy
def partB (R : Str → Str → Bool) (names lot : List Str) : Bool := (splitter R names lot).isNone
theorem partB_iff {R : Str → Str → Bool} {names lot : List Str} : partB R names lot = true ↔ isPart R names lot := by
  unfold partB
  rw [Option.isNone_iff_eq_none, splitter_none]
section
variable {zs : List Po} {R : Str → Str → Bool} {L : D} {lot : List Str}
theorem cw_is_part (h : WebOk zs) (s : Sym R) (hL : IsLot L lot) (h0 : lot ≠ []) (hl : lot.length ≤ 1000) (hs : ∀ x ∈ lot, x ∈ zs.map Po.n) : m_is_part [cw zs R, L] = some (.bool (partB R (zs.map Po.n) lot)) := by
  unfold cw
  rw [is_part_eq (by have := h.len; omega) h.tl hL h0 hl]
  congr 2
  rw [Bool.eq_iff_iff, Option.isNone_iff_eq_none, splitter_none, isPart_tied h.nms s hs, partB_iff]
theorem cw_least (h : WebOk zs) (s : Sym R) (hn : zs.length ≤ 19) (hLD : IsLot L lot) (h0 : lot ≠ []) (nd : lot.Nodup) (hs : ∀ x ∈ lot, x ∈ zs.map Po.n) :
    ∃ P : List Str, m_least_part [cw zs R, L] = some (tS P) ∧ P.Sublist (zs.map Po.n) ∧ isPart R (zs.map Po.n) P ∧ (∀ x ∈ lot, x ∈ P) ∧ ∀ Q, (∀ x ∈ Q, x ∈ zs.map Po.n) → isPart R (zs.map Po.n) Q → (∀ x ∈ lot, x ∈ Q) → ∀ x ∈ P, x ∈ Q := by
  let ts := tsOf (zs.map Po.n) R
  let names := zs.map Po.n
  have hw : cw zs R = wD zs ts := rfl
  obtain ⟨kvs, e1, K⟩ := known_eq (zs := zs) (ts := ts) h.tl
  have e2 : m_names_of [wD zs ts] = some (tS names) := cw_names (R := R) h
  have hlen : names.length ≤ 19 := by show (zs.map Po.n).length ≤ 19; rw [List.length_map]; exact hn
  have hll : lot.length ≤ 19 := Nat.le_trans (nodup_len nd hs) hlen
  obtain ⟨lot', l1, l2, l3, l4, l5, l6⟩ := least_loop (w := wD zs ts) (L0 := L) K hlen 20 lot h0 nd hs (by have : 0 < lot.length := List.length_pos_iff.mpr h0; omega)
  have fs := first_splitter_eq (names := names) K (lot_lS lot) h0 (by omega)
  have hi : TL.imm (optD (splitter (tied ts) names lot)) = true := by
    cases splitter (tied ts) names lot <;> rfl
  have hperm : lot'.Perm (names.filter fun x => decide (x ∈ lot')) := by
    refine (List.perm_ext_iff_of_nodup l3 (h.nd.sublist List.filter_sublist)).mpr fun x => ?_
    rw [List.mem_filter, decide_eq_true_eq]
    exact ⟨fun z => ⟨l5 x z, z⟩, fun z => z.2⟩
  have hsort : dSortedB [lS lot'] = some (lS (names.filter fun x => decide (x ∈ lot'))) := by
    rw [(lot_lS lot').srt, ord_str.uniq hperm (lt_le (h.nms.sublist List.filter_sublist))]
  have hmem : ∀ x, x ∈ (names.filter fun x => decide (x ∈ lot')) ↔ x ∈ lot' := fun x => (hperm.mem_iff (a := x)).symm
  refine ⟨names.filter fun x => decide (x ∈ lot'), ?_, List.filter_sublist, (isPart_tied h.nms s fun x hx => (List.mem_filter.mp hx).1).mp (isPart_same (fun x => (hmem x).symm) (splitter_none.mp l2)), fun x hx => (hmem x).mpr (l4 x hx), fun Q hQ hp hx x hxx => l6 Q ((isPart_tied h.nms s hQ).mpr hp) hx x ((hmem x).mp hxx)⟩
  rw [hw]
  refine runP_rt (ρ := [some (wD zs ts), some L, none, none, none, none]) (S := S0) rfl ?_
  unfold g_least_part
  have q1 : gPar [2, 3] (aC (cN m_known_ties (aC (rd 0) aN)) (aC (cN m_names_of (aC (rd 0) aN)) aN)) [some (wD zs ts), some L, none, none, none, none] S0 = some (.nx [some (wD zs ts), some L, some (.dict kvs), some (tS names), none, none] S0) :=
    gPar_val (aC_val (cN_val (aC1 (d := wD zs ts) rfl) e1) (aC1 (cN_val (aC1 (d := wD zs ts) rfl) e2)))
  have q2 : gOwn 4 (cN dListA (aC (rd 1) aN)) [some (wD zs ts), some L, some (.dict kvs), some (tS names), none, none] S0 = some (.nx [some (wD zs ts), some L, some (.dict kvs), some (tS names), some (lS lot), none] S0) := gOwn_val (d := lS lot) (cN_val (aC1 (d := L) rfl) hLD.lst)
  have q3 : gSet 5 (cI m_first_splitter (aC (rd 2) (aC (rd 3) (aC (rd 4) aN)))) [some (wD zs ts), some L, some (.dict kvs), some (tS names), some (lS lot), none] S0 = some (.nx [some (wD zs ts), some L, some (.dict kvs), some (tS names), some (lS lot), some (optD (splitter (tied ts) names lot))] S0) := by
    refine gSet_val ?_
    simp only [cI, aC, aN, rd, List.getElem?_cons_succ, List.getElem?_cons_zero, fs]
    exact if_pos hi
  refine (gSeq_nx q1).trans ((gSeq_nx q2).trans ((gSeq_nx q3).trans ((gSeq_nx l1).trans (gRet_val (cN_val (aC1 (cN_val (aC1 (d := lS lot') rfl) hsort)) rfl)))))
end
end LW

set_option Elab.async false
set_option linter.all false
set_option maxRecDepth 100000
set_option maxHeartbeats 4000000
namespace LW
open PySem PySem.Spec PyProof.Rows L2 TL

/-! ### plain webs told as webs -/
theorem pairsUp_sub {α : Type} {xs : List α} {i : Nat} (hi : i ≤ xs.length) : (pairsUp xs i).Sublist (pairsOf xs) := by
  rw [← pairsUp_all]
  show List.Sublist ((List.range i).flatMap _) ((List.range xs.length).flatMap _)
  rw [show xs.length = i + (xs.length - i) by omega, List.range_add, List.flatMap_append]
  exact List.sublist_append_left _ _
theorem pairsOf_in {α : Type} : ∀ {xs : List α}, xs.Nodup → ∀ {p : α × α}, p ∈ pairsOf xs → p.1 ∈ xs ∧ p.2 ∈ xs ∧ p.1 ≠ p.2
  | [], _, p, h => by cases h
  | x :: xs, nd, p, h => by
    rw [List.nodup_cons] at nd
    rw [pairsOf, List.mem_append] at h
    rcases h with h | h
    · obtain ⟨y, hy, rfl⟩ := List.mem_map.mp h
      exact ⟨List.mem_cons_self .., List.mem_cons_of_mem _ hy, fun e => nd.1 (by rw [show x = y from e]; exact hy)⟩
    · obtain ⟨h1, h2, h3⟩ := pairsOf_in nd.2 h
      exact ⟨List.mem_cons_of_mem _ h1, List.mem_cons_of_mem _ h2, h3⟩
theorem pairsOf_or {α : Type} : ∀ {xs : List α} {a b : α}, a ∈ xs → b ∈ xs → a ≠ b → (a, b) ∈ pairsOf xs ∨ (b, a) ∈ pairsOf xs
  | [], a, b, h, _, _ => by cases h
  | x :: xs, a, b, ha, hb, n => by
    rw [pairsOf, List.mem_append, List.mem_append]
    rcases List.mem_cons.mp ha with e1 | ha1
    · rcases List.mem_cons.mp hb with e2 | hb1
      · exact absurd (e1.trans e2.symm) n
      · exact .inl (.inl (List.mem_map.mpr ⟨b, hb1, by rw [e1]⟩))
    · rcases List.mem_cons.mp hb with e2 | hb1
      · exact .inr (.inl (List.mem_map.mpr ⟨a, ha1, by rw [e2]⟩))
      · exact (pairsOf_or ha1 hb1 n).imp .inr .inr
theorem inj_nodup {α β : Type} {f : α → β} : ∀ {xs : List α}, (xs.map f).Nodup → ∀ a ∈ xs, ∀ b ∈ xs, f a = f b → a = b
  | [], _, a, h, _, _, _ => by cases h
  | x :: xs, nd, a, ha, b, hb, e => by
    rw [List.map_cons, List.nodup_cons] at nd
    rcases List.mem_cons.mp ha with e1 | ha1
    · rcases List.mem_cons.mp hb with e2 | hb1
      · rw [e1, e2]
      · exact absurd (List.mem_map.mpr ⟨b, hb1, by rw [← e, e1]⟩) nd.1
    · rcases List.mem_cons.mp hb with e2 | hb1
      · exact absurd (List.mem_map.mpr ⟨a, ha1, by rw [e, e2]⟩) nd.1
      · exact inj_nodup nd.2 a ha1 b hb1 e
def lonePo (s : Str) : Po := ⟨s, false, 0, 1⟩
theorem fix_lone (s : Str) : fixP (lonePo s) = lonePo s := rfl
theorem plain_of {α : Type} [DecidableEq α] {cs : List α} {enc : α → Str} {r : α → α → Bool} (nd : (cs.map enc).Nodup) (hr : ∀ a b, r a b = r b a) (hl : cs.length ≤ 100) {P T : D} (hP : items P = some (cs.map fun c => pD (lonePo (enc c))))
    (hT : items T = some (((pairsOf cs).filter fun p => r p.1 p.2).map fun p => prS (enc p.1, enc p.2))) :
    ∃ zs R', m_web_told [P, T] = some (cw zs R') ∧ WebOk zs ∧ Sym R' ∧ zs.map Po.n = oSort sS (cs.map enc) ∧ ∀ c ∈ cs, ∀ d ∈ cs, c ≠ d → R' (enc c) (enc d) = r c d := by
  have ndc : cs.Nodup := List.Pairwise.of_map enc (fun a b h e => h (congrArg enc e)) nd
  have inj := inj_nodup nd
  let ls : List (Str × Str) := ((pairsOf cs).filter fun p => r p.1 p.2).map fun p => (enc p.1, enc p.2)
  have hls : ∀ q, q ∈ ls ↔ ∃ c d, (c, d) ∈ pairsOf cs ∧ r c d = true ∧ q = (enc c, enc d) := fun q => by
    show q ∈ List.map _ _ ↔ _
    rw [List.mem_map]
    constructor
    · rintro ⟨p, hp, rfl⟩
      rw [List.mem_filter] at hp
      exact ⟨p.1, p.2, hp.1, hp.2, rfl⟩
    · rintro ⟨c, d, h1, h2, rfl⟩
      exact ⟨(c, d), List.mem_filter.mpr ⟨h1, h2⟩, rfl⟩
  let R' : Str → Str → Bool := fun s t => decide ((s, t) ∈ ls) || decide ((t, s) ∈ ls)
  have hs : Sym R' := fun a b => by
    show (decide _ || decide _) = (decide _ || decide _)
    rw [Bool.or_comm]
  let names := oSort sS (cs.map enc)
  have hn : names.Pairwise (oLt sS) := oSort_lt nd
  let zs := names.map lonePo
  have hzn : zs.map Po.n = names := by
    show (names.map lonePo).map Po.n = names
    rw [List.map_map]
    exact List.map_id _
  have hmem : ∀ s, s ∈ names ↔ ∃ c ∈ cs, enc c = s := fun s => by
    rw [(oSort_perm (cs.map enc)).mem_iff, List.mem_map]
  have hln : names.length = cs.length := by
    rw [(oSort_perm (cs.map enc)).length_eq, List.length_map]
  have hok : WebOk zs := ⟨by rw [← List.pairwise_map, hzn]; exact hn, by show (names.map lonePo).length ≤ 100; rw [List.length_map, hln]; exact hl, fun z hz => by
    obtain ⟨s, _, rfl⟩ := List.mem_map.mp hz
    exact fix_lone s⟩
  refine ⟨zs, R', ?_, hok, hs, hzn, fun c hc d hd n => ?_⟩
  · unfold cw
    have hll : ls.length ≤ 10000 := by
      show (List.map _ _).length ≤ _
      rw [List.length_map]
      have h1 := List.length_filter_le (fun p : α × α => r p.1 p.2) (pairsOf cs)
      have h2 := pairsOf_len cs
      have h3 : cs.length * cs.length ≤ 100 * 100 := Nat.mul_le_mul hl hl
      omega
    refine web_told_eq (qs := cs.map fun c => lonePo (enc c)) (ls := ls) ?_ ?_ (by rw [List.length_map]; omega) (by omega) hok.lt ?_ ?_ fun p => ?_
    · rw [hP, List.map_map]
      rfl
    · rw [hT]
      show some _ = some (List.map prS (List.map _ _))
      rw [List.map_map]
      rfl
    · rw [List.map_map]
      have e : (cs.map (fixP ∘ fun c => lonePo (enc c))) = (cs.map enc).map lonePo := by
        rw [List.map_map]
        rfl
      rw [e]
      exact ((oSort_perm (cs.map enc)).symm).map lonePo
    · rw [hzn]
      exact tsOf_lt hn
    · rw [hzn, tsOf_mem hn]
      constructor
      · rintro ⟨⟨h1, h2, h3⟩, h4⟩
        have h4 : (decide ((p.1, p.2) ∈ ls) || decide ((p.2, p.1) ∈ ls)) = true := h4
        rw [Bool.or_eq_true, decide_eq_true_eq, decide_eq_true_eq] at h4
        rcases h4 with h4 | h4
        · exact ⟨(p.1, p.2), h4, ordP_lt h3⟩
        · exact ⟨(p.2, p.1), h4, by rw [ordP_swap]; exact ordP_lt h3⟩
      · rintro ⟨q, hq, rfl⟩
        obtain ⟨c, d, h1, h2, rfl⟩ := (hls q).mp hq
        obtain ⟨hc, hd, hne⟩ := pairsOf_in ndc h1
        have hne' : enc c ≠ enc d := fun e => hne (inj c hc d hd e)
        have m1 := (hmem (enc c)).mpr ⟨c, hc, rfl⟩
        have m2 := (hmem (enc d)).mpr ⟨d, hd, rfl⟩
        unfold ordP
        dsimp only
        split
        · rename_i q1
          exact ⟨⟨m1, m2, q1, hne'⟩, by show (decide _ || decide _) = true; rw [decide_eq_true hq]; rfl⟩
        · rename_i q1
          exact ⟨⟨m2, m1, (oLe_total sS _ _).resolve_left q1, fun e => hne' e.symm⟩, by show (decide _ || decide _) = true; rw [Bool.or_comm, decide_eq_true hq]; rfl⟩
  · show (decide _ || decide _) = r c d
    cases hq : r c d with
    | true =>
      rw [Bool.or_eq_true, decide_eq_true_eq, decide_eq_true_eq, hls, hls]
      rcases pairsOf_or hc hd n with h | h
      · exact .inl ⟨c, d, h, hq, rfl⟩
      · exact .inr ⟨d, c, h, by rw [hr]; exact hq, rfl⟩
    | false =>
      rw [Bool.or_eq_false_iff, decide_eq_false_iff_not, decide_eq_false_iff_not, hls, hls]
      constructor
      · rintro ⟨c', d', h1, h2, e⟩
        obtain ⟨hc', hd', _⟩ := pairsOf_in ndc h1
        have e1 := inj _ hc _ hc' (Prod.mk.inj e).1
        have e2 := inj _ hd _ hd' (Prod.mk.inj e).2
        subst e1 e2
        rw [hq] at h2
        cases h2
      · rintro ⟨c', d', h1, h2, e⟩
        obtain ⟨hc', hd', _⟩ := pairsOf_in ndc h1
        have e1 := inj _ hd _ hc' (Prod.mk.inj e).1
        have e2 := inj _ hc _ hd' (Prod.mk.inj e).2
        subst e1 e2
        rw [hr, hq] at h2
        cases h2
end LW

set_option Elab.async false
set_option linter.all false
set_option maxRecDepth 100000
set_option maxHeartbeats 4000000
namespace LW
open PySem PySem.Spec PyProof.Rows L2 TL

/-! ### what repr shows -/
theorem wtL_le {α : Type} (enc : α → D) (c : Nat) : ∀ xs : List α, (∀ x ∈ xs, wt (enc x) ≤ c) → wtL (xs.map enc) ≤ xs.length * (c + 2)
  | [], _ => by rw [List.map_nil, wtL]; exact Nat.zero_le _
  | x :: xs, h => by
    have h1 := wtL_le enc c xs fun y hy => h y (List.mem_cons_of_mem _ hy)
    have h2 := h x (List.mem_cons_self ..)
    rw [List.map_cons, wtL, List.length_cons, Nat.add_mul]
    omega
theorem showAll {α : Type} (enc : α → D) : ∀ xs : List α, (∀ x ∈ xs, (enc x).showable = true) → PyData.showableAll (xs.map enc) = true
  | [], _ => rfl
  | x :: xs, h => by
    rw [List.map_cons, PyData.showableAll, h x (List.mem_cons_self ..), showAll enc xs fun y hy => h y (List.mem_cons_of_mem _ hy)]
    rfl
theorem plainAll {α : Type} (enc : α → D) : ∀ xs : List α, (∀ x ∈ xs, (enc x).plain = true) → PyData.plainAll (xs.map enc) = true
  | [], _ => rfl
  | x :: xs, h => by
    rw [List.map_cons, PyData.plainAll, h x (List.mem_cons_self ..), plainAll enc xs fun y hy => h y (List.mem_cons_of_mem _ hy)]
    rfl
theorem depthAll {α : Type} (enc : α → D) (c : Nat) : ∀ xs : List α, (∀ x ∈ xs, (enc x).depth ≤ c) → PyData.depthAll (xs.map enc) ≤ c
  | [], _ => Nat.zero_le _
  | x :: xs, h => by
    rw [List.map_cons, PyData.depthAll]
    exact Nat.max_le.mpr ⟨h x (List.mem_cons_self ..), depthAll enc c xs fun y hy => h y (List.mem_cons_of_mem _ hy)⟩
/-- what may be shown, of so much weight and depth at most -/
structure Shw (d : D) (w dp : Nat) : Prop where
  sh : d.showable = true
  pl : d.plain = true
  wt : wt d ≤ w
  dp : d.depth ≤ dp
theorem Shw.repr {d : D} {w dp : Nat} (h : Shw d w dp) (hw : w ≤ 1000000) (hd : dp ≤ 60) : ∃ t, dRepr [d] = some (.str t) := by
  refine ⟨d.shown, if_pos ⟨h.sh, h.pl, Nat.le_trans h.wt (Nat.le_trans hw (by decide)), Nat.le_trans h.dp hd⟩⟩
theorem shw_str {s : Str} {c : Nat} (h : (reprText s).length ≤ c) : Shw (.str s) c 0 := ⟨rfl, rfl, by rw [TL.wt]; exact h, Nat.zero_le _⟩
theorem shw_int {i : Int} {c : Nat} (h : i.natAbs.log2 ≤ c) (hc : c < 1920) : Shw (.int i) (c + 2) 0 := ⟨by rw [PyData.showable]; simp; omega, rfl, by rw [TL.wt]; omega, Nat.zero_le _⟩
theorem shw_tup {α : Type} (enc : α → D) {xs : List α} {c dp : Nat} (h : ∀ x ∈ xs, Shw (enc x) c dp) : Shw (.tuple (xs.map enc)) (xs.length * (c + 2) + 3) (dp + 1) :=
  ⟨by rw [PyData.showable]; exact showAll enc xs fun x hx => (h x hx).sh, by rw [PyData.plain]; exact plainAll enc xs fun x hx => (h x hx).pl,
    by rw [TL.wt]; have := wtL_le enc c xs fun x hx => (h x hx).wt; omega, by rw [PyData.depth]; have := depthAll enc dp xs fun x hx => (h x hx).dp; omega⟩
theorem shw_lst {α : Type} (enc : α → D) {xs : List α} {c dp : Nat} (h : ∀ x ∈ xs, Shw (enc x) c dp) : Shw (.list (xs.map enc)) (xs.length * (c + 2) + 3) (dp + 1) :=
  ⟨by rw [PyData.showable]; exact showAll enc xs fun x hx => (h x hx).sh, by rw [PyData.plain]; exact plainAll enc xs fun x hx => (h x hx).pl,
    by rw [TL.wt]; have := wtL_le enc c xs fun x hx => (h x hx).wt; omega, by rw [PyData.depth]; have := depthAll enc dp xs fun x hx => (h x hx).dp; omega⟩
theorem Shw.mono {d : D} {w w' dp dp' : Nat} (h : Shw d w dp) (hw : w ≤ w') (hd : dp ≤ dp') : Shw d w' dp' := ⟨h.sh, h.pl, Nat.le_trans h.wt hw, Nat.le_trans h.dp hd⟩
theorem shw_tupL {ds : List D} {c dp : Nat} (h : ∀ x ∈ ds, Shw x c dp) : Shw (.tuple ds) (ds.length * (c + 2) + 3) (dp + 1) := by
  have := shw_tup id h
  rwa [List.map_id] at this
theorem repr_kD (k : Bool) : (reprText (if k then "tied" else "apart" : Str)).length ≤ 20 := by cases k <;> decide +kernel
/-- a post of short name and numbers -/
def PoS (z : Po) : Prop := (reprText z.n).length ≤ 20 ∧ z.a.natAbs.log2 ≤ 100 ∧ z.b.natAbs.log2 ≤ 100
theorem shw_pD {z : Po} (h : PoS z) : Shw (pD z) 500 1 := by
  refine (shw_tupL (ds := [.str z.n, kD z.k, .int z.a, .int z.b]) (c := 102) (dp := 0) fun x hx => ?_).mono (by simp) (by omega)
  simp only [List.mem_cons, List.not_mem_nil, or_false] at hx
  rcases hx with rfl | rfl | rfl | rfl
  · exact (shw_str h.1).mono (by omega) (by omega)
  · exact (shw_str (repr_kD z.k)).mono (by omega) (by omega)
  · exact shw_int h.2.1 (by omega)
  · exact shw_int h.2.2 (by omega)
theorem shw_prS {p : Str × Str} (h1 : (reprText p.1).length ≤ 20) (h2 : (reprText p.2).length ≤ 20) : Shw (prS p) 50 1 := by
  refine (shw_tupL (ds := [.str p.1, .str p.2]) (c := 20) (dp := 0) fun x hx => ?_).mono (by simp) (by omega)
  simp only [List.mem_cons, List.not_mem_nil, or_false] at hx
  rcases hx with rfl | rfl
  · exact shw_str h1
  · exact shw_str h2
theorem shw_tS {xs : List Str} (h : ∀ x ∈ xs, (reprText x).length ≤ 20) : Shw (tS xs) (xs.length * 22 + 3) 1 := shw_tup PyData.str fun x hx => shw_str (h x hx)
theorem shw_wD {zs : List Po} {ts : List (Str × Str)} (h : ∀ z ∈ zs, PoS z) (ht : ∀ p ∈ ts, (reprText p.1).length ≤ 20 ∧ (reprText p.2).length ≤ 20) (hl : zs.length ≤ 100) (htl : ts.length ≤ 10000) : Shw (wD zs ts) 1000000 5 := by
  have h1 := shw_tup pD (xs := zs) fun z hz => shw_pD (h z hz)
  have h2 := shw_tup prS (xs := ts) fun p hp => shw_prS (ht p hp).1 (ht p hp).2
  have h3 : zs.length * (500 + 2) ≤ 100 * 502 := Nat.mul_le_mul hl (Nat.le_refl _)
  have h4 : ts.length * (50 + 2) ≤ 10000 * 52 := Nat.mul_le_mul htl (Nat.le_refl _)
  refine ⟨?_, ?_, ?_, ?_⟩
  · show ((PyData.tuple (zs.map pD)).showable && ((PyData.tuple (ts.map prS)).showable && true)) = true
    rw [h1.sh, h2.sh]
    rfl
  · show ((PyData.tuple (zs.map pD)).plain && ((PyData.tuple (ts.map prS)).plain && true)) = true
    rw [h1.pl, h2.pl]
    rfl
  · have e1 := h1.wt
    have e2 := h2.wt
    unfold wD
    rw [TL.wt, TL.wtL, TL.wtL, TL.wtL]
    omega
  · have e1 := h1.dp
    have e2 := h2.dp
    unfold wD
    rw [PyData.depth, PyData.depthAll, PyData.depthAll, PyData.depthAll]
    omega
theorem repr_cw {zs : List Po} {R : Str → Str → Bool} (h : WebOk zs) (hs : ∀ z ∈ zs, PoS z) : ∃ t, dRepr [cw zs R] = some (.str t) := by
  have hn : ∀ s ∈ zs.map Po.n, (reprText s).length ≤ 20 := fun s h => by
    obtain ⟨z, hz, rfl⟩ := List.mem_map.mp h
    exact (hs z hz).1
  refine (shw_wD hs (fun p hp => ?_) h.len h.tl).repr (by omega) (by omega)
  have := ((tsOf_mem h.nms).mp hp).1
  exact ⟨hn _ this.1, hn _ this.2.1⟩
theorem repr_tS {xs : List Str} (h : ∀ x ∈ xs, (reprText x).length ≤ 20) (hl : xs.length ≤ 1000) : ∃ t, dRepr [tS xs] = some (.str t) := (shw_tS h).repr (by omega) (by omega)
theorem good_tS : Good tS := good_str.tups fun _ => Nat.zero_le _
theorem good_lS : Good lS := good_str.lsts fun _ => Nat.zero_le _
theorem ne_same (t : Str) : dNe (.str t) (.str t) = some (.bool false) := by
  have := good_str.ne (x := t) (y := t)
  simpa using this
theorem ne_self {α : Type} [DecidableEq α] {enc : α → D} (G : Good enc) (x : α) : dNe (enc x) (enc x) = some (.bool false) := by
  have := G.ne (x := x) (y := x)
  simpa using this
end LW

set_option Elab.async false
set_option linter.all false
set_option maxRecDepth 100000
set_option maxHeartbeats 4000000
namespace LW
open PySem PySem.Spec PyProof.Rows L2 TL
local macro_rules | `(tactic| symm_saturate) => `(tactic| repeat (first
  | ((with_reducible refine ke_rd' ?_); refine ⟨_, rfl, ?_⟩)
  | with_reducible refine ke_cst ?_ | with_reducible refine ke_b2 ?_ | with_reducible refine ke_u1 ?_ | with_reducible refine ke_cN ?_ | with_reducible refine ke_cS ?_ | with_reducible refine ke_cI ?_
  | with_reducible refine ke_mkT ?_ | with_reducible refine ke_mkL ?_ | with_reducible refine ke_bE ?_ | with_reducible refine ke_sl3 ?_ | with_reducible refine ko_N ?_ | with_reducible refine ko_S ?_ | with_reducible refine ka_N ?_ | with_reducible refine ka_C ?_ | with_reducible refine ka_iE ?_
  | with_reducible refine kb_tst ?_ | with_reducible refine kb_bT ?_ | with_reducible refine kb_not ?_ | with_reducible refine ks_seq ?_ | with_reducible refine ks_N ?_ | with_reducible refine ks_set ?_ | with_reducible refine ks_par ?_ | with_reducible refine ks_ret ?_
  | with_reducible refine seqP_nx ?_ | with_reducible refine seqP_rt ?_ | with_reducible refine lapP_nx ?_ | with_reducible refine lapP_rt ?_ | with_reducible refine lapP_ct ?_ | with_reducible refine lapP_bk ?_ | with_reducible refine seqP_ct ?_ | with_reducible refine seqP_bk ?_ | with_reducible refine retP_rt ?_ | with_reducible refine retS_rt ?_
  | with_reducible refine ks_thaw ?_ | with_reducible refine ke_newK ?_ | with_reducible refine ke_newT ?_ | with_reducible refine ke_mkTV ?_ | with_reducible refine ke_mkLV ?_
  | (with_reducible first
    | refine ⟨_, add_ii _ _, ?_⟩ | refine ⟨_, sub_ii _ _, ?_⟩ | refine ⟨_, lt_ii _ _, ?_⟩ | refine ⟨_, le_ii _ _, ?_⟩ | refine ⟨_, gt_ii _ _, ?_⟩ | refine ⟨_, ge_ii _ _, ?_⟩ | refine ⟨_, neg_i _, ?_⟩
    | refine ⟨_, len_l _, ?_⟩ | refine ⟨_, len_t _, ?_⟩ | refine ⟨_, tup_l _, ?_⟩ | refine ⟨_, tup_t _, ?_⟩ | refine ⟨_, lst_l _, ?_⟩ | refine ⟨_, lst_t _, ?_⟩)
  | ((with_reducible show ∃ d, dTuple _ = some d ∧ _); first | refine ⟨_, tup_l _, ?_⟩ | refine ⟨_, tup_t _, ?_⟩)
  | ((with_reducible show ∃ d, dLen _ = some d ∧ _); first | refine ⟨_, len_l _, ?_⟩ | refine ⟨_, len_t _, ?_⟩)
  | ((with_reducible show ∃ i, _ = PyData.int i ∧ _); refine ⟨_, rfl, ?_⟩)
  | ((with_reducible show ∃ b, _ = PyData.bool b ∧ _); refine ⟨_, rfl, ?_⟩)
  | ((with_reducible show ∃ ds, items _ = some ds ∧ _); refine ⟨_, rfl, ?_⟩)
  | ((with_reducible show ∃ d, dSub2 _ _ = some d ∧ _); first | refine ⟨_, ix0, ?_⟩ | refine ⟨_, ix1, ?_⟩ | refine ⟨_, ix2, ?_⟩ | refine ⟨_, ix3, ?_⟩ | refine ⟨_, ixl0, ?_⟩ | refine ⟨_, ixl1, ?_⟩)))

/-! ### drawing -/
theorem pick_int {n : Int} (h : 0 < n) (hn : n ≤ 100000) (S : Src) : ∃ (j : Int) (S' : Src), m__law_pick [.int n] S = some (.int j, S') ∧ 0 ≤ j ∧ j < n := by
  obtain ⟨r, S', e, h1, h2⟩ := pick_run S (show n < 2 ^ 30 by omega)
  exact ⟨r, S', e, h1, by split at h2 <;> omega⟩
theorem ev_pick {n : Nat} {S : Src} {K : D → Src → Prop} (h : 0 < n) (hn : n ≤ 100000) (k : ∀ (j : Nat) S', j < n → K (.int (j : Nat)) S') : ∃ d S2, m__law_pick [.int (n : Nat)] S = some (d, S2) ∧ K d S2 := by
  obtain ⟨r, S', e, h1, h2⟩ := pick_int (n := n) (by omega) (by omega) S
  obtain ⟨j, rfl⟩ : ∃ j : Nat, r = j := ⟨r.toNat, by omega⟩
  exact ⟨_, S', e, k j S' (by omega)⟩
theorem ev_of {α : Type} (enc : α → D) (xs : List α) {S : Src} {K : D → Src → Prop} (h0 : xs ≠ []) (hl : xs.length ≤ 100000) (k : ∀ (i : Nat) x S', xs[i]? = some x → K (enc x) S') : ∃ d S2, m__law_of [.list (xs.map enc)] S = some (d, S2) ∧ K d S2 := by
  refine kp_runS ?_
  unfold g__law_of
  symm_saturate
  have hp : 0 < xs.length := List.length_pos_iff.mpr h0
  refine ev_pick (n := (xs.map enc).length) (by rw [List.length_map]; exact hp) (by rw [List.length_map]; exact hl) fun j S' hj => ?_
  rw [List.length_map] at hj
  refine ⟨enc xs[j], ixL (by rw [List.getElem?_map, List.getElem?_eq_getElem hj]; rfl), ?_⟩
  symm_saturate
  exact k j _ S' (List.getElem?_eq_getElem hj)
theorem erase_map {α β : Type} (f : α → β) : ∀ (xs : List α) (i : Nat), (xs.map f).eraseIdx i = (xs.eraseIdx i).map f
  | [], i => by cases i <;> rfl
  | x :: xs, 0 => rfl
  | x :: xs, i + 1 => by
    rw [List.map_cons, List.eraseIdx_cons_succ, List.eraseIdx_cons_succ, List.map_cons, erase_map f xs i]
theorem perm_erase {α : Type} : ∀ (xs : List α) (i : Nat) (x : α), xs[i]? = some x → (x :: xs.eraseIdx i).Perm xs
  | [], i, x, h => by simp at h
  | y :: ys, 0, x, h => by cases h; exact .refl _
  | y :: ys, i + 1, x, h => by
    rw [List.eraseIdx_cons_succ]
    exact (List.Perm.swap y x _).trans (List.Perm.cons y (perm_erase ys i x (by simpa using h)))
theorem mixed_comp {α : Type} (enc : α → D) {L : D} : ∀ (ds : List D) (rest : List α) (x : Option D) (S : Src), ds.length = rest.length → rest.length ≤ 100000 →
    ∃ (ys : List α) (ρ' : Rho) (S' : Src), compN [3] (sN 3) bT (nP 2 (cS m__law_pick (aC (cN dLen (aC (rd 2) aN)) aN))) ds [none, some L, some (.list (rest.map enc)), none] S = some (ys.map enc, ρ', S') ∧ ys.Perm rest
  | [], rest, x, S, hl, _ => by
    have : rest = [] := List.length_eq_zero_iff.mp hl.symm
    subst this
    exact ⟨[], _, S, rfl, .refl _⟩
  | d :: ds, rest, x, S, hl, hb => by
    have hp : 0 < rest.length := by rw [List.length_cons] at hl; omega
    have hn : KN (nP 2 (cS m__law_pick (aC (cN dLen (aC (rd 2) aN)) aN))) [none, some L, some (.list (rest.map enc)), some d] S (fun y ρ2 S2 => ∃ (j : Nat) (z : α), rest[j]? = some z ∧ y = enc z ∧ ρ2 = [none, some L, some (.list ((rest.eraseIdx j).map enc)), some d]) := by
      refine kn_P ?_
      symm_saturate
      refine ev_pick (n := (rest.map enc).length) (by rw [List.length_map]; exact hp) (by rw [List.length_map]; exact hb) fun j S' hj => ?_
      rw [List.length_map] at hj
      refine ⟨_, j, enc rest[j], rfl, rfl, by rw [List.getElem?_map, List.getElem?_eq_getElem hj]; rfl, by rw [List.length_map]; exact hb, j, rest[j], List.getElem?_eq_getElem hj, rfl, ?_⟩
      rw [erase_map]
      rfl
    obtain ⟨y, ρ2, S2, e, j, z, hz, rfl, rfl⟩ := hn
    have hj : j < rest.length := (List.getElem?_eq_some_iff.mp hz).1
    obtain ⟨ys, ρ', S', e2, p⟩ := mixed_comp enc (L := L) ds (rest.eraseIdx j) none S2 (by rw [List.length_cons] at hl; rw [List.length_eraseIdx, if_pos hj]; omega) (by rw [List.length_eraseIdx, if_pos hj]; omega)
    refine ⟨z :: ys, ρ', S', ?_, (p.cons z).trans (perm_erase rest j z hz)⟩
    unfold compN
    rw [show sN 3 d [none, some L, some (.list (rest.map enc)), none] = some [none, some L, some (.list (rest.map enc)), some d] from rfl]
    dsimp only [bT]
    rw [e]
    dsimp only
    rw [show wipeR [none, some L, some (.list ((rest.eraseIdx j).map enc)), some d] [3] = [none, some L, some (.list ((rest.eraseIdx j).map enc)), none] from rfl, e2]
    rfl
theorem mixed_iter {α : Type} (enc : α → D) (xs : List α) {L : D} {S : Src} (hl : xs.length ≤ 100000) : iR1 (aC (cN dLen (aC (rd 2) aN)) aN) [none, some L, some (.list (xs.map enc)), none] S = some ((List.range xs.length).map (fun i => .int (i : Nat)), S) := by
  have e : aC (cN dLen (aC (rd 2) aN)) aN [none, some L, some (.list (xs.map enc)), none] S = some ([.int (xs.length : Nat)], S) := by
    rw [← List.length_map (f := enc)]
    rfl
  unfold iR1
  rw [e]
  dsimp only
  rw [if_pos (by omega), upto_nat, Int.toNat_natCast]
theorem mixed_lcN {α : Type} (enc : α → D) (xs : List α) {L : D} {S : Src} (hl : xs.length ≤ 100000) : ∃ (ys : List α) (ρ' : Rho) (S' : Src), lcN [3] (iR1 (aC (cN dLen (aC (rd 2) aN)) aN)) (sN 3) bT (nP 2 (cS m__law_pick (aC (cN dLen (aC (rd 2) aN)) aN))) [none, some L, some (.list (xs.map enc)), none] S = some (.list (ys.map enc), ρ', S') ∧ ys.Perm xs := by
  obtain ⟨ys, ρ', S', e, p⟩ := mixed_comp enc (L := L) ((List.range xs.length).map fun i => .int (i : Nat)) xs none S (by rw [List.length_map, List.length_range]) hl
  refine ⟨ys, ρ', S', ?_, p⟩
  have hz : ((List.range xs.length).map fun i => PyData.int (i : Nat)).length ≤ 100000 := by rw [List.length_map, List.length_range]; exact hl
  exact lcN_val (mixed_iter enc xs hl) hz e
theorem ev_mixed {α : Type} (enc : α → D) (xs : List α) {L : D} {S : Src} {K : D → Src → Prop} (hL : dListA [L] = some (.list (xs.map enc))) (hl : xs.length ≤ 100000) (k : ∀ (ys : List α) S', ys.Perm xs → K (.list (ys.map enc)) S') : ∃ d S2, m__law_mixed [L] S = some (d, S2) ∧ K d S2 := by
  refine kp_runS ?_
  unfold g__law_mixed
  symm_saturate
  refine ks_own ?_
  symm_saturate
  refine ⟨_, hL, rfl, ?_⟩
  symm_saturate
  refine ks_retNN ?_
  obtain ⟨ys, ρ', S', e, p⟩ := mixed_lcN enc xs (L := L) (S := S) hl
  exact ⟨.list (ys.map enc), ρ', S', e, k ys S' p⟩
end LW

set_option Elab.async false
set_option linter.all false
set_option maxRecDepth 100000
set_option maxHeartbeats 4000000
namespace LW
open PySem PySem.Spec PyProof.Rows L2 TL
local macro_rules | `(tactic| symm_saturate) => `(tactic| repeat (first
  | ((with_reducible refine ke_rd' ?_); refine ⟨_, rfl, ?_⟩)
  | with_reducible refine ke_cst ?_ | with_reducible refine ke_b2 ?_ | with_reducible refine ke_u1 ?_ | with_reducible refine ke_cN ?_ | with_reducible refine ke_cS ?_ | with_reducible refine ke_cI ?_
  | with_reducible refine ke_mkT ?_ | with_reducible refine ke_mkL ?_ | with_reducible refine ke_bE ?_ | with_reducible refine ke_sl3 ?_ | with_reducible refine ko_N ?_ | with_reducible refine ko_S ?_ | with_reducible refine ka_N ?_ | with_reducible refine ka_C ?_ | with_reducible refine ka_iE ?_
  | with_reducible refine kb_tst ?_ | with_reducible refine kb_bT ?_ | with_reducible refine kb_not ?_ | with_reducible refine ks_seq ?_ | with_reducible refine ks_N ?_ | with_reducible refine ks_set ?_ | with_reducible refine ks_par ?_ | with_reducible refine ks_ret ?_
  | with_reducible refine seqP_nx ?_ | with_reducible refine seqP_rt ?_ | with_reducible refine lapP_nx ?_ | with_reducible refine lapP_rt ?_ | with_reducible refine lapP_ct ?_ | with_reducible refine lapP_bk ?_ | with_reducible refine seqP_ct ?_ | with_reducible refine seqP_bk ?_ | with_reducible refine retP_rt ?_ | with_reducible refine retS_rt ?_
  | with_reducible refine ks_thaw ?_ | with_reducible refine ke_newK ?_ | with_reducible refine ke_newT ?_ | with_reducible refine ke_mkTV ?_ | with_reducible refine ke_mkLV ?_
  | (with_reducible first
    | refine ⟨_, add_ii _ _, ?_⟩ | refine ⟨_, sub_ii _ _, ?_⟩ | refine ⟨_, lt_ii _ _, ?_⟩ | refine ⟨_, le_ii _ _, ?_⟩ | refine ⟨_, gt_ii _ _, ?_⟩ | refine ⟨_, ge_ii _ _, ?_⟩ | refine ⟨_, neg_i _, ?_⟩
    | refine ⟨_, len_l _, ?_⟩ | refine ⟨_, len_t _, ?_⟩ | refine ⟨_, tup_l _, ?_⟩ | refine ⟨_, tup_t _, ?_⟩ | refine ⟨_, lst_l _, ?_⟩ | refine ⟨_, lst_t _, ?_⟩)
  | ((with_reducible show ∃ d, dTuple _ = some d ∧ _); first | refine ⟨_, tup_l _, ?_⟩ | refine ⟨_, tup_t _, ?_⟩)
  | ((with_reducible show ∃ d, dLen _ = some d ∧ _); first | refine ⟨_, len_l _, ?_⟩ | refine ⟨_, len_t _, ?_⟩)
  | ((with_reducible show ∃ i, _ = PyData.int i ∧ _); refine ⟨_, rfl, ?_⟩)
  | ((with_reducible show ∃ b, _ = PyData.bool b ∧ _); refine ⟨_, rfl, ?_⟩)
  | ((with_reducible show ∃ ds, items _ = some ds ∧ _); refine ⟨_, rfl, ?_⟩)
  | ((with_reducible show ∃ d, dSub2 _ _ = some d ∧ _); first | refine ⟨_, ix0, ?_⟩ | refine ⟨_, ix1, ?_⟩ | refine ⟨_, ix2, ?_⟩ | refine ⟨_, ix3, ?_⟩ | refine ⟨_, ixl0, ?_⟩ | refine ⟨_, ixl1, ?_⟩)))

/-! ### numbers by n of one piece -/
def Sm (i : Int) : Prop := i.natAbs.log2 ≤ 290
theorem sm_of {i : Int} (h : i.natAbs < 2 ^ 290) : Sm i := by
  unfold Sm
  by_cases hz : i.natAbs = 0
  · rw [hz]; decide
  · have := (Nat.log2_lt hz (k := 290)).mpr h
    omega
theorem text_len {i : Int} : ((toString i : String) : Str).length ≤ i.natAbs.log2 + 2 := by
  have h := shown_wt (.int i) rfl
  rw [wt] at h
  exact h
theorem is_long_eq {i : Int} (h : Sm i) : m_is_long [.int i] = some (.bool false) := by
  have h : i.natAbs.log2 ≤ 290 := h
  have ha : (if i < 0 then -i else i).natAbs = i.natAbs := by split <;> omega
  have hb : dBits (.int i) = some (.int (Builtin.Int.intBits i : Nat)) := rfl
  have hbl : Builtin.Int.intBits i ≤ 291 := by
    unfold Builtin.Int.intBits
    split <;> omega
  refine kp_run ?_
  unfold g_is_long
  symm_saturate
  refine kb_or ?_
  symm_saturate
  refine ⟨_, hb, ?_⟩
  symm_saturate
  refine ⟨rfl, ?_⟩
  symm_saturate
  obtain ⟨j, hj, hj2⟩ : ∃ j : Int, dAbs [.int i] = some (.int j) ∧ j.natAbs = i.natAbs := ⟨_, rfl, by omega⟩
  refine ⟨_, hj, ?_⟩
  symm_saturate
  have hs : dStr [.int j] = some (.str (toString j : String)) := if_pos (by rw [hj2]; omega)
  refine ⟨_, hs, ?_⟩
  symm_saturate
  have hl := text_len (i := j)
  rw [hj2] at hl
  have hd : dLen [.str (toString j : String)] = some (.int ((toString j : String) : Str).length) := if_pos (Nat.le_trans hl (Nat.le_trans (by omega : _ ≤ 1000) (by decide)))
  refine ⟨_, hd, ?_⟩
  symm_saturate
  refine ⟨rfl, ?_⟩
  symm_saturate
  rw [decide_eq_false (by omega), decide_eq_false (by omega)]
  rfl
def pcD (p : Int × Int × Int) : D := .tuple [.int p.1, .int p.2.1, .int p.2.2]
theorem not_long_eq {ps : List (Int × Int × Int)} (h : ∀ p ∈ ps, Sm p.1 ∧ Sm p.2.1 ∧ Sm p.2.2) : m_not_long [.tuple (ps.map pcD)] = some (.tuple (ps.map pcD)) := by
  refine kp_run ?_
  unfold g_not_long
  symm_saturate
  refine ks_forT pcD ?_
  symm_saturate
  refine ⟨ps, rfl, fun i ρ S => S = S0 ∧ ∃ a, ρ = [some (.tuple (ps.map pcD)), a, none], ⟨rfl, none, rfl⟩, ?_, ?_⟩
  · rintro i p ρ S hp ⟨rfl, a, rfl⟩
    obtain ⟨s1, s2, s3⟩ := h p (List.mem_of_getElem? hp)
    refine ⟨[some (.tuple (ps.map pcD)), some (pcD p), none], rfl, ?_⟩
    refine ks_ifF ?_
    symm_saturate
    refine ke_lcA PyData.int (fun _ => .bool false) ?_
    symm_saturate
    refine ⟨[p.1, p.2.1, p.2.2], rfl, by simp, fun i hi => ⟨_, rfl, ?_⟩, ?_⟩
    · symm_saturate
      simp only [List.mem_cons, List.not_mem_nil, or_false] at hi
      refine ⟨_, is_long_eq (by rcases hi with rfl | rfl | rfl <;> assumption), rfl, rfl⟩
    symm_saturate
    refine ⟨.bool false, rfl, ?_⟩
    symm_saturate
    refine ⟨rfl, ?_⟩
    symm_saturate
    exact ⟨rfl, _, rfl⟩
  · rintro ρ S ⟨rfl, a, rfl⟩
    symm_saturate
    rfl
def nlD (v s : Int) : D := .tuple [.tuple [.int 0, .int v, .int s]]
theorem sm0 : Sm 0 := by unfold Sm; decide
theorem number_line_eq {v s : Int} (hv : Sm v) (hs : Sm s) : m_number_line [.int v, .int s] = some (nlD v s) := by
  refine kp_run ?_
  unfold g_number_line
  symm_saturate
  refine ⟨_, not_long_eq (ps := [(0, v, s)]) (by simp [hv, hs, sm0]), ?_⟩
  symm_saturate
  rfl
theorem line_at_eq {v s : Int} : m_line_at [nlD v s, .int 0] = some (.tuple [.int v, .int s]) := by
  refine kp_run ?_
  unfold g_line_at
  symm_saturate
  refine ks_unp ?_
  symm_saturate
  refine ke_lc pcD (fun p => decide (p.1 ≤ 0)) pcD ?_
  symm_saturate
  refine ⟨[(0, v, s)], rfl, by simp, fun p _ => ⟨_, rfl, ?_⟩, ?_⟩
  · symm_saturate
    exact ⟨rfl, rfl, fun _ => by symm_saturate; exact ⟨rfl, rfl⟩⟩
  have e : ([(0, v, s)] : List (Int × Int × Int)).filter (fun p => decide (p.1 ≤ 0)) = [(0, v, s)] := rfl
  rw [e]
  symm_saturate
  refine ⟨pcD (0, v, s), atI_last [] _, ?_⟩
  refine ⟨_, rfl, ?_⟩
  symm_saturate
  refine ⟨.int (s * (0 - 0)), if_pos (.inr (by omega)), ?_⟩
  symm_saturate
  congr 3
  simp
def bsD (v s v' s' : Int) : D := .list [.tuple [.int 0, .none, .tuple [.int v, .int s], .tuple [.int v', .int s']]]
theorem beside_eq {v s v' s' : Int} : m_beside [nlD v s, nlD v' s'] = some (bsD v s v' s') := by
  refine kp_run ?_
  unfold g_beside
  symm_saturate
  refine ke_lcA pcD (fun p => .tuple [.int p.1, .bool true]) ?_
  symm_saturate
  refine ka_S ?_
  symm_saturate
  refine ⟨_, .inr rfl, ?_⟩
  refine ka_S ?_
  symm_saturate
  refine ⟨_, .inr rfl, ?_⟩
  symm_saturate
  refine ⟨by simp, ?_⟩
  symm_saturate
  refine ⟨[(0, v, s), (0, v', s')], rfl, by simp, fun p _ => ⟨_, rfl, ?_⟩, ?_⟩
  · symm_saturate
    exact ⟨rfl, rfl⟩
  symm_saturate
  refine ⟨.dict [(.int 0, .bool true)], rfl, ?_⟩
  symm_saturate
  have hs : dSortedC [.dict [(.int 0, .bool true)]] = some (.list [.int 0]) := by
    show dSorted [.list [.int 0]] = _
    unfold dSorted
    dsimp only
    refine (if_pos ⟨?_, .inr ?_, ?_⟩).trans (by unfold sortD; rw [List.mergeSort_singleton])
    · intro d hd e he
      rw [List.mem_singleton.mp hd, List.mem_singleton.mp he]
      rfl
    · intro d hd
      rw [List.mem_singleton.mp hd]
      rfl
    · intro d hd
      rw [List.mem_singleton.mp hd]
      exact Nat.zero_le _
  refine ⟨_, hs, ?_⟩
  symm_saturate
  refine ka_S ?_
  symm_saturate
  refine ⟨.list [], rfl, ?_⟩
  refine ⟨_, .inl rfl, ?_⟩
  symm_saturate
  refine ⟨by simp, ?_⟩
  symm_saturate
  refine ke_lcA (fun p : Int × D => .tuple [.int p.1, p.2]) (fun p => .tuple [.int 0, p.2, .tuple [.int v, .int s], .tuple [.int v', .int s']]) ?_
  refine ka_iZpG ?_
  symm_saturate
  refine ⟨_, _, _, rfl, rfl, [(0, .none)], rfl, by simp, fun p hp => ⟨_, rfl, ?_⟩, ?_⟩
  · rw [List.mem_singleton.mp hp]
    symm_saturate
    refine ⟨_, line_at_eq, ?_⟩
    symm_saturate
    refine ⟨_, line_at_eq, ?_⟩
    symm_saturate
    exact ⟨rfl, rfl⟩
  symm_saturate
  rfl
theorem number_told1_eq {v s : Int} (hv : Sm v) (hs : Sm s) : m_number_told [.list [.tuple [.int 0, .int v, .int s]]] = some (nlD v s) := by
  refine kp_run ?_
  unfold g_number_told
  refine ks_seq (ks_par ?_)
  refine ka_M ?_
  symm_saturate
  refine ⟨rfl, ?_⟩
  symm_saturate
  refine ks_ifT ?_
  symm_saturate
  refine ⟨_, good_int.eq, ?_⟩
  symm_saturate
  refine ⟨rfl, ?_⟩
  symm_saturate
  refine ⟨_, not_long_eq (ps := [(0, v, s)]) (by simp [hv, hs, sm0]), ?_⟩
  symm_saturate
  rfl
theorem numbers_sum_eq {v s v' s' : Int} (hv : Sm (v + v')) (hs : Sm (s + s')) : m_numbers_sum [nlD v s, nlD v' s'] = some (nlD (v + v') (s + s')) := by
  refine kp_run ?_
  unfold g_numbers_sum
  symm_saturate
  refine ke_lcA (fun _ : Unit => .tuple [.int 0, .none, .tuple [.int v, .int s], .tuple [.int v', .int s']]) (fun _ => .tuple [.int 0, .int (v + v'), .int (s + s')]) ?_
  symm_saturate
  refine ⟨_, beside_eq, ?_⟩
  symm_saturate
  refine ⟨[()], rfl, by simp, fun _ _ => ⟨_, rfl, ?_⟩, ?_⟩
  · symm_saturate
    exact ⟨rfl, rfl⟩
  symm_saturate
  refine ⟨_, number_told1_eq hv hs, ?_⟩
  symm_saturate
  rfl
end LW

set_option Elab.async false
set_option linter.all false
set_option maxRecDepth 100000
set_option maxHeartbeats 4000000
namespace LW
open PySem PySem.Spec PyProof.Rows L2 TL
local macro_rules | `(tactic| symm_saturate) => `(tactic| repeat (first
  | ((with_reducible refine ke_rd' ?_); refine ⟨_, rfl, ?_⟩)
  | with_reducible refine ke_cst ?_ | with_reducible refine ke_b2 ?_ | with_reducible refine ke_u1 ?_ | with_reducible refine ke_cN ?_ | with_reducible refine ke_cS ?_ | with_reducible refine ke_cI ?_
  | with_reducible refine ke_mkT ?_ | with_reducible refine ke_mkL ?_ | with_reducible refine ke_bE ?_ | with_reducible refine ke_sl3 ?_ | with_reducible refine ko_N ?_ | with_reducible refine ko_S ?_ | with_reducible refine ka_N ?_ | with_reducible refine ka_C ?_ | with_reducible refine ka_iE ?_
  | with_reducible refine kb_tst ?_ | with_reducible refine kb_bT ?_ | with_reducible refine kb_not ?_ | with_reducible refine ks_seq ?_ | with_reducible refine ks_N ?_ | with_reducible refine ks_set ?_ | with_reducible refine ks_par ?_ | with_reducible refine ks_ret ?_
  | with_reducible refine seqP_nx ?_ | with_reducible refine seqP_rt ?_ | with_reducible refine lapP_nx ?_ | with_reducible refine lapP_rt ?_ | with_reducible refine lapP_ct ?_ | with_reducible refine lapP_bk ?_ | with_reducible refine seqP_ct ?_ | with_reducible refine seqP_bk ?_ | with_reducible refine retP_rt ?_ | with_reducible refine retS_rt ?_
  | with_reducible refine ks_thaw ?_ | with_reducible refine ke_newK ?_ | with_reducible refine ke_newT ?_ | with_reducible refine ke_mkTV ?_ | with_reducible refine ke_mkLV ?_
  | (with_reducible first
    | refine ⟨_, add_ii _ _, ?_⟩ | refine ⟨_, sub_ii _ _, ?_⟩ | refine ⟨_, lt_ii _ _, ?_⟩ | refine ⟨_, le_ii _ _, ?_⟩ | refine ⟨_, gt_ii _ _, ?_⟩ | refine ⟨_, ge_ii _ _, ?_⟩ | refine ⟨_, neg_i _, ?_⟩
    | refine ⟨_, len_l _, ?_⟩ | refine ⟨_, len_t _, ?_⟩ | refine ⟨_, tup_l _, ?_⟩ | refine ⟨_, tup_t _, ?_⟩ | refine ⟨_, lst_l _, ?_⟩ | refine ⟨_, lst_t _, ?_⟩)
  | ((with_reducible show ∃ d, dTuple _ = some d ∧ _); first | refine ⟨_, tup_l _, ?_⟩ | refine ⟨_, tup_t _, ?_⟩)
  | ((with_reducible show ∃ d, dLen _ = some d ∧ _); first | refine ⟨_, len_l _, ?_⟩ | refine ⟨_, len_t _, ?_⟩)
  | ((with_reducible show ∃ i, _ = PyData.int i ∧ _); refine ⟨_, rfl, ?_⟩)
  | ((with_reducible show ∃ b, _ = PyData.bool b ∧ _); refine ⟨_, rfl, ?_⟩)
  | ((with_reducible show ∃ ds, items _ = some ds ∧ _); refine ⟨_, rfl, ?_⟩)
  | ((with_reducible show ∃ d, dSub2 _ _ = some d ∧ _); first | refine ⟨_, ix0, ?_⟩ | refine ⟨_, ix1, ?_⟩ | refine ⟨_, ix2, ?_⟩ | refine ⟨_, ix3, ?_⟩ | refine ⟨_, ixl0, ?_⟩ | refine ⟨_, ixl1, ?_⟩)))

def Bd (x : Int) : Prop := 0 ≤ x ∧ x < 2 ^ 200
theorem Bd.sm {x : Int} (h : Bd x) : Sm x := sm_of (by have := h.1; have := h.2; omega)
def PoB (z : Po) : Prop := Bd z.a ∧ Bd z.b
theorem sum_bd {α : Type} (f : α → Int) : ∀ (xs : List α), (∀ x ∈ xs, Bd (f x)) → 0 ≤ (xs.map f).sum ∧ (xs.map f).sum ≤ xs.length * (2 ^ 200 : Int)
  | [], _ => by simp
  | x :: xs, h => by
    have h1 := sum_bd f xs fun y hy => h y (List.mem_cons_of_mem _ hy)
    have h2 := h x (List.mem_cons_self ..)
    rw [List.map_cons, List.sum_cons, List.length_cons]
    obtain ⟨h3, h4⟩ := h2
    obtain ⟨h5, h6⟩ := h1
    constructor
    · omega
    · rw [show ((xs.length + 1 : Nat) : Int) * 2 ^ 200 = (xs.length : Int) * 2 ^ 200 + 2 ^ 200 by rw [Int.natCast_add, Int.add_mul]; simp]
      omega
theorem sum_sm {α : Type} (f : α → Int) {xs : List α} (h : ∀ x ∈ xs, Bd (f x)) (hl : xs.length ≤ 1000) : Sm (xs.map f).sum := by
  obtain ⟨h1, h2⟩ := sum_bd f xs h
  have h3 : (xs.length : Int) * 2 ^ 200 ≤ 1000 * 2 ^ 200 := Int.mul_le_mul_of_nonneg_right (by omega) (by decide)
  refine sm_of ?_
  omega
theorem sum_take {α : Type} (f : α → Int) {xs : List α} {i : Nat} {x : α} (h : xs[i]? = some x) : ((xs.take (i + 1)).map f).sum = ((xs.take i).map f).sum + f x := by
  rw [List.take_add_one, h, List.map_append, List.sum_append]
  simp
section
variable {zs : List Po} {R : Str → Str → Bool}
theorem copies_told_eq (h : WebOk zs) {z : Po} (hz : z ∈ zs) (ha : Sm z.a) (hb : Sm z.b) : m_copies_told [cw zs R, .str z.n] = some (nlD z.b z.a) := by
  refine kp_run ?_
  unfold g_copies_told
  refine ks_seq (ks_unp ?_)
  symm_saturate
  refine ⟨_, cw_post h hz, ?_⟩
  symm_saturate
  refine ⟨_, rfl, ?_⟩
  symm_saturate
  refine ⟨_, number_line_eq hb ha, ?_⟩
  symm_saturate
  rfl
theorem size_told_eq (h : WebOk zs) (hb : ∀ z ∈ zs, PoB z) : m_size_told [cw zs R] = some (nlD (zs.map Po.b).sum (zs.map Po.a).sum) := by
  have hl := h.len
  refine kp_run ?_
  unfold g_size_told
  symm_saturate
  refine ⟨_, number_line_eq sm0 sm0, ?_⟩
  symm_saturate
  refine ks_forT (fun z : Po => .str z.n) ?_
  symm_saturate
  refine ⟨_, cw_names h, ?_⟩
  symm_saturate
  refine ⟨zs, by rw [List.map_map]; rfl, fun i ρ S => S = S0 ∧ ∃ a, ρ = [some (cw zs R), some (nlD ((zs.take i).map Po.b).sum ((zs.take i).map Po.a).sum), a], ⟨rfl, none, rfl⟩, ?_, ?_⟩
  · rintro i z ρ S hz ⟨rfl, a, rfl⟩
    have hzm := List.mem_of_getElem? hz
    refine ⟨[some (cw zs R), some (nlD ((zs.take i).map Po.b).sum ((zs.take i).map Po.a).sum), some (.str z.n)], rfl, ?_⟩
    symm_saturate
    refine ⟨_, copies_told_eq h hzm (hb z hzm).1.sm (hb z hzm).2.sm, ?_⟩
    symm_saturate
    have hs1 : Sm ((zs.take (i + 1)).map Po.b).sum := sum_sm Po.b (fun y hy => (hb y (List.mem_of_mem_take hy)).2) (by rw [List.length_take]; omega)
    have hs2 : Sm ((zs.take (i + 1)).map Po.a).sum := sum_sm Po.a (fun y hy => (hb y (List.mem_of_mem_take hy)).1) (by rw [List.length_take]; omega)
    rw [sum_take Po.b hz] at hs1
    rw [sum_take Po.a hz] at hs2
    refine ⟨_, numbers_sum_eq hs1 hs2, ?_⟩
    symm_saturate
    refine ⟨rfl, some (.str z.n), ?_⟩
    rw [sum_take Po.b hz, sum_take Po.a hz]
    rfl
  · rintro ρ S ⟨rfl, a, rfl⟩
    rw [List.take_length]
    symm_saturate
    rfl
def poOf (zs : List Po) (s : Str) : Po := (zs.find? fun z => decide (z.n = s)).getD ⟨s, false, 0, 0⟩
theorem poOf_eq (nd : (zs.map Po.n).Nodup) {z : Po} (hz : z ∈ zs) : poOf zs z.n = z := by
  unfold poOf
  rw [find_nd Po.n nd hz]
  rfl
theorem poOf_mem (nd : (zs.map Po.n).Nodup) {s : Str} (hs : s ∈ zs.map Po.n) : poOf zs s ∈ zs ∧ (poOf zs s).n = s := by
  obtain ⟨z, hz, rfl⟩ := List.mem_map.mp hs
  rw [poOf_eq nd hz]
  exact ⟨hz, rfl⟩
def wvB (zs : List Po) (k : Bool) (s : Str) : Int := if (poOf zs s).k = k then (poOf zs s).b else 1
def wvA (zs : List Po) (k : Bool) (s : Str) : Int := if (poOf zs s).k = k then (poOf zs s).a else 0
theorem kD_eq (a b : Bool) : dEq (kD a) (kD b) = some (.bool (decide (a = b))) := good_kD.eq
theorem bd0 : Bd 0 := ⟨by decide, by decide⟩
theorem bd1 : Bd 1 := ⟨by decide, by decide⟩
theorem weight_told_eq (h : WebOk zs) (hb : ∀ z ∈ zs, PoB z) {L : D} {lot : List Str} (hL : IsLot L lot) (hs : ∀ s ∈ lot, s ∈ zs.map Po.n) (hll : lot.length ≤ 1000) (k : Bool) : m_weight_told [cw zs R, L, kD k] = some (nlD (lot.map (wvB zs k)).sum (lot.map (wvA zs k)).sum) := by
  have hB : ∀ s ∈ lot, Bd (wvB zs k s) ∧ Bd (wvA zs k s) := fun s hs' => by
    obtain ⟨h1, _⟩ := poOf_mem h.nd (hs s hs')
    unfold wvB wvA
    split
    · exact ⟨(hb _ h1).2, (hb _ h1).1⟩
    · exact ⟨bd1, bd0⟩
  refine kp_run ?_
  unfold g_weight_told
  symm_saturate
  refine ⟨_, number_line_eq sm0 sm0, ?_⟩
  symm_saturate
  refine ks_forT PyData.str ?_
  symm_saturate
  refine ⟨_, hL.it, lot, rfl, fun i ρ S => S = S0 ∧ ∃ a b, ρ = [some (cw zs R), some L, some (kD k), some (nlD ((lot.take i).map (wvB zs k)).sum ((lot.take i).map (wvA zs k)).sum), a, b], ⟨rfl, none, none, rfl⟩, ?_, ?_⟩
  · rintro i s ρ S hi ⟨rfl, a, b, rfl⟩
    have hsm := List.mem_of_getElem? hi
    obtain ⟨hz, hzn⟩ := poOf_mem h.nd (hs s hsm)
    refine ⟨[some (cw zs R), some L, some (kD k), some (nlD ((lot.take i).map (wvB zs k)).sum ((lot.take i).map (wvA zs k)).sum), some (.str s), b], rfl, ?_⟩
    have hp := cw_post (R := R) h hz
    have hc := copies_told_eq (R := R) h hz (hb _ hz).1.sm (hb _ hz).2.sm
    rw [hzn] at hp hc
    have hs1 : Sm ((lot.take (i + 1)).map (wvB zs k)).sum := sum_sm _ (fun y hy => (hB y (List.mem_of_mem_take hy)).1) (by rw [List.length_take]; omega)
    have hs2 : Sm ((lot.take (i + 1)).map (wvA zs k)).sum := sum_sm _ (fun y hy => (hB y (List.mem_of_mem_take hy)).2) (by rw [List.length_take]; omega)
    rw [sum_take _ hi] at hs1 hs2
    have fin : lapP (fun ρ S => S = S0 ∧ ∃ a b, ρ = [some (cw zs R), some L, some (kD k), some (nlD ((lot.take (i + 1)).map (wvB zs k)).sum ((lot.take (i + 1)).map (wvA zs k)).sum), a, b]) (fun ρ S => seqP (gRet (rd 3)) (retP (nlD (lot.map (wvB zs k)).sum (lot.map (wvA zs k)).sum)) (.nx ρ S)) (seqP (gRet (rd 3)) (retP (nlD (lot.map (wvB zs k)).sum (lot.map (wvA zs k)).sum)))
        (.nx [some (cw zs R), some L, some (kD k), some (nlD (((lot.take i).map (wvB zs k)).sum + wvB zs k s) (((lot.take i).map (wvA zs k)).sum + wvA zs k s)), some (.str s), some (.bool (decide ((poOf zs s).k = k)))] S0) := by
      refine ⟨rfl, some (.str s), some (.bool (decide ((poOf zs s).k = k))), ?_⟩
      rw [sum_take _ hi, sum_take _ hi]
    symm_saturate
    refine ⟨_, hp, ?_⟩
    symm_saturate
    refine ⟨_, kD_eq _ _, ?_⟩
    symm_saturate
    refine ke_ifE ?_
    symm_saturate
    refine ⟨fun q => ?_, fun q => ?_⟩
    · rw [decide_eq_true_eq] at q
      symm_saturate
      refine ⟨_, hc, ?_⟩
      symm_saturate
      have e1 : wvB zs k s = (poOf zs s).b := if_pos q
      have e2 : wvA zs k s = (poOf zs s).a := if_pos q
      rw [e1] at hs1
      rw [e2] at hs2
      refine ⟨_, numbers_sum_eq hs1 hs2, ?_⟩
      rw [e1, e2] at fin
      exact fin
    · rw [decide_eq_false_iff_not] at q
      symm_saturate
      refine ⟨_, number_line_eq (show Sm 1 by unfold Sm; decide) sm0, ?_⟩
      symm_saturate
      have e1 : wvB zs k s = 1 := if_neg q
      have e2 : wvA zs k s = 0 := if_neg q
      rw [e1] at hs1
      rw [e2] at hs2
      refine ⟨_, numbers_sum_eq hs1 hs2, ?_⟩
      rw [e1, e2] at fin
      exact fin
  · rintro ρ S ⟨rfl, a, b, rfl⟩
    rw [List.take_length]
    symm_saturate
    rfl
/-! ### all tied, all apart -/
def allB (R : Str → Str → Bool) (k : Bool) (lot : List Str) : Bool := (pairsOf lot).all fun p => decide (R p.1 p.2 = k)
theorem any_map {α : Type} (f : α → Bool) (xs : List α) : dAny [.list (xs.map fun x => .bool (f x))] = some (.bool (xs.any f)) := by
  unfold dAny
  dsimp only
  rw [bits_map]
  simp [List.any_map]
theorem all_map {α : Type} (f : α → Bool) (xs : List α) : dAll [.list (xs.map fun x => .bool (f x))] = some (.bool (xs.all f)) := by
  unfold dAll
  dsimp only
  rw [bits_map]
  simp [List.all_map]
theorem is_all_eq (h : WebOk zs) (s : Sym R) {L : D} {lot : List Str} (hL : IsLot L lot) (hs : ∀ s ∈ lot, s ∈ zs.map Po.n) (nd : lot.Nodup) (hll : lot.length ≤ 1000) (k : Bool) : m_is_all [cw zs R, L, kD k] = some (.bool (allB R k lot)) := by
  refine kp_run ?_
  unfold g_is_all
  refine ks_seq (ks_for ?_)
  refine ka_iEnG ?_
  symm_saturate
  obtain ⟨t, ht⟩ := hL.seq
  have hkt : kD true = PyData.str "tied" := rfl
  refine ⟨L, t, lot.map .str, rfl, ht, fun i ρ S => S = S0 ∧ ((pairsUp lot i).all fun p => decide (R p.1 p.2 = k)) = true ∧ ∃ a b, ρ = [some (cw zs R), some L, some (kD k), a, b, none], ⟨rfl, rfl, none, none, rfl⟩, ?_, ?_⟩
  · rintro i d ρ S hd ⟨rfl, hall, a, b, rfl⟩
    obtain ⟨o, ho, rfl⟩ := enumD_at hd
    rw [List.getElem?_map] at ho
    obtain ⟨one, hone, rfl⟩ := Option.map_eq_some_iff.mp ho
    have hi : i < lot.length := (List.getElem?_eq_some_iff.mp hone).1
    have hom := List.mem_of_getElem? hone
    refine ⟨[some (cw zs R), some L, some (kD k), some (.int (i : Nat)), some (.str one), none], rfl, ?_⟩
    refine ks_if ?_
    symm_saturate
    refine ke_lcA PyData.str (fun o => .bool (!decide (R one o = k))) ?_
    symm_saturate
    obtain ⟨L', hL1, hL2⟩ := hL.cut (i + 1) (by omega)
    refine ⟨L', hL1, ?_⟩
    symm_saturate
    refine ⟨_, hL2, lot.drop (i + 1), rfl, by rw [List.length_drop]; omega, fun o ho => ⟨_, rfl, ?_⟩, ?_⟩
    · have hne : one ≠ o := fun e => by
        subst e
        have h1 := nd
        rw [← List.take_append_drop (i + 1) lot, List.nodup_append] at h1
        have h2 : one ∈ lot.take (i + 1) := by
          rw [List.take_add_one, hone]
          simp
        exact h1.2.2 one h2 one ho rfl
      symm_saturate
      refine ⟨_, cw_tied h s (hs _ hom) (hs _ (List.mem_of_mem_drop ho)) hne, ?_⟩
      symm_saturate
      have he := kD_eq k true
      rw [hkt] at he
      refine ⟨_, he, ?_⟩
      refine ⟨_, good_bool.ne, ?_⟩
      refine ⟨?_, rfl⟩
      congr 2
      cases R one o <;> cases k <;> rfl
    symm_saturate
    refine ⟨_, any_map _ _, ?_⟩
    symm_saturate
    have hup := pairsUp_succ (xs := lot) hone
    refine ⟨fun q => ?_, fun q => ?_⟩
    · symm_saturate
      have : allB R k lot = false := by
        rw [List.any_eq_true] at q
        obtain ⟨o, ho, q⟩ := q
        have hm : (one, o) ∈ pairsOf lot := by
          refine (pairsUp_sub (i := i + 1) (by omega)).subset ?_
          rw [hup]
          exact List.mem_append_right _ (List.mem_map.mpr ⟨o, ho, rfl⟩)
        unfold allB
        rw [List.all_eq_false]
        exact ⟨(one, o), hm, by simpa using q⟩
      rw [this]
    · symm_saturate
      refine ⟨rfl, ?_, some (.int (i : Nat)), some (.str one), rfl⟩
      rw [hup, List.all_append, hall, Bool.true_and, List.all_map]
      rw [List.any_eq_false] at q
      rw [List.all_eq_true]
      intro o ho
      have := q o ho
      simpa using this
  · rintro ρ S ⟨rfl, hall, a, b, rfl⟩
    rw [enumD_len, List.length_map, pairsUp_all] at hall
    symm_saturate
    show PyData.bool true = _
    unfold allB
    rw [hall]
end
end LW

set_option Elab.async false
set_option linter.all false
set_option maxRecDepth 100000
set_option maxHeartbeats 4000000
namespace LW
open PySem PySem.Spec PyProof.Rows L2 TL

/-! ### posts in order -/
theorem iN_anti {x y : Int ⊕ List Nat} (h1 : iN x y = false) (h2 : iN y x = false) : x = y := itemOrd.total x y h1 h2
theorem lx_anti : ∀ {l m : List (Int ⊕ List Nat)}, l.length = m.length → lx l m = false → lx m l = false → l = m
  | [], [], _, _, _ => rfl
  | x :: l, y :: m, hl, h1, h2 => by
    rw [lexC, Bool.or_eq_false_iff] at h1 h2
    have e := iN_anti h1.1 h2.1
    subst e
    have h3 := h1.2
    have h4 := h2.2
    rw [h1.1] at h3 h4
    have e : l = m := lx_anti (by simpa using hl) (by simpa using h3) (by simpa using h4)
    rw [e]
theorem toks_pD (z : Po) : W.keyToks (pD z) = [.inl 1, .inr z.n.cps.toList, .inl 1, .inr ((if z.k then "tied" else "apart" : Str)).cps.toList, .inl 1, .inl z.a, .inl 1, .inl z.b, .inl 0] := by
  unfold pD kD
  rw [W.keyToks]
  simp only [W.keyToksAll, W.keyToks, List.cons_append, List.nil_append]
theorem kD_text {a b : Bool} (h : (if a then "tied" else "apart" : Str) = (if b then "tied" else "apart" : Str)) : a = b := by
  have : kD a = kD b := congrArg PyData.str h
  have e := kD_inj a b
  rw [this] at e
  have e2 := kD_inj b b
  rw [e2] at e
  simpa using e.symm
theorem ord_pD : Ord pD where
  al := fun a b => by simp [pD, kD, W.alike, W.alikeAll]
  sh := .inl fun a => rfl
  dp := fun a => by simp [pD, kD, PyData.depth, PyData.depthAll]
  anti := fun a b h1 h2 => by
    rw [oLe_lx] at h1 h2
    have h1 : lx (W.keyToks (pD b)) (W.keyToks (pD a)) = false := by simpa using h1
    have h2 : lx (W.keyToks (pD a)) (W.keyToks (pD b)) = false := by simpa using h2
    have e := lx_anti (by rw [toks_pD, toks_pD]; rfl) h2 h1
    rw [toks_pD, toks_pD] at e
    simp only [List.cons.injEq, Sum.inr.injEq, Sum.inl.injEq, and_true, true_and] at e
    obtain ⟨e1, e2, e3, e4⟩ := e
    have n1 := str_toks e1
    have n2 := kD_text (str_toks e2)
    obtain ⟨n, k, x, y⟩ := a
    obtain ⟨n', k', x', y'⟩ := b
    dsimp only at n1 n2 e3 e4
    subst n1 n2 e3 e4
    rfl
theorem lt_cps {a b : Str} (h : oLt sS a b) : a.cps.toList < b.cps.toList := by
  apply Classical.byContradiction
  intro q
  have := (oLe_str b a).mpr q
  exact h.2 (ord_str.anti _ _ h.1 this)
theorem pD_le {x y : Po} (h : oLt sS x.n y.n) : oLe pD x y = true := by
  have h1 := lt_cps h
  have h2 : ¬ y.n.cps.toList < x.n.cps.toList := fun q => List.lt_irrefl _ (List.lt_trans h1 q)
  rw [oLe_lx, toks_pD, toks_pD]
  simp only [lexC, iN_str, iN_int, h1, h2]
  simp
theorem sort_posts {qs zs : List Po} (hz : zs.Pairwise fun x y => oLt sS x.n y.n) (p : qs.Perm zs) : dSortedB [.list (qs.map pD)] = some (.list (zs.map pD)) := by
  rw [ord_pD.sortL, ord_pD.uniq p (hz.imp fun h => pD_le h)]
/-- posts by name -/
theorem by_name {qs : List Po} (nd : (qs.map Po.n).Nodup) : ∃ zs, qs.Perm zs ∧ (zs.Pairwise fun x y => oLt sS x.n y.n) ∧ zs.map Po.n = oSort sS (qs.map Po.n) := by
  let zs := qs.mergeSort fun a b => oLe sS a.n b.n
  have hp : zs.Perm qs := List.mergeSort_perm qs _
  have hs : zs.Pairwise fun a b => oLe sS a.n b.n = true := List.pairwise_mergeSort (le := fun a b : Po => oLe sS a.n b.n) (fun a b c h1 h2 => oLe_trans sS h1 h2) (fun a b => by rw [Bool.or_eq_true]; exact oLe_total sS a.n b.n) qs
  have hn : (zs.map Po.n).Nodup := (hp.map Po.n).nodup_iff.mpr nd
  refine ⟨zs, hp.symm, ?_, ?_⟩
  · exact (List.pairwise_and_iff.mpr ⟨hs, List.pairwise_map.mp hn⟩)
  · exact (ord_str.uniq (hp.symm.map Po.n) (List.pairwise_map.mpr hs)).symm
theorem Kn.ninD {R : Str → Str → Bool} {kvs : List (D × D)} (K : Kn R kvs) (i j : Str) : dNotInD (prS (i, j)) (.dict kvs) = some (.bool (!R i j)) := by
  unfold dNotInD
  dsimp only
  rw [if_pos (ok_prS K.hd _), K.any]
theorem ovP_ovP {z : Po} (h : fixP z = z) : ovP (ovP z) = z := by
  obtain ⟨n, k, a, b⟩ := z
  unfold ovP fixP at *
  dsimp only at *
  by_cases q : a = 0 ∧ b = 1
  · rw [if_pos q] at h ⊢
    dsimp only
    rw [if_pos q]
    exact h
  · rw [if_neg q] at h ⊢
    dsimp only
    rw [if_neg q]
    simp
end LW

set_option Elab.async false
set_option linter.all false
set_option maxRecDepth 100000
set_option maxHeartbeats 4000000
namespace LW
open PySem PySem.Spec PyProof.Rows L2 TL

def nR (R : Str → Str → Bool) : Str → Str → Bool := fun a b => !R a b
theorem nR_sym {R : Str → Str → Bool} (s : Sym R) : Sym (nR R) := fun a b => by
  show (!R a b) = !R b a
  rw [s a b]
theorem ov_po {z : Po} (h : PoS z) : PoS (ovP z) := by
  unfold ovP fixP
  split <;> exact h
theorem nodup_on {α β : Type} {f : α → β} : ∀ {xs : List α}, xs.Nodup → (∀ a ∈ xs, ∀ b ∈ xs, f a = f b → a = b) → (xs.map f).Nodup
  | [], _, _ => .nil
  | x :: xs, nd, h => by
    rw [List.nodup_cons] at nd
    rw [List.map_cons, List.nodup_cons]
    refine ⟨fun m => ?_, nodup_on nd.2 fun a ha b hb => h a (List.mem_cons_of_mem _ ha) b (List.mem_cons_of_mem _ hb)⟩
    obtain ⟨y, hy, e⟩ := List.mem_map.mp m
    have := h x (List.mem_cons_self ..) y (List.mem_cons_of_mem _ hy) e.symm
    exact nd.1 (by rw [this]; exact hy)
theorem cps_nodup {zs : List Po} {m : Int} (nd : (zs.map Po.n).Nodup) : (cps zs m).Nodup := by
  refine List.pairwise_flatMap.mpr ⟨fun z _ => ?_, ?_⟩
  · exact List.pairwise_map.mpr (List.nodup_range.imp fun {a b} (h : a ≠ b) e => h (Prod.mk.inj e).2)
  · refine (List.pairwise_map.mp nd).imp fun {x y} h p hp q hq e => ?_
    subst e
    obtain ⟨u, _, rfl⟩ := List.mem_map.mp hp
    obtain ⟨v, _, e⟩ := List.mem_map.mp hq
    exact h (Prod.mk.inj e).1.symm
theorem drop_getD {α : Type} (d : α) (cs : List α) (i : Nat) : (List.range (cs.length - i)).map (fun k => cs.getD (i + k) d) = cs.drop i := by
  apply List.ext_getElem?
  intro k
  rw [List.getElem?_map, List.getElem?_drop]
  by_cases h : k < cs.length - i
  · rw [List.getElem?_range h]
    have h2 : i + k < cs.length := by omega
    rw [List.getElem?_eq_getElem h2]
    simp [List.getD, List.getElem?_eq_getElem h2]
  · rw [List.getElem?_eq_none (by rw [List.length_range]; omega), List.getElem?_eq_none (by omega)]
    rfl
theorem cps_ov (zs : List Po) (n : Int) : cps (zs.map ovP) n = cps zs n := by
  unfold cps
  rw [List.flatMap_map]
  have : (fun a => cpsOf n (ovP a)) = cpsOf n := by
    funext z
    unfold cpsOf ovP fixP
    split <;> rfl
  exact congrArg (fun f => zs.flatMap f) this
theorem ov_kOf {zs : List Po} (nd : (zs.map Po.n).Nodup) {z : Po} (hz : z ∈ zs) : kOf (zs.map ovP) z.n = if z.a = 0 ∧ z.b = 1 then false else !z.k := by
  have h := kOf_eq (zs := zs.map ovP) (by rw [ov_names]; exact nd) (List.mem_map.mpr ⟨z, hz, rfl⟩)
  rw [ovP_n] at h
  rw [h]
  unfold ovP fixP
  dsimp only
  by_cases q : z.a = 0 ∧ z.b = 1 <;> simp [q]
theorem both_ties {zs : List Po} {R : Str → Str → Bool} {n : Int} (nd : (zs.map Po.n).Nodup) {c d : Str × Nat} (hc : c ∈ cps zs n) (hd : d ∈ cps zs n) : bI (ptie zs R c d) + bI (ptie (zs.map ovP) (nR R) c d) = bI (!decide (c = d)) := by
  unfold ptie
  by_cases e : c.1 = d.1
  · rw [if_pos e, if_pos e]
    by_cases q : c = d
    · rw [decide_eq_true q]
      rfl
    · rw [decide_eq_false q]
      obtain ⟨z, hz, h1, h2⟩ := cps_mem.mp hc
      obtain ⟨z', hz', h3, h4⟩ := cps_mem.mp hd
      have hzz : z' = z := inj_nodup nd z' hz' z hz (by rw [← h1, ← h3, e])
      subst hzz
      rw [h1, kOf_eq nd hz, ov_kOf nd hz]
      have hne : c.2 ≠ d.2 := fun h => q (Prod.ext e h)
      have : ¬ (z'.a = 0 ∧ z'.b = 1) := by
        rintro ⟨e1, e2⟩
        rw [e1, e2] at h2 h4
        simp at h2 h4
        omega
      rw [if_neg this]
      cases z'.k <;> rfl
  · rw [if_neg e, if_neg e, decide_eq_false fun q => e (by rw [q])]
    unfold nR
    cases R c.1 d.1 <;> rfl
theorem shw_nl {v s : Int} (hv : Sm v) (hs : Sm s) : Shw (nlD v s) 900 3 := by
  have h1 : Shw (.tuple [.int 0, .int v, .int s]) 890 1 := by
    refine (shw_tupL (c := 292) (dp := 0) fun x hx => ?_).mono (by simp) (by omega)
    simp only [List.mem_cons, List.not_mem_nil, or_false] at hx
    rcases hx with rfl | rfl | rfl
    · exact shw_int (by have : Sm 0 := sm0; unfold Sm at this; omega) (by omega)
    · exact shw_int hv (by omega)
    · exact shw_int hs (by omega)
  refine (shw_tupL (ds := [.tuple [.int 0, .int v, .int s]]) (c := 890) (dp := 1) fun x hx => ?_).mono (by simp) (by omega)
  rw [List.mem_singleton.mp hx]
  exact h1
theorem all_false (xs : List Bool) : (!decide (false ∈ xs)) = xs.all fun b => decide (b = true) := by
  induction xs with
  | nil => rfl
  | cons x xs ih =>
    rw [List.all_cons, ← ih]
    cases x <;> simp
theorem all_true (xs : List Bool) : (!decide (true ∈ xs)) = xs.all fun b => decide (b = false) := by
  induction xs with
  | nil => rfl
  | cons x xs ih =>
    rw [List.all_cons, ← ih]
    cases x <;> simp
theorem perm_sum {xs ys : List Int} (p : xs.Perm ys) : xs.sum = ys.sum := by
  induction p with
  | nil => rfl
  | cons x _ ih => rw [List.sum_cons, List.sum_cons, ih]
  | swap x y l => rw [List.sum_cons, List.sum_cons, List.sum_cons, List.sum_cons]; omega
  | trans _ _ h1 h2 => rw [h1, h2]
theorem ints_map : ∀ xs : List Int, intsD (xs.map PyData.int) = some xs
  | [] => rfl
  | x :: xs => by rw [List.map_cons, intsD, ints_map xs]; rfl
theorem sum_ints {α : Type} (f : α → Int) (xs : List α) : dSum [.list (xs.map fun x => PyData.int (f x))] = some (.int (xs.map f).sum) := by
  have : (xs.map fun x => PyData.int (f x)) = (xs.map f).map PyData.int := by rw [List.map_map]; rfl
  rw [this]
  unfold dSum
  dsimp only
  rw [ints_map]
  rfl
theorem enumD_map {α : Type} (f : α → D) (d : α) (cs : List α) : enumD 0 (cs.map f) = (List.range cs.length).map fun j => PyData.tuple [.int (j : Nat), f (cs.getD j d)] := by
  apply List.ext_getElem?
  intro j
  by_cases h : j < cs.length
  · rw [List.getElem?_map, List.getElem?_range h, enumD_get (cs.map f) 0 j (f cs[j]) (by rw [List.getElem?_map, List.getElem?_eq_getElem h]; rfl), Nat.zero_add]
    simp [List.getD, List.getElem?_eq_getElem h]
  · rw [List.getElem?_eq_none (by rw [enumD_len, List.length_map]; omega), List.getElem?_eq_none (by rw [List.length_map, List.length_range]; omega)]
theorem map_getD {α : Type} (d : α) (cs : List α) : (List.range cs.length).map (fun k => cs.getD k d) = cs := by
  have := drop_getD d cs 0
  rw [List.drop_zero, Nat.sub_zero] at this
  have e : (fun k => cs.getD k d) = fun k => cs.getD (0 + k) d := by
    funext k
    rw [Nat.zero_add]
  rw [e]
  exact this
theorem fold_sum_perm {α : Type} (f : α → Int) {xs ys : List α} (p : xs.Perm ys) : (xs.map f).sum = (ys.map f).sum := perm_sum (p.map f)
end LW

set_option Elab.async false
set_option linter.all false
set_option maxRecDepth 100000
set_option maxHeartbeats 4000000
namespace LW
open PySem PySem.Spec PyProof.Rows L2 TL
local macro_rules | `(tactic| symm_saturate) => `(tactic| repeat (first
  | ((with_reducible refine ke_rd' ?_); refine ⟨_, rfl, ?_⟩)
  | with_reducible refine ke_cst ?_ | with_reducible refine ke_b2 ?_ | with_reducible refine ke_u1 ?_ | with_reducible refine ke_cN ?_ | with_reducible refine ke_cS ?_ | with_reducible refine ke_cI ?_
  | with_reducible refine ke_mkT ?_ | with_reducible refine ke_mkL ?_ | with_reducible refine ke_bE ?_ | with_reducible refine ke_sl3 ?_ | with_reducible refine ko_N ?_ | with_reducible refine ko_S ?_ | with_reducible refine ka_N ?_ | with_reducible refine ka_C ?_ | with_reducible refine ka_iE ?_
  | with_reducible refine kb_tst ?_ | with_reducible refine kb_bT ?_ | with_reducible refine kb_not ?_ | with_reducible refine ks_seq ?_ | with_reducible refine ks_N ?_ | with_reducible refine ks_set ?_ | with_reducible refine ks_par ?_ | with_reducible refine ks_ret ?_
  | with_reducible refine seqP_nx ?_ | with_reducible refine seqP_rt ?_ | with_reducible refine lapP_nx ?_ | with_reducible refine lapP_rt ?_ | with_reducible refine lapP_ct ?_ | with_reducible refine lapP_bk ?_ | with_reducible refine seqP_ct ?_ | with_reducible refine seqP_bk ?_ | with_reducible refine retP_rt ?_ | with_reducible refine retS_rt ?_
  | with_reducible refine ks_thaw ?_ | with_reducible refine ke_newK ?_ | with_reducible refine ke_newT ?_ | with_reducible refine ke_mkTV ?_ | with_reducible refine ke_mkLV ?_
  | (with_reducible first
    | refine ⟨_, add_ii _ _, ?_⟩ | refine ⟨_, sub_ii _ _, ?_⟩ | refine ⟨_, lt_ii _ _, ?_⟩ | refine ⟨_, le_ii _ _, ?_⟩ | refine ⟨_, gt_ii _ _, ?_⟩ | refine ⟨_, ge_ii _ _, ?_⟩ | refine ⟨_, neg_i _, ?_⟩
    | refine ⟨_, len_l _, ?_⟩ | refine ⟨_, len_t _, ?_⟩ | refine ⟨_, tup_l _, ?_⟩ | refine ⟨_, tup_t _, ?_⟩ | refine ⟨_, lst_l _, ?_⟩ | refine ⟨_, lst_t _, ?_⟩)
  | ((with_reducible show ∃ d, dTuple _ = some d ∧ _); first | refine ⟨_, tup_l _, ?_⟩ | refine ⟨_, tup_t _, ?_⟩)
  | ((with_reducible show ∃ d, dLen _ = some d ∧ _); first | refine ⟨_, len_l _, ?_⟩ | refine ⟨_, len_t _, ?_⟩)
  | ((with_reducible show ∃ i, _ = PyData.int i ∧ _); refine ⟨_, rfl, ?_⟩)
  | ((with_reducible show ∃ b, _ = PyData.bool b ∧ _); refine ⟨_, rfl, ?_⟩)
  | ((with_reducible show ∃ ds, items _ = some ds ∧ _); refine ⟨_, rfl, ?_⟩)
  | ((with_reducible show ∃ d, dSub2 _ _ = some d ∧ _); first | refine ⟨_, ix0, ?_⟩ | refine ⟨_, ix1, ?_⟩ | refine ⟨_, ix2, ?_⟩ | refine ⟨_, ix3, ?_⟩ | refine ⟨_, ixl0, ?_⟩ | refine ⟨_, ixl1, ?_⟩)))

/-! ### numbers by n of many pieces -/
abbrev Pc := Int × Int × Int
def line (p : Pc) (n : Int) : Int := p.2.1 + p.2.2 * (n - p.1)
def pcAt : List Pc → Int → Pc
  | [], _ => (0, 0, 0)
  | [p], _ => p
  | p :: q :: r, n => if n < q.1 then p else pcAt (q :: r) n
def val (ps : List Pc) (n : Int) : Int := line (pcAt ps n) n
def Asc (ps : List Pc) : Prop := ps.Pairwise fun p q => p.1 < q.1
theorem pcAt_last : ∀ {ps : List Pc} {n : Int}, Asc ps → (∀ p, ps.head? = some p → p.1 ≤ n) → ps ≠ [] → (ps.filter fun p => decide (p.1 ≤ n)).getLast? = some (pcAt ps n)
  | [], _, _, _, h => absurd rfl h
  | [p], n, _, h, _ => by
    have := h p rfl
    simp [pcAt, this]
  | p :: q :: r, n, ha, h, _ => by
    have hp := h p rfl
    unfold Asc at ha
    rw [List.pairwise_cons] at ha
    rw [pcAt]
    by_cases c : n < q.1
    · rw [if_pos c, List.filter_cons_of_pos (by simpa using hp)]
      have : (q :: r).filter (fun p => decide (p.1 ≤ n)) = [] := by
        rw [List.filter_eq_nil_iff]
        intro x hx
        have hq : q.1 ≤ x.1 := by
          rcases List.mem_cons.mp hx with rfl | hx
          · exact Int.le_refl _
          · have := (List.pairwise_cons.mp ha.2).1 x hx
            omega
        simp
        omega
      rw [this]
      rfl
    · rw [if_neg c, List.filter_cons_of_pos (by simpa using hp)]
      have ih := pcAt_last (ps := q :: r) (n := n) ha.2 (fun x hx => by cases hx; omega) (by simp)
      have hne : (q :: r).filter (fun p => decide (p.1 ≤ n)) ≠ [] := fun e => by rw [e] at ih; cases ih
      rw [List.getLast?_cons, ih]
      rfl
theorem pcAt_mem : ∀ {ps : List Pc} (n : Int), ps ≠ [] → pcAt ps n ∈ ps
  | [], _, h => absurd rfl h
  | [p], _, _ => List.mem_cons_self ..
  | p :: q :: r, n, _ => by
    rw [pcAt]
    split
    · exact List.mem_cons_self ..
    · exact List.mem_cons_of_mem _ (pcAt_mem n (by simp))
def numT (ps : List Pc) : D := .tuple (ps.map pcD)
def numL (ps : List Pc) : D := .list (ps.map pcD)
/-- a number as it is handed on -/
structure IsNum (L : D) (ps : List Pc) : Prop where
  it : items L = some (ps.map pcD)
  len : dLen [L] = some (.int ps.length)
  ix : ∀ i p, ps[i]? = some p → dSub2 L (.int (i : Nat)) = some (pcD p)
  seq : ∃ t, seqD L = some (t, ps.map pcD)
  isq : L = .list (ps.map pcD) ∨ L = .tuple (ps.map pcD)
theorem num_T (ps : List Pc) : IsNum (numT ps) ps := ⟨rfl, by rw [numT, len_t, List.length_map], fun i p h => ixT (by rw [List.getElem?_map, h]; rfl), ⟨_, rfl⟩, .inr rfl⟩
theorem num_L (ps : List Pc) : IsNum (numL ps) ps := ⟨rfl, by rw [numL, len_l, List.length_map], fun i p h => ixL (by rw [List.getElem?_map, h]; rfl), ⟨_, rfl⟩, .inl rfl⟩
/-- pieces from 0 on -/
structure Raw (ps : List Pc) : Prop where
  ne : ps ≠ []
  h0 : ∀ p, ps.head? = some p → p.1 = 0
  asc : Asc ps
  st : ∀ p ∈ ps, -(2 ^ 64) < p.2.2 ∧ p.2.2 < 2 ^ 64
  len : ps.length ≤ 10000
theorem line_at_num {L : D} {ps : List Pc} (hL : IsNum L ps) (hne : ps ≠ []) (ha : Asc ps) (hst : ∀ p ∈ ps, -(2 ^ 64) < p.2.2 ∧ p.2.2 < 2 ^ 64) (hl : ps.length ≤ 10000) {n : Int} (h0 : ∀ p, ps.head? = some p → p.1 ≤ n) : m_line_at [L, .int n] = some (.tuple [.int (val ps n), .int (pcAt ps n).2.2]) := by
  refine kp_run ?_
  unfold g_line_at
  refine ks_seq (ks_unp ?_)
  symm_saturate
  refine ke_lc pcD (fun p => decide (p.1 ≤ n)) pcD ?_
  symm_saturate
  refine ⟨_, hL.it, ps, rfl, by omega, fun p _ => ⟨_, rfl, ?_⟩, ?_⟩
  · symm_saturate
    exact ⟨rfl, rfl, fun _ => by symm_saturate; exact ⟨rfl, rfl⟩⟩
  symm_saturate
  have hlast := pcAt_last ha h0 hne
  obtain ⟨ys, hys⟩ : ∃ ys, ps.filter (fun p => decide (p.1 ≤ n)) = ys ++ [pcAt ps n] := by
    rw [List.getLast?_eq_some_iff] at hlast
    exact hlast
  have hix : dSub2 (.list ((ps.filter fun p => decide (p.1 ≤ n)).map pcD)) (.int (-1)) = some (pcD (pcAt ps n)) := by
    rw [hys, List.map_append]
    exact L2.atI_last _ _
  refine ⟨_, hix, ?_⟩
  refine ⟨_, rfl, ?_⟩
  symm_saturate
  have hm := hst _ (pcAt_mem n hne)
  refine ⟨.int ((pcAt ps n).2.2 * (n - (pcAt ps n).1)), if_pos (.inl hm), ?_⟩
  symm_saturate
  rfl
theorem number_at_num {L : D} {ps : List Pc} (hL : IsNum L ps) (R : Raw ps) {n : Int} (h0 : 0 ≤ n) : m_number_at [L, .int n] = some (.int (val ps n)) := by
  refine kp_run ?_
  unfold g_number_at
  symm_saturate
  refine ⟨_, line_at_num hL R.ne R.asc R.st R.len fun p hp => by rw [R.h0 p hp]; exact h0, ?_⟩
  symm_saturate
  rfl
/-! ### the least telling -/
/-- where a function first leaves a line, from the third place on -/
def Dev (F : Int → Int) (f v s : Int) : Option Int → Prop
  | none => ∀ n, f + 2 ≤ n → F n = v + s * (n - f)
  | some m => f + 2 ≤ m ∧ F m ≠ v + s * (m - f) ∧ ∀ n, f + 2 ≤ n → n < m → F n = v + s * (n - f)
inductive TF (F : Int → Int) : Int → List Pc → Prop
  | last {n : Int} : Dev F n (F n) (F (n + 1) - F n) none → TF F n [(n, F n, F (n + 1) - F n)]
  | cons {n m : Int} {ps : List Pc} : Dev F n (F n) (F (n + 1) - F n) (some m) → TF F m ps → TF F n ((n, F n, F (n + 1) - F n) :: ps)
theorem Dev.uniq {F : Int → Int} {f v s : Int} : ∀ {a b : Option Int}, Dev F f v s a → Dev F f v s b → a = b
  | none, none, _, _ => rfl
  | none, some m, h, g => absurd (h m g.1) g.2.1
  | some m, none, h, g => absurd (g m h.1) h.2.1
  | some m, some k, h, g => by
    have h1 : ¬ m < k := fun q => h.2.1 (g.2.2 m h.1 q)
    have h2 : ¬ k < m := fun q => g.2.1 (h.2.2 k g.1 q)
    congr 1
    omega
theorem TF.uniq {F : Int → Int} : ∀ {n : Int} {ps qs : List Pc}, TF F n ps → TF F n qs → ps = qs := by
  intro n ps qs h
  induction h generalizing qs with
  | last d =>
    intro g
    cases g with
    | last _ => rfl
    | cons d' _ => have := Dev.uniq d d'; cases this
  | cons d _ ih =>
    intro g
    cases g with
    | last d' => have := Dev.uniq d d'; cases this
    | cons d' t =>
      have := Dev.uniq d d'
      cases this
      rw [ih t]
theorem TF.congr {F G : Int → Int} (e : ∀ n, 0 ≤ n → F n = G n) {n : Int} {ps : List Pc} (h : TF F n ps) : 0 ≤ n → TF G n ps := by
  have dc : ∀ {f v s : Int} {o : Option Int}, 0 ≤ f → Dev F f v s o → Dev G f v s o := by
    intro f v s o hf d
    cases o with
    | none => exact fun n hn => by rw [← e n (by omega)]; exact d n hn
    | some m => exact ⟨d.1, by rw [← e m (by have := d.1; omega)]; exact d.2.1, fun n h1 h2 => by rw [← e n (by omega)]; exact d.2.2 n h1 h2⟩
  induction h with
  | @last n d =>
    intro hn
    have d' := dc hn d
    rw [e n hn, e (n + 1) (by omega)] at d' ⊢
    exact .last d'
  | @cons n m ps d _ ih =>
    intro hn
    have hm := d.1
    have d' := dc hn d
    rw [e n hn, e (n + 1) (by omega)] at d' ⊢
    exact .cons d' (ih (by omega))
end LW

set_option Elab.async false
set_option linter.all false
set_option maxRecDepth 100000
set_option maxHeartbeats 4000000
namespace LW
open PySem PySem.Spec PyProof.Rows L2 TL
local macro_rules | `(tactic| symm_saturate) => `(tactic| repeat (first
  | ((with_reducible refine ke_rd' ?_); refine ⟨_, rfl, ?_⟩)
  | with_reducible refine ke_cst ?_ | with_reducible refine ke_b2 ?_ | with_reducible refine ke_u1 ?_ | with_reducible refine ke_cN ?_ | with_reducible refine ke_cS ?_ | with_reducible refine ke_cI ?_
  | with_reducible refine ke_mkT ?_ | with_reducible refine ke_mkL ?_ | with_reducible refine ke_bE ?_ | with_reducible refine ke_sl3 ?_ | with_reducible refine ko_N ?_ | with_reducible refine ko_S ?_ | with_reducible refine ka_N ?_ | with_reducible refine ka_C ?_ | with_reducible refine ka_iE ?_
  | with_reducible refine kb_tst ?_ | with_reducible refine kb_bT ?_ | with_reducible refine kb_not ?_ | with_reducible refine ks_seq ?_ | with_reducible refine ks_N ?_ | with_reducible refine ks_set ?_ | with_reducible refine ks_par ?_ | with_reducible refine ks_ret ?_
  | with_reducible refine seqP_nx ?_ | with_reducible refine seqP_rt ?_ | with_reducible refine lapP_nx ?_ | with_reducible refine lapP_rt ?_ | with_reducible refine lapP_ct ?_ | with_reducible refine lapP_bk ?_ | with_reducible refine seqP_ct ?_ | with_reducible refine seqP_bk ?_ | with_reducible refine retP_rt ?_ | with_reducible refine retS_rt ?_
  | with_reducible refine ks_thaw ?_ | with_reducible refine ke_newK ?_ | with_reducible refine ke_newT ?_ | with_reducible refine ke_mkTV ?_ | with_reducible refine ke_mkLV ?_
  | (with_reducible first
    | refine ⟨_, add_ii _ _, ?_⟩ | refine ⟨_, sub_ii _ _, ?_⟩ | refine ⟨_, lt_ii _ _, ?_⟩ | refine ⟨_, le_ii _ _, ?_⟩ | refine ⟨_, gt_ii _ _, ?_⟩ | refine ⟨_, ge_ii _ _, ?_⟩ | refine ⟨_, neg_i _, ?_⟩
    | refine ⟨_, len_l _, ?_⟩ | refine ⟨_, len_t _, ?_⟩ | refine ⟨_, tup_l _, ?_⟩ | refine ⟨_, tup_t _, ?_⟩ | refine ⟨_, lst_l _, ?_⟩ | refine ⟨_, lst_t _, ?_⟩)
  | ((with_reducible show ∃ d, dTuple _ = some d ∧ _); first | refine ⟨_, tup_l _, ?_⟩ | refine ⟨_, tup_t _, ?_⟩)
  | ((with_reducible show ∃ d, dLen _ = some d ∧ _); first | refine ⟨_, len_l _, ?_⟩ | refine ⟨_, len_t _, ?_⟩)
  | ((with_reducible show ∃ i, _ = PyData.int i ∧ _); refine ⟨_, rfl, ?_⟩)
  | ((with_reducible show ∃ b, _ = PyData.bool b ∧ _); refine ⟨_, rfl, ?_⟩)
  | ((with_reducible show ∃ ds, items _ = some ds ∧ _); refine ⟨_, rfl, ?_⟩)
  | ((with_reducible show ∃ d, dSub2 _ _ = some d ∧ _); first | refine ⟨_, ix0, ?_⟩ | refine ⟨_, ix1, ?_⟩ | refine ⟨_, ix2, ?_⟩ | refine ⟨_, ix3, ?_⟩ | refine ⟨_, ixl0, ?_⟩ | refine ⟨_, ixl1, ?_⟩)))

def optI : Option Int → D
  | none => .none
  | some i => .int i
theorem pcAt_seg : ∀ {ps : List Pc} {k : Nat} {p : Pc} {n : Int}, Asc ps → ps[k]? = some p → p.1 ≤ n → (∀ q, ps[k + 1]? = some q → n < q.1) → pcAt ps n = p
  | [], k, p, n, _, h, _, _ => by simp at h
  | [x], k, p, n, _, h, _, _ => by
    cases k with
    | zero => cases h; rfl
    | succ k => simp at h
  | x :: y :: r, 0, p, n, ha, h, h1, h2 => by
    cases h
    rw [pcAt, if_pos (h2 y rfl)]
  | x :: y :: r, k + 1, p, n, ha, h, h1, h2 => by
    unfold Asc at ha
    rw [List.pairwise_cons] at ha
    have h' : (y :: r)[k]? = some p := by simpa using h
    have hy : y.1 ≤ p.1 := by
      cases k with
      | zero => cases h'; exact Int.le_refl _
      | succ k =>
        have := (List.pairwise_cons.mp ha.2).1 p (List.mem_of_getElem? (by simpa using h'))
        omega
    rw [pcAt, if_neg (by omega)]
    exact pcAt_seg ha.2 h' h1 fun q hq => h2 q (by simpa using hq)
theorem max_ii (i j : Int) : dMaxA [.int i, .int j] = some (.int (if j > i then j else i)) := rfl
theorem isN_int (i : Int) : dIsN (.int i) .none = some (.bool false) := rfl
theorem isN_none : dIsN .none .none = some (.bool true) := rfl
theorem next_unlike_eq {L : D} {ps : List Pc} (hL : IsNum L ps) (R : Raw ps) {f v s : Int} (hf : 0 ≤ f) (hs : -(2 ^ 64) < s ∧ s < 2 ^ 64) : ∃ o, m_next_unlike [L, pcD (f, v, s)] = some (optI o) ∧ Dev (val ps) f v s o := by
  suffices h : KS g_next_unlike ([L, pcD (f, v, s)].map some ++ List.replicate (11 - [L, pcD (f, v, s)].length) none) S0 (fun r => ∃ o S', r = .rt (optI o) S' ∧ Dev (val ps) f v s o) by
    obtain ⟨r, e, o, S', rfl, hd⟩ := h
    refine ⟨o, ?_, hd⟩
    show runP 11 g_next_unlike _ = _
    unfold runP
    rw [e]
  unfold g_next_unlike
  refine ks_seq (ks_unp ?_)
  symm_saturate
  refine ⟨_, rfl, ?_⟩
  symm_saturate
  obtain ⟨t, ht⟩ := hL.seq
  let ln : Int → Int := fun n => v + s * (n - f)
  refine ks_for ?_
  refine ka_iEnG ?_
  symm_saturate
  refine ⟨L, t, ps.map pcD, rfl, ht, fun k ρ S => (∃ a b c d e g, ρ = [some L, some (pcD (f, v, s)), some (.int f), some (.int v), some (.int s), a, b, c, d, e, g]) ∧ ∀ n, f + 2 ≤ n → (∀ p, ps[k]? = some p → n < p.1) → val ps n = ln n, ⟨⟨none, none, none, none, none, none, rfl⟩, fun n h1 h2 => ?_⟩, ?_, ?_⟩
  · exfalso
    cases hp : ps with
    | nil => exact R.ne hp
    | cons p r =>
      have h3 := h2 p (by rw [hp]; rfl)
      have h4 := R.h0 p (by rw [hp]; rfl)
      omega
  · rintro k dd ρ S hd ⟨⟨a, b, c, d, e, g, rfl⟩, inv⟩
    obtain ⟨o, ho, rfl⟩ := enumD_at hd
    rw [List.getElem?_map] at ho
    obtain ⟨p, hp', rfl⟩ := Option.map_eq_some_iff.mp ho
    have hp : ps[k]? = some p := hp'
    have hk : k < ps.length := (List.getElem?_eq_some_iff.mp hp).1
    have hpm := List.mem_of_getElem? hp
    have hst := R.st p hpm
    refine ⟨[some L, some (pcD (f, v, s)), some (.int f), some (.int v), some (.int s), some (.int (k : Nat)), some (pcD p), c, d, e, g], rfl, ?_⟩
    obtain ⟨bg, hbg⟩ : ∃ bg : Int, bg = if f + 2 > p.1 then f + 2 else p.1 := ⟨_, rfl⟩
    have hb1 : p.1 ≤ bg ∧ f + 2 ≤ bg ∧ ∀ n, f + 2 ≤ n → n < bg → n < p.1 := by
      rw [hbg]
      split <;> refine ⟨by omega, by omega, fun n h1 h2 => by omega⟩
    obtain ⟨hb1, hb2, hb3⟩ := hb1
    have hlow : ∀ n, f + 2 ≤ n → n < bg → val ps n = ln n := fun n h1 h2 => inv n h1 fun q hq => by
      rw [hp] at hq
      cases hq
      exact hb3 n h1 h2
    have hseg : ∀ n, p.1 ≤ n → (∀ q, ps[k + 1]? = some q → n < q.1) → val ps n = line p n := fun n h1 h2 => by
      unfold val
      rw [pcAt_seg R.asc hp h1 h2]
    -- what is done with an end that is told
    have hla : m_line_at [.tuple [pcD p], .int bg] = some (.tuple [.int (line p bg), .int p.2.2]) := by
      have := line_at_num (num_T [p]) (by simp) (List.pairwise_singleton ..) (fun q hq => by rw [List.mem_singleton.mp hq]; exact hst) (by simp) (n := bg) (fun q hq => by cases hq; exact hb1)
      exact this
    have key : ∀ (en : D), (en = .none → ps[k + 1]? = none) → (∀ i, en = .int i → ∃ q, ps[k + 1]? = some q ∧ q.1 = i) → (en = .none ∨ ∃ i, en = .int i) →
        KS (gIf (fOr (tst (b2 dIsN (rd 7) (cst .none))) (tst (b2 dLt (rd 8) (rd 7)))) (gSeq (gUnp (sT (sC (sN 9) (sC (sN 10) s0))) (cN m_line_at (aC (mkT (aC (rd 6) aN)) (aC (rd 8) aN))))
    (gSeq (gIf (tst (b2 dNe (rd 9) (b2 dAdd (rd 3) (b2 dMul (rd 4) (b2 dSub (rd 8) (rd 2)))))) (gRet (rd 8)) gN)
    (gIf (fAnd (tst (b2 dNe (rd 10) (rd 4))) (fOr (tst (b2 dIsN (rd 7) (cst .none))) (tst (b2 dLt (b2 dAdd (rd 8) (cst (.int 1))) (rd 7))))) (gRet (b2 dAdd (rd 8) (cst (.int 1)))) gN))) gN)
          [some L, some (pcD (f, v, s)), some (.int f), some (.int v), some (.int s), some (.int (k : Nat)), some (pcD p), some en, some (.int bg), e, g] S
          (lapP (fun ρ S => (∃ a b c d e g, ρ = [some L, some (pcD (f, v, s)), some (.int f), some (.int v), some (.int s), a, b, c, d, e, g]) ∧ ∀ n, f + 2 ≤ n → (∀ p, ps[k + 1]? = some p → n < p.1) → val ps n = ln n) (fun ρ S => seqP (gRet (cst .none)) (fun r => ∃ o S', r = .rt (optI o) S' ∧ Dev (val ps) f v s o) (.nx ρ S)) (seqP (gRet (cst .none)) (fun r => ∃ o S', r = .rt (optI o) S' ∧ Dev (val ps) f v s o))) := by
      intro en h1 h2 h3
      -- whether the piece goes on behind begin
      have active : (∀ q, ps[k + 1]? = some q → bg < q.1) → KS (gSeq (gUnp (sT (sC (sN 9) (sC (sN 10) s0))) (cN m_line_at (aC (mkT (aC (rd 6) aN)) (aC (rd 8) aN))))
    (gSeq (gIf (tst (b2 dNe (rd 9) (b2 dAdd (rd 3) (b2 dMul (rd 4) (b2 dSub (rd 8) (rd 2)))))) (gRet (rd 8)) gN)
    (gIf (fAnd (tst (b2 dNe (rd 10) (rd 4))) (fOr (tst (b2 dIsN (rd 7) (cst .none))) (tst (b2 dLt (b2 dAdd (rd 8) (cst (.int 1))) (rd 7))))) (gRet (b2 dAdd (rd 8) (cst (.int 1)))) gN)))
          [some L, some (pcD (f, v, s)), some (.int f), some (.int v), some (.int s), some (.int (k : Nat)), some (pcD p), some en, some (.int bg), e, g] S
          (lapP (fun ρ S => (∃ a b c d e g, ρ = [some L, some (pcD (f, v, s)), some (.int f), some (.int v), some (.int s), a, b, c, d, e, g]) ∧ ∀ n, f + 2 ≤ n → (∀ p, ps[k + 1]? = some p → n < p.1) → val ps n = ln n) (fun ρ S => seqP (gRet (cst .none)) (fun r => ∃ o S', r = .rt (optI o) S' ∧ Dev (val ps) f v s o) (.nx ρ S)) (seqP (gRet (cst .none)) (fun r => ∃ o S', r = .rt (optI o) S' ∧ Dev (val ps) f v s o))) := by
        intro hact
        have hvb : val ps bg = line p bg := hseg bg hb1 hact
        refine ks_seq (ks_unp ?_)
        symm_saturate
        refine ⟨_, hla, ?_⟩
        refine ⟨_, rfl, ?_⟩
        symm_saturate
        refine ks_if ?_
        symm_saturate
        refine ⟨.int (s * (bg - f)), if_pos (.inl hs), ?_⟩
        symm_saturate
        refine ⟨_, good_int.ne, ?_⟩
        symm_saturate
        refine ⟨fun q => ?_, fun q => ?_⟩
        · have q : line p bg ≠ v + s * (bg - f) := by simpa using q
          symm_saturate
          exact ⟨some bg, S, rfl, hb2, by rw [hvb]; exact q, hlow⟩
        · have q : line p bg = v + s * (bg - f) := by simpa using q
          symm_saturate
          have nexts : (∀ n, f + 2 ≤ n → (∀ p, ps[k + 1]? = some p → n < p.1) → val ps n = ln n) → (lapP (fun ρ S => (∃ a b c d e g, ρ = [some L, some (pcD (f, v, s)), some (.int f), some (.int v), some (.int s), a, b, c, d, e, g]) ∧ ∀ n, f + 2 ≤ n → (∀ p, ps[k + 1]? = some p → n < p.1) → val ps n = ln n) (fun ρ S => seqP (gRet (cst .none)) (fun r => ∃ o S', r = .rt (optI o) S' ∧ Dev (val ps) f v s o) (.nx ρ S)) (seqP (gRet (cst .none)) (fun r => ∃ o S', r = .rt (optI o) S' ∧ Dev (val ps) f v s o)))
              (.nx [some L, some (pcD (f, v, s)), some (.int f), some (.int v), some (.int s), some (.int (k : Nat)), some (pcD p), some en, some (.int bg), some (.int (line p bg)), some (.int p.2.2)] S) := fun hh => ⟨⟨_, _, _, _, _, _, rfl⟩, hh⟩
          have hgo : ∀ n, bg ≤ n → line p n = line p bg + p.2.2 * (n - bg) := fun n hn => by
            unfold line
            rw [show n - p.1 = (bg - p.1) + (n - bg) by omega, Int.mul_add]
            omega
          have back : ∀ n, bg ≤ n → ln n = line p bg + s * (n - bg) := fun n hn => by
            show v + s * (n - f) = _
            rw [q, show n - f = (bg - f) + (n - bg) by omega, Int.mul_add]
            omega
          have rest2 : (¬ (p.2.2 ≠ s ∧ ∀ q, ps[k + 1]? = some q → bg + 1 < q.1)) → ∀ n, f + 2 ≤ n → (∀ p, ps[k + 1]? = some p → n < p.1) → val ps n = ln n := fun hno n h4 h5 => by
            by_cases c1 : n < bg
            · exact hlow n h4 c1
            · rw [hseg n (by omega) h5, hgo n (by omega), back n (by omega)]
              by_cases c2 : p.2.2 = s
              · rw [c2]
              · have : ¬ ∀ q, ps[k + 1]? = some q → bg + 1 < q.1 := fun z => hno ⟨c2, z⟩
                have hn : n = bg := by
                  apply Classical.byContradiction
                  intro c3
                  exact this fun q hq => by have := h5 q hq; omega
                rw [hn]
                simp
          have take2 : p.2.2 ≠ s → (∀ q, ps[k + 1]? = some q → bg + 1 < q.1) → Dev (val ps) f v s (some (bg + 1)) := fun c1 c2 => by
            refine ⟨by omega, ?_, fun n h4 h5 => ?_⟩
            · rw [hseg (bg + 1) (by omega) c2, hgo (bg + 1) (by omega)]
              have := back (bg + 1) (by omega)
              show _ ≠ ln (bg + 1)
              rw [this]
              intro e
              apply c1
              have e1 : bg + 1 - bg = 1 := by omega
              rw [e1, Int.mul_one, Int.mul_one] at e
              omega
            · by_cases c3 : n < bg
              · exact hlow n h4 c3
              · have : n = bg := by omega
                rw [this, hvb]
                exact q
          refine ks_if (kb_and' ?_)
          symm_saturate
          refine ⟨_, good_int.ne, ?_⟩
          symm_saturate
          refine ⟨fun c1 => ?_, fun c1 => ?_⟩
          · have c1 : p.2.2 ≠ s := by simpa using c1
            refine kb_or' ?_
            symm_saturate
            rcases h3 with rfl | ⟨i, rfl⟩
            · refine ⟨_, isN_none, ?_⟩
              symm_saturate
              have hnone := h1 rfl
              refine ⟨(fun z => nomatch z), fun _ => ⟨fun _ => ?_, (fun z => nomatch z)⟩⟩
              symm_saturate
              exact ⟨some (bg + 1), S, rfl, take2 c1 fun q hq => by rw [hnone] at hq; cases hq⟩
            · refine ⟨_, isN_int i, ?_⟩
              symm_saturate
              obtain ⟨q', hq1, hq2⟩ := h2 i rfl
              refine ⟨fun _ => ?_, (fun z => nomatch z)⟩
              symm_saturate
              refine ⟨fun c2 => ?_, fun c2 => ?_⟩
              · rw [decide_eq_true_eq] at c2
                symm_saturate
                exact ⟨some (bg + 1), S, rfl, take2 c1 fun q hq => by rw [hq1] at hq; cases hq; omega⟩
              · rw [decide_eq_false_iff_not] at c2
                refine ks_N (nexts (rest2 fun z => c2 ?_))
                have := z.2 q' hq1
                omega
          · have c1 : p.2.2 = s := by simpa using c1
            refine ⟨(fun z => nomatch z), fun _ => ?_⟩
            exact ks_N (nexts (rest2 fun z => z.1 c1))
      refine ks_if (kb_or' ?_)
      symm_saturate
      rcases h3 with rfl | ⟨i, rfl⟩
      · refine ⟨_, isN_none, ?_⟩
        symm_saturate
        have hnone := h1 rfl
        refine ⟨(fun z => nomatch z), fun _ => ⟨fun _ => ?_, (fun z => nomatch z)⟩⟩
        exact active fun q hq => by rw [hnone] at hq; cases hq
      · refine ⟨_, isN_int i, ?_⟩
        symm_saturate
        obtain ⟨q', hq1, hq2⟩ := h2 i rfl
        refine ⟨fun _ => ?_, (fun z => nomatch z)⟩
        symm_saturate
        refine ⟨fun c2 => ?_, fun c2 => ?_⟩
        · rw [decide_eq_true_eq] at c2
          exact active fun q hq => by rw [hq1] at hq; cases hq; omega
        · rw [decide_eq_false_iff_not] at c2
          refine ks_N (lapP_nx ⟨⟨_, _, _, _, _, _, rfl⟩, fun n h4 h5 => ?_⟩)
          have := h5 q' hq1
          exact hlow n h4 (by omega)
    refine ks_seq (ks_set ?_)
    refine ke_ifE ?_
    symm_saturate
    refine ⟨_, hL.len, ?_⟩
    symm_saturate
    refine ⟨fun c1 => ?_, fun c1 => ?_⟩
    · rw [decide_eq_true_eq] at c1
      have hk2 : k + 1 < ps.length := by omega
      symm_saturate
      refine ⟨_, hL.ix (k + 1) ps[k + 1] (List.getElem?_eq_getElem hk2), ?_⟩
      symm_saturate
      refine ⟨_, max_ii _ _, ?_⟩
      symm_saturate
      rw [← hbg]
      refine key (.int ps[k + 1].1) (fun z => by cases z) (fun i hi => ⟨ps[k + 1], List.getElem?_eq_getElem hk2, by cases hi; rfl⟩) (.inr ⟨_, rfl⟩)
    · rw [decide_eq_false_iff_not] at c1
      have hk2 : ps[k + 1]? = none := List.getElem?_eq_none (by omega)
      symm_saturate
      refine ⟨_, max_ii _ _, ?_⟩
      symm_saturate
      rw [← hbg]
      exact key .none (fun _ => hk2) (fun i hi => by cases hi) (.inl rfl)
  · rintro ρ S ⟨⟨a, b, c, d, e, g, rfl⟩, inv⟩
    rw [enumD_len, List.length_map] at inv
    symm_saturate
    exact ⟨none, S, rfl, fun n hn => inv n hn fun p hp => by rw [List.getElem?_eq_none (Nat.le_refl _)] at hp; cases hp⟩
end LW

set_option Elab.async false
set_option linter.all false
set_option maxRecDepth 100000
set_option maxHeartbeats 4000000
namespace LW
open PySem PySem.Spec PyProof.Rows L2 TL
local macro_rules | `(tactic| symm_saturate) => `(tactic| repeat (first
  | ((with_reducible refine ke_rd' ?_); refine ⟨_, rfl, ?_⟩)
  | with_reducible refine ke_cst ?_ | with_reducible refine ke_b2 ?_ | with_reducible refine ke_u1 ?_ | with_reducible refine ke_cN ?_ | with_reducible refine ke_cS ?_ | with_reducible refine ke_cI ?_
  | with_reducible refine ke_mkT ?_ | with_reducible refine ke_mkL ?_ | with_reducible refine ke_bE ?_ | with_reducible refine ke_sl3 ?_ | with_reducible refine ko_N ?_ | with_reducible refine ko_S ?_ | with_reducible refine ka_N ?_ | with_reducible refine ka_C ?_ | with_reducible refine ka_iE ?_
  | with_reducible refine kb_tst ?_ | with_reducible refine kb_bT ?_ | with_reducible refine kb_not ?_ | with_reducible refine ks_seq ?_ | with_reducible refine ks_N ?_ | with_reducible refine ks_set ?_ | with_reducible refine ks_par ?_ | with_reducible refine ks_ret ?_
  | with_reducible refine seqP_nx ?_ | with_reducible refine seqP_rt ?_ | with_reducible refine lapP_nx ?_ | with_reducible refine lapP_rt ?_ | with_reducible refine lapP_ct ?_ | with_reducible refine lapP_bk ?_ | with_reducible refine seqP_ct ?_ | with_reducible refine seqP_bk ?_ | with_reducible refine retP_rt ?_ | with_reducible refine retS_rt ?_
  | with_reducible refine ks_thaw ?_ | with_reducible refine ke_newK ?_ | with_reducible refine ke_newT ?_ | with_reducible refine ke_mkTV ?_ | with_reducible refine ke_mkLV ?_
  | (with_reducible first
    | refine ⟨_, add_ii _ _, ?_⟩ | refine ⟨_, sub_ii _ _, ?_⟩ | refine ⟨_, lt_ii _ _, ?_⟩ | refine ⟨_, le_ii _ _, ?_⟩ | refine ⟨_, gt_ii _ _, ?_⟩ | refine ⟨_, ge_ii _ _, ?_⟩ | refine ⟨_, neg_i _, ?_⟩
    | refine ⟨_, len_l _, ?_⟩ | refine ⟨_, len_t _, ?_⟩ | refine ⟨_, tup_l _, ?_⟩ | refine ⟨_, tup_t _, ?_⟩ | refine ⟨_, lst_l _, ?_⟩ | refine ⟨_, lst_t _, ?_⟩)
  | ((with_reducible show ∃ d, dTuple _ = some d ∧ _); first | refine ⟨_, tup_l _, ?_⟩ | refine ⟨_, tup_t _, ?_⟩)
  | ((with_reducible show ∃ d, dLen _ = some d ∧ _); first | refine ⟨_, len_l _, ?_⟩ | refine ⟨_, len_t _, ?_⟩)
  | ((with_reducible show ∃ i, _ = PyData.int i ∧ _); refine ⟨_, rfl, ?_⟩)
  | ((with_reducible show ∃ b, _ = PyData.bool b ∧ _); refine ⟨_, rfl, ?_⟩)
  | ((with_reducible show ∃ ds, items _ = some ds ∧ _); refine ⟨_, rfl, ?_⟩)
  | ((with_reducible show ∃ d, dSub2 _ _ = some d ∧ _); first | refine ⟨_, ix0, ?_⟩ | refine ⟨_, ix1, ?_⟩ | refine ⟨_, ix2, ?_⟩ | refine ⟨_, ix3, ?_⟩ | refine ⟨_, ixl0, ?_⟩ | refine ⟨_, ixl1, ?_⟩)))

def StN (F : Int → Int) : Option Int → List Pc → Prop
  | none, rest => rest = []
  | some n, rest => 0 ≤ n ∧ TF F n rest
theorem TF.head {F : Int → Int} {n : Int} {ps : List Pc} (h : TF F n ps) : ∃ o r, ps = (n, F n, F (n + 1) - F n) :: r ∧ Dev F n (F n) (F (n + 1) - F n) o ∧ (0 ≤ n → StN F o r) := by
  cases h with
  | last d => exact ⟨none, [], rfl, d, fun _ => rfl⟩
  | @cons _ m ps d t => exact ⟨some m, ps, rfl, d, fun h0 => ⟨by have := d.1; omega, t⟩⟩
theorem notN_opt (o : Option Int) : dNotN (optI o) .none = some (.bool o.isSome) := by cases o <;> rfl
theorem number_told_eq {L : D} {raw ps : List Pc} (hL : IsNum L raw) (R : Raw raw) (hT : TF (val raw) 0 ps) (h60 : ps.length ≤ 60) (hsm : ∀ p ∈ ps, Sm p.1 ∧ Sm p.2.1 ∧ Sm p.2.2) (hst : ∀ p ∈ ps, -(2 ^ 64) < p.2.2 ∧ p.2.2 < 2 ^ 64) : m_number_told [L] = some (numT ps) := by
  refine kp_run ?_
  unfold g_number_told
  refine ks_seq (ks_par ?_)
  refine ka_M ?_
  symm_saturate
  refine ⟨rfl, ?_⟩
  symm_saturate
  refine ks_if ?_
  symm_saturate
  refine ⟨_, hL.len, ?_⟩
  symm_saturate
  refine ⟨_, good_int.eq, ?_⟩
  symm_saturate
  refine ⟨fun q => ?_, fun q => ?_⟩
  · have q : raw.length = 1 := by
      rw [decide_eq_true_eq] at q
      omega
    obtain ⟨p, rfl⟩ := List.length_eq_one_iff.mp q
    have hp0 : p.1 = 0 := R.h0 p rfl
    have e : ps = [p] := by
      have hv : ∀ n, val [p] n = p.2.1 + p.2.2 * n := fun n => by
        show p.2.1 + p.2.2 * (n - p.1) = _
        rw [hp0, Int.sub_zero]
      have hp : p = (0, val [p] 0, val [p] (0 + 1) - val [p] 0) := by
        rw [hv, hv]
        refine Prod.ext hp0 (Prod.ext ?_ ?_)
        · show p.2.1 = p.2.1 + p.2.2 * 0
          omega
        · show p.2.2 = p.2.1 + p.2.2 * (0 + 1) - (p.2.1 + p.2.2 * 0)
          rw [Int.zero_add, Int.mul_one]
          omega
      have t : TF (val [p]) 0 [(0, val [p] 0, val [p] (0 + 1) - val [p] 0)] := .last fun n _ => by
        rw [hv, hv, hv]
        rw [Int.zero_add, Int.mul_one, Int.mul_zero, Int.sub_zero]
        congr 1
        · omega
        · congr 1
          omega
      rw [← hp] at t
      exact hT.uniq t
    subst e
    symm_saturate
    refine ⟨_, hL.ix 0 p rfl, ?_⟩
    symm_saturate
    refine ⟨_, not_long_eq (ps := [p]) (fun x hx => hsm x hx), ?_⟩
    symm_saturate
    rfl
  · symm_saturate
    let I : Nat → Rho → Src → Prop := fun m ρ S => S = S0 ∧ ∃ acc rest o x3, ρ = [some L, some (numL acc), some (optI o), x3] ∧ ps = acc ++ rest ∧ acc.length = m ∧ StN (val raw) o rest
    refine gWh_rule 100000 I ?_ (by decide) ⟨rfl, [], ps, some 0, none, rfl, rfl, rfl, Int.le_refl _, hT⟩
    rintro m ρ S hm ⟨rfl, acc, rest, o, x3, rfl, hps, hacc, hst'⟩
    symm_saturate
    refine ⟨_, notN_opt o, ?_⟩
    symm_saturate
    refine ⟨fun ho => ?_, fun ho => ?_⟩
    · obtain ⟨n, rfl⟩ := Option.isSome_iff_exists.mp ho
      obtain ⟨hn0, hTF⟩ := hst'
      obtain ⟨o', r, hr, hd, hs'⟩ := hTF.head
      have hlen : acc.length + rest.length = ps.length := by rw [hps, List.length_append]
      have hrl : rest.length = r.length + 1 := by rw [hr]; rfl
      have hmem : (n, val raw n, val raw (n + 1) - val raw n) ∈ ps := by
        rw [hps, hr]
        exact List.mem_append_right _ (List.mem_cons_self ..)
      refine ⟨by omega, ?_⟩
      refine ks_seq (ks_ifF ?_)
      symm_saturate
      refine ⟨_, good_int.eq, ?_⟩
      symm_saturate
      refine ⟨by rw [decide_eq_false_iff_not, List.length_map]; omega, ?_⟩
      symm_saturate
      refine ⟨_, number_at_num hL R hn0, ?_⟩
      symm_saturate
      refine ks_app ?_
      symm_saturate
      refine ⟨.int (n + 1), rfl, ?_⟩
      symm_saturate
      refine ⟨_, number_at_num hL R (n := n + 1) (by omega), ?_⟩
      symm_saturate
      refine ⟨acc.map pcD, rfl, by rw [List.length_map]; omega, ?_⟩
      symm_saturate
      have hlast : dSub2 (.list (acc.map pcD ++ [pcD (n, val raw n, val raw (n + 1) - val raw n)])) (.int (-1)) = some (pcD (n, val raw n, val raw (n + 1) - val raw n)) := L2.atI_last _ _
      refine ⟨_, hlast, ?_⟩
      symm_saturate
      obtain ⟨o2, e2, d2⟩ := next_unlike_eq hL R hn0 (hst _ hmem)
      have := Dev.uniq hd d2
      subst this
      refine ⟨_, e2, ?_⟩
      symm_saturate
      refine ⟨rfl, acc ++ [(n, val raw n, val raw (n + 1) - val raw n)], r, o', some (.int (val raw n)), ?_, ?_, by rw [List.length_append, hacc]; rfl, hs' hn0⟩
      · unfold numL
        rw [List.map_append]
        rfl
      · rw [hps, hr, List.append_assoc]
        rfl
    · have : o = none := by simpa using ho
      subst this
      have hr : rest = [] := hst'
      rw [hr, List.append_nil] at hps
      subst hps
      symm_saturate
      refine ⟨_, not_long_eq (ps := ps) hsm, ?_⟩
      symm_saturate
      rfl
/-! ### there is a least telling -/
def lastB (ps : List Pc) : Int := (ps.getLast?.getD (0, 0, 0)).1
theorem val_end {ps : List Pc} (R : Raw ps) : ∃ p : Pc, ∀ n, lastB ps ≤ n → val ps n = line p n := by
  obtain ⟨p, hp⟩ : ∃ p, ps.getLast? = some p := by
    cases h : ps.getLast? with
    | none => exact absurd (List.getLast?_eq_none_iff.mp h) R.ne
    | some p => exact ⟨p, rfl⟩
  have hk : ps[ps.length - 1]? = some p := by rw [← List.getLast?_eq_getElem?]; exact hp
  have hpos := List.length_pos_iff.mpr R.ne
  have hl : lastB ps = p.1 := by unfold lastB; rw [hp]; rfl
  refine ⟨p, fun n hn => ?_⟩
  unfold val
  rw [pcAt_seg R.asc hk (by rw [← hl]; exact hn) fun q hq => ?_]
  rw [List.getElem?_eq_none (by omega)] at hq
  cases hq
theorem dev_ex (F : Int → Int) (f v s : Int) : ∃ o, Dev F f v s o := by
  by_cases h : ∀ n, f + 2 ≤ n → F n = v + s * (n - f)
  · exact ⟨none, h⟩
  · have h2 : ∃ k : Nat, F (f + 2 + k) ≠ v + s * (f + 2 + k - f) := by
      apply Classical.byContradiction
      intro q
      refine h fun n hn => ?_
      apply Classical.byContradiction
      intro q2
      refine q ⟨(n - (f + 2)).toNat, ?_⟩
      have e : f + 2 + ((n - (f + 2)).toNat : Int) = n := by omega
      rw [e]
      exact q2
    obtain ⟨k, hk, hmin⟩ : ∃ k : Nat, F (f + 2 + k) ≠ v + s * (f + 2 + k - f) ∧ ∀ j, j < k → F (f + 2 + (j : Nat)) = v + s * (f + 2 + (j : Nat) - f) := by
      obtain ⟨k, hk⟩ := h2
      induction k using Nat.strongRecOn with
      | _ k ih =>
        by_cases q : ∃ j, j < k ∧ F (f + 2 + (j : Nat)) ≠ v + s * (f + 2 + (j : Nat) - f)
        · obtain ⟨j, hj, hj2⟩ := q
          exact ih j hj hj2
        · exact ⟨k, hk, fun j hj => Classical.byContradiction fun z => q ⟨j, hj, z⟩⟩
    refine ⟨some (f + 2 + k), by omega, hk, fun n h1 h2 => ?_⟩
    have e : f + 2 + ((n - (f + 2)).toNat : Int) = n := by omega
    have := hmin (n - (f + 2)).toNat (by omega)
    rwa [e] at this
theorem tf_ex {F : Int → Int} {B : Int} {p : Pc} (hF : ∀ n, B ≤ n → F n = line p n) : ∀ (k : Nat) (n : Int), (B - n).toNat ≤ k → ∃ ps, TF F n ps
  | k, n, hk => by
    obtain ⟨o, hd⟩ := dev_ex F n (F n) (F (n + 1) - F n)
    cases o with
    | none => exact ⟨_, .last hd⟩
    | some m =>
      have hm := hd.1
      by_cases hb : B ≤ n
      · exfalso
        apply hd.2.1
        rw [hF m (by omega), hF n hb, hF (n + 1) (by omega)]
        unfold line
        rw [show n + 1 - p.1 = (n - p.1) + 1 by omega, show m - p.1 = (n - p.1) + (m - n) by omega, Int.mul_add, Int.mul_add, Int.mul_one]
        have : p.2.1 + (p.2.2 * (n - p.1) + p.2.2) - (p.2.1 + p.2.2 * (n - p.1)) = p.2.2 := by omega
        rw [this]
        omega
      · cases k with
        | zero => omega
        | succ k =>
          obtain ⟨ps, h⟩ := tf_ex hF k m (by omega)
          exact ⟨_, .cons hd h⟩
theorem told_ex {ps : List Pc} (R : Raw ps) : ∃ qs, TF (val ps) 0 qs := by
  obtain ⟨p, h⟩ := val_end R
  exact tf_ex h _ 0 (Nat.le_refl _)
end LW

set_option Elab.async false
set_option linter.all false
set_option maxRecDepth 100000
set_option maxHeartbeats 4000000
namespace LW
open PySem PySem.Spec PyProof.Rows L2 TL
local macro_rules | `(tactic| symm_saturate) => `(tactic| repeat (first
  | ((with_reducible refine ke_rd' ?_); refine ⟨_, rfl, ?_⟩)
  | with_reducible refine ke_cst ?_ | with_reducible refine ke_b2 ?_ | with_reducible refine ke_u1 ?_ | with_reducible refine ke_cN ?_ | with_reducible refine ke_cS ?_ | with_reducible refine ke_cI ?_
  | with_reducible refine ke_mkT ?_ | with_reducible refine ke_mkL ?_ | with_reducible refine ke_bE ?_ | with_reducible refine ke_sl3 ?_ | with_reducible refine ko_N ?_ | with_reducible refine ko_S ?_ | with_reducible refine ka_N ?_ | with_reducible refine ka_C ?_ | with_reducible refine ka_iE ?_
  | with_reducible refine kb_tst ?_ | with_reducible refine kb_bT ?_ | with_reducible refine kb_not ?_ | with_reducible refine ks_seq ?_ | with_reducible refine ks_N ?_ | with_reducible refine ks_set ?_ | with_reducible refine ks_par ?_ | with_reducible refine ks_ret ?_
  | with_reducible refine seqP_nx ?_ | with_reducible refine seqP_rt ?_ | with_reducible refine lapP_nx ?_ | with_reducible refine lapP_rt ?_ | with_reducible refine lapP_ct ?_ | with_reducible refine lapP_bk ?_ | with_reducible refine seqP_ct ?_ | with_reducible refine seqP_bk ?_ | with_reducible refine retP_rt ?_ | with_reducible refine retS_rt ?_
  | with_reducible refine ks_thaw ?_ | with_reducible refine ke_newK ?_ | with_reducible refine ke_newT ?_ | with_reducible refine ke_mkTV ?_ | with_reducible refine ke_mkLV ?_
  | (with_reducible first
    | refine ⟨_, add_ii _ _, ?_⟩ | refine ⟨_, sub_ii _ _, ?_⟩ | refine ⟨_, lt_ii _ _, ?_⟩ | refine ⟨_, le_ii _ _, ?_⟩ | refine ⟨_, gt_ii _ _, ?_⟩ | refine ⟨_, ge_ii _ _, ?_⟩ | refine ⟨_, neg_i _, ?_⟩
    | refine ⟨_, len_l _, ?_⟩ | refine ⟨_, len_t _, ?_⟩ | refine ⟨_, tup_l _, ?_⟩ | refine ⟨_, tup_t _, ?_⟩ | refine ⟨_, lst_l _, ?_⟩ | refine ⟨_, lst_t _, ?_⟩)
  | ((with_reducible show ∃ d, dTuple _ = some d ∧ _); first | refine ⟨_, tup_l _, ?_⟩ | refine ⟨_, tup_t _, ?_⟩)
  | ((with_reducible show ∃ d, dLen _ = some d ∧ _); first | refine ⟨_, len_l _, ?_⟩ | refine ⟨_, len_t _, ?_⟩)
  | ((with_reducible show ∃ i, _ = PyData.int i ∧ _); refine ⟨_, rfl, ?_⟩)
  | ((with_reducible show ∃ b, _ = PyData.bool b ∧ _); refine ⟨_, rfl, ?_⟩)
  | ((with_reducible show ∃ ds, items _ = some ds ∧ _); refine ⟨_, rfl, ?_⟩)
  | ((with_reducible show ∃ d, dSub2 _ _ = some d ∧ _); first | refine ⟨_, ix0, ?_⟩ | refine ⟨_, ix1, ?_⟩ | refine ⟨_, ix2, ?_⟩ | refine ⟨_, ix3, ?_⟩ | refine ⟨_, ixl0, ?_⟩ | refine ⟨_, ixl1, ?_⟩)))

/-! ### begins of two numbers -/
theorem oLe_int (a b : Int) : oLe PyData.int a b = true ↔ a ≤ b := by
  rw [oLe_lx, W.keyToks, W.keyToks, lexC, lexN, iN_int, iN_int]
  simp
theorem ord_int : Ord PyData.int where
  al := fun a b => by rw [W.alike]
  sh := .inr fun a => rfl
  dp := fun a => Nat.zero_le _
  anti := fun a b h1 h2 => by
    rw [oLe_int] at h1 h2
    omega
theorem sorted_ints {kvs : List (D × D)} {xs : List Int} (h : kvs.map (·.1) = xs.map .int) : dSortedC [.dict kvs] = some (.list ((oSort PyData.int xs).map .int)) := by
  have ek : isT kvs = false := by
    cases kvs with
    | nil => rfl
    | cons p r =>
      cases xs with
      | nil => cases h
      | cons a us =>
        rw [List.map_cons, List.map_cons, List.cons.injEq] at h
        obtain ⟨pk, pv⟩ := p
        have e := h.1
        dsimp only at e
        subst e
        rfl
  have e2 : keysD kvs = xs.map .int := by
    unfold keysD
    rw [ek, if_neg Bool.false_ne_true, h]
  show dSorted [.list (keysD kvs)] = _
  rw [e2]
  exact ord_int.sort1 xs
/-- the begins of both, ascending -/
theorem begs_ex (one other : List Pc) : ∃ bs : List Int, bs.Pairwise (· < ·) ∧ (∀ b, b ∈ bs ↔ (∃ p ∈ one, p.1 = b) ∨ ∃ p ∈ other, p.1 = b) ∧ bs.length ≤ one.length + other.length ∧
    ∃ kvs, dDictK [.list ((one ++ other).map fun p => .tuple [.int p.1, .bool true])] = some (.dict kvs) ∧ dSortedC [.dict kvs] = some (.list (bs.map .int)) := by
  obtain ⟨us, u1, u2, u3, u4⟩ := keys_puts (enc := PyData.int) (fun a b => good_int.eqv a b) (fun _ => .bool true) ((one ++ other).map (·.1)) [] [] rfl .nil
  refine ⟨oSort PyData.int us, ?_, fun b => ?_, ?_, putsD [] (((one ++ other).map (·.1)).map fun p => (.int p, .bool true)), ?_, sorted_ints u1⟩
  · refine (oSort_lt u2).imp fun {a b} h => ?_
    have h1 := (oLe_int a b).mp h.1
    have h2 := h.2
    omega
  · rw [(oSort_perm us).mem_iff, u3]
    simp only [List.not_mem_nil, false_or, List.mem_map, List.mem_append]
    constructor
    · rintro ⟨p, h1 | h1, rfl⟩
      · exact .inl ⟨p, h1, rfl⟩
      · exact .inr ⟨p, h1, rfl⟩
    · rintro (⟨p, h1, rfl⟩ | ⟨p, h1, rfl⟩)
      · exact ⟨p, .inl h1, rfl⟩
      · exact ⟨p, .inr h1, rfl⟩
  · rw [(oSort_perm us).length_eq]
    simp only [List.length_nil, Nat.zero_add, List.length_map, List.length_append] at u4
    exact u4
  · unfold dDictK
    dsimp only
    have := pairs_enc (enc := PyData.int) (v := fun _ => .bool true) ((one ++ other).map (·.1))
    rw [List.map_map] at this
    rw [show ((one ++ other).map fun p : Pc => PyData.tuple [.int p.1, .bool true]) = (one ++ other).map ((fun x => PyData.tuple [.int x, .bool true]) ∘ fun p => p.1) from rfl, this]
    dsimp only
    rw [if_pos]
    rw [List.all_map, List.all_eq_true]
    intro p _
    rfl
/-- where each begin ends -/
def endsOf (bs : List Int) : List (Int × Option Int) := bs.zip (bs.tail.map some ++ [none])
def besD (one other : List Pc) (q : Int × Option Int) : D := .tuple [.int q.1, optI q.2, .tuple [.int (val one q.1), .int (pcAt one q.1).2.2], .tuple [.int (val other q.1), .int (pcAt other q.1).2.2]]
theorem beside_num {L M : D} {one other : List Pc} (hL : IsNum L one) (hM : IsNum M other) (R1 : Raw one) (R2 : Raw other) : ∃ bs : List Int, bs.Pairwise (· < ·) ∧ (∀ b, b ∈ bs ↔ (∃ p ∈ one, p.1 = b) ∨ ∃ p ∈ other, p.1 = b) ∧ bs.length ≤ one.length + other.length ∧ m_beside [L, M] = some (.list ((endsOf bs).map (besD one other))) := by
  obtain ⟨bs, b1, b2, b3, kvs, b4, b5⟩ := begs_ex one other
  refine ⟨bs, b1, b2, b3, ?_⟩
  have l1 := R1.len
  have l2 := R2.len
  have hpos : ∀ b ∈ bs, 0 ≤ b := fun b hb => by
    have nn : ∀ ps : List Pc, Raw ps → ∀ p ∈ ps, 0 ≤ p.1 := fun ps R p hp => by
      cases hps : ps with
      | nil => rw [hps] at hp; cases hp
      | cons x r =>
        have h0 := R.h0 x (by rw [hps]; rfl)
        have ha := R.asc
        rw [hps] at hp ha
        rcases List.mem_cons.mp hp with rfl | hp
        · omega
        · have := (List.pairwise_cons.mp ha).1 p hp
          omega
    rcases (b2 b).mp hb with ⟨p, hp, rfl⟩ | ⟨p, hp, rfl⟩
    · exact nn one R1 p hp
    · exact nn other R2 p hp
  refine kp_run ?_
  unfold g_beside
  symm_saturate
  refine ke_lcA pcD (fun p => .tuple [.int p.1, .bool true]) ?_
  symm_saturate
  refine ka_S ?_
  symm_saturate
  refine ⟨one.map pcD, hL.isq, ?_⟩
  refine ka_S ?_
  symm_saturate
  refine ⟨other.map pcD, hM.isq, ?_⟩
  symm_saturate
  refine ⟨by rw [List.append_nil, List.length_append, List.length_map, List.length_map]; omega, ?_⟩
  symm_saturate
  refine ⟨one ++ other, by rw [List.append_nil, List.map_append], by rw [List.length_append]; omega, fun p _ => ⟨_, rfl, ?_⟩, ?_⟩
  · symm_saturate
    exact ⟨rfl, rfl⟩
  symm_saturate
  refine ⟨_, b4, ?_⟩
  symm_saturate
  refine ⟨_, b5, ?_⟩
  symm_saturate
  refine ka_S ?_
  symm_saturate
  have hb0 : 1 ≤ bs.length := by
    cases h : one with
    | nil => exact absurd h R1.ne
    | cons p r =>
      have : p.1 ∈ bs := (b2 p.1).mpr (.inl ⟨p, by rw [h]; exact List.mem_cons_self .., rfl⟩)
      exact List.length_pos_of_mem this
  have hcut : dSl (.list (bs.map .int)) (some ((1 : Nat) : Int)) none = some (.list ((bs.map PyData.int).drop 1)) := drop_cut (by rw [List.length_map]; exact hb0)
  refine ⟨_, hcut, ?_⟩
  refine ⟨_, .inl rfl, ?_⟩
  symm_saturate
  refine ⟨by rw [List.length_append, List.length_drop, List.length_map]; simp; omega, ?_⟩
  symm_saturate
  refine ke_lcA (fun q : Int × Option Int => .tuple [.int q.1, optI q.2]) (besD one other) ?_
  refine ka_iZpG ?_
  symm_saturate
  have hends : (bs.map PyData.int).drop 1 ++ [.none] = (bs.tail.map some ++ [none]).map optI := by
    rw [List.map_append, List.map_map, ← List.map_drop, List.drop_one]
    rfl
  have hel : (endsOf bs).length = bs.length := by
    unfold endsOf
    rw [List.length_zip, List.length_append, List.length_map, List.length_tail]
    simp
    omega
  have hzip : zipD true (.list (bs.map .int)) (.list ((bs.map PyData.int).drop 1 ++ [.none])) = some ((endsOf bs).map fun q => .tuple [.int q.1, optI q.2]) := by
    rw [hends]
    unfold zipD seqD
    dsimp only
    rw [if_neg]
    · congr 1
      unfold endsOf
      rw [List.zip, List.map_zipWith, List.zipWith_map]
    · rintro ⟨_, h⟩
      apply h
      rw [List.length_map, List.length_map, List.length_append, List.length_map, List.length_tail]
      simp
      omega
  refine ⟨_, _, _, rfl, hzip, endsOf bs, rfl, by omega, fun q hq => ⟨_, rfl, ?_⟩, ?_⟩
  · have hqb : q.1 ∈ bs := (List.of_mem_zip hq).1
    have hq0 := hpos q.1 hqb
    symm_saturate
    refine ⟨_, line_at_num hL R1.ne R1.asc R1.st R1.len (fun p hp => by rw [R1.h0 p hp]; exact hq0), ?_⟩
    symm_saturate
    refine ⟨_, line_at_num hM R2.ne R2.asc R2.st R2.len (fun p hp => by rw [R2.h0 p hp]; exact hq0), ?_⟩
    symm_saturate
    exact ⟨rfl, rfl⟩
  symm_saturate
  rfl
end LW

set_option Elab.async false
set_option linter.all false
set_option maxRecDepth 100000
set_option maxHeartbeats 4000000
namespace LW
open PySem PySem.Spec PyProof.Rows L2 TL
local macro_rules | `(tactic| symm_saturate) => `(tactic| repeat (first
  | ((with_reducible refine ke_rd' ?_); refine ⟨_, rfl, ?_⟩)
  | with_reducible refine ke_cst ?_ | with_reducible refine ke_b2 ?_ | with_reducible refine ke_u1 ?_ | with_reducible refine ke_cN ?_ | with_reducible refine ke_cS ?_ | with_reducible refine ke_cI ?_
  | with_reducible refine ke_mkT ?_ | with_reducible refine ke_mkL ?_ | with_reducible refine ke_bE ?_ | with_reducible refine ke_sl3 ?_ | with_reducible refine ko_N ?_ | with_reducible refine ko_S ?_ | with_reducible refine ka_N ?_ | with_reducible refine ka_C ?_ | with_reducible refine ka_iE ?_
  | with_reducible refine kb_tst ?_ | with_reducible refine kb_bT ?_ | with_reducible refine kb_not ?_ | with_reducible refine ks_seq ?_ | with_reducible refine ks_N ?_ | with_reducible refine ks_set ?_ | with_reducible refine ks_par ?_ | with_reducible refine ks_ret ?_
  | with_reducible refine seqP_nx ?_ | with_reducible refine seqP_rt ?_ | with_reducible refine lapP_nx ?_ | with_reducible refine lapP_rt ?_ | with_reducible refine lapP_ct ?_ | with_reducible refine lapP_bk ?_ | with_reducible refine seqP_ct ?_ | with_reducible refine seqP_bk ?_ | with_reducible refine retP_rt ?_ | with_reducible refine retS_rt ?_
  | with_reducible refine ks_thaw ?_ | with_reducible refine ke_newK ?_ | with_reducible refine ke_newT ?_ | with_reducible refine ke_mkTV ?_ | with_reducible refine ke_mkLV ?_
  | (with_reducible first
    | refine ⟨_, add_ii _ _, ?_⟩ | refine ⟨_, sub_ii _ _, ?_⟩ | refine ⟨_, lt_ii _ _, ?_⟩ | refine ⟨_, le_ii _ _, ?_⟩ | refine ⟨_, gt_ii _ _, ?_⟩ | refine ⟨_, ge_ii _ _, ?_⟩ | refine ⟨_, neg_i _, ?_⟩
    | refine ⟨_, len_l _, ?_⟩ | refine ⟨_, len_t _, ?_⟩ | refine ⟨_, tup_l _, ?_⟩ | refine ⟨_, tup_t _, ?_⟩ | refine ⟨_, lst_l _, ?_⟩ | refine ⟨_, lst_t _, ?_⟩)
  | ((with_reducible show ∃ d, dTuple _ = some d ∧ _); first | refine ⟨_, tup_l _, ?_⟩ | refine ⟨_, tup_t _, ?_⟩)
  | ((with_reducible show ∃ d, dLen _ = some d ∧ _); first | refine ⟨_, len_l _, ?_⟩ | refine ⟨_, len_t _, ?_⟩)
  | ((with_reducible show ∃ i, _ = PyData.int i ∧ _); refine ⟨_, rfl, ?_⟩)
  | ((with_reducible show ∃ b, _ = PyData.bool b ∧ _); refine ⟨_, rfl, ?_⟩)
  | ((with_reducible show ∃ ds, items _ = some ds ∧ _); refine ⟨_, rfl, ?_⟩)
  | ((with_reducible show ∃ d, dSub2 _ _ = some d ∧ _); first | refine ⟨_, ix0, ?_⟩ | refine ⟨_, ix1, ?_⟩ | refine ⟨_, ix2, ?_⟩ | refine ⟨_, ix3, ?_⟩ | refine ⟨_, ixl0, ?_⟩ | refine ⟨_, ixl1, ?_⟩)))

theorem Raw.pos {ps : List Pc} (R : Raw ps) : ∀ p ∈ ps, 0 ≤ p.1 := fun p hp => by
  cases hps : ps with
  | nil => rw [hps] at hp; cases hp
  | cons x r =>
    have h0 := R.h0 x (by rw [hps]; rfl)
    have ha := R.asc
    rw [hps] at hp ha
    rcases List.mem_cons.mp hp with rfl | hp
    · omega
    · have := (List.pairwise_cons.mp ha).1 p hp
      omega
theorem pcAt_same {ps : List Pc} (R : Raw ps) {b n : Int} (hb : 0 ≤ b) (hn : 0 ≤ n) (h : ∀ p ∈ ps, (p.1 ≤ b ↔ p.1 ≤ n)) : pcAt ps b = pcAt ps n := by
  have h1 := pcAt_last (n := b) R.asc (fun p hp => by rw [R.h0 p hp]; exact hb) R.ne
  have h2 := pcAt_last (n := n) R.asc (fun p hp => by rw [R.h0 p hp]; exact hn) R.ne
  have : (ps.filter fun p => decide (p.1 ≤ b)) = ps.filter fun p => decide (p.1 ≤ n) := by
    apply List.filter_congr
    intro p hp
    exact decide_eq_decide.mpr (h p hp)
  rw [this, h2] at h1
  exact (Option.some.inj h1).symm
theorem val_seg {ps : List Pc} (R : Raw ps) {b n : Int} (hb : 0 ≤ b) (hn : b ≤ n) (h : ∀ p ∈ ps, p.1 ≤ b ∨ n < p.1) : val ps n = val ps b + (pcAt ps b).2.2 * (n - b) := by
  have e : pcAt ps b = pcAt ps n := pcAt_same R hb (by omega) (fun p hp => by rcases h p hp with h | h <;> omega)
  unfold val
  rw [← e]
  unfold line
  have : n - (pcAt ps b).1 = (b - (pcAt ps b).1) + (n - b) := by omega
  rw [this, Int.mul_add]
  omega
theorem last_max {l : List Pc} {p : Pc} (ha : Asc l) (hl : l.getLast? = some p) : ∀ q ∈ l, q.1 ≤ p.1 := by
  obtain ⟨ys, rfl⟩ := List.getLast?_eq_some_iff.mp hl
  intro q hq
  unfold Asc at ha
  rw [List.pairwise_append] at ha
  rcases List.mem_append.mp hq with hq | hq
  · exact Int.le_of_lt (ha.2.2 q hq p (List.mem_cons_self ..))
  · rw [List.mem_singleton.mp hq]
    exact Int.le_refl _
theorem pcAt_spec {ps : List Pc} (R : Raw ps) {n : Int} (hn : 0 ≤ n) : pcAt ps n ∈ ps ∧ (pcAt ps n).1 ≤ n ∧ ∀ q ∈ ps, q.1 ≤ (pcAt ps n).1 ∨ n < q.1 := by
  have h1 := pcAt_last (n := n) R.asc (fun p hp => by rw [R.h0 p hp]; exact hn) R.ne
  have hm := List.mem_filter.mp (List.mem_of_getLast? h1)
  refine ⟨hm.1, by simpa using hm.2, fun q hq => ?_⟩
  by_cases c : q.1 ≤ n
  · exact .inl (last_max (List.Pairwise.filter _ R.asc) h1 q (List.mem_filter.mpr ⟨hq, by simpa using c⟩))
  · exact .inr (by omega)
/-- pieces told at begins by a function and its steps -/
def mixR (bs : List Int) (F S : Int → Int) : List Pc := bs.map fun b => (b, F b, S b)
theorem raw_mix {bs : List Int} {F S : Int → Int} (ha : bs.Pairwise (· < ·)) (h0 : (0 : Int) ∈ bs) (hp : ∀ b ∈ bs, 0 ≤ b) (hS : ∀ b ∈ bs, -(2 ^ 64) < S b ∧ S b < 2 ^ 64) (hl : bs.length ≤ 1000) : Raw (mixR bs F S) := by
  refine ⟨?_, ?_, ?_, ?_, ?_⟩
  · intro e
    have := List.map_eq_nil_iff.mp e
    rw [this] at h0
    cases h0
  · intro p hp'
    cases bs with
    | nil => cases h0
    | cons b r =>
      cases hp'
      have := hp b (List.mem_cons_self ..)
      rcases List.mem_cons.mp h0 with h | h
      · exact h.symm
      · have := (List.pairwise_cons.mp ha).1 0 h
        show b = 0
        omega
  · unfold Asc mixR
    rw [List.pairwise_map]
    exact ha
  · intro p hp
    obtain ⟨b, hb, rfl⟩ := List.mem_map.mp hp
    exact hS b hb
  · unfold mixR
    rw [List.length_map]
    omega
theorem val_mix {bs : List Int} {F S : Int → Int} (R : Raw (mixR bs F S)) (hF : ∀ b ∈ bs, ∀ n, b ≤ n → (∀ c ∈ bs, c ≤ b ∨ n < c) → F n = F b + S b * (n - b)) {n : Int} (hn : 0 ≤ n) : val (mixR bs F S) n = F n := by
  obtain ⟨h1, h2, h3⟩ := pcAt_spec R hn
  unfold val
  obtain ⟨b, hb, e⟩ := List.mem_map.mp h1
  rw [← e] at h2 h3 ⊢
  rw [hF b hb n h2 (fun c hc => h3 _ (List.mem_map_of_mem hc))]
  rfl
theorem ends_map {α : Type} (bs : List Int) (f : Int → α) : (endsOf bs).map (fun q => f q.1) = bs.map f := by
  have : (endsOf bs).map (·.1) = bs := by
    unfold endsOf
    rw [List.map_fst_zip]
    cases bs <;> simp
  calc (endsOf bs).map (fun q => f q.1) = ((endsOf bs).map (·.1)).map f := by rw [List.map_map]; rfl
    _ = bs.map f := by rw [this]
theorem sum_told {L M : D} {one other ps : List Pc} (hL : IsNum L one) (hM : IsNum M other) (R1 : Raw one) (R2 : Raw other) (hl : one.length + other.length ≤ 1000) (hst : ∀ n, 0 ≤ n → -(2 ^ 64) < (pcAt one n).2.2 + (pcAt other n).2.2 ∧ (pcAt one n).2.2 + (pcAt other n).2.2 < 2 ^ 64) (hT : TF (fun n => val one n + val other n) 0 ps) (h60 : ps.length ≤ 60) (hsm : ∀ p ∈ ps, Sm p.1 ∧ Sm p.2.1 ∧ Sm p.2.2) (hs : ∀ p ∈ ps, -(2 ^ 64) < p.2.2 ∧ p.2.2 < 2 ^ 64) : m_numbers_sum [L, M] = some (numT ps) := by
  obtain ⟨bs, b1, b2, b3, hb⟩ := beside_num hL hM R1 R2
  have hpos : ∀ b ∈ bs, 0 ≤ b := fun b h => by
    rcases (b2 b).mp h with ⟨p, hp, rfl⟩ | ⟨p, hp, rfl⟩
    · exact R1.pos p hp
    · exact R2.pos p hp
  have h0 : (0 : Int) ∈ bs := (b2 0).mpr (.inl (by
    cases e : one with
    | nil => exact absurd e R1.ne
    | cons p r => exact ⟨p, List.mem_cons_self .., R1.h0 p (by rw [e]; rfl)⟩))
  have R : Raw (mixR bs (fun b => val one b + val other b) fun b => (pcAt one b).2.2 + (pcAt other b).2.2) := raw_mix b1 h0 hpos (fun b h => hst b (hpos b h)) (by omega)
  have hv : ∀ n, 0 ≤ n → val (mixR bs (fun b => val one b + val other b) fun b => (pcAt one b).2.2 + (pcAt other b).2.2) n = val one n + val other n := fun n hn => val_mix R (fun b hb n hn hc => by
    have e1 := val_seg R1 (hpos b hb) hn (fun p hp => hc p.1 ((b2 _).mpr (.inl ⟨p, hp, rfl⟩)))
    have e2 := val_seg R2 (hpos b hb) hn (fun p hp => hc p.1 ((b2 _).mpr (.inr ⟨p, hp, rfl⟩)))
    show val one n + val other n = _
    rw [e1, e2]
    show _ = val one b + val other b + ((pcAt one b).2.2 + (pcAt other b).2.2) * (n - b)
    rw [Int.add_mul]
    omega) hn
  have hle : (endsOf bs).length ≤ 1000 := by
    unfold endsOf
    rw [List.length_zip]
    omega
  refine kp_run ?_
  unfold g_numbers_sum
  symm_saturate
  refine ke_lcA (besD one other) (fun q => pcD (q.1, val one q.1 + val other q.1, (pcAt one q.1).2.2 + (pcAt other q.1).2.2)) ?_
  symm_saturate
  refine ⟨_, hb, ?_⟩
  symm_saturate
  refine ⟨endsOf bs, rfl, by omega, fun q hq => ⟨_, rfl, ?_⟩, ?_⟩
  · symm_saturate
    exact ⟨rfl, rfl⟩
  symm_saturate
  rw [ends_map bs fun b => pcD (b, val one b + val other b, (pcAt one b).2.2 + (pcAt other b).2.2)]
  have hn := number_told_eq (num_L (mixR bs (fun b => val one b + val other b) fun b => (pcAt one b).2.2 + (pcAt other b).2.2)) R (TF.congr (fun n hn => (hv n hn).symm) hT (by omega)) h60 hsm hs
  unfold numL mixR at hn
  rw [List.map_map] at hn
  exact ⟨_, hn, rfl⟩
end LW

set_option Elab.async false
set_option linter.all false
set_option maxRecDepth 100000
set_option maxHeartbeats 4000000
namespace LW
open PySem PySem.Spec PyProof.Rows L2 TL
def g_change_of : FS :=
  (gSeq (gIf (tst (ch dLt dLt (rd 1) (cst (.int 0)) (rd 2))) (gRet (b2 dAdd (b2 dAdd (rd 0) (b2 dFdiv (u1 dNeg (rd 1)) (rd 2))) (cst (.int 1)))) gN)
  (gRet (ifE (tst (ch dLt dLt (rd 2) (cst (.int 0)) (rd 1))) (b2 dAdd (b2 dAdd (rd 0) (b2 dFdiv (rd 1) (u1 dNeg (rd 2)))) (cst (.int 1))) (cst .none))))
def m_change_of : List D → Option D := runP 3 g_change_of
def g_numbers_chosen : FS :=
  (gSeq (gOwn 3 (mkL aN))
  (gSeq (gFor (iE (cN m_beside (aC (rd 0) (aC (rd 1) aN)))) (sT (sC (sN 4) (sC (sN 5) (sC (sN 6) (sC (sN 7) s0))))) (gSeq (gPar [8, 9] (aC (b2 dMul (rd 2) (b2 dSub (b2 dSub2 (rd 7) (cst (.int 0))) (b2 dSub2 (rd 6) (cst (.int 0))))) (aC (b2 dMul (rd 2) (b2 dSub (b2 dSub2 (rd 7) (cst (.int 1))) (b2 dSub2 (rd 6) (cst (.int 1))))) aN)))
    (gSeq (gUnp (sT (sC (sN 10) (sC (sN 11) s0))) (ifE (fOr (tst (b2 dLt (rd 8) (cst (.int 0)))) (fAnd (tst (b2 dEq (rd 8) (cst (.int 0)))) (tst (b2 dLt (rd 9) (cst (.int 0)))))) (mkT (aC (rd 6) (aC (rd 7) aN))) (mkT (aC (rd 7) (aC (rd 6) aN)))))
    (gSeq (gApp 3 (mkTV (aC (rd 4) (aS (rd 10) aN))))
    (gSeq (gSet 12 (cN m_change_of (aC (rd 4) (aC (rd 8) (aC (rd 9) aN)))))
    (gIf (fAnd (tst (b2 dNotN (rd 12) (cst .none))) (fOr (tst (b2 dIsN (rd 5) (cst .none))) (tst (b2 dLt (rd 12) (rd 5))))) (gApp 3 (mkT (aC (rd 12) (aC (b2 dAdd (b2 dSub2 (rd 11) (cst (.int 0))) (b2 dMul (b2 dSub2 (rd 11) (cst (.int 1))) (b2 dSub (rd 12) (rd 4)))) (aC (b2 dSub2 (rd 11) (cst (.int 1))) aN))))) gN))))))
  (gRet (cN m_number_told (aC (rd 3) aN)))))
def m_numbers_chosen : List D → Option D := runP 13 g_numbers_chosen
def g_numbers_most : FS :=
  (gRet (cN m_numbers_chosen (aC (rd 0) (aC (rd 1) (aC (cst (.int 1)) aN)))))
def m_numbers_most : List D → Option D := runP 2 g_numbers_most
def g_number_later : FS :=
  (gSeq (gSet 2 (lcE [3] (iE (rd 0)) (sN 3) (tst (b2 dGt (b2 dSub2 (rd 3) (cst (.int 0))) (rd 1))) (rd 3)))
  (gRet (cN m_number_told (aC (mkLV (aC (mkTV (aC (cst (.int 0)) (aS (cN m_line_at (aC (rd 0) (aC (rd 1) aN))) aN))) (aS (lcE [4, 5, 6] (iE (rd 2)) (sT (sC (sN 4) (sC (sN 5) (sC (sN 6) s0)))) bT (mkT (aC (b2 dSub (rd 4) (rd 1)) (aC (rd 5) (aC (rd 6) aN))))) aN))) aN))))
def m_number_later : List D → Option D := runP 7 g_number_later
def g_last_from : FS :=
  (gRet (b2 dSub2 (b2 dSub2 (rd 0) (u1 dNeg (cst (.int 1)))) (cst (.int 0))))
def m_last_from : List D → Option D := runP 1 g_last_from
def g_web_later : FS :=
  (gRet (cN m_web_told (aC (lcE [2, 3, 4, 5] (iE (b2 dSub2 (rd 0) (cst (.int 0)))) (sT (sC (sN 2) (sC (sN 3) (sC (sN 4) (sC (sN 5) s0))))) bT (mkT (aC (rd 2) (aC (rd 3) (aC (rd 4) (aC (b2 dAdd (b2 dMul (rd 4) (rd 1)) (rd 5)) aN)))))) (aC (b2 dSub2 (rd 0) (cst (.int 1))) aN))))
def m_web_later : List D → Option D := runP 6 g_web_later
def g_web_at : FS :=
  (gRet (cN m_web_told (aC (lcE [2, 3, 4, 5] (iE (b2 dSub2 (rd 0) (cst (.int 0)))) (sT (sC (sN 2) (sC (sN 3) (sC (sN 4) (sC (sN 5) s0))))) bT (mkT (aC (rd 2) (aC (rd 3) (aC (cst (.int 0)) (aC (b2 dAdd (b2 dMul (rd 4) (rd 1)) (rd 5)) aN)))))) (aC (b2 dSub2 (rd 0) (cst (.int 1))) aN))))
def m_web_at : List D → Option D := runP 6 g_web_at
def g_goes_with : FS :=
  (gRet (cN dAll (aC (lcE [4] (iE (rd 2)) (sN 4) bT (b2 dEq (b2 dInD (mkT (aC (rd 1) (aC (rd 4) aN))) (rd 0)) (b2 dEq (rd 3) (cst (.str "tied"))))) aN)))
def m_goes_with : List D → Option D := runP 5 g_goes_with
def g_greatest_lots : FS :=
  (gSeq (gPar [2, 3, 4] (aC (cN m_known_ties (aC (rd 0) aN)) (aC (cN m_names_of (aC (rd 0) aN)) (aC (mkL (aC (mkT aN) aN)) aN))))
  (gSeq (gFor (iE (rd 3)) (sN 5) (gSet 4 (b2 dAdd (rd 4) (lcE [6] (iE (rd 4)) (sN 6) (tst (cN m_goes_with (aC (rd 2) (aC (rd 5) (aC (rd 6) (aC (rd 1) aN)))))) (mkTV (aS (rd 6) (aC (rd 5) aN)))))))
  (gSeq (gOwn 7 (mkL aN))
  (gSeq (gFor (iE (rd 4)) (sN 6) (gIf (fNot (tst (cN dAny (aC (lcE [5] (iE (rd 3)) (sN 5) bT (bE (fAnd (tst (b2 dNotInD (rd 5) (rd 6))) (tst (cN m_goes_with (aC (rd 2) (aC (rd 5) (aC (rd 6) (aC (rd 1) aN))))))))) aN)))) (gApp 7 (rd 6)) gN))
  (gRet (cN dSortedB (aC (rd 7) aN)))))))
def m_greatest_lots : List D → Option D := runP 8 g_greatest_lots
def g_most_told : FS :=
  (gSeq (gSet 2 (cN m_greatest_lots (aC (rd 0) (aC (rd 1) aN))))
  (gSeq (gSet 3 (cN m_weight_told (aC (rd 0) (aC (b2 dSub2 (rd 2) (cst (.int 0))) (aC (rd 1) aN)))))
  (gSeq (gFor (iE (sl3 (rd 2) (pS (cst (.int 1))) pN)) (sN 4) (gSet 3 (cN m_numbers_most (aC (rd 3) (aC (cN m_weight_told (aC (rd 0) (aC (rd 4) (aC (rd 1) aN)))) aN)))))
  (gRet (rd 3)))))
def m_most_told : List D → Option D := runP 5 g_most_told
def g_chain_told : FS :=
  (gRet (cN m_most_told (aC (rd 0) (aC (cst (.str "tied")) aN))))
def m_chain_told : List D → Option D := runP 1 g_chain_told
def g_lone_told : FS :=
  (gRet (cN m_most_told (aC (rd 0) (aC (cst (.str "apart")) aN))))
def m_lone_told : List D → Option D := runP 1 g_lone_told
end LW

set_option Elab.async false
set_option linter.all false
set_option maxRecDepth 100000
set_option maxHeartbeats 4000000
namespace LW
open PySem PySem.Spec PyProof.Rows L2 TL

/-! ### the greater one of two numbers -/
theorem ends_cons (b : Int) (r : List Int) : endsOf (b :: r) = (b, r.head?) :: endsOf r := by
  cases r <;> rfl
theorem ends_fst (bs : List Int) : (endsOf bs).map (·.1) = bs := by
  have := ends_map bs id
  simpa using this
theorem ends_spec : ∀ {bs : List Int}, bs.Pairwise (· < ·) → ∀ q ∈ endsOf bs, q.1 ∈ bs ∧ (∀ c ∈ bs, c ≤ q.1 ∨ ∃ e, q.2 = some e ∧ e ≤ c) ∧ ∀ e, q.2 = some e → e ∈ bs ∧ q.1 < e
  | [], _, q, hq => by cases hq
  | b :: r, h, q, hq => by
    rw [List.pairwise_cons] at h
    rw [ends_cons] at hq
    rcases List.mem_cons.mp hq with rfl | hq
    · refine ⟨List.mem_cons_self .., fun c hc => ?_, fun e he => ?_⟩
      · rcases List.mem_cons.mp hc with rfl | hc
        · exact .inl (Int.le_refl _)
        · cases r with
          | nil => cases hc
          | cons x y =>
            refine .inr ⟨x, rfl, ?_⟩
            rcases List.mem_cons.mp hc with rfl | hc
            · exact Int.le_refl _
            · exact Int.le_of_lt ((List.pairwise_cons.mp h.2).1 c hc)
      · have : e ∈ r := List.mem_of_head? he
        exact ⟨List.mem_cons_of_mem _ this, h.1 e this⟩
    · obtain ⟨h1, h2, h3⟩ := ends_spec h.2 q hq
      refine ⟨List.mem_cons_of_mem _ h1, fun c hc => ?_, fun e he => ⟨List.mem_cons_of_mem _ (h3 e he).1, (h3 e he).2⟩⟩
      rcases List.mem_cons.mp hc with rfl | hc
      · exact .inl (Int.le_of_lt (h.1 _ h1))
      · exact h2 c hc
theorem ends_asc : ∀ {bs : List Int}, bs.Pairwise (· < ·) → (endsOf bs).Pairwise fun q q' => ∃ e, q.2 = some e ∧ e ≤ q'.1
  | [], _ => List.Pairwise.nil
  | b :: r, h => by
    rw [List.pairwise_cons] at h
    rw [ends_cons, List.pairwise_cons]
    refine ⟨fun q hq => ?_, ends_asc h.2⟩
    have hm := (ends_spec h.2 q hq).1
    cases r with
    | nil => cases hm
    | cons x y =>
      refine ⟨x, rfl, ?_⟩
      rcases List.mem_cons.mp hm with e | hm
      · show x ≤ q.1
        omega
      · exact Int.le_of_lt ((List.pairwise_cons.mp h.2).1 _ hm)
/-- where a gap by steps has the other sign -/
def changeO (b g t : Int) : Option Int := if g < 0 ∧ 0 < t then some (b + -g / t + 1) else if t < 0 ∧ 0 < g then some (b + g / -t + 1) else none
def fitO (e : Option Int) (l : Int) : Bool := match e with | none => true | some e => decide (l < e)
def lateL (e o : Option Int) (w : Int → Pc) : List Pc := match o with
  | some l => if fitO e l then [w l] else []
  | none => []
theorem lateL_mem {e o : Option Int} {w : Int → Pc} {p : Pc} (h : p ∈ lateL e o w) : ∃ l, o = some l ∧ fitO e l = true ∧ p = w l := by
  unfold lateL at h
  split at h
  · next l =>
    split at h
    · next c => exact ⟨l, rfl, c, List.mem_singleton.mp h⟩
    · cases h
  · cases h
theorem lateL_len {e o : Option Int} {w : Int → Pc} : (lateL e o w).length ≤ 1 := by
  unfold lateL
  split
  · split <;> simp
  · simp
theorem lateL_asc {e o : Option Int} {w : Int → Pc} : Asc (lateL e o w) := by
  unfold lateL Asc
  split
  · split
    · exact List.pairwise_cons.mpr ⟨fun _ h => (by cases h), List.Pairwise.nil⟩
    · exact List.Pairwise.nil
  · exact List.Pairwise.nil
/-- the pieces of one lap -/
def lapC (s : Int) (one other : List Pc) (q : Int × Option Int) : List Pc :=
  let b := q.1
  let g := s * (val other b - val one b)
  let t := s * ((pcAt other b).2.2 - (pcAt one b).2.2)
  let f := if g < 0 ∨ g = 0 ∧ t < 0 then one else other
  let f' := if g < 0 ∨ g = 0 ∧ t < 0 then other else one
  (b, val f b, (pcAt f b).2.2) :: lateL q.2 (changeO b g t) fun l => (l, val f' b + (pcAt f' b).2.2 * (l - b), (pcAt f' b).2.2)
def chosen (s : Int) (one other : List Pc) (n : Int) : Int := if s * (val other n - val one n) < 0 then val one n else val other n
theorem change_spec {b g t l : Int} (h : changeO b g t = some l) : b < l ∧ ((g < 0 ∧ (∀ n, b ≤ n → n < l → g + t * (n - b) ≤ 0) ∧ ∀ n, l ≤ n → 0 ≤ g + t * (n - b)) ∨ (0 < g ∧ (∀ n, b ≤ n → n < l → 0 ≤ g + t * (n - b)) ∧ ∀ n, l ≤ n → g + t * (n - b) < 0)) := by
  unfold changeO at h
  split at h
  · next c =>
    cases h
    have h1 : 0 ≤ -g / t := Int.ediv_nonneg (by omega) (by omega)
    have h2 : -g / t * t ≤ -g := Int.ediv_mul_le _ (by omega)
    have h3 : -g < (-g / t + 1) * t := Int.lt_ediv_add_one_mul_self _ c.2
    refine ⟨by omega, .inl ⟨c.1, fun n hn hl => ?_, fun n hl => ?_⟩⟩
    · have : (n - b) * t ≤ -g / t * t := Int.mul_le_mul_of_nonneg_right (by omega) (by omega)
      rw [Int.mul_comm t]
      omega
    · have : (-g / t + 1) * t ≤ (n - b) * t := Int.mul_le_mul_of_nonneg_right (by omega) (by omega)
      rw [Int.mul_comm t]
      omega
  · split at h
    · next c =>
      cases h
      have h1 : 0 ≤ g / -t := Int.ediv_nonneg (by omega) (by omega)
      have h2 : g / -t * -t ≤ g := Int.ediv_mul_le _ (by omega)
      have h3 : g < (g / -t + 1) * -t := Int.lt_ediv_add_one_mul_self _ (by omega)
      refine ⟨by omega, .inr ⟨c.2, fun n hn hl => ?_, fun n hl => ?_⟩⟩
      · have : (n - b) * -t ≤ g / -t * -t := Int.mul_le_mul_of_nonneg_right (by omega) (by omega)
        rw [Int.mul_comm t]
        have e : (n - b) * -t = -((n - b) * t) := Int.mul_neg ..
        omega
      · have : (g / -t + 1) * -t ≤ (n - b) * -t := Int.mul_le_mul_of_nonneg_right (by omega) (by omega)
        rw [Int.mul_comm t]
        have e : (n - b) * -t = -((n - b) * t) := Int.mul_neg ..
        omega
    · cases h
theorem change_none {b g t : Int} (h : changeO b g t = none) : (g < 0 → ∀ n, b ≤ n → g + t * (n - b) < 0) ∧ (0 < g → ∀ n, b ≤ n → 0 ≤ g + t * (n - b)) := by
  unfold changeO at h
  split at h
  · cases h
  · next c =>
    split at h
    · cases h
    · next c' =>
      refine ⟨fun hg n hn => ?_, fun hg n hn => ?_⟩
      · have : t * (n - b) ≤ 0 := Int.mul_nonpos_of_nonpos_of_nonneg (by omega) (by omega)
        omega
      · have : 0 ≤ t * (n - b) := Int.mul_nonneg (by omega) (by omega)
        omega
end LW

set_option Elab.async false
set_option linter.all false
set_option maxRecDepth 100000
set_option maxHeartbeats 4000000
namespace LW
open PySem PySem.Spec PyProof.Rows L2 TL

theorem chosen_le {s : Int} (hs : s = 1 ∨ s = -1) {one other : List Pc} {n : Int} (h : s * (val other n - val one n) ≤ 0) : chosen s one other n = val one n := by
  unfold chosen
  split
  · rfl
  · rcases hs with rfl | rfl <;> omega
theorem chosen_ge {s : Int} {one other : List Pc} {n : Int} (h : 0 ≤ s * (val other n - val one n)) : chosen s one other n = val other n := by
  unfold chosen
  rw [if_neg (by omega)]
theorem lapC_mem {s : Int} {one other : List Pc} {q : Int × Option Int} {p : Pc} (hq : ∀ e, q.2 = some e → q.1 < e) (hp : p ∈ lapC s one other q) : q.1 ≤ p.1 ∧ (∀ e, q.2 = some e → p.1 < e) ∧ (p.2.2 = (pcAt one q.1).2.2 ∨ p.2.2 = (pcAt other q.1).2.2) := by
  unfold lapC at hp
  dsimp only at hp
  rcases List.mem_cons.mp hp with rfl | hp
  · refine ⟨Int.le_refl _, hq, ?_⟩
    dsimp only
    split
    · exact .inl rfl
    · exact .inr rfl
  · obtain ⟨l, hl, hf, rfl⟩ := lateL_mem hp
    refine ⟨Int.le_of_lt (change_spec hl).1, fun e he => ?_, ?_⟩
    · rw [he] at hf
      simpa [fitO] using hf
    · dsimp only
      split
      · exact .inr rfl
      · exact .inl rfl
theorem lapC_asc {s : Int} {one other : List Pc} (q : Int × Option Int) : Asc (lapC s one other q) := by
  unfold lapC
  dsimp only
  refine List.pairwise_cons.mpr ⟨fun p hp => ?_, lateL_asc⟩
  obtain ⟨l, hl, _, rfl⟩ := lateL_mem hp
  exact (change_spec hl).1
theorem lapC_len {s : Int} {one other : List Pc} (q : Int × Option Int) : (lapC s one other q).length ≤ 2 := by
  unfold lapC
  dsimp only
  rw [List.length_cons]
  exact Nat.succ_le_succ lateL_len
theorem flat_le {α β : Type} {f : α → List β} {k : Nat} (h : ∀ a, (f a).length ≤ k) : ∀ l : List α, (l.flatMap f).length ≤ k * l.length
  | [] => Nat.zero_le _
  | a :: l => by
    have h1 := h a
    have h2 := flat_le h l
    rw [List.flatMap_cons, List.length_append, List.length_cons, Nat.mul_succ]
    omega
def rawC (s : Int) (one other : List Pc) (bs : List Int) : List Pc := (endsOf bs).flatMap (lapC s one other)
theorem raw_chosen {s : Int} {one other : List Pc} {bs : List Int} (R1 : Raw one) (R2 : Raw other) (b1 : bs.Pairwise (· < ·)) (h0 : (0 : Int) ∈ bs) (hp : ∀ b ∈ bs, 0 ≤ b) (hl : bs.length ≤ 1000) : Raw (rawC s one other bs) := by
  have hq : ∀ q ∈ endsOf bs, ∀ e, q.2 = some e → q.1 < e := fun q h e he => ((ends_spec b1 q h).2.2 e he).2
  refine ⟨?_, ?_, ?_, ?_, ?_⟩
  · cases bs with
    | nil => cases h0
    | cons b r =>
      unfold rawC
      rw [ends_cons, List.flatMap_cons]
      unfold lapC
      simp
  · intro p hp'
    cases bs with
    | nil => cases h0
    | cons b r =>
      unfold rawC at hp'
      rw [ends_cons, List.flatMap_cons] at hp'
      unfold lapC at hp'
      cases hp'
      have := hp b (List.mem_cons_self ..)
      rcases List.mem_cons.mp h0 with h | h
      · exact h.symm
      · have := (List.pairwise_cons.mp b1).1 0 h
        show b = 0
        omega
  · unfold Asc rawC
    refine List.pairwise_flatMap.mpr ⟨fun q _ => lapC_asc q, ?_⟩
    refine List.Pairwise.imp_of_mem ?_ (ends_asc b1)
    intro q q' m m' ⟨e, e1, e2⟩ x hx y hy
    have := (lapC_mem (hq q m) hx).2.1 e e1
    have := (lapC_mem (hq q' m') hy).1
    omega
  · intro p hp'
    obtain ⟨q, m, hm⟩ := List.mem_flatMap.mp hp'
    have hb := hp _ (ends_spec b1 q m).1
    rcases (lapC_mem (hq q m) hm).2.2 with e | e
    · rw [e]
      exact R1.st _ (pcAt_mem _ R1.ne)
    · rw [e]
      exact R2.st _ (pcAt_mem _ R2.ne)
  · have := flat_le (f := lapC s one other) lapC_len (endsOf bs)
    have e : (endsOf bs).length = bs.length := by
      have := congrArg List.length (ends_fst bs)
      rw [List.length_map] at this
      exact this
    unfold rawC
    omega
theorem val_chosen {s : Int} (hs : s = 1 ∨ s = -1) {one other : List Pc} {bs : List Int} (R1 : Raw one) (R2 : Raw other) (b1 : bs.Pairwise (· < ·)) (b2 : ∀ b, b ∈ bs ↔ (∃ p ∈ one, p.1 = b) ∨ ∃ p ∈ other, p.1 = b) (hp : ∀ b ∈ bs, 0 ≤ b) (R : Raw (rawC s one other bs)) {n : Int} (hn : 0 ≤ n) : val (rawC s one other bs) n = chosen s one other n := by
  have hq : ∀ q ∈ endsOf bs, ∀ e, q.2 = some e → q.1 < e := fun q h e he => ((ends_spec b1 q h).2.2 e he).2
  have hfst : ∀ b ∈ bs, ∃ p ∈ rawC s one other bs, p.1 = b := fun b hb => by
    rw [← ends_fst bs] at hb
    obtain ⟨q, m, rfl⟩ := List.mem_map.mp hb
    exact ⟨_, List.mem_flatMap.mpr ⟨q, m, List.mem_cons_self ..⟩, rfl⟩
  obtain ⟨h1, h2, h3⟩ := pcAt_spec R hn
  unfold val
  generalize pcAt (rawC s one other bs) n = p at h1 h2 h3
  obtain ⟨q, m, hm⟩ := List.mem_flatMap.mp h1
  obtain ⟨m1, m2, m3⟩ := ends_spec b1 q m
  obtain ⟨k1, k2, k3⟩ := lapC_mem (hq q m) hm
  have hend : ∀ e, q.2 = some e → n < e := fun e he => by
    obtain ⟨p', hp', e'⟩ := hfst e (m3 e he).1
    have := h3 p' hp'
    have := k2 e he
    omega
  have hc : ∀ c ∈ bs, c ≤ q.1 ∨ n < c := fun c hc => by
    rcases m2 c hc with h | ⟨e, he, hle⟩
    · exact .inl h
    · have := hend e he
      exact .inr (by omega)
  have hb := hp _ m1
  have hbn : q.1 ≤ n := by omega
  have v1 := val_seg R1 hb hbn (fun p hp => hc p.1 ((b2 _).mpr (.inl ⟨p, hp, rfl⟩)))
  have v2 := val_seg R2 hb hbn (fun p hp => hc p.1 ((b2 _).mpr (.inr ⟨p, hp, rfl⟩)))
  have hall : ∀ x ∈ lapC s one other q, x.1 ≤ p.1 ∨ n < x.1 := fun x hx => h3 x (List.mem_flatMap.mpr ⟨q, m, hx⟩)
  have hgap : s * (val other n - val one n) = s * (val other q.1 - val one q.1) + s * ((pcAt other q.1).2.2 - (pcAt one q.1).2.2) * (n - q.1) := by
    rw [v1, v2, Int.mul_assoc, ← Int.mul_add, Int.sub_mul]
    congr 1
    omega
  unfold lapC at hm hall
  dsimp only at hm hall
  generalize hg : s * (val other q.1 - val one q.1) = g at hm hall hgap
  generalize ht : s * ((pcAt other q.1).2.2 - (pcAt one q.1).2.2) = t at hm hall hgap
  rcases List.mem_cons.mp hm with rfl | hm
  · have hlt : ∀ l, changeO q.1 g t = some l → n < l := fun l hl => by
      rw [hl] at hall
      unfold lateL at hall
      dsimp only at hall
      by_cases c : fitO q.2 l = true
      · rw [if_pos c] at hall
        have := hall _ (List.mem_cons_of_mem _ (List.mem_cons_self ..))
        have := (change_spec hl).1
        dsimp only at *
        omega
      · cases e : q.2 with
        | none => rw [e] at c; exact absurd rfl c
        | some e' =>
          rw [e] at c
          have := hend e' e
          simp [fitO] at c
          omega
    by_cases c : g < 0 ∨ g = 0 ∧ t < 0
    · simp only [if_pos c]
      show val one q.1 + (pcAt one q.1).2.2 * (n - q.1) = _
      rw [← v1]
      refine (chosen_le hs ?_).symm
      rw [hgap]
      cases hch : changeO q.1 g t with
      | some l =>
        rcases (change_spec hch).2 with ⟨_, h, _⟩ | ⟨h, _, _⟩
        · exact h n hbn (hlt l hch)
        · omega
      | none =>
        rcases c with c | ⟨c, c'⟩
        · exact Int.le_of_lt ((change_none hch).1 c n hbn)
        · have : t * (n - q.1) ≤ 0 := Int.mul_nonpos_of_nonpos_of_nonneg (by omega) (by omega)
          omega
    · simp only [if_neg c]
      show val other q.1 + (pcAt other q.1).2.2 * (n - q.1) = _
      rw [← v2]
      refine (chosen_ge ?_).symm
      rw [hgap]
      cases hch : changeO q.1 g t with
      | some l =>
        rcases (change_spec hch).2 with ⟨h, _, _⟩ | ⟨_, h, _⟩
        · omega
        · exact h n hbn (hlt l hch)
      | none =>
        by_cases c' : 0 < g
        · exact (change_none hch).2 c' n hbn
        · have : 0 ≤ t * (n - q.1) := Int.mul_nonneg (by omega) (by omega)
          omega
  · obtain ⟨l, hl, _, hm⟩ := lateL_mem hm
    subst hm
    dsimp only at h2
    have hlin : ∀ v w : Int, v + w * (l - q.1) + w * (n - l) = v + w * (n - q.1) := fun v w => by
      rw [Int.add_assoc, ← Int.mul_add]
      congr 2
      omega
    rcases (change_spec hl).2 with ⟨h, _, h'⟩ | ⟨h, _, h'⟩
    · simp only [if_pos (Or.inl h : g < 0 ∨ g = 0 ∧ t < 0)]
      show val other q.1 + (pcAt other q.1).2.2 * (l - q.1) + (pcAt other q.1).2.2 * (n - l) = _
      rw [hlin, ← v2]
      refine (chosen_ge ?_).symm
      rw [hgap]
      exact h' n h2
    · simp only [if_neg (show ¬(g < 0 ∨ g = 0 ∧ t < 0) by omega)]
      show val one q.1 + (pcAt one q.1).2.2 * (l - q.1) + (pcAt one q.1).2.2 * (n - l) = _
      rw [hlin, ← v1]
      refine (chosen_le hs ?_).symm
      rw [hgap]
      exact Int.le_of_lt (h' n h2)
end LW

set_option Elab.async false
set_option linter.all false
set_option maxRecDepth 100000
set_option maxHeartbeats 4000000
namespace LW
open PySem PySem.Spec PyProof.Rows L2 TL
local macro_rules | `(tactic| symm_saturate) => `(tactic| repeat (first
  | ((with_reducible refine ke_rd' ?_); refine ⟨_, rfl, ?_⟩)
  | with_reducible refine ke_cst ?_ | with_reducible refine ke_b2 ?_ | with_reducible refine ke_u1 ?_ | with_reducible refine ke_cN ?_ | with_reducible refine ke_cS ?_ | with_reducible refine ke_cI ?_
  | with_reducible refine ke_mkT ?_ | with_reducible refine ke_mkL ?_ | with_reducible refine ke_bE ?_ | with_reducible refine ke_sl3 ?_ | with_reducible refine ko_N ?_ | with_reducible refine ko_S ?_ | with_reducible refine ka_N ?_ | with_reducible refine ka_C ?_ | with_reducible refine ka_iE ?_
  | with_reducible refine kb_tst ?_ | with_reducible refine kb_bT ?_ | with_reducible refine kb_not ?_ | with_reducible refine ks_seq ?_ | with_reducible refine ks_N ?_ | with_reducible refine ks_set ?_ | with_reducible refine ks_par ?_ | with_reducible refine ks_ret ?_
  | with_reducible refine seqP_nx ?_ | with_reducible refine seqP_rt ?_ | with_reducible refine lapP_nx ?_ | with_reducible refine lapP_rt ?_ | with_reducible refine lapP_ct ?_ | with_reducible refine lapP_bk ?_ | with_reducible refine seqP_ct ?_ | with_reducible refine seqP_bk ?_ | with_reducible refine retP_rt ?_ | with_reducible refine retS_rt ?_
  | with_reducible refine ks_thaw ?_ | with_reducible refine ke_newK ?_ | with_reducible refine ke_newT ?_ | with_reducible refine ke_mkTV ?_ | with_reducible refine ke_mkLV ?_
  | (with_reducible first
    | refine ⟨_, add_ii _ _, ?_⟩ | refine ⟨_, sub_ii _ _, ?_⟩ | refine ⟨_, lt_ii _ _, ?_⟩ | refine ⟨_, le_ii _ _, ?_⟩ | refine ⟨_, gt_ii _ _, ?_⟩ | refine ⟨_, ge_ii _ _, ?_⟩ | refine ⟨_, neg_i _, ?_⟩
    | refine ⟨_, len_l _, ?_⟩ | refine ⟨_, len_t _, ?_⟩ | refine ⟨_, tup_l _, ?_⟩ | refine ⟨_, tup_t _, ?_⟩ | refine ⟨_, lst_l _, ?_⟩ | refine ⟨_, lst_t _, ?_⟩)
  | ((with_reducible show ∃ d, dTuple _ = some d ∧ _); first | refine ⟨_, tup_l _, ?_⟩ | refine ⟨_, tup_t _, ?_⟩)
  | ((with_reducible show ∃ d, dLen _ = some d ∧ _); first | refine ⟨_, len_l _, ?_⟩ | refine ⟨_, len_t _, ?_⟩)
  | ((with_reducible show ∃ i, _ = PyData.int i ∧ _); refine ⟨_, rfl, ?_⟩)
  | ((with_reducible show ∃ b, _ = PyData.bool b ∧ _); refine ⟨_, rfl, ?_⟩)
  | ((with_reducible show ∃ ds, items _ = some ds ∧ _); refine ⟨_, rfl, ?_⟩)
  | ((with_reducible show ∃ d, dSub2 _ _ = some d ∧ _); first | refine ⟨_, ix0, ?_⟩ | refine ⟨_, ix1, ?_⟩ | refine ⟨_, ix2, ?_⟩ | refine ⟨_, ix3, ?_⟩ | refine ⟨_, ixl0, ?_⟩ | refine ⟨_, ixl1, ?_⟩)))

theorem change_eq {b g t : Int} (h : -(2 ^ 30) < t ∧ t < 2 ^ 30) : m_change_of [.int b, .int g, .int t] = some (optI (changeO b g t)) := by
  refine kp_run ?_
  unfold g_change_of
  symm_saturate
  refine ks_if ?_
  symm_saturate
  refine ke_ch ?_
  symm_saturate
  have e2 : ∀ (i : Int), 0 < i → i < 2 ^ 30 → ∀ j : Int, dFdiv (.int j) (.int i) = some (.int (j / i)) := fun i h1 h2 j => dFdiv_of ⟨h1, h2⟩
  have second : ¬(g < 0 ∧ 0 < t) → KS (gRet (ifE (tst (ch dLt dLt (rd 2) (cst (PyData.int 0)) (rd 1))) (b2 dAdd (b2 dAdd (rd 0) (b2 dFdiv (rd 1) (u1 dNeg (rd 2)))) (cst (PyData.int 1))) (cst PyData.none))) [some (.int b), some (.int g), some (.int t)] S0 (retP (optI (changeO b g t))) := fun hn => by
    refine ks_ret ?_
    refine ke_ifE ?_
    symm_saturate
    refine ke_ch ?_
    symm_saturate
    refine ⟨fun c1 => ?_, fun c1 => ?_⟩
    · have c1 := of_decide_eq_true c1
      symm_saturate
      refine ⟨fun c2 => ?_, fun c2 => ?_⟩
      · have c2 := of_decide_eq_true c2
        symm_saturate
        refine ⟨_, e2 (-t) (by omega) (by omega) g, ?_⟩
        symm_saturate
        unfold changeO
        rw [if_neg hn, if_pos ⟨c1, c2⟩]
        rfl
      · have c2 := of_decide_eq_false c2
        symm_saturate
        unfold changeO
        rw [if_neg hn, if_neg (fun h => c2 h.2)]
        rfl
    · have c1 := of_decide_eq_false c1
      refine ⟨false, rfl, ?_⟩
      refine ⟨fun h => (nomatch h), fun _ => ?_⟩
      symm_saturate
      unfold changeO
      rw [if_neg hn, if_neg (fun h => c1 h.1)]
      rfl
  refine ⟨fun c1 => ?_, fun c1 => ?_⟩
  · have c1 := of_decide_eq_true c1
    symm_saturate
    refine ⟨fun c2 => ?_, fun c2 => ?_⟩
    · have c2 := of_decide_eq_true c2
      symm_saturate
      refine ⟨_, e2 t c2 (by omega) (-g), ?_⟩
      symm_saturate
      unfold changeO
      rw [if_pos ⟨c1, c2⟩]
      rfl
    · have c2 := of_decide_eq_false c2
      refine ks_N ?_
      exact second (fun h => c2 h.2)
  · have c1 := of_decide_eq_false c1
    refine ⟨false, rfl, ?_⟩
    refine ⟨fun h => (nomatch h), fun _ => ?_⟩
    exact ks_N (second (fun h => c1 h.1))
end LW

set_option Elab.async false
set_option linter.all false
set_option maxRecDepth 100000
set_option maxHeartbeats 4000000
namespace LW
open PySem PySem.Spec PyProof.Rows L2 TL
local macro_rules | `(tactic| symm_saturate) => `(tactic| repeat (first
  | ((with_reducible refine ke_rd' ?_); refine ⟨_, rfl, ?_⟩)
  | with_reducible refine ke_cst ?_ | with_reducible refine ke_b2 ?_ | with_reducible refine ke_u1 ?_ | with_reducible refine ke_cN ?_ | with_reducible refine ke_cS ?_ | with_reducible refine ke_cI ?_
  | with_reducible refine ke_mkT ?_ | with_reducible refine ke_mkL ?_ | with_reducible refine ke_bE ?_ | with_reducible refine ke_sl3 ?_ | with_reducible refine ko_N ?_ | with_reducible refine ko_S ?_ | with_reducible refine ka_N ?_ | with_reducible refine ka_C ?_ | with_reducible refine ka_iE ?_
  | with_reducible refine kb_tst ?_ | with_reducible refine kb_bT ?_ | with_reducible refine kb_not ?_ | with_reducible refine ks_seq ?_ | with_reducible refine ks_N ?_ | with_reducible refine ks_set ?_ | with_reducible refine ks_par ?_ | with_reducible refine ks_ret ?_
  | with_reducible refine seqP_nx ?_ | with_reducible refine seqP_rt ?_ | with_reducible refine lapP_nx ?_ | with_reducible refine lapP_rt ?_ | with_reducible refine lapP_ct ?_ | with_reducible refine lapP_bk ?_ | with_reducible refine seqP_ct ?_ | with_reducible refine seqP_bk ?_ | with_reducible refine retP_rt ?_ | with_reducible refine retS_rt ?_
  | with_reducible refine ks_thaw ?_ | with_reducible refine ke_newK ?_ | with_reducible refine ke_newT ?_ | with_reducible refine ke_mkTV ?_ | with_reducible refine ke_mkLV ?_
  | (with_reducible first
    | refine ⟨_, add_ii _ _, ?_⟩ | refine ⟨_, sub_ii _ _, ?_⟩ | refine ⟨_, lt_ii _ _, ?_⟩ | refine ⟨_, le_ii _ _, ?_⟩ | refine ⟨_, gt_ii _ _, ?_⟩ | refine ⟨_, ge_ii _ _, ?_⟩ | refine ⟨_, neg_i _, ?_⟩
    | refine ⟨_, len_l _, ?_⟩ | refine ⟨_, len_t _, ?_⟩ | refine ⟨_, tup_l _, ?_⟩ | refine ⟨_, tup_t _, ?_⟩ | refine ⟨_, lst_l _, ?_⟩ | refine ⟨_, lst_t _, ?_⟩)
  | ((with_reducible show ∃ d, dTuple _ = some d ∧ _); first | refine ⟨_, tup_l _, ?_⟩ | refine ⟨_, tup_t _, ?_⟩)
  | ((with_reducible show ∃ d, dLen _ = some d ∧ _); first | refine ⟨_, len_l _, ?_⟩ | refine ⟨_, len_t _, ?_⟩)
  | ((with_reducible show ∃ i, _ = PyData.int i ∧ _); refine ⟨_, rfl, ?_⟩)
  | ((with_reducible show ∃ b, _ = PyData.bool b ∧ _); refine ⟨_, rfl, ?_⟩)
  | ((with_reducible show ∃ ds, items _ = some ds ∧ _); refine ⟨_, rfl, ?_⟩)
  | ((with_reducible show ∃ d, dSub2 _ _ = some d ∧ _); first | refine ⟨_, ix0, ?_⟩ | refine ⟨_, ix1, ?_⟩ | refine ⟨_, ix2, ?_⟩ | refine ⟨_, ix3, ?_⟩ | refine ⟨_, ixl0, ?_⟩ | refine ⟨_, ixl1, ?_⟩)))

theorem chosen_told {L M : D} {one other ps : List Pc} {s : Int} (hs : s = 1 ∨ s = -1) (hL : IsNum L one) (hM : IsNum M other) (R1 : Raw one) (R2 : Raw other) (hl : one.length + other.length ≤ 1000) (s1 : ∀ p ∈ one, -(2 ^ 28) < p.2.2 ∧ p.2.2 < 2 ^ 28) (s2 : ∀ p ∈ other, -(2 ^ 28) < p.2.2 ∧ p.2.2 < 2 ^ 28) (hT : TF (chosen s one other) 0 ps) (h60 : ps.length ≤ 60) (hsm : ∀ p ∈ ps, Sm p.1 ∧ Sm p.2.1 ∧ Sm p.2.2) (hst : ∀ p ∈ ps, -(2 ^ 64) < p.2.2 ∧ p.2.2 < 2 ^ 64) : m_numbers_chosen [L, M, .int s] = some (numT ps) := by
  obtain ⟨bs, b1, b2, b3, hb⟩ := beside_num hL hM R1 R2
  have hpos : ∀ b ∈ bs, 0 ≤ b := fun b h => by
    rcases (b2 b).mp h with ⟨p, hp, rfl⟩ | ⟨p, hp, rfl⟩
    · exact R1.pos p hp
    · exact R2.pos p hp
  have h0 : (0 : Int) ∈ bs := (b2 0).mpr (.inl (by
    cases e : one with
    | nil => exact absurd e R1.ne
    | cons p r => exact ⟨p, List.mem_cons_self .., R1.h0 p (by rw [e]; rfl)⟩))
  have R : Raw (rawC s one other bs) := raw_chosen R1 R2 b1 h0 hpos (by omega)
  have hv : ∀ n, 0 ≤ n → val (rawC s one other bs) n = chosen s one other n := fun n hn => val_chosen hs R1 R2 b1 b2 hpos R hn
  have hn := number_told_eq (num_L (rawC s one other bs)) R (TF.congr (fun n hn => (hv n hn).symm) hT (by omega)) h60 hsm hst
  have hle : (endsOf bs).length ≤ 1000 := by
    unfold endsOf
    rw [List.length_zip]
    omega
  refine kp_run ?_
  unfold g_numbers_chosen
  refine ks_seq (ks_own ?_)
  symm_saturate
  refine ⟨rfl, ?_⟩
  refine ks_seq (ks_forT (besD one other) ?_)
  symm_saturate
  refine ⟨_, hb, ?_⟩
  symm_saturate
  refine ⟨endsOf bs, rfl, fun i ρ S => S = S0 ∧ ∃ a4 a5 a6 a7 a8 a9 a10 a11 a12, ρ = [some L, some M, some (.int s), some (.list ((((endsOf bs).take i).flatMap (lapC s one other)).map pcD)), a4, a5, a6, a7, a8, a9, a10, a11, a12], ⟨rfl, none, none, none, none, none, none, none, none, none, rfl⟩, ?_, ?_⟩
  · rintro i q ρ S hq ⟨rfl, a4, a5, a6, a7, a8, a9, a10, a11, a12, rfl⟩
    refine ⟨_, rfl, ?_⟩
    have z1 := s1 _ (pcAt_mem q.1 R1.ne)
    have z2 := s2 _ (pcAt_mem q.1 R2.ne)
    have hm1 : ∀ x : Int, dMul (.int s) (.int x) = some (.int (s * x)) := fun x => dMul_of (.inl (by rcases hs with rfl | rfl <;> omega))
    refine ks_seq (ks_par ?_)
    symm_saturate
    refine ⟨_, hm1 _, ?_⟩
    symm_saturate
    refine ⟨_, hm1 _, ?_⟩
    symm_saturate
    have key : ∀ (g t : Int) (A B : D) (x0 x1 x2 x3 x4 x5 y0 y1 y2 : Option D), KE (ifE (fOr (tst (TL.b2 dLt (rd 8) (cst (PyData.int 0)))) (fAnd (tst (TL.b2 dEq (rd 8) (cst (PyData.int 0)))) (tst (TL.b2 dLt (rd 9) (cst (PyData.int 0)))))) (mkT (aC (rd 6) (aC (rd 7) aN))) (mkT (aC (rd 7) (aC (rd 6) aN)))) [x0, x1, x2, x3, x4, x5, some A, some B, some (.int g), some (.int t), y0, y1, y2] S0 fun d S1 => d = .tuple [if g < 0 ∨ g = 0 ∧ t < 0 then A else B, if g < 0 ∨ g = 0 ∧ t < 0 then B else A] ∧ S1 = S0 := fun g t A B x0 x1 x2 x3 x4 x5 y0 y1 y2 => by
      refine ke_ifE ?_
      symm_saturate
      refine kb_or ?_
      symm_saturate
      refine ⟨rfl, kb_and ?_⟩
      symm_saturate
      refine ⟨_, good_int.eq, ?_⟩
      symm_saturate
      refine ⟨rfl, ?_⟩
      symm_saturate
      refine ⟨rfl, rfl, ?_⟩
      have hd : (decide (g < 0) || (decide (g = 0) && decide (t < 0))) = decide (g < 0 ∨ g = 0 ∧ t < 0) := by simp
      rw [hd]
      refine ⟨fun c => ?_, fun c => ?_⟩
      · have c := of_decide_eq_true c
        rw [if_pos c, if_pos c]
        symm_saturate
        exact ⟨rfl, rfl⟩
      · have c := of_decide_eq_false c
        rw [if_neg c, if_neg c]
        symm_saturate
        exact ⟨rfl, rfl⟩
    refine ks_unp ?_
    have hlap : ∃ f f' : List Pc, (∀ b, (pcAt f b).2.2 = (pcAt f b).2.2) ∧ (-(2 ^ 28) < (pcAt f' q.1).2.2 ∧ (pcAt f' q.1).2.2 < 2 ^ 28) ∧ (if s * (val other q.1 - val one q.1) < 0 ∨ s * (val other q.1 - val one q.1) = 0 ∧ s * ((pcAt other q.1).2.2 - (pcAt one q.1).2.2) < 0 then PyData.tuple [.int (val one q.1), .int (pcAt one q.1).2.2] else .tuple [.int (val other q.1), .int (pcAt other q.1).2.2]) = .tuple [.int (val f q.1), .int (pcAt f q.1).2.2] ∧ (if s * (val other q.1 - val one q.1) < 0 ∨ s * (val other q.1 - val one q.1) = 0 ∧ s * ((pcAt other q.1).2.2 - (pcAt one q.1).2.2) < 0 then PyData.tuple [.int (val other q.1), .int (pcAt other q.1).2.2] else .tuple [.int (val one q.1), .int (pcAt one q.1).2.2]) = .tuple [.int (val f' q.1), .int (pcAt f' q.1).2.2] ∧ lapC s one other q = (q.1, val f q.1, (pcAt f q.1).2.2) :: lateL q.2 (changeO q.1 (s * (val other q.1 - val one q.1)) (s * ((pcAt other q.1).2.2 - (pcAt one q.1).2.2))) fun l => (l, val f' q.1 + (pcAt f' q.1).2.2 * (l - q.1), (pcAt f' q.1).2.2) := by
      by_cases c : s * (val other q.1 - val one q.1) < 0 ∨ s * (val other q.1 - val one q.1) = 0 ∧ s * ((pcAt other q.1).2.2 - (pcAt one q.1).2.2) < 0
      · refine ⟨one, other, fun _ => rfl, z2, by rw [if_pos c], by rw [if_pos c], ?_⟩
        unfold lapC
        simp only [if_pos c]
      · refine ⟨other, one, fun _ => rfl, z1, by rw [if_neg c], by rw [if_neg c], ?_⟩
        unfold lapC
        simp only [if_neg c]
    obtain ⟨f, f', _, zf, hf, hf', hlc⟩ := hlap
    obtain ⟨d, S1, e1, rfl, rfl⟩ := key (s * (val other q.1 - val one q.1)) (s * ((pcAt other q.1).2.2 - (pcAt one q.1).2.2)) (.tuple [.int (val one q.1), .int (pcAt one q.1).2.2]) (.tuple [.int (val other q.1), .int (pcAt other q.1).2.2]) (some L) (some M) (some (.int s)) (some (.list ((((endsOf bs).take i).flatMap (lapC s one other)).map pcD))) (some (.int q.1)) (some (optI q.2)) a10 a11 a12
    refine ⟨_, _, e1, ?_⟩
    rw [hf, hf']
    refine ⟨_, rfl, ?_⟩
    have ht : -(2 ^ 30) < s * ((pcAt other q.1).2.2 - (pcAt one q.1).2.2) ∧ s * ((pcAt other q.1).2.2 - (pcAt one q.1).2.2) < 2 ^ 30 := by rcases hs with rfl | rfl <;> omega
    have hlen : ((((endsOf bs).take i).flatMap (lapC s one other)).map pcD).length ≤ 2000 := by
      have := flat_le (f := lapC s one other) lapC_len ((endsOf bs).take i)
      have h2 : ((endsOf bs).take i).length ≤ (endsOf bs).length := by rw [List.length_take]; omega
      rw [List.length_map]
      omega
    have hnext : (((endsOf bs).take (i + 1)).flatMap (lapC s one other)).map pcD = (((endsOf bs).take i).flatMap (lapC s one other)).map pcD ++ (lapC s one other q).map pcD := by
      rw [List.take_add_one, hq, List.flatMap_append, List.map_append]
      simp
    generalize (((endsOf bs).take i).flatMap (lapC s one other)).map pcD = acc at hlen hnext
    symm_saturate
    refine ks_app ?_
    symm_saturate
    refine ka_S ?_
    symm_saturate
    refine ⟨_, .inr rfl, ?_⟩
    symm_saturate
    refine ⟨by simp, acc, rfl, by omega, ?_⟩
    symm_saturate
    refine ⟨_, change_eq ht, ?_⟩
    symm_saturate
    rw [hlc] at hnext
    cases hch : changeO q.1 (s * (val other q.1 - val one q.1)) (s * ((pcAt other q.1).2.2 - (pcAt one q.1).2.2)) with
    | none =>
      rw [hch] at hnext
      refine ks_ifF ?_
      refine kb_and' ?_
      symm_saturate
      refine ⟨_, notN_opt _, ?_⟩
      refine ⟨_, rfl, fun h => (nomatch h), fun _ => ⟨rfl, ?_⟩⟩
      refine ks_N ?_
      unfold lapP
      dsimp only
      rw [hnext]
      exact ⟨rfl, _, _, _, _, _, _, _, _, _, rfl⟩
    | some l =>
      rw [hch] at hnext
      have hfit : KB (fOr (tst (TL.b2 dIsN (rd 5) (cst PyData.none))) (tst (TL.b2 dLt (rd 12) (rd 5)))) [some L, some M, some (.int s), some (.list (acc ++ [pcD (q.1, val f q.1, (pcAt f q.1).2.2)])), some (.int q.1), some (optI q.2), some (.tuple [.int (val one q.1), .int (pcAt one q.1).2.2]), some (.tuple [.int (val other q.1), .int (pcAt other q.1).2.2]), some (.int (s * (val other q.1 - val one q.1))), some (.int (s * ((pcAt other q.1).2.2 - (pcAt one q.1).2.2))), some (.tuple [.int (val f q.1), .int (pcAt f q.1).2.2]), some (.tuple [.int (val f' q.1), .int (pcAt f' q.1).2.2]), some (.int l)] S0 fun b S1 => b = fitO q.2 l ∧ S1 = S0 := by
        cases he : q.2 with
        | none =>
          refine kb_or' ?_
          symm_saturate
          refine ⟨_, isN_none, ?_⟩
          exact ⟨_, rfl, fun h => (nomatch h), fun _ => ⟨rfl, rfl⟩⟩
        | some e =>
          refine kb_or' ?_
          symm_saturate
          refine ⟨_, isN_int e, ?_⟩
          refine ⟨_, rfl, fun _ => ?_, fun h => (nomatch h)⟩
          symm_saturate
          exact ⟨rfl, rfl⟩
      refine ks_if ?_
      refine kb_and' ?_
      symm_saturate
      refine ⟨_, notN_opt _, ?_⟩
      refine ⟨_, rfl, fun _ => ?_, fun h => (nomatch h)⟩
      obtain ⟨b, S1, e1, rfl, rfl⟩ := hfit
      refine ⟨_, _, e1, fun c => ?_, fun c => ?_⟩
      · refine ks_app ?_
        symm_saturate
        refine ⟨.int (l - q.1), rfl, ?_⟩
        refine ⟨.int ((pcAt f' q.1).2.2 * (l - q.1)), dMul_of (.inl (by omega)), ?_⟩
        refine ⟨.int (val f' q.1 + (pcAt f' q.1).2.2 * (l - q.1)), rfl, ?_⟩
        symm_saturate
        refine ⟨_, rfl, by rw [List.length_append]; simp; omega, ?_⟩
        unfold lateL at hnext
        dsimp only at hnext
        rw [c, if_pos rfl] at hnext
        unfold lapP
        dsimp only
        rw [hnext]
        refine ⟨rfl, some (.int q.1), some (optI q.2), some (.tuple [.int (val one q.1), .int (pcAt one q.1).2.2]), some (.tuple [.int (val other q.1), .int (pcAt other q.1).2.2]), some (.int (s * (val other q.1 - val one q.1))), some (.int (s * ((pcAt other q.1).2.2 - (pcAt one q.1).2.2))), some (.tuple [.int (val f q.1), .int (pcAt f q.1).2.2]), some (.tuple [.int (val f' q.1), .int (pcAt f' q.1).2.2]), some (.int l), ?_⟩
        rw [List.map_cons, List.map_cons, List.map_nil]
        have ea : ∀ x y : D, acc ++ [x, y] = acc ++ [x] ++ [y] := fun x y => by simp
        rw [ea]
        rfl
      · refine ks_N ?_
        unfold lateL at hnext
        dsimp only at hnext
        rw [c, if_neg (by simp)] at hnext
        unfold lapP
        dsimp only
        rw [hnext]
        exact ⟨rfl, _, _, _, _, _, _, _, _, _, rfl⟩
  · rintro ρ S ⟨rfl, a4, a5, a6, a7, a8, a9, a10, a11, a12, rfl⟩
    symm_saturate
    rw [List.take_length]
    exact ⟨_, hn, rfl⟩
end LW

set_option Elab.async false
set_option linter.all false
set_option maxRecDepth 100000
set_option maxHeartbeats 4000000
namespace LW
open PySem PySem.Spec PyProof.Rows L2 TL
local macro_rules | `(tactic| symm_saturate) => `(tactic| repeat (first
  | ((with_reducible refine ke_rd' ?_); refine ⟨_, rfl, ?_⟩)
  | with_reducible refine ke_cst ?_ | with_reducible refine ke_b2 ?_ | with_reducible refine ke_u1 ?_ | with_reducible refine ke_cN ?_ | with_reducible refine ke_cS ?_ | with_reducible refine ke_cI ?_
  | with_reducible refine ke_mkT ?_ | with_reducible refine ke_mkL ?_ | with_reducible refine ke_bE ?_ | with_reducible refine ke_sl3 ?_ | with_reducible refine ko_N ?_ | with_reducible refine ko_S ?_ | with_reducible refine ka_N ?_ | with_reducible refine ka_C ?_ | with_reducible refine ka_iE ?_
  | with_reducible refine kb_tst ?_ | with_reducible refine kb_bT ?_ | with_reducible refine kb_not ?_ | with_reducible refine ks_seq ?_ | with_reducible refine ks_N ?_ | with_reducible refine ks_set ?_ | with_reducible refine ks_par ?_ | with_reducible refine ks_ret ?_
  | with_reducible refine seqP_nx ?_ | with_reducible refine seqP_rt ?_ | with_reducible refine lapP_nx ?_ | with_reducible refine lapP_rt ?_ | with_reducible refine lapP_ct ?_ | with_reducible refine lapP_bk ?_ | with_reducible refine seqP_ct ?_ | with_reducible refine seqP_bk ?_ | with_reducible refine retP_rt ?_ | with_reducible refine retS_rt ?_
  | with_reducible refine ks_thaw ?_ | with_reducible refine ke_newK ?_ | with_reducible refine ke_newT ?_ | with_reducible refine ke_mkTV ?_ | with_reducible refine ke_mkLV ?_
  | (with_reducible first
    | refine ⟨_, add_ii _ _, ?_⟩ | refine ⟨_, sub_ii _ _, ?_⟩ | refine ⟨_, lt_ii _ _, ?_⟩ | refine ⟨_, le_ii _ _, ?_⟩ | refine ⟨_, gt_ii _ _, ?_⟩ | refine ⟨_, ge_ii _ _, ?_⟩ | refine ⟨_, neg_i _, ?_⟩
    | refine ⟨_, len_l _, ?_⟩ | refine ⟨_, len_t _, ?_⟩ | refine ⟨_, tup_l _, ?_⟩ | refine ⟨_, tup_t _, ?_⟩ | refine ⟨_, lst_l _, ?_⟩ | refine ⟨_, lst_t _, ?_⟩)
  | ((with_reducible show ∃ d, dTuple _ = some d ∧ _); first | refine ⟨_, tup_l _, ?_⟩ | refine ⟨_, tup_t _, ?_⟩)
  | ((with_reducible show ∃ d, dLen _ = some d ∧ _); first | refine ⟨_, len_l _, ?_⟩ | refine ⟨_, len_t _, ?_⟩)
  | ((with_reducible show ∃ i, _ = PyData.int i ∧ _); refine ⟨_, rfl, ?_⟩)
  | ((with_reducible show ∃ b, _ = PyData.bool b ∧ _); refine ⟨_, rfl, ?_⟩)
  | ((with_reducible show ∃ ds, items _ = some ds ∧ _); refine ⟨_, rfl, ?_⟩)
  | ((with_reducible show ∃ d, dSub2 _ _ = some d ∧ _); first | refine ⟨_, ix0, ?_⟩ | refine ⟨_, ix1, ?_⟩ | refine ⟨_, ix2, ?_⟩ | refine ⟨_, ix3, ?_⟩ | refine ⟨_, ixl0, ?_⟩ | refine ⟨_, ixl1, ?_⟩)))

theorem chosen_max (one other : List Pc) (n : Int) : chosen 1 one other n = max (val one n) (val other n) := by
  unfold chosen
  split <;> omega
theorem most_numbers {L M : D} {one other ps : List Pc} (hL : IsNum L one) (hM : IsNum M other) (R1 : Raw one) (R2 : Raw other) (hl : one.length + other.length ≤ 1000) (s1 : ∀ p ∈ one, -(2 ^ 28) < p.2.2 ∧ p.2.2 < 2 ^ 28) (s2 : ∀ p ∈ other, -(2 ^ 28) < p.2.2 ∧ p.2.2 < 2 ^ 28) (hT : TF (fun n => max (val one n) (val other n)) 0 ps) (h60 : ps.length ≤ 60) (hsm : ∀ p ∈ ps, Sm p.1 ∧ Sm p.2.1 ∧ Sm p.2.2) (hst : ∀ p ∈ ps, -(2 ^ 64) < p.2.2 ∧ p.2.2 < 2 ^ 64) : m_numbers_most [L, M] = some (numT ps) := by
  refine kp_run ?_
  unfold g_numbers_most
  symm_saturate
  refine ⟨_, chosen_told (.inl rfl) hL hM R1 R2 hl s1 s2 (TF.congr (fun n _ => (chosen_max one other n).symm) hT (by omega)) h60 hsm hst, ?_⟩
  symm_saturate
  rfl
theorem last_eq {ps : List Pc} (hne : ps ≠ []) : m_last_from [numT ps] = some (.int (lastB ps)) := by
  refine kp_run ?_
  unfold g_last_from
  symm_saturate
  have hl : dSub2 (numT ps) (.int (-1)) = some (pcD (ps.getLast?.getD (0, 0, 0))) := by
    have e := List.dropLast_concat_getLast hne
    have e' : ps.getLast?.getD (0, 0, 0) = ps.getLast hne := by rw [List.getLast?_eq_some_getLast hne]; rfl
    rw [e']
    have h : numT ps = .tuple (ps.dropLast.map pcD ++ [pcD (ps.getLast hne)]) := by
      unfold numT
      congr 1
      rw [← List.map_singleton, ← List.map_append, e]
    rw [h]
    exact L2.atI_last _ _
  refine ⟨_, hl, ?_⟩
  symm_saturate
  rfl
end LW

set_option Elab.async false
set_option linter.all false
set_option maxRecDepth 100000
set_option maxHeartbeats 4000000
namespace LW
open PySem PySem.Spec PyProof.Rows L2 TL

theorem asc_inj : ∀ {ps : List Pc}, Asc ps → ∀ p ∈ ps, ∀ q ∈ ps, p.1 = q.1 → p = q
  | [], _, p, hp, _, _, _ => by cases hp
  | x :: r, h, p, hp, q, hq, e => by
    have h' := List.pairwise_cons.mp h
    rcases List.mem_cons.mp hp with ep | mp
    · rcases List.mem_cons.mp hq with eq | mq
      · rw [ep, eq]
      · have := h'.1 q mq
        rw [ep] at e
        omega
    · rcases List.mem_cons.mp hq with eq | mq
      · have := h'.1 p mp
        rw [eq] at e
        omega
      · exact asc_inj (ps := r) h'.2 p mp q mq e
def sh (m : Int) (p : Pc) : Pc := (p.1 - m, p.2.1, p.2.2)
def laterR (m : Int) (ps : List Pc) : List Pc := (0, val ps m, (pcAt ps m).2.2) :: (ps.filter fun p => decide (m < p.1)).map (sh m)
theorem raw_later {m : Int} {ps : List Pc} (R : Raw ps) (hl : ps.length < 10000) : Raw (laterR m ps) := by
  refine ⟨by unfold laterR; simp, ?_, ?_, ?_, ?_⟩
  · intro p hp
    cases hp
    rfl
  · unfold laterR Asc
    rw [List.pairwise_cons, List.pairwise_map]
    refine ⟨fun p hp => ?_, ?_⟩
    · obtain ⟨q, hq, rfl⟩ := List.mem_map.mp hp
      have := of_decide_eq_true (List.mem_filter.mp hq).2
      show 0 < q.1 - m
      omega
    · refine (R.asc.filter _).imp fun {a b} h => ?_
      show a.1 - m < b.1 - m
      omega
  · intro p hp
    rcases List.mem_cons.mp hp with rfl | hp
    · exact R.st (pcAt ps m) (pcAt_mem m R.ne)
    · obtain ⟨q, hq, rfl⟩ := List.mem_map.mp hp
      exact R.st q (List.mem_filter.mp hq).1
  · unfold laterR
    have := List.length_filter_le (fun p : Pc => decide (m < p.1)) ps
    rw [List.length_cons, List.length_map]
    omega
theorem val_later {m n : Int} {ps : List Pc} (R : Raw ps) (hl : ps.length < 10000) (hm : 0 ≤ m) (hn : 0 ≤ n) : val (laterR m ps) n = val ps (m + n) := by
  obtain ⟨h1, h2, h3⟩ := pcAt_spec (raw_later (m := m) R hl) hn
  have hv : val (laterR m ps) n = line (pcAt (laterR m ps) n) n := rfl
  rw [hv]
  generalize pcAt (laterR m ps) n = P at h1 h2 h3
  have hoth : ∀ q ∈ ps, m < q.1 → q.1 - m ≤ P.1 ∨ n < q.1 - m := fun q hq c => h3 (sh m q) (List.mem_cons_of_mem _ (List.mem_map_of_mem (List.mem_filter.mpr ⟨hq, decide_eq_true c⟩)))
  rcases List.mem_cons.mp h1 with rfl | h1
  · have := val_seg R hm (n := m + n) (by omega) (fun p hp => by
      by_cases c : m < p.1
      · have := hoth p hp c
        dsimp only at this
        omega
      · omega)
    rw [this]
    show val ps m + (pcAt ps m).2.2 * (n - 0) = _
    congr 2
    omega
  · obtain ⟨p, hp, rfl⟩ := List.mem_map.mp h1
    obtain ⟨hp, c⟩ := List.mem_filter.mp hp
    have c := of_decide_eq_true c
    obtain ⟨k1, k2, k3⟩ := pcAt_spec R (n := m + n) (by omega)
    have h2' : p.1 - m ≤ n := h2
    have e : pcAt ps (m + n) = p := by
      refine asc_inj R.asc _ k1 _ hp ?_
      have := k3 p hp
      by_cases c' : m < (pcAt ps (m + n)).1
      · have h4 : (pcAt ps (m + n)).1 - m ≤ p.1 - m ∨ n < (pcAt ps (m + n)).1 - m := hoth _ k1 c'
        omega
      · omega
    unfold val
    rw [e]
    show p.2.1 + p.2.2 * (n - (p.1 - m)) = p.2.1 + p.2.2 * (m + n - p.1)
    congr 2
    omega
end LW

set_option Elab.async false
set_option linter.all false
set_option maxRecDepth 100000
set_option maxHeartbeats 4000000
namespace LW
open PySem PySem.Spec PyProof.Rows L2 TL
local macro_rules | `(tactic| symm_saturate) => `(tactic| repeat (first
  | ((with_reducible refine ke_rd' ?_); refine ⟨_, rfl, ?_⟩)
  | with_reducible refine ke_cst ?_ | with_reducible refine ke_b2 ?_ | with_reducible refine ke_u1 ?_ | with_reducible refine ke_cN ?_ | with_reducible refine ke_cS ?_ | with_reducible refine ke_cI ?_
  | with_reducible refine ke_mkT ?_ | with_reducible refine ke_mkL ?_ | with_reducible refine ke_bE ?_ | with_reducible refine ke_sl3 ?_ | with_reducible refine ko_N ?_ | with_reducible refine ko_S ?_ | with_reducible refine ka_N ?_ | with_reducible refine ka_C ?_ | with_reducible refine ka_iE ?_
  | with_reducible refine kb_tst ?_ | with_reducible refine kb_bT ?_ | with_reducible refine kb_not ?_ | with_reducible refine ks_seq ?_ | with_reducible refine ks_N ?_ | with_reducible refine ks_set ?_ | with_reducible refine ks_par ?_ | with_reducible refine ks_ret ?_
  | with_reducible refine seqP_nx ?_ | with_reducible refine seqP_rt ?_ | with_reducible refine lapP_nx ?_ | with_reducible refine lapP_rt ?_ | with_reducible refine lapP_ct ?_ | with_reducible refine lapP_bk ?_ | with_reducible refine seqP_ct ?_ | with_reducible refine seqP_bk ?_ | with_reducible refine retP_rt ?_ | with_reducible refine retS_rt ?_
  | with_reducible refine ks_thaw ?_ | with_reducible refine ke_newK ?_ | with_reducible refine ke_newT ?_ | with_reducible refine ke_mkTV ?_ | with_reducible refine ke_mkLV ?_
  | (with_reducible first
    | refine ⟨_, add_ii _ _, ?_⟩ | refine ⟨_, sub_ii _ _, ?_⟩ | refine ⟨_, lt_ii _ _, ?_⟩ | refine ⟨_, le_ii _ _, ?_⟩ | refine ⟨_, gt_ii _ _, ?_⟩ | refine ⟨_, ge_ii _ _, ?_⟩ | refine ⟨_, neg_i _, ?_⟩
    | refine ⟨_, len_l _, ?_⟩ | refine ⟨_, len_t _, ?_⟩ | refine ⟨_, tup_l _, ?_⟩ | refine ⟨_, tup_t _, ?_⟩ | refine ⟨_, lst_l _, ?_⟩ | refine ⟨_, lst_t _, ?_⟩)
  | ((with_reducible show ∃ d, dTuple _ = some d ∧ _); first | refine ⟨_, tup_l _, ?_⟩ | refine ⟨_, tup_t _, ?_⟩)
  | ((with_reducible show ∃ d, dLen _ = some d ∧ _); first | refine ⟨_, len_l _, ?_⟩ | refine ⟨_, len_t _, ?_⟩)
  | ((with_reducible show ∃ i, _ = PyData.int i ∧ _); refine ⟨_, rfl, ?_⟩)
  | ((with_reducible show ∃ b, _ = PyData.bool b ∧ _); refine ⟨_, rfl, ?_⟩)
  | ((with_reducible show ∃ ds, items _ = some ds ∧ _); refine ⟨_, rfl, ?_⟩)
  | ((with_reducible show ∃ d, dSub2 _ _ = some d ∧ _); first | refine ⟨_, ix0, ?_⟩ | refine ⟨_, ix1, ?_⟩ | refine ⟨_, ix2, ?_⟩ | refine ⟨_, ix3, ?_⟩ | refine ⟨_, ixl0, ?_⟩ | refine ⟨_, ixl1, ?_⟩)))

theorem later_told {L : D} {raw ps : List Pc} {m : Int} (hL : IsNum L raw) (R : Raw raw) (hl : raw.length < 1000) (hm : 0 ≤ m) (hT : TF (fun n => val raw (m + n)) 0 ps) (h60 : ps.length ≤ 60) (hsm : ∀ p ∈ ps, Sm p.1 ∧ Sm p.2.1 ∧ Sm p.2.2) (hst : ∀ p ∈ ps, -(2 ^ 64) < p.2.2 ∧ p.2.2 < 2 ^ 64) : m_number_later [L, .int m] = some (numT ps) := by
  have hn := number_told_eq (num_L (laterR m raw)) (raw_later R (by omega)) (TF.congr (fun n hn => (val_later R (by omega) hm hn).symm) hT (by omega)) h60 hsm hst
  refine kp_run ?_
  unfold g_number_later
  symm_saturate
  refine ke_lc pcD (fun p => decide (m < p.1)) pcD ?_
  symm_saturate
  refine ⟨_, hL.it, ?_⟩
  have hfl := List.length_filter_le (fun p : Pc => decide (m < p.1)) raw
  refine ⟨raw, rfl, by omega, fun p _ => ⟨_, rfl, ?_⟩, ?_⟩
  · symm_saturate
    exact ⟨rfl, rfl, fun _ => by symm_saturate; exact ⟨rfl, rfl⟩⟩
  symm_saturate
  refine ka_S ?_
  symm_saturate
  refine ⟨_, line_at_num hL R.ne R.asc R.st R.len (fun p hp => by rw [R.h0 p hp]; exact hm), ?_⟩
  symm_saturate
  refine ⟨_, .inr rfl, ?_⟩
  symm_saturate
  refine ⟨by simp, ?_⟩
  symm_saturate
  refine ka_S ?_
  symm_saturate
  refine ke_lcA pcD (fun p => pcD (sh m p)) ?_
  symm_saturate
  refine ⟨raw.filter fun p => decide (m < p.1), rfl, Nat.le_trans (List.length_filter_le _ _) (by omega), fun p _ => ⟨_, rfl, ?_⟩, ?_⟩
  · symm_saturate
    exact ⟨rfl, rfl⟩
  symm_saturate
  refine ⟨_, .inl rfl, ?_⟩
  symm_saturate
  refine ⟨by simp only [List.append_nil, List.length_cons, List.length_map]; exact Nat.succ_le_of_lt (Nat.lt_of_le_of_lt (List.length_filter_le _ _) (by omega)), ?_⟩
  symm_saturate
  unfold numL laterR at hn
  rw [List.map_cons, List.map_map] at hn
  refine ⟨_, ?_, rfl⟩
  simp only [List.append_nil]
  exact hn
end LW

set_option Elab.async false
set_option linter.all false
set_option maxRecDepth 100000
set_option maxHeartbeats 4000000
namespace LW
open PySem PySem.Spec PyProof.Rows L2 TL

def Cvx (F : Int → Int) : Prop := ∀ n, 0 ≤ n → F (n + 1) - F n ≤ F (n + 2) - F (n + 1)
theorem Cvx.mono {F : Int → Int} (h : Cvx F) {a : Int} (ha : 0 ≤ a) : ∀ k : Nat, F (a + 1) - F a ≤ F (a + k + 1) - F (a + k)
  | 0 => by simp
  | k + 1 => by
    have h1 := h.mono ha k
    have h2 := h (a + k) (by omega)
    have e1 : a + ((k + 1 : Nat) : Int) = a + k + 1 := by omega
    have e2 : a + (k : Int) + 2 = a + k + 1 + 1 := by omega
    rw [e1]
    rw [e2] at h2
    omega
theorem tf_count {F : Int → Int} (h : Cvx F) {hi : Int} (hh : ∀ n, 0 ≤ n → F (n + 1) - F n ≤ hi) {n : Int} {ps : List Pc} (t : TF F n ps) : 0 ≤ n → (ps.length : Int) ≤ hi - (F (n + 1) - F n) + 1 := by
  induction t with
  | @last n d =>
    intro hn
    have := hh n hn
    simp
    omega
  | @cons n m qs d t ih =>
    intro hn
    obtain ⟨d1, d2, d3⟩ := d
    have h1 := ih (by omega)
    have hlt : F (n + 1) - F n < F (m + 1) - F m := by
      have hm1 : F (m - 1) = F n + (F (n + 1) - F n) * (m - 1 - n) := by
        by_cases c : n + 2 ≤ m - 1
        · exact d3 (m - 1) c (by omega)
        · have : m - 1 = n + 1 := by omega
          rw [this]
          have : n + 1 - n = 1 := by omega
          rw [this]
          omega
      have e : (F (n + 1) - F n) * (m - n) = (F (n + 1) - F n) * (m - 1 - n) + (F (n + 1) - F n) := by
        have : m - n = (m - 1 - n) + 1 := by omega
        rw [this, Int.mul_add, Int.mul_one]
      have g1 := h.mono hn (m - 1 - n).toNat
      have g2 := h (m - 1) (by omega)
      have e1 : n + ((m - 1 - n).toNat : Int) = m - 1 := by omega
      have e2 : m - 1 + 1 = m := by omega
      have e3 : m - 1 + 2 = m + 1 := by omega
      rw [e1, e2] at g1
      rw [e2, e3] at g2
      omega
    rw [List.length_cons]
    omega
end LW

set_option Elab.async false
set_option linter.all false
set_option maxRecDepth 100000
set_option maxHeartbeats 4000000
namespace LW
open PySem PySem.Spec PyProof.Rows L2 TL

/-- begins of the least telling lie where the function is not yet one line -/
theorem tf_begin {F : Int → Int} {B : Int} {p : Pc} (hF : ∀ n, B ≤ n → F n = line p n) {n : Int} {ps : List Pc} (t : TF F n ps) : ∀ q ∈ ps, q.1 = n ∨ q.1 ≤ B + 1 := by
  induction t with
  | @last n d =>
    intro q hq
    rw [List.mem_singleton.mp hq]
    exact .inl rfl
  | @cons n m qs d t ih =>
    intro q hq
    rcases List.mem_cons.mp hq with rfl | hq
    · exact .inl rfl
    · obtain ⟨d1, d2, d3⟩ := d
      have hm : m ≤ B + 1 := by
        apply Int.not_lt.mp
        intro c
        have key : ∀ a b : Int, F n + (F (n + 1) - F n) * (a - n) = F a → F n + (F (n + 1) - F n) * (b - n) = F b → b = a + 1 → B ≤ a → F m = F n + (F (n + 1) - F n) * (m - n) := fun a b ha hb hab hBa => by
          rw [hF a hBa] at ha
          rw [hF b (by omega)] at hb
          subst hab
          unfold line at ha hb
          have e1 : a + 1 - p.1 = (a - p.1) + 1 := by omega
          have e2 : a + 1 - n = (a - n) + 1 := by omega
          rw [e1, Int.mul_add, Int.mul_one] at hb
          rw [e2, Int.mul_add, Int.mul_one] at hb
          have hs : p.2.2 = F (n + 1) - F n := by omega
          rw [hF m (by omega)]
          unfold line
          rw [hs] at ha ⊢
          have e3 : m - p.1 = (a - p.1) + (m - a) := by omega
          have e4 : m - n = (a - n) + (m - a) := by omega
          rw [e3, e4, Int.mul_add, Int.mul_add]
          omega
        have at_ : ∀ k, n ≤ k → k < m → F n + (F (n + 1) - F n) * (k - n) = F k := fun k hk hkm => by
          by_cases c1 : k = n
          · subst c1
            simp
          · by_cases c2 : k = n + 1
            · subst c2
              have : n + 1 - n = 1 := by omega
              rw [this]
              omega
            · exact (d3 k (by omega) hkm).symm
        exact d2 (key (m - 2) (m - 1) (at_ _ (by omega) (by omega)) (at_ _ (by omega) (by omega)) (by omega) (by omega))
      rcases ih q hq with h | h
      · exact .inr (by omega)
      · exact .inr h
end LW

set_option Elab.async false
set_option linter.all false
set_option maxRecDepth 100000
set_option maxHeartbeats 4000000
namespace LW
open PySem PySem.Spec PyProof.Rows L2 TL

theorem tf_ne {F : Int → Int} {n : Int} {ps : List Pc} (t : TF F n ps) : ∃ r, ps = (n, F n, F (n + 1) - F n) :: r := by
  cases t with
  | last _ => exact ⟨_, rfl⟩
  | cons _ _ => exact ⟨_, rfl⟩
theorem tf_asc {F : Int → Int} {n : Int} {ps : List Pc} (t : TF F n ps) : Asc ps ∧ ∀ p ∈ ps, n ≤ p.1 := by
  induction t with
  | @last n d =>
    refine ⟨List.pairwise_cons.mpr ⟨fun _ h => (by cases h), List.Pairwise.nil⟩, fun p hp => ?_⟩
    rw [List.mem_singleton.mp hp]
    exact Int.le_refl _
  | @cons n m qs d t ih =>
    have d1 := d.1
    refine ⟨List.pairwise_cons.mpr ⟨fun p hp => ?_, ih.1⟩, fun p hp => ?_⟩
    · have := ih.2 p hp
      show n < p.1
      omega
    · rcases List.mem_cons.mp hp with rfl | hp
      · exact Int.le_refl _
      · have := ih.2 p hp
        omega
theorem tf_line {F : Int → Int} {n k : Int} {m : Option Int} (d : Dev F n (F n) (F (n + 1) - F n) m) (hk : n ≤ k) (hm : ∀ e, m = some e → k < e) : line (n, F n, F (n + 1) - F n) k = F k := by
  unfold line
  dsimp only
  by_cases c1 : k = n
  · subst c1
    simp
  · by_cases c2 : k = n + 1
    · subst c2
      have : n + 1 - n = 1 := by omega
      rw [this]
      omega
    · cases m with
      | none => exact (d k (by omega)).symm
      | some e => exact (d.2.2 k (by omega) (hm e rfl)).symm
theorem tf_val {F : Int → Int} {n : Int} {ps : List Pc} (t : TF F n ps) : ∀ k, n ≤ k → val ps k = F k := by
  induction t with
  | @last n d => exact fun k hk => tf_line d hk (fun _ h => (nomatch h))
  | @cons n m qs d t ih =>
    intro k hk
    obtain ⟨r, rfl⟩ := tf_ne t
    unfold val
    rw [pcAt]
    by_cases c : k < m
    · rw [if_pos c]
      exact tf_line d hk (fun e h => by cases h; exact c)
    · rw [if_neg c]
      exact ih k (by omega)
theorem tf_raw {F : Int → Int} {ps : List Pc} (t : TF F 0 ps) (hst : ∀ p ∈ ps, -(2 ^ 64) < p.2.2 ∧ p.2.2 < 2 ^ 64) (hl : ps.length ≤ 10000) : Raw ps := by
  refine ⟨?_, ?_, (tf_asc t).1, hst, hl⟩
  · obtain ⟨r, rfl⟩ := tf_ne t
    simp
  · obtain ⟨r, rfl⟩ := tf_ne t
    intro p hp
    cases hp
    rfl
end LW

set_option Elab.async false
set_option linter.all false
set_option maxRecDepth 100000
set_option maxHeartbeats 4000000
namespace LW
open PySem PySem.Spec PyProof.Rows L2 TL

theorem alikeAll_str : ∀ a b : List Str, W.alikeAll (a.map PyData.str) (b.map PyData.str) = true
  | [], b => by cases b <;> simp [W.alikeAll]
  | x :: a, [] => by simp [W.alikeAll]
  | x :: a, y :: b => by
    have := alikeAll_str a b
    simp [W.alikeAll, W.alike, this]
theorem alike_tS (a b : List Str) : W.alike (tS a) (tS b) = true := by
  unfold tS
  rw [W.alike]
  exact alikeAll_str a b
theorem sort_lots (xs : List (List Str)) (h : ∀ x ∈ xs, x ≠ []) : ∃ ys : List (List Str), ys.Perm xs ∧ dSortedB [.list (xs.map tS)] = some (.list (ys.map tS)) := by
  refine ⟨xs.mergeSort (oLe tS), List.mergeSort_perm xs _, ?_⟩
  show dSorted [.list (xs.map tS)] = _
  unfold dSorted
  dsimp only
  refine (if_pos ⟨fun d hd e he => ?_, .inl fun d hd => ?_, fun d hd => ?_⟩).trans ?_
  · have e1 : sortD (xs.map tS) = (xs.mergeSort (oLe tS)).map tS := (List.map_mergeSort (f := tS) (s := W.dataLe false id) fun a _ b _ => rfl).symm
    rw [e1]
  · obtain ⟨a, _, rfl⟩ := List.mem_map.mp hd
    obtain ⟨b, _, rfl⟩ := List.mem_map.mp he
    exact alike_tS a b
  · obtain ⟨a, ha, rfl⟩ := List.mem_map.mp hd
    cases a with
    | nil => exact absurd rfl (h _ ha)
    | cons x r => rfl
  · obtain ⟨a, _, rfl⟩ := List.mem_map.mp hd
    exact Nat.le_trans (good_tS.flat a) (by decide)
end LW

set_option Elab.async false
set_option linter.all false
set_option maxRecDepth 100000
set_option maxHeartbeats 4000000
namespace LW
open PySem PySem.Spec PyProof.Rows L2 TL
local macro_rules | `(tactic| symm_saturate) => `(tactic| repeat (first
  | ((with_reducible refine ke_rd' ?_); refine ⟨_, rfl, ?_⟩)
  | with_reducible refine ke_cst ?_ | with_reducible refine ke_b2 ?_ | with_reducible refine ke_u1 ?_ | with_reducible refine ke_cN ?_ | with_reducible refine ke_cS ?_ | with_reducible refine ke_cI ?_
  | with_reducible refine ke_mkT ?_ | with_reducible refine ke_mkL ?_ | with_reducible refine ke_bE ?_ | with_reducible refine ke_sl3 ?_ | with_reducible refine ko_N ?_ | with_reducible refine ko_S ?_ | with_reducible refine ka_N ?_ | with_reducible refine ka_C ?_ | with_reducible refine ka_iE ?_
  | with_reducible refine kb_tst ?_ | with_reducible refine kb_bT ?_ | with_reducible refine kb_not ?_ | with_reducible refine ks_seq ?_ | with_reducible refine ks_N ?_ | with_reducible refine ks_set ?_ | with_reducible refine ks_par ?_ | with_reducible refine ks_ret ?_
  | with_reducible refine seqP_nx ?_ | with_reducible refine seqP_rt ?_ | with_reducible refine lapP_nx ?_ | with_reducible refine lapP_rt ?_ | with_reducible refine lapP_ct ?_ | with_reducible refine lapP_bk ?_ | with_reducible refine seqP_ct ?_ | with_reducible refine seqP_bk ?_ | with_reducible refine retP_rt ?_ | with_reducible refine retS_rt ?_
  | with_reducible refine ks_thaw ?_ | with_reducible refine ke_newK ?_ | with_reducible refine ke_newT ?_ | with_reducible refine ke_mkTV ?_ | with_reducible refine ke_mkLV ?_
  | (with_reducible first
    | refine ⟨_, add_ii _ _, ?_⟩ | refine ⟨_, sub_ii _ _, ?_⟩ | refine ⟨_, lt_ii _ _, ?_⟩ | refine ⟨_, le_ii _ _, ?_⟩ | refine ⟨_, gt_ii _ _, ?_⟩ | refine ⟨_, ge_ii _ _, ?_⟩ | refine ⟨_, neg_i _, ?_⟩
    | refine ⟨_, len_l _, ?_⟩ | refine ⟨_, len_t _, ?_⟩ | refine ⟨_, tup_l _, ?_⟩ | refine ⟨_, tup_t _, ?_⟩ | refine ⟨_, lst_l _, ?_⟩ | refine ⟨_, lst_t _, ?_⟩)
  | ((with_reducible show ∃ d, dTuple _ = some d ∧ _); first | refine ⟨_, tup_l _, ?_⟩ | refine ⟨_, tup_t _, ?_⟩)
  | ((with_reducible show ∃ d, dLen _ = some d ∧ _); first | refine ⟨_, len_l _, ?_⟩ | refine ⟨_, len_t _, ?_⟩)
  | ((with_reducible show ∃ i, _ = PyData.int i ∧ _); refine ⟨_, rfl, ?_⟩)
  | ((with_reducible show ∃ b, _ = PyData.bool b ∧ _); refine ⟨_, rfl, ?_⟩)
  | ((with_reducible show ∃ ds, items _ = some ds ∧ _); refine ⟨_, rfl, ?_⟩)
  | ((with_reducible show ∃ d, dSub2 _ _ = some d ∧ _); first | refine ⟨_, ix0, ?_⟩ | refine ⟨_, ix1, ?_⟩ | refine ⟨_, ix2, ?_⟩ | refine ⟨_, ix3, ?_⟩ | refine ⟨_, ixl0, ?_⟩ | refine ⟨_, ixl1, ?_⟩)))
variable {R : Str → Str → Bool} {kvs : List (D × D)}

def goes (R : Str → Str → Bool) (k : Bool) (p : Str) (lot : List Str) : Bool := lot.all fun o => decide (R p o = k)
theorem goes_eq (K : Kn R kvs) (k : Bool) (p : Str) (lot : List Str) (hl : lot.length ≤ 100000) : m_goes_with [.dict kvs, .str p, tS lot, kD k] = some (.bool (goes R k p lot)) := by
  refine kp_run ?_
  unfold g_goes_with
  symm_saturate
  refine ke_lcA PyData.str (fun o => .bool (decide (R p o = k))) ?_
  symm_saturate
  refine ⟨lot, rfl, hl, fun o ho => ⟨_, rfl, ?_⟩, ?_⟩
  · symm_saturate
    refine ⟨_, K.inD p o, ?_⟩
    symm_saturate
    refine ⟨_, kD_eq k true, ?_⟩
    refine ⟨_, good_bool.eq, ?_, rfl⟩
    cases k <;> cases R p o <;> rfl
  symm_saturate
  exact ⟨_, all_map (fun o => decide (R p o = k)) lot, rfl⟩
def foundL (R : Str → Str → Bool) (k : Bool) (names : List Str) : List (List Str) := names.foldl (fun fd p => fd ++ (fd.filter (goes R k p)).map (· ++ [p])) [[]]
def lateL' (R : Str → Str → Bool) (k : Bool) (names : List Str) : List (List Str) := (foundL R k names).filter fun lot => !names.any fun p => !decide (p ∈ lot) && goes R k p lot
theorem found_snoc (R : Str → Str → Bool) (k : Bool) (xs : List Str) (p : Str) : foundL R k (xs ++ [p]) = foundL R k xs ++ ((foundL R k xs).filter (goes R k p)).map (· ++ [p]) := by
  unfold foundL
  rw [List.foldl_append]
  rfl
theorem snocI {α : Type} {P : List α → Prop} (h0 : P []) (h1 : ∀ xs x, P xs → P (xs ++ [x])) (xs : List α) : P xs := by
  have h : ∀ ys : List α, P ys.reverse := fun ys => by
    induction ys with
    | nil => exact h0
    | cons y ys ih => rw [List.reverse_cons]; exact h1 _ y ih
  have := h xs.reverse
  rwa [List.reverse_reverse] at this
/-- a lot all tied, or all apart -/
def AllK (R : Str → Str → Bool) (k : Bool) (lot : List Str) : Prop := lot.Pairwise fun a b => R a b = k
theorem goes_iff {k : Bool} {p : Str} {lot : List Str} : goes R k p lot = true ↔ ∀ o ∈ lot, R p o = k := by
  unfold goes
  rw [List.all_eq_true]
  exact ⟨fun h o ho => of_decide_eq_true (h o ho), fun h o ho => decide_eq_true (h o ho)⟩
theorem found_mem (s : ∀ a b, R a b = R b a) (k : Bool) (xs : List Str) : ∀ lot, lot ∈ foundL R k xs ↔ lot.Sublist xs ∧ AllK R k lot := by
  refine snocI (P := fun xs => ∀ lot, lot ∈ foundL R k xs ↔ lot.Sublist xs ∧ AllK R k lot) (fun lot => ?_) (fun xs p ih lot => ?_) xs
  · show lot ∈ [[]] ↔ _
    rw [List.mem_singleton, List.sublist_nil]
    constructor
    · rintro rfl
      exact ⟨rfl, List.Pairwise.nil⟩
    · exact fun h => h.1
  · rw [found_snoc, List.mem_append, ih, List.mem_map]
    constructor
    · rintro (⟨h1, h2⟩ | ⟨l, hl, rfl⟩)
      · exact ⟨h1.trans (List.sublist_append_left ..), h2⟩
      · obtain ⟨h1, h2⟩ := List.mem_filter.mp hl
        obtain ⟨h3, h4⟩ := (ih l).mp h1
        refine ⟨h3.append (List.Sublist.refl _), ?_⟩
        unfold AllK
        rw [List.pairwise_append]
        refine ⟨h4, List.pairwise_singleton .., fun a ha b hb => ?_⟩
        rw [List.mem_singleton.mp hb, s]
        exact goes_iff.mp h2 a ha
    · rintro ⟨h1, h2⟩
      rcases List.sublist_append_iff.mp h1 with ⟨l1, l2, rfl, h3, h4⟩
      have : l2 = [] ∨ l2 = [p] := by
        cases h4 with
        | cons _ h => exact .inl (List.sublist_nil.mp h)
        | cons_cons _ h => rw [List.sublist_nil.mp h]; exact .inr rfl
      unfold AllK at h2
      rw [List.pairwise_append] at h2
      rcases this with rfl | rfl
      · rw [List.append_nil]
        exact .inl ⟨h3, h2.1⟩
      · refine .inr ⟨l1, List.mem_filter.mpr ⟨(ih l1).mpr ⟨h3, h2.1⟩, goes_iff.mpr fun o ho => ?_⟩, rfl⟩
        rw [s]
        exact h2.2.2 o ho p (List.mem_singleton.mpr rfl)
theorem found_len (R : Str → Str → Bool) (k : Bool) (xs : List Str) : (foundL R k xs).length ≤ 2 ^ xs.length := by
  refine snocI (P := fun xs => (foundL R k xs).length ≤ 2 ^ xs.length) (Nat.le_refl _) (fun xs x ih => ?_) xs
  have := List.length_filter_le (goes R k x) (foundL R k xs)
  rw [found_snoc, List.length_append, List.length_map, List.length_append, List.length_singleton, Nat.pow_succ]
  omega
end LW

set_option Elab.async false
set_option linter.all false
set_option maxRecDepth 100000
set_option maxHeartbeats 4000000
namespace LW
open PySem PySem.Spec PyProof.Rows L2 TL

/-! ### the greatest one of lines -/
def ln (l : Int × Int) (n : Int) : Int := l.1 + l.2 * n
def mx (ls : List (Int × Int)) (n : Int) : Int := ls.foldr (fun l m => max (ln l n) m) 0
theorem mx_cons (l : Int × Int) (ls : List (Int × Int)) (n : Int) : mx (l :: ls) n = max (ln l n) (mx ls n) := rfl
theorem mx_nn : ∀ (ls : List (Int × Int)) (n : Int), 0 ≤ mx ls n
  | [], _ => Int.le_refl _
  | l :: ls, n => by
    have := mx_nn ls n
    rw [mx_cons]
    omega
theorem mx_ge : ∀ {ls : List (Int × Int)} {l : Int × Int} (n : Int), l ∈ ls → ln l n ≤ mx ls n
  | l' :: ls, l, n, h => by
    rw [mx_cons]
    rcases List.mem_cons.mp h with rfl | h
    · omega
    · have := mx_ge n h
      omega
theorem mx_at : ∀ (ls : List (Int × Int)) (n : Int), mx ls n = 0 ∨ ∃ l ∈ ls, mx ls n = ln l n
  | [], _ => .inl rfl
  | l :: ls, n => by
    rw [mx_cons]
    by_cases c : mx ls n ≤ ln l n
    · exact .inr ⟨l, List.mem_cons_self .., by omega⟩
    · have e : max (ln l n) (mx ls n) = mx ls n := by omega
      rw [e]
      rcases mx_at ls n with h | ⟨l', h1, h2⟩
      · exact .inl h
      · exact .inr ⟨l', List.mem_cons_of_mem _ h1, h2⟩
theorem mx_le {ls : List (Int × Int)} {n v : Int} (h0 : 0 ≤ v) (h : ∀ l ∈ ls, ln l n ≤ v) : mx ls n ≤ v := by
  rcases mx_at ls n with e | ⟨l, h1, e⟩
  · omega
  · rw [e]; exact h l h1
theorem mx_eq {ls ls' : List (Int × Int)} {n : Int} (h : ∀ l ∈ ls, ∃ l' ∈ ls', ln l n ≤ ln l' n) (h' : ∀ l ∈ ls', ∃ l' ∈ ls, ln l n ≤ ln l' n) : mx ls n = mx ls' n := by
  have a : ∀ {ls ls' : List (Int × Int)}, (∀ l ∈ ls, ∃ l' ∈ ls', ln l n ≤ ln l' n) → mx ls n ≤ mx ls' n := fun h => mx_le (mx_nn _ _) fun l hl => by
    obtain ⟨l', h1, h2⟩ := h l hl
    have := mx_ge n h1
    omega
  have h1 := a h
  have h2 := a h'
  omega
theorem ln_succ (l : Int × Int) (n : Int) : ln l (n + 1) = ln l n + l.2 := by
  unfold ln
  rw [Int.mul_add]
  omega
theorem mx_cvx (ls : List (Int × Int)) : Cvx (mx ls) := fun n _ => by
  have e := ln_succ
  rcases mx_at ls (n + 1) with h | ⟨l, h1, h2⟩
  · have := mx_nn ls n
    have := mx_nn ls (n + 2)
    omega
  · have a := mx_ge n h1
    have b := mx_ge (n + 2) h1
    have c := e l n
    have d := e l (n + 1)
    rw [show n + 1 + 1 = n + 2 by omega] at d
    omega
theorem mx_hi {ls : List (Int × Int)} {hi : Int} (h0 : 0 ≤ hi) (h : ∀ l ∈ ls, l.2 ≤ hi) (n : Int) : mx ls (n + 1) - mx ls n ≤ hi := by
  rcases mx_at ls (n + 1) with e | ⟨l, h1, e⟩
  · have := mx_nn ls n
    omega
  · have := mx_ge n h1
    have := ln_succ l n
    have := h l h1
    omega
theorem mx_lo {ls : List (Int × Int)} (h : ∀ l ∈ ls, 0 ≤ l.2) (n : Int) : 0 ≤ mx ls (n + 1) - mx ls n := by
  rcases mx_at ls n with e | ⟨l, h1, e⟩
  · have := mx_nn ls (n + 1)
    omega
  · have := mx_ge (n + 1) h1
    have := ln_succ l n
    have := h l h1
    omega
theorem lex_max : ∀ {ls : List (Int × Int)}, ls ≠ [] → ∃ l ∈ ls, ∀ l' ∈ ls, l'.2 < l.2 ∨ (l'.2 = l.2 ∧ l'.1 ≤ l.1)
  | [l], _ => ⟨l, List.mem_cons_self .., fun l' h => by rw [List.mem_singleton.mp h]; exact .inr ⟨rfl, Int.le_refl _⟩⟩
  | l :: l2 :: ls, _ => by
    obtain ⟨m, h1, h2⟩ := lex_max (ls := l2 :: ls) (by simp)
    by_cases c : l.2 < m.2 ∨ (l.2 = m.2 ∧ l.1 ≤ m.1)
    · refine ⟨m, List.mem_cons_of_mem _ h1, fun l' h => ?_⟩
      rcases List.mem_cons.mp h with rfl | h
      · exact c
      · exact h2 l' h
    · refine ⟨l, List.mem_cons_self .., fun l' h => ?_⟩
      rcases List.mem_cons.mp h with rfl | h
      · exact .inr ⟨rfl, Int.le_refl _⟩
      · have := h2 l' h
        omega
theorem mx_far {ls : List (Int × Int)} (hne : ls ≠ []) {M : Int} (h : ∀ l ∈ ls, 0 ≤ l.1 ∧ l.1 ≤ M ∧ 0 ≤ l.2) : ∃ l ∈ ls, ∀ n, M ≤ n → mx ls n = ln l n := by
  obtain ⟨l, h1, h2⟩ := lex_max hne
  refine ⟨l, h1, fun n hn => ?_⟩
  have hM : 0 ≤ n := by have := h l h1; omega
  have h3 := mx_ge n h1
  have h4 : mx ls n ≤ ln l n := mx_le (by unfold ln; have := h l h1; have := Int.mul_nonneg this.2.2 hM; omega) fun l' hl' => by
    have := h l' hl'
    unfold ln
    rcases h2 l' hl' with c | ⟨c, d⟩
    · have e : (l'.2 + 1) * n ≤ l.2 * n := Int.mul_le_mul_of_nonneg_right (by omega) hM
      rw [Int.add_mul] at e
      have := (h l h1).1
      omega
    · rw [c]; omega
  omega
/-- a telling that the program can hand on -/
def Fit (ps : List Pc) : Prop := ps.length ≤ 60 ∧ (∀ p ∈ ps, Sm p.1 ∧ Sm p.2.1 ∧ Sm p.2.2) ∧ ∀ p ∈ ps, -(2 ^ 28) < p.2.2 ∧ p.2.2 < 2 ^ 28
theorem tf_form {F : Int → Int} {n : Int} {ps : List Pc} (t : TF F n ps) : ∀ p ∈ ps, p = (p.1, F p.1, F (p.1 + 1) - F p.1) := by
  induction t with
  | last d => intro p hp; rw [List.mem_singleton.mp hp]
  | cons d _ ih =>
    intro p hp
    rcases List.mem_cons.mp hp with rfl | hp
    · rfl
    · exact ih p hp
theorem mx_tf {ls : List (Int × Int)} (hne : ls ≠ []) (h : ∀ l ∈ ls, 0 ≤ l.1 ∧ l.1 ≤ 2 ^ 220 ∧ 0 ≤ l.2 ∧ l.2 ≤ 58) : ∃ ps, TF (mx ls) 0 ps ∧ Fit ps := by
  obtain ⟨l, h1, h2⟩ := mx_far hne (M := 2 ^ 220) fun l hl => ⟨(h l hl).1, (h l hl).2.1, (h l hl).2.2.1⟩
  have hF : ∀ n, (2 ^ 220 : Int) ≤ n → mx ls n = line (0, l.1, l.2) n := fun n hn => by
    rw [h2 n hn]
    unfold ln line
    rw [Int.sub_zero]
  obtain ⟨ps, hps⟩ := tf_ex hF _ 0 (Nat.le_refl _)
  have hst : ∀ n, 0 ≤ mx ls (n + 1) - mx ls n ∧ mx ls (n + 1) - mx ls n ≤ 58 := fun n => ⟨mx_lo (fun l hl => (h l hl).2.2.1) n, mx_hi (by decide) (fun l hl => (h l hl).2.2.2) n⟩
  have hc := tf_count (mx_cvx ls) (hi := 58) (fun n _ => (hst n).2) hps (Int.le_refl _)
  have h0 := hst 0
  have hpos := tf_asc hps
  have hb := tf_begin hF hps
  refine ⟨ps, hps, by omega, fun p hp => ?_, fun p hp => ?_⟩
  · have e := tf_form hps p hp
    have h3 := hpos.2 p hp
    have h4 : p.1 ≤ 2 ^ 220 + 1 := by
      rcases hb p hp with q | q <;> omega
    have h5 := hst p.1
    have e1 : p.2.1 = mx ls p.1 := congrArg (·.2.1) e
    have e2 : p.2.2 = mx ls (p.1 + 1) - mx ls p.1 := congrArg (·.2.2) e
    have h6 := mx_nn ls p.1
    have h7 : mx ls p.1 ≤ 2 ^ 220 + 58 * (2 ^ 220 + 1) := mx_le (by decide) fun l hl => by
      have := h l hl
      have q : l.2 * p.1 ≤ 58 * (2 ^ 220 + 1) := Int.mul_le_mul this.2.2.2 h4 h3 (by decide)
      unfold ln
      omega
    refine ⟨sm_of (by omega), sm_of (by omega), sm_of (by omega)⟩
  · have e := tf_form hps p hp
    have e2 : p.2.2 = mx ls (p.1 + 1) - mx ls p.1 := congrArg (·.2.2) e
    have h5 := hst p.1
    omega
end LW

set_option Elab.async false
set_option linter.all false
set_option maxRecDepth 100000
set_option maxHeartbeats 4000000
namespace LW
open PySem PySem.Spec PyProof.Rows L2 TL
local macro_rules | `(tactic| symm_saturate) => `(tactic| repeat (first
  | ((with_reducible refine ke_rd' ?_); refine ⟨_, rfl, ?_⟩)
  | with_reducible refine ke_cst ?_ | with_reducible refine ke_b2 ?_ | with_reducible refine ke_u1 ?_ | with_reducible refine ke_cN ?_ | with_reducible refine ke_cS ?_ | with_reducible refine ke_cI ?_
  | with_reducible refine ke_mkT ?_ | with_reducible refine ke_mkL ?_ | with_reducible refine ke_bE ?_ | with_reducible refine ke_sl3 ?_ | with_reducible refine ko_N ?_ | with_reducible refine ko_S ?_ | with_reducible refine ka_N ?_ | with_reducible refine ka_C ?_ | with_reducible refine ka_iE ?_
  | with_reducible refine kb_tst ?_ | with_reducible refine kb_bT ?_ | with_reducible refine kb_not ?_ | with_reducible refine ks_seq ?_ | with_reducible refine ks_N ?_ | with_reducible refine ks_set ?_ | with_reducible refine ks_par ?_ | with_reducible refine ks_ret ?_
  | with_reducible refine seqP_nx ?_ | with_reducible refine seqP_rt ?_ | with_reducible refine lapP_nx ?_ | with_reducible refine lapP_rt ?_ | with_reducible refine lapP_ct ?_ | with_reducible refine lapP_bk ?_ | with_reducible refine seqP_ct ?_ | with_reducible refine seqP_bk ?_ | with_reducible refine retP_rt ?_ | with_reducible refine retS_rt ?_
  | with_reducible refine ks_thaw ?_ | with_reducible refine ke_newK ?_ | with_reducible refine ke_newT ?_ | with_reducible refine ke_mkTV ?_ | with_reducible refine ke_mkLV ?_
  | (with_reducible first
    | refine ⟨_, add_ii _ _, ?_⟩ | refine ⟨_, sub_ii _ _, ?_⟩ | refine ⟨_, lt_ii _ _, ?_⟩ | refine ⟨_, le_ii _ _, ?_⟩ | refine ⟨_, gt_ii _ _, ?_⟩ | refine ⟨_, ge_ii _ _, ?_⟩ | refine ⟨_, neg_i _, ?_⟩
    | refine ⟨_, len_l _, ?_⟩ | refine ⟨_, len_t _, ?_⟩ | refine ⟨_, tup_l _, ?_⟩ | refine ⟨_, tup_t _, ?_⟩ | refine ⟨_, lst_l _, ?_⟩ | refine ⟨_, lst_t _, ?_⟩)
  | ((with_reducible show ∃ d, dTuple _ = some d ∧ _); first | refine ⟨_, tup_l _, ?_⟩ | refine ⟨_, tup_t _, ?_⟩)
  | ((with_reducible show ∃ d, dLen _ = some d ∧ _); first | refine ⟨_, len_l _, ?_⟩ | refine ⟨_, len_t _, ?_⟩)
  | ((with_reducible show ∃ i, _ = PyData.int i ∧ _); refine ⟨_, rfl, ?_⟩)
  | ((with_reducible show ∃ b, _ = PyData.bool b ∧ _); refine ⟨_, rfl, ?_⟩)
  | ((with_reducible show ∃ ds, items _ = some ds ∧ _); refine ⟨_, rfl, ?_⟩)
  | ((with_reducible show ∃ d, dSub2 _ _ = some d ∧ _); first | refine ⟨_, ix0, ?_⟩ | refine ⟨_, ix1, ?_⟩ | refine ⟨_, ix2, ?_⟩ | refine ⟨_, ix3, ?_⟩ | refine ⟨_, ixl0, ?_⟩ | refine ⟨_, ixl1, ?_⟩)))

theorem goes_map {kvs : List (D × D)} {R : Str → Str → Bool} (K : Kn R kvs) {L : D} {lot : List Str} (hL : items L = some (lot.map .str)) (k : Bool) (p : Str) (hl : lot.length ≤ 100000) : m_goes_with [.dict kvs, .str p, L, kD k] = some (.bool (goes R k p lot)) := by
  refine kp_run ?_
  unfold g_goes_with
  symm_saturate
  refine ke_lcA PyData.str (fun o => .bool (decide (R p o = k))) ?_
  symm_saturate
  refine ⟨_, hL, ?_⟩
  refine ⟨lot, rfl, hl, fun o ho => ⟨_, rfl, ?_⟩, ?_⟩
  · symm_saturate
    refine ⟨_, K.inD p o, ?_⟩
    symm_saturate
    refine ⟨_, kD_eq k true, ?_⟩
    refine ⟨_, good_bool.eq, ?_, rfl⟩
    cases k <;> cases R p o <;> rfl
  symm_saturate
  exact ⟨_, all_map (fun o => decide (R p o = k)) lot, rfl⟩
section
variable {zs : List Po} {R : Str → Str → Bool}
theorem cw_known (h : WebOk zs) : ∃ kvs, m_known_ties [cw zs R] = some (.dict kvs) ∧ Kn (tied (tsOf (zs.map Po.n) R)) kvs := known_eq h.tl
theorem len12 {n : Nat} (h : n ≤ 12) : 2 ^ n ≤ 4096 := Nat.le_trans (Nat.pow_le_pow_right (by decide) h) (by decide)
theorem found_sub (s : ∀ a b, R a b = R b a) {k : Bool} {xs lot : List Str} (h : lot ∈ foundL R k xs) : lot.length ≤ xs.length := ((found_mem s k xs lot).mp h).1.length_le
theorem late_ne {k : Bool} {xs : List Str} (hx : xs ≠ []) : ∀ lot ∈ lateL' R k xs, lot ≠ [] := by
  intro lot h e
  subst e
  obtain ⟨x, hx⟩ := List.exists_mem_of_ne_nil xs hx
  have : xs.any (fun p => !decide (p ∈ ([] : List Str)) && goes R k p []) = true := List.any_eq_true.mpr ⟨x, hx, by simp [goes]⟩
  have h2 := (List.mem_filter.mp h).2
  rw [this] at h2
  cases h2
theorem greatest_eq (h : WebOk zs) (h12 : zs.length ≤ 12) (h0 : zs ≠ []) (k : Bool) : ∃ ys : List (List Str), ys.Perm (lateL' (tied (tsOf (zs.map Po.n) R)) k (zs.map Po.n)) ∧ m_greatest_lots [cw zs R, kD k] = some (.list (ys.map tS)) := by
  obtain ⟨kvs, hk, K⟩ := cw_known (R := R) h
  have sT : ∀ a b, tied (tsOf (zs.map Po.n) R) a b = tied (tsOf (zs.map Po.n) R) b a := fun a b => by
    unfold tied
    rw [Bool.or_comm]
  generalize hR : tied (tsOf (zs.map Po.n) R) = T at K sT
  have hnl : (zs.map Po.n).length ≤ 12 := by rw [List.length_map]; exact h12
  have hn0 : zs.map Po.n ≠ [] := by simpa using h0
  generalize hN : zs.map Po.n = N at hnl hn0
  have hc : ∀ i, (foundL T k (N.take i)).length ≤ 4096 := fun i => Nat.le_trans (found_len T k _) (len12 (by rw [List.length_take]; omega))
  have hfl : ∀ i, ∀ lot ∈ foundL T k (N.take i), lot.length ≤ 12 := fun i lot hl => by
    have := found_sub sT hl
    rw [List.length_take] at this
    omega
  obtain ⟨ys, hy1, hy2⟩ := sort_lots (lateL' T k N) (late_ne hn0)
  refine ⟨ys, hy1, ?_⟩
  refine kp_run ?_
  unfold g_greatest_lots
  refine ks_seq (ks_par ?_)
  symm_saturate
  refine ⟨_, hk, ?_⟩
  symm_saturate
  refine ⟨_, cw_names h, ?_⟩
  rw [hN]
  symm_saturate
  refine ks_forT PyData.str ?_
  symm_saturate
  refine ⟨N, rfl, fun i ρ S => S = S0 ∧ ∃ a b, ρ = [some (cw zs R), some (kD k), some (.dict kvs), some (tS N), some (.list ((foundL T k (N.take i)).map tS)), a, b, none], ⟨rfl, none, none, rfl⟩, ?_, ?_⟩
  · rintro i p ρ S hp ⟨rfl, a, b, rfl⟩
    have hi := hc i
    refine ⟨[some (cw zs R), some (kD k), some (.dict kvs), some (tS N), some (.list ((foundL T k (N.take i)).map tS)), some (.str p), b, none], rfl, ?_⟩
    symm_saturate
    refine ke_lc tS (fun lot => goes T k p lot) (fun lot => tS (lot ++ [p])) ?_
    symm_saturate
    refine ⟨foundL T k (N.take i), rfl, by omega, fun lot hl => ⟨_, rfl, ?_⟩, ?_⟩
    · have := hfl i lot hl
      symm_saturate
      refine ⟨_, goes_map K rfl k p (by omega), ?_⟩
      symm_saturate
      refine ⟨rfl, rfl, fun _ => ?_⟩
      symm_saturate
      refine ka_S ?_
      symm_saturate
      refine ⟨lot.map .str, .inr rfl, ?_⟩
      symm_saturate
      refine ⟨by rw [List.length_append, List.length_map, List.length_singleton]; omega, ?_, rfl⟩
      unfold tS
      rw [List.map_append]
      rfl
    have hfll := List.length_filter_le (fun lot => goes T k p lot) (foundL T k (N.take i))
    refine ⟨_, add_ll (by rw [List.length_map, List.length_map]; omega), ?_⟩
    symm_saturate
    refine ⟨rfl, some (.str p), b, ?_⟩
    have e : N.take (i + 1) = N.take i ++ [p] := by rw [List.take_add_one, hp]; rfl
    rw [e, found_snoc, List.map_append, List.map_map]
    rfl
  · rintro ρ S ⟨rfl, a, b, rfl⟩
    rw [List.take_length]
    have hc' := hc N.length
    have hfl' := hfl N.length
    rw [List.take_length] at hc' hfl'
    refine seqP_nx (ks_seq (ks_own ?_))
    symm_saturate
    refine ⟨rfl, ?_⟩
    symm_saturate
    let q : List Str → Bool := fun lot => !N.any fun p => !decide (p ∈ lot) && goes T k p lot
    refine ks_forT tS ?_
    symm_saturate
    refine ⟨foundL T k N, rfl, fun i ρ S => S = S0 ∧ ∃ a b, ρ = [some (cw zs R), some (kD k), some (.dict kvs), some (tS N), some (.list ((foundL T k N).map tS)), a, b, some (.list ((((foundL T k N).take i).filter q).map tS))], ⟨rfl, a, b, rfl⟩, ?_, ?_⟩
    · rintro i lot ρ S hl ⟨rfl, a, b, rfl⟩
      have hlm := List.mem_of_getElem? hl
      have hll := hfl' lot hlm
      refine ⟨[some (cw zs R), some (kD k), some (.dict kvs), some (tS N), some (.list ((foundL T k N).map tS)), a, some (tS lot), some (.list ((((foundL T k N).take i).filter q).map tS))], rfl, ?_⟩
      have e : (foundL T k N).take (i + 1) = (foundL T k N).take i ++ [lot] := by rw [List.take_add_one, hl]; rfl
      refine ks_if ?_
      symm_saturate
      refine ke_lcA PyData.str (fun p => .bool (!decide (p ∈ lot) && goes T k p lot)) ?_
      symm_saturate
      refine ⟨N, rfl, by omega, fun p hp => ⟨_, rfl, ?_⟩, ?_⟩
      · symm_saturate
        refine kb_and ?_
        symm_saturate
        refine ⟨_, (lot_tS lot).nin p, ?_⟩
        symm_saturate
        refine ⟨rfl, ?_⟩
        symm_saturate
        refine ⟨_, goes_map K rfl k p (by omega), ?_⟩
        symm_saturate
        exact ⟨rfl, rfl, rfl⟩
      symm_saturate
      refine ⟨_, any_map _ _, ?_⟩
      symm_saturate
      refine ⟨fun c => ?_, fun c => ?_⟩
      · refine ks_app ?_
        symm_saturate
        refine ⟨_, rfl, ?_, ?_⟩
        · have h1 := List.length_filter_le q ((foundL T k N).take i)
          rw [List.length_map]
          rw [List.length_take] at h1
          omega
        symm_saturate
        refine ⟨rfl, a, some (tS lot), ?_⟩
        rw [e, List.filter_append]
        have : [lot].filter q = [lot] := by
          rw [List.filter_cons_of_pos (p := q) c]
          rfl
        rw [this, List.map_append]
        rfl
      · symm_saturate
        refine ⟨rfl, a, some (tS lot), ?_⟩
        rw [e, List.filter_append]
        have : [lot].filter q = [] := by
          rw [List.filter_cons_of_neg (p := q) (by show ¬ q lot = true; rw [show q lot = false from c]; decide)]
          rfl
        rw [this, List.append_nil]
    · rintro ρ S ⟨rfl, a, b, rfl⟩
      rw [List.take_length]
      symm_saturate
      exact ⟨_, hy2, rfl⟩
end
end LW

set_option Elab.async false
set_option linter.all false
set_option maxRecDepth 100000
set_option maxHeartbeats 4000000
namespace LW
open PySem PySem.Spec PyProof.Rows L2 TL
local macro_rules | `(tactic| symm_saturate) => `(tactic| repeat (first
  | ((with_reducible refine ke_rd' ?_); refine ⟨_, rfl, ?_⟩)
  | with_reducible refine ke_cst ?_ | with_reducible refine ke_b2 ?_ | with_reducible refine ke_u1 ?_ | with_reducible refine ke_cN ?_ | with_reducible refine ke_cS ?_ | with_reducible refine ke_cI ?_
  | with_reducible refine ke_mkT ?_ | with_reducible refine ke_mkL ?_ | with_reducible refine ke_bE ?_ | with_reducible refine ke_sl3 ?_ | with_reducible refine ko_N ?_ | with_reducible refine ko_S ?_ | with_reducible refine ka_N ?_ | with_reducible refine ka_C ?_ | with_reducible refine ka_iE ?_
  | with_reducible refine kb_tst ?_ | with_reducible refine kb_bT ?_ | with_reducible refine kb_not ?_ | with_reducible refine ks_seq ?_ | with_reducible refine ks_N ?_ | with_reducible refine ks_set ?_ | with_reducible refine ks_par ?_ | with_reducible refine ks_ret ?_
  | with_reducible refine seqP_nx ?_ | with_reducible refine seqP_rt ?_ | with_reducible refine lapP_nx ?_ | with_reducible refine lapP_rt ?_ | with_reducible refine lapP_ct ?_ | with_reducible refine lapP_bk ?_ | with_reducible refine seqP_ct ?_ | with_reducible refine seqP_bk ?_ | with_reducible refine retP_rt ?_ | with_reducible refine retS_rt ?_
  | with_reducible refine ks_thaw ?_ | with_reducible refine ke_newK ?_ | with_reducible refine ke_newT ?_ | with_reducible refine ke_mkTV ?_ | with_reducible refine ke_mkLV ?_
  | (with_reducible first
    | refine ⟨_, add_ii _ _, ?_⟩ | refine ⟨_, sub_ii _ _, ?_⟩ | refine ⟨_, lt_ii _ _, ?_⟩ | refine ⟨_, le_ii _ _, ?_⟩ | refine ⟨_, gt_ii _ _, ?_⟩ | refine ⟨_, ge_ii _ _, ?_⟩ | refine ⟨_, neg_i _, ?_⟩
    | refine ⟨_, len_l _, ?_⟩ | refine ⟨_, len_t _, ?_⟩ | refine ⟨_, tup_l _, ?_⟩ | refine ⟨_, tup_t _, ?_⟩ | refine ⟨_, lst_l _, ?_⟩ | refine ⟨_, lst_t _, ?_⟩)
  | ((with_reducible show ∃ d, dTuple _ = some d ∧ _); first | refine ⟨_, tup_l _, ?_⟩ | refine ⟨_, tup_t _, ?_⟩)
  | ((with_reducible show ∃ d, dLen _ = some d ∧ _); first | refine ⟨_, len_l _, ?_⟩ | refine ⟨_, len_t _, ?_⟩)
  | ((with_reducible show ∃ i, _ = PyData.int i ∧ _); refine ⟨_, rfl, ?_⟩)
  | ((with_reducible show ∃ b, _ = PyData.bool b ∧ _); refine ⟨_, rfl, ?_⟩)
  | ((with_reducible show ∃ ds, items _ = some ds ∧ _); refine ⟨_, rfl, ?_⟩)
  | ((with_reducible show ∃ d, dSub2 _ _ = some d ∧ _); first | refine ⟨_, ix0, ?_⟩ | refine ⟨_, ix1, ?_⟩ | refine ⟨_, ix2, ?_⟩ | refine ⟨_, ix3, ?_⟩ | refine ⟨_, ixl0, ?_⟩ | refine ⟨_, ixl1, ?_⟩)))

theorem mx_snoc (l : Int × Int) (n : Int) : ∀ ls : List (Int × Int), mx (ls ++ [l]) n = max (mx ls n) (ln l n)
  | [] => by
    show max (ln l n) 0 = max 0 (ln l n)
    omega
  | x :: ls => by
    rw [List.cons_append, mx_cons, mx_cons, mx_snoc l n ls]
    omega
theorem sum_sub_le {α : Type} (f : α → Int) {xs ys : List α} (h : xs.Sublist ys) (h0 : ∀ y ∈ ys, 0 ≤ f y) : (xs.map f).sum ≤ (ys.map f).sum := by
  induction h with
  | slnil => exact Int.le_refl _
  | cons a _ ih =>
    have h1 := ih fun y hy => h0 y (List.mem_cons_of_mem _ hy)
    have h2 := h0 a (List.mem_cons_self ..)
    rw [List.map_cons, List.sum_cons]
    omega
  | cons_cons a _ ih =>
    have h1 := ih fun y hy => h0 y (List.mem_cons_of_mem _ hy)
    rw [List.map_cons, List.sum_cons, List.map_cons, List.sum_cons]
    omega
theorem sum_le_map {α : Type} (f g : α → Int) : ∀ (xs : List α), (∀ x ∈ xs, f x ≤ g x) → (xs.map f).sum ≤ (xs.map g).sum
  | [], _ => Int.le_refl _
  | x :: xs, h => by
    have h1 := sum_le_map f g xs fun y hy => h y (List.mem_cons_of_mem _ hy)
    have h2 := h x (List.mem_cons_self ..)
    rw [List.map_cons, List.sum_cons, List.map_cons, List.sum_cons]
    omega
def lnOf (zs : List Po) (k : Bool) (lot : List Str) : Int × Int := ((lot.map (wvB zs k)).sum, (lot.map (wvA zs k)).sum)
def mostF (zs : List Po) (R : Str → Str → Bool) (k : Bool) (n : Int) : Int := mx ((foundL R k (zs.map Po.n)).map (lnOf zs k)) n
theorem lnOf_perm {zs : List Po} {k : Bool} {a b : List Str} (p : a.Perm b) : lnOf zs k a = lnOf zs k b := by
  unfold lnOf
  rw [fold_sum_perm _ p, fold_sum_perm _ p]
section
variable {zs : List Po} {R : Str → Str → Bool}
theorem wv_nn (nd : (zs.map Po.n).Nodup) (hb : ∀ z ∈ zs, PoB z) (k : Bool) {s : Str} (hs : s ∈ zs.map Po.n) : Bd (wvB zs k s) ∧ Bd (wvA zs k s) := by
  obtain ⟨h1, _⟩ := poOf_mem nd hs
  unfold wvB wvA
  split
  · exact ⟨(hb _ h1).2, (hb _ h1).1⟩
  · exact ⟨bd1, bd0⟩
theorem names_po (nd : (zs.map Po.n).Nodup) (f : Po → Int) : ((zs.map Po.n).map fun s => f (poOf zs s)).sum = (zs.map f).sum := by
  rw [List.map_map]
  congr 1
  refine List.map_congr_left fun z hz => ?_
  show f (poOf zs z.n) = f z
  rw [poOf_eq nd hz]
theorem lnOf_bd (h : WebOk zs) (hb : ∀ z ∈ zs, PoB z) {hi : Int} (hA : (zs.map Po.a).sum ≤ hi) (k : Bool) {lot : List Str} (hl : lot.Sublist (zs.map Po.n)) : 0 ≤ (lnOf zs k lot).1 ∧ (lnOf zs k lot).1 ≤ 2 ^ 220 ∧ 0 ≤ (lnOf zs k lot).2 ∧ (lnOf zs k lot).2 ≤ hi := by
  have hs : ∀ s ∈ lot, s ∈ zs.map Po.n := fun s hs => hl.subset hs
  have hll := hl.length_le
  rw [List.length_map] at hll
  have hzl := h.len
  obtain ⟨b1, b2⟩ := sum_bd (wvB zs k) lot fun s hs' => (wv_nn h.nd hb k (hs s hs')).1
  obtain ⟨a1, a2⟩ := sum_bd (wvA zs k) lot fun s hs' => (wv_nn h.nd hb k (hs s hs')).2
  have h3 : (lot.length : Int) * 2 ^ 200 ≤ 100 * 2 ^ 200 := Int.mul_le_mul_of_nonneg_right (by omega) (by decide)
  refine ⟨b1, Int.le_trans (Int.le_trans b2 h3) (by decide), a1, ?_⟩
  have c1 := sum_sub_le (wvA zs k) hl fun s hs' => (wv_nn h.nd hb k hs').2.1
  have c2 := sum_le_map (wvA zs k) (fun s => (poOf zs s).a) (zs.map Po.n) fun s hs' => by
    have := (hb _ (poOf_mem h.nd hs').1).1.1
    unfold wvA
    split <;> omega
  have c3 : ((zs.map Po.n).map fun s => (poOf zs s).a).sum = (zs.map Po.a).sum := names_po h.nd Po.a
  show (lot.map (wvA zs k)).sum ≤ hi
  omega
theorem allK_tied (h : WebOk zs) (s : Sym R) {k : Bool} {lot : List Str} (hl : lot.Sublist (zs.map Po.n)) : AllK (tied (tsOf (zs.map Po.n) R)) k lot ↔ AllK R k lot := by
  have nd := h.nd.sublist hl
  have hs : ∀ s ∈ lot, s ∈ zs.map Po.n := fun s hs => hl.subset hs
  unfold AllK
  have e : ∀ a ∈ lot, ∀ b ∈ lot, a ≠ b → tied (tsOf (zs.map Po.n) R) a b = R a b := fun a ha b hb n => by
    rw [tied_eq _ h.nms s]
    simp [hs a ha, hs b hb, n]
  constructor
  · intro q
    exact (List.pairwise_and_iff.mpr ⟨q, nd⟩).imp_of_mem fun {a b} ha hb ⟨q1, q2⟩ => by rw [← e a ha b hb q2]; exact q1
  · intro q
    exact (List.pairwise_and_iff.mpr ⟨q, nd⟩).imp_of_mem fun {a b} ha hb ⟨q1, q2⟩ => by rw [e a ha b hb q2]; exact q1
theorem tied_symT (ts : List (Str × Str)) : ∀ a b, tied ts a b = tied ts b a := fun a b => by
  unfold tied
  rw [Bool.or_comm]
theorem found_same (h : WebOk zs) (s : Sym R) (k : Bool) (lot : List Str) : lot ∈ foundL (tied (tsOf (zs.map Po.n) R)) k (zs.map Po.n) ↔ lot ∈ foundL R k (zs.map Po.n) := by
  rw [found_mem (tied_symT _), found_mem s]
  constructor
  · rintro ⟨h1, h2⟩; exact ⟨h1, (allK_tied h s h1).mp h2⟩
  · rintro ⟨h1, h2⟩; exact ⟨h1, (allK_tied h s h1).mpr h2⟩
theorem filter_mem {N lot : List Str} (nd : N.Nodup) (h : lot.Sublist N) : N.filter (fun x => decide (x ∈ lot)) = lot := by
  induction h with
  | slnil => rfl
  | @cons l1 l2 a h ih =>
    have nd' := List.nodup_cons.mp nd
    rw [List.filter_cons_of_neg]
    · exact ih nd'.2
    · have : a ∉ l1 := fun q => nd'.1 (h.subset q)
      simp [this]
  | @cons_cons l1 l2 a h ih =>
    have nd' := List.nodup_cons.mp nd
    rw [List.filter_cons_of_pos (by simp)]
    congr 1
    rw [← ih nd'.2]
    refine List.filter_congr fun x hx => ?_
    have hxa : x ≠ a := fun e => nd'.1 (e ▸ hx)
    rw [ih nd'.2]
    simp [hxa]
/-- each lot lies in one that no post can be put to -/
theorem late_ext {T : Str → Str → Bool} (s : ∀ a b, T a b = T b a) (nd : (zs.map Po.n).Nodup) (hb : ∀ z ∈ zs, PoB z) (k : Bool) {n : Int} (hn : 0 ≤ n) : ∀ (m : Nat) (lot : List Str), lot ∈ foundL T k (zs.map Po.n) → (zs.map Po.n).length - lot.length ≤ m → ∃ l ∈ lateL' T k (zs.map Po.n), ln (lnOf zs k lot) n ≤ ln (lnOf zs k l) n := by
  intro m
  induction m with
  | zero =>
    intro lot hl hm
    obtain ⟨h1, h2⟩ := (found_mem s k _ lot).mp hl
    have e : lot = zs.map Po.n := h1.eq_of_length_le (by have := h1.length_le; omega)
    refine ⟨lot, List.mem_filter.mpr ⟨hl, ?_⟩, Int.le_refl _⟩
    simp only [Bool.not_eq_true', List.any_eq_false, Bool.and_eq_true, Bool.not_eq_true', decide_eq_false_iff_not, not_and, Bool.not_eq_true]
    intro p hp q
    rw [e] at q
    exact absurd hp q
  | succ m ih =>
    intro lot hl hm
    obtain ⟨h1, h2⟩ := (found_mem s k _ lot).mp hl
    by_cases c : (zs.map Po.n).any (fun p => !decide (p ∈ lot) && goes T k p lot) = true
    · obtain ⟨p, hp, q⟩ := List.any_eq_true.mp c
      rw [Bool.and_eq_true, Bool.not_eq_true', decide_eq_false_iff_not] at q
      obtain ⟨q1, q2⟩ := q
      have ndl := nd.sublist h1
      let l' := (zs.map Po.n).filter fun x => decide (x ∈ p :: lot)
      have hs' : l'.Sublist (zs.map Po.n) := List.filter_sublist
      have hp' : l'.Perm (p :: lot) := by
        refine (List.perm_ext_iff_of_nodup (nd.sublist hs') (List.nodup_cons.mpr ⟨q1, ndl⟩)).mpr fun x => ?_
        rw [List.mem_filter, decide_eq_true_eq]
        constructor
        · exact fun q => q.2
        · intro q
          refine ⟨?_, q⟩
          rcases List.mem_cons.mp q with rfl | q
          · exact hp
          · exact h1.subset q
      have ha : AllK T k l' := by
        unfold AllK
        refine (List.Perm.pairwise_iff (fun {x y} q => by rw [s]; exact q) hp').mpr ?_
        exact List.pairwise_cons.mpr ⟨fun o ho => goes_iff.mp q2 o ho, h2⟩
      obtain ⟨l, hl1, hl2⟩ := ih l' ((found_mem s k _ l').mpr ⟨hs', ha⟩) (by have := hp'.length_eq; rw [List.length_cons] at this; omega)
      refine ⟨l, hl1, Int.le_trans ?_ hl2⟩
      rw [lnOf_perm hp']
      obtain ⟨w1, w2⟩ := wv_nn nd hb k hp
      unfold lnOf ln
      simp only [List.map_cons, List.sum_cons]
      have := Int.mul_nonneg w2.1 hn
      have := w1.1
      rw [Int.add_mul]
      omega
    · refine ⟨lot, List.mem_filter.mpr ⟨hl, ?_⟩, Int.le_refl _⟩
      rw [Bool.not_eq_true] at c
      rw [c]
      rfl
theorem most_late (h : WebOk zs) (s : Sym R) (hb : ∀ z ∈ zs, PoB z) (k : Bool) {ys : List (List Str)} (hy : ys.Perm (lateL' (tied (tsOf (zs.map Po.n) R)) k (zs.map Po.n))) {n : Int} (hn : 0 ≤ n) : mx (ys.map (lnOf zs k)) n = mostF zs R k n := by
  refine mx_eq (fun l hl => ?_) fun l hl => ?_
  · obtain ⟨lot, hm, rfl⟩ := List.mem_map.mp hl
    have := (List.mem_filter.mp (hy.subset hm)).1
    exact ⟨_, List.mem_map.mpr ⟨lot, (found_same h s k lot).mp this, rfl⟩, Int.le_refl _⟩
  · obtain ⟨lot, hm, rfl⟩ := List.mem_map.mp hl
    obtain ⟨l, h1, h2⟩ := late_ext (tied_symT _) h.nd hb k hn _ lot ((found_same h s k lot).mpr hm) (Nat.le_refl _)
    exact ⟨_, List.mem_map.mpr ⟨l, hy.symm.subset h1, rfl⟩, h2⟩
theorem nl_num (v s : Int) : nlD v s = numT [(0, v, s)] := rfl
theorem tf_one (l : Int × Int) (h1 : 0 ≤ l.1) (h2 : 0 ≤ l.2) : TF (mx [l]) 0 [(0, l.1, l.2)] := by
  have e1 : ln l 0 = l.1 := by unfold ln; simp
  have e2 : ln l (0 + 1) - ln l 0 = l.2 := by rw [ln_succ]; omega
  have t : TF (ln l) 0 [(0, ln l 0, ln l (0 + 1) - ln l 0)] := .last fun n hn => by
    rw [e2, e1]
    unfold ln
    rw [Int.sub_zero]
  rw [e2, e1] at t
  refine TF.congr (fun n hn => ?_) t (Int.le_refl _)
  show ln l n = max (ln l n) 0
  have := Int.mul_nonneg h2 hn
  unfold ln
  omega
theorem raw_one (l : Int × Int) (h : -(2 ^ 64) < l.2 ∧ l.2 < 2 ^ 64) : Raw [(0, l.1, l.2)] := ⟨by simp, fun p hp => by cases hp; rfl, List.pairwise_singleton .., fun p hp => by rw [List.mem_singleton.mp hp]; exact h, by simp⟩
theorem Fit.raw {F : Int → Int} {ps : List Pc} (f : Fit ps) (t : TF F 0 ps) : Raw ps := tf_raw t (fun p hp => by have := f.2.2 p hp; omega) (by have := f.1; omega)
theorem Fit.st {ps : List Pc} (f : Fit ps) : ∀ p ∈ ps, -(2 ^ 64) < p.2.2 ∧ p.2.2 < 2 ^ 64 := fun p hp => by have := f.2.2 p hp; omega
theorem most_told_eq (h : WebOk zs) (s : Sym R) (h12 : zs.length ≤ 12) (h0 : zs ≠ []) (hb : ∀ z ∈ zs, PoB z) (hA : (zs.map Po.a).sum ≤ 58) (k : Bool) : ∃ ps, m_most_told [cw zs R, kD k] = some (numT ps) ∧ TF (mostF zs R k) 0 ps ∧ Fit ps := by
  obtain ⟨ys, hy, hg⟩ := greatest_eq (R := R) h h12 h0 k
  have hn0 : zs.map Po.n ≠ [] := by simpa using h0
  have hsub : ∀ lot ∈ ys, lot.Sublist (zs.map Po.n) := fun lot hl => ((found_mem (tied_symT _) k _ lot).mp (List.mem_filter.mp (hy.subset hl)).1).1
  have hbd : ∀ l ∈ ys.map (lnOf zs k), 0 ≤ l.1 ∧ l.1 ≤ 2 ^ 220 ∧ 0 ≤ l.2 ∧ l.2 ≤ 58 := fun l hl => by
    obtain ⟨lot, hm, rfl⟩ := List.mem_map.mp hl
    exact lnOf_bd h hb hA k (hsub lot hm)
  have hw : ∀ lot ∈ ys, m_weight_told [cw zs R, tS lot, kD k] = some (nlD (lnOf zs k lot).1 (lnOf zs k lot).2) := fun lot hl => by
    have hs := hsub lot hl
    refine weight_told_eq h hb (lot_tS lot) (fun s q => hs.subset q) ?_ k
    have := hs.length_le
    rw [List.length_map] at this
    omega
  have hne : ys ≠ [] := fun e => by
    have hf : ([] : List Str) ∈ foundL (tied (tsOf (zs.map Po.n) R)) k (zs.map Po.n) := (found_mem (tied_symT _) k _ []).mpr ⟨List.nil_sublist _, List.Pairwise.nil⟩
    obtain ⟨l, h1, _⟩ := late_ext (tied_symT _) h.nd hb k (Int.le_refl 0) _ [] hf (Nat.le_refl _)
    have := hy.symm.subset h1
    rw [e] at this
    cases this
  have hml : ∀ n, 0 ≤ n → mx (ys.map (lnOf zs k)) n = mostF zs R k n := fun n hn => most_late h s hb k hy hn
  clear hy
  cases ys with
  | nil => exact absurd rfl hne
  | cons y0 ys =>
  obtain ⟨pz, hz1, hz2⟩ := mx_tf (ls := (y0 :: ys).map (lnOf zs k)) (by simp) hbd
  refine ⟨pz, ?_, TF.congr hml hz1 (Int.le_refl _), hz2⟩
  refine kp_run ?_
  unfold g_most_told
  symm_saturate
  refine ⟨_, hg, ?_⟩
  symm_saturate
  refine ⟨_, hw y0 (List.mem_cons_self ..), ?_⟩
  symm_saturate
  refine ks_forT tS ?_
  symm_saturate
  refine ⟨.list (ys.map tS), drop_cut (ds := (y0 :: ys).map tS) (i := 1) (by simp), ?_⟩
  symm_saturate
  have b0 := hbd _ (List.mem_cons_self ..)
  refine ⟨ys, rfl, fun i ρ S => S = S0 ∧ ∃ ps a, ρ = [some (cw zs R), some (kD k), some (.list ((y0 :: ys).map tS)), some (numT ps), a] ∧ TF (mx (((y0 :: ys).take (i + 1)).map (lnOf zs k))) 0 ps ∧ Fit ps, ⟨rfl, [(0, (lnOf zs k y0).1, (lnOf zs k y0).2)], none, rfl, ?_, ?_⟩, ?_, ?_⟩
  · exact tf_one _ b0.1 b0.2.2.1
  · refine ⟨by simp, fun p hp => ?_, fun p hp => ?_⟩
    · rw [List.mem_singleton.mp hp]
      exact ⟨sm0, sm_of (by have := b0; dsimp only; omega), sm_of (by have := b0; dsimp only; omega)⟩
    · rw [List.mem_singleton.mp hp]
      have := b0
      dsimp only
      omega
  · rintro i lot ρ S hl ⟨rfl, ps, a, rfl, ht, hf⟩
    have hlm : lot ∈ y0 :: ys := List.mem_cons_of_mem _ (List.mem_of_getElem? hl)
    have e : (y0 :: ys).take (i + 1 + 1) = (y0 :: ys).take (i + 1) ++ [lot] := by
      rw [List.take_add_one (i := i + 1)]
      have : (y0 :: ys)[i + 1]? = some lot := by simpa using hl
      rw [this]
      rfl
    have bl := hbd _ (List.mem_map.mpr ⟨lot, hlm, rfl⟩)
    obtain ⟨qs, hq1, hq2⟩ := mx_tf (ls := ((y0 :: ys).take (i + 1 + 1)).map (lnOf zs k)) (by simp) fun l hl => hbd l ((List.take_sublist _ _).map _ |>.subset hl)
    refine ⟨[some (cw zs R), some (kD k), some (.list ((y0 :: ys).map tS)), some (numT ps), some (tS lot)], rfl, ?_⟩
    symm_saturate
    refine ⟨_, hw lot hlm, ?_⟩
    symm_saturate
    have hR := raw_one (lnOf zs k lot) (by omega)
    have hm := most_numbers (ps := qs) (num_T ps) (num_T [(0, (lnOf zs k lot).1, (lnOf zs k lot).2)]) (hf.raw ht) hR (by have := hf.1; simp; omega) hf.2.2 (fun p hp => by rw [List.mem_singleton.mp hp]; dsimp only; omega) ?_ hq2.1 hq2.2.1 hq2.st
    · refine ⟨_, hm, ?_⟩
      symm_saturate
      exact ⟨rfl, qs, some (tS lot), rfl, hq1, hq2⟩
    · refine TF.congr (fun n hn => ?_) hq1 (Int.le_refl _)
      rw [e, List.map_append, List.map_singleton, mx_snoc, tf_val ht n hn]
      congr 1
      show _ = (lnOf zs k lot).1 + (lnOf zs k lot).2 * (n - 0)
      rw [Int.sub_zero]
      rfl
  · rintro ρ S ⟨rfl, ps, a, rfl, ht, hf⟩
    have e : (y0 :: ys).take (ys.length + 1) = y0 :: ys := List.take_length (l := y0 :: ys)
    rw [e] at ht
    have := TF.uniq ht hz1
    subst this
    symm_saturate
    rfl
theorem chain_told_eq (h : WebOk zs) (s : Sym R) (h12 : zs.length ≤ 12) (h0 : zs ≠ []) (hb : ∀ z ∈ zs, PoB z) (hA : (zs.map Po.a).sum ≤ 58) : ∃ ps, m_chain_told [cw zs R] = some (numT ps) ∧ TF (mostF zs R true) 0 ps ∧ Fit ps := by
  obtain ⟨ps, h1, h2⟩ := most_told_eq h s h12 h0 hb hA true
  refine ⟨ps, kp_run ?_, h2⟩
  unfold g_chain_told
  symm_saturate
  refine ⟨_, h1, ?_⟩
  symm_saturate
  rfl
theorem lone_told_eq (h : WebOk zs) (s : Sym R) (h12 : zs.length ≤ 12) (h0 : zs ≠ []) (hb : ∀ z ∈ zs, PoB z) (hA : (zs.map Po.a).sum ≤ 58) : ∃ ps, m_lone_told [cw zs R] = some (numT ps) ∧ TF (mostF zs R false) 0 ps ∧ Fit ps := by
  obtain ⟨ps, h1, h2⟩ := most_told_eq h s h12 h0 hb hA false
  refine ⟨ps, kp_run ?_, h2⟩
  unfold g_lone_told
  symm_saturate
  refine ⟨_, h1, ?_⟩
  symm_saturate
  rfl
end
end LW

set_option Elab.async false
set_option linter.all false
set_option maxRecDepth 100000
set_option maxHeartbeats 4000000
namespace TL
open PySem PySem.Spec PyProof.Rows L2
section
variable {X : Cx}
/-- a power of constants, as a constant -/
theorem pe_powC {a b : Expr} {pos : Pos} {i j : Int} (v : Int) (ha : PE X a (tC (.int i))) (hb : PE X b (tC (.int j))) (hz : 0 ≤ j ∧ j ≤ 1000000 ∧ i.natAbs < 2 ^ 64) (hv : i ^ j.toNat = v) : PE X (.BinOp a .Pow b pos) (tC (.int v)) :=
  PE_imp (pe_op op_pow ha hb) fun σ H Q h => ⟨i, j, rfl, rfl, hz, by show Q (.int (i ^ j.toNat)) H; rw [hv]; exact h⟩
end
end TL

set_option Elab.async false
set_option linter.all false
set_option maxRecDepth 100000
set_option maxHeartbeats 4000000
namespace LW
open PySem PySem.Spec PyProof.Rows L2 TL
local macro_rules | `(tactic| symm_saturate) => `(tactic| repeat (first
  | ((with_reducible refine ke_rd' ?_); refine ⟨_, rfl, ?_⟩)
  | with_reducible refine ke_cst ?_ | with_reducible refine ke_b2 ?_ | with_reducible refine ke_u1 ?_ | with_reducible refine ke_cN ?_ | with_reducible refine ke_cS ?_ | with_reducible refine ke_cI ?_
  | with_reducible refine ke_mkT ?_ | with_reducible refine ke_mkL ?_ | with_reducible refine ke_bE ?_ | with_reducible refine ke_sl3 ?_ | with_reducible refine ko_N ?_ | with_reducible refine ko_S ?_ | with_reducible refine ka_N ?_ | with_reducible refine ka_C ?_ | with_reducible refine ka_iE ?_
  | with_reducible refine kb_tst ?_ | with_reducible refine kb_bT ?_ | with_reducible refine kb_not ?_ | with_reducible refine ks_seq ?_ | with_reducible refine ks_N ?_ | with_reducible refine ks_set ?_ | with_reducible refine ks_par ?_ | with_reducible refine ks_ret ?_
  | with_reducible refine seqP_nx ?_ | with_reducible refine seqP_rt ?_ | with_reducible refine lapP_nx ?_ | with_reducible refine lapP_rt ?_ | with_reducible refine lapP_ct ?_ | with_reducible refine lapP_bk ?_ | with_reducible refine seqP_ct ?_ | with_reducible refine seqP_bk ?_ | with_reducible refine retP_rt ?_ | with_reducible refine retS_rt ?_
  | with_reducible refine ks_thaw ?_ | with_reducible refine ke_newK ?_ | with_reducible refine ke_newT ?_ | with_reducible refine ke_mkTV ?_ | with_reducible refine ke_mkLV ?_
  | (with_reducible first
    | refine ⟨_, add_ii _ _, ?_⟩ | refine ⟨_, sub_ii _ _, ?_⟩ | refine ⟨_, lt_ii _ _, ?_⟩ | refine ⟨_, le_ii _ _, ?_⟩ | refine ⟨_, gt_ii _ _, ?_⟩ | refine ⟨_, ge_ii _ _, ?_⟩ | refine ⟨_, neg_i _, ?_⟩
    | refine ⟨_, len_l _, ?_⟩ | refine ⟨_, len_t _, ?_⟩ | refine ⟨_, tup_l _, ?_⟩ | refine ⟨_, tup_t _, ?_⟩ | refine ⟨_, lst_l _, ?_⟩ | refine ⟨_, lst_t _, ?_⟩)
  | ((with_reducible show ∃ d, dTuple _ = some d ∧ _); first | refine ⟨_, tup_l _, ?_⟩ | refine ⟨_, tup_t _, ?_⟩)
  | ((with_reducible show ∃ d, dLen _ = some d ∧ _); first | refine ⟨_, len_l _, ?_⟩ | refine ⟨_, len_t _, ?_⟩)
  | ((with_reducible show ∃ i, _ = PyData.int i ∧ _); refine ⟨_, rfl, ?_⟩)
  | ((with_reducible show ∃ b, _ = PyData.bool b ∧ _); refine ⟨_, rfl, ?_⟩)
  | ((with_reducible show ∃ ds, items _ = some ds ∧ _); refine ⟨_, rfl, ?_⟩)
  | ((with_reducible show ∃ d, dSub2 _ _ = some d ∧ _); first | refine ⟨_, ix0, ?_⟩ | refine ⟨_, ix1, ?_⟩ | refine ⟨_, ix2, ?_⟩ | refine ⟨_, ix3, ?_⟩ | refine ⟨_, ixl0, ?_⟩ | refine ⟨_, ixl1, ?_⟩)))

/-! ### webs later, at one n -/
def laP (m : Int) (z : Po) : Po := fixP { z with b := z.a * m + z.b }
def atP (m : Int) (z : Po) : Po := fixP { z with a := 0, b := z.a * m + z.b }
theorem laP_n (m : Int) (z : Po) : (laP m z).n = z.n := fixP_n _
theorem atP_n (m : Int) (z : Po) : (atP m z).n = z.n := fixP_n _
theorem fix_ab (z : Po) : (fixP z).a = z.a ∧ (fixP z).b = z.b := by
  unfold fixP
  split <;> exact ⟨rfl, rfl⟩
theorem fix_fix (z : Po) : fixP (fixP z) = fixP z := by
  by_cases c : z.a = 0 ∧ z.b = 1
  · have e : fixP z = { z with k := false } := if_pos c
    rw [e]
    unfold fixP
    rw [if_pos c]
  · have e : fixP z = z := if_neg c
    rw [e, e]
theorem map_names {f : Po → Po} (hf : ∀ z, (f z).n = z.n) (zs : List Po) : (zs.map f).map Po.n = zs.map Po.n := by
  rw [List.map_map]
  exact List.map_congr_left fun z _ => hf z
section
variable {zs : List Po} {R : Str → Str → Bool}
theorem WebOk.mapF (h : WebOk zs) {f : Po → Po} (hf : ∀ z, (f z).n = z.n) (hx : ∀ z, fixP (f z) = f z) : WebOk (zs.map f) := ⟨by rw [← List.pairwise_map, map_names hf]; exact h.nms, by rw [List.length_map]; exact h.len, fun z hz => by
  obtain ⟨y, _, rfl⟩ := List.mem_map.mp hz
  exact hx y⟩
theorem WebOk.la (h : WebOk zs) (m : Int) : WebOk (zs.map (laP m)) := h.mapF (laP_n m) fun z => fix_fix _
theorem WebOk.at_ (h : WebOk zs) (m : Int) : WebOk (zs.map (atP m)) := h.mapF (atP_n m) fun z => fix_fix _
theorem cw_mapped (h : WebOk zs) {P : D} {f : Po → Po} (hf : ∀ z, (f z).n = z.n) (hP : items P = some ((zs.map f).map pD)) (L : D) (hL : items L = some ((tsOf (zs.map Po.n) R).map prS)) : m_web_told [P, L] = some (cw (zs.map fun z => fixP (f z)) R) := by
  have hn : (zs.map fun z => fixP (f z)).map Po.n = zs.map Po.n := map_names (fun z => by rw [fixP_n, hf]) zs
  have hok : WebOk (zs.map fun z => fixP (f z)) := h.mapF (fun z => by rw [fixP_n, hf]) fun z => fix_fix _
  unfold cw
  rw [hn]
  have hlen := h.len
  refine web_told_eq hP hL (by rw [List.length_map]; omega) (by have := h.tl (R := R); omega) hok.lt ?_ (tsOf_lt h.nms) fun p => ?_
  · rw [List.map_map]
    exact List.Perm.refl _
  · constructor
    · intro hp
      exact ⟨p, hp, ordP_lt ((tsOf_mem h.nms).mp hp).1.2.2⟩
    · rintro ⟨q, hq, rfl⟩
      rw [ordP_lt ((tsOf_mem h.nms).mp hq).1.2.2]
      exact hq
theorem dMul_sm {a m : Int} (h : -(2 ^ 64) < a ∧ a < 2 ^ 64) : dMul (.int a) (.int m) = some (.int (a * m)) := if_pos (.inl h)
theorem web_later_eq (h : WebOk zs) (ha : ∀ z ∈ zs, -(2 ^ 64) < z.a ∧ z.a < 2 ^ 64) (m : Int) : m_web_later [cw zs R, .int m] = some (cw (zs.map (laP m)) R) := by
  have hlen := h.len
  refine kp_run ?_
  unfold g_web_later
  symm_saturate
  refine ke_lcA pD (fun z => pD { z with b := z.a * m + z.b }) ?_
  symm_saturate
  refine ⟨zs, rfl, by omega, fun z hz => ⟨_, rfl, ?_⟩, ?_⟩
  · symm_saturate
    refine ⟨_, dMul_sm (ha z hz), ?_⟩
    symm_saturate
    exact ⟨rfl, rfl⟩
  symm_saturate
  refine ⟨_, cw_mapped (R := R) h (f := fun z => { z with b := z.a * m + z.b }) (fun _ => rfl) (by rw [List.map_map]; rfl) _ rfl, ?_⟩
  symm_saturate
  rfl
theorem web_at_eq (h : WebOk zs) (ha : ∀ z ∈ zs, -(2 ^ 64) < z.a ∧ z.a < 2 ^ 64) (m : Int) : m_web_at [cw zs R, .int m] = some (cw (zs.map (atP m)) R) := by
  have hlen := h.len
  refine kp_run ?_
  unfold g_web_at
  symm_saturate
  refine ke_lcA pD (fun z => pD { z with a := 0, b := z.a * m + z.b }) ?_
  symm_saturate
  refine ⟨zs, rfl, by omega, fun z hz => ⟨_, rfl, ?_⟩, ?_⟩
  · symm_saturate
    refine ⟨_, dMul_sm (ha z hz), ?_⟩
    symm_saturate
    exact ⟨rfl, rfl⟩
  symm_saturate
  refine ⟨_, cw_mapped (R := R) h (f := fun z => { z with a := 0, b := z.a * m + z.b }) (fun _ => rfl) (by rw [List.map_map]; rfl) _ rfl, ?_⟩
  symm_saturate
  rfl
end
end LW

set_option Elab.async false
set_option linter.all false
set_option maxRecDepth 100000
set_option maxHeartbeats 4000000
namespace LW
open PySem PySem.Spec PyProof.Rows L2 TL
def g__law_length : FS :=
  (gRet (cS m__law_of (aC (b2 dAdd (mkL (aC (mkT (aC (cst (.int 0)) (aC (cst (.int 2)) aN))) (aC (mkT (aC (cst (.int 1)) (aC (cst (.int 1)) aN))) (aC (mkT (aC (cst (.int 1)) (aC (cst (.int 2)) aN))) (aC (mkT (aC (cst (.int 0)) (aC (cst (.int 3)) aN))) (aC (mkT (aC (cst (.int 2)) (aC (cst (.int 1)) aN))) (aC (mkT (aC (cst (.int 1)) (aC (cst (.int 4)) aN))) aN))))))) (b2 dMulA (mkL (aC (mkT (aC (cst (.int 0)) (aC (cst (.int 1)) aN))) aN)) (b2 dMulA (cst (.int 3)) (cN dInt (aC (b2 dEq (rd 1) (cst (.str "apart"))) aN))))) aN)))
def m__law_length : List D → Src → Option (D × Src) := runS 2 g__law_length
def g__law_posts : FS :=
  (gSeq (gOwn 2 (mkL aN))
  (gSeq (gFor (iE (rd 1)) (sN 3) (gSeq (gSet 4 (cS m__law_of (aC (mkL (aC (cst (.str "apart")) (aC (cst (.str "apart")) (aC (cst (.str "apart")) (aC (cst (.str "tied")) aN))))) aN)))
    (gApp 2 (b2 dAdd (mkT (aC (rd 3) (aC (rd 4) aN))) (cS m__law_length (aC (rd 4) aN))))))
  (gRet (rd 2))))
def m__law_posts : List D → Src → Option (D × Src) := runS 5 g__law_posts
def g__law_ties : FS :=
  (gSeq (gPar [2, 3] (aC (mkL aN) (aC (cS m__law_pick (aC (cst (.int 6)) aN)) aN)))
  (gSeq (gFor (iEnG (aC (rd 1) aN)) (sT (sC (sN 4) (sC (sN 5) s0))) (gSet 2 (b2 dAdd (rd 2) (lcE [6] (iR1 (aC (rd 4) aN)) (sN 6) bT (mkT (aC (b2 dSub2 (rd 1) (rd 6)) (aC (rd 5) aN)))))))
  (gSeq (gIf (tst (b2 dLt (rd 3) (cst (.int 3)))) (gSeq (gSet 7 (b2 dAdd (cst (.int 1)) (cS m__law_pick (aC (cst (.int 3)) aN))))
    (gRet (lcE [8] (iE (rd 2)) (sN 8) (tst (b2 dLt (cS m__law_pick (aC (cst (.int 4)) aN)) (rd 7))) (rd 8)))) gN)
  (gSeq (gSet 9 (lcE [4] (iR1 (aC (b2 dSub (cN dLen (aC (rd 1) aN)) (cst (.int 1))) aN)) (sN 4) bT (mkT (aC (b2 dSub2 (rd 1) (rd 4)) (aC (b2 dSub2 (rd 1) (b2 dAdd (rd 4) (cst (.int 1)))) aN)))))
  (gSeq (gIf (tst (b2 dEq (rd 3) (cst (.int 3)))) (gRet (rd 9)) gN)
  (gSeq (gIf (tst (b2 dEq (rd 3) (cst (.int 4)))) (gRet (b2 dAdd (rd 9) (b2 dMulA (mkL (aC (mkT (aC (b2 dSub2 (rd 1) (cst (.int 0))) (aC (b2 dSub2 (rd 1) (u1 dNeg (cst (.int 1)))) aN))) aN)) (cN dInt (aC (b2 dGt (cN dLen (aC (rd 1) aN)) (cst (.int 2))) aN))))) gN)
  (gSeq (gSet 10 (lcE [11] (iE (rd 1)) (sN 11) (tst (b2 dEq (cS m__law_pick (aC (cst (.int 2)) aN)) (cst (.int 0)))) (rd 11)))
  (gRet (lcE [8] (iE (rd 2)) (sN 8) (fOr (tst (b2 dNe (b2 dInD (b2 dSub2 (rd 8) (cst (.int 0))) (rd 10)) (b2 dInD (b2 dSub2 (rd 8) (cst (.int 1))) (rd 10)))) (tst (b2 dEq (cS m__law_pick (aC (cst (.int 6)) aN)) (cst (.int 0))))) (rd 8))))))))))
def m__law_ties : List D → Src → Option (D × Src) := runS 12 g__law_ties
def g__law_known : FS :=
  (gSeq (gOwn 1 newT)
  (gSeq (gFor (iE (rd 0)) (sT (sC (sN 2) (sC (sN 3) s0))) (gSeq (gPutK 1 (mkT (aC (rd 2) (aC (rd 3) aN))) (cst (.int 0)))
    (gPutK 1 (mkT (aC (rd 3) (aC (rd 2) aN))) (cst (.int 0)))))
  (gRet (rd 1))))
def m__law_known : List D → Option D := runP 4 g__law_known
def g__law_lots : FS :=
  (gSeq (gSet 1 (mkL (aC (mkT aN) aN)))
  (gSeq (gFor (iE (rd 0)) (sN 2) (gSet 1 (b2 dAdd (rd 1) (lcE [3] (iE (rd 1)) (sN 3) bT (b2 dAdd (rd 3) (mkT (aC (rd 2) aN)))))))
  (gRet (rd 1))))
def m__law_lots : List D → Option D := runP 4 g__law_lots
end LW

set_option Elab.async false
set_option linter.all false
set_option maxRecDepth 100000
set_option maxHeartbeats 4000000
namespace LW
open PySem PySem.Spec PyProof.Rows L2 TL

def pairD2 (t : Int × Int) : D := .tuple [.int t.1, .int t.2]
theorem mul_bool (x : D) (b : Bool) : dMulA (.list [x]) (.int (bI b)) = some (.list (if b = true then [x] else [])) := by
  unfold dMulA
  dsimp only
  cases b
  · rw [if_pos ⟨by decide, by decide, by show 1 * (bI false).toNat ≤ sizeLine; decide⟩]
    rfl
  · rw [if_pos ⟨by decide, by decide, by show 1 * (bI true).toNat ≤ sizeLine; decide⟩]
    rfl
def letters : List Str := ["a", "b", "c", "d", "e", "f", "g", "h"]
theorem lt_of_cps {a b : Str} (h : a.cps.toList < b.cps.toList) : oLt sS a b := ⟨(oLe_str a b).mpr fun q => List.lt_irrefl _ (List.lt_trans h q), fun e => by rw [e] at h; exact List.lt_irrefl _ h⟩
theorem letters_lt : letters.Pairwise (oLt sS) := by
  have h : letters.Pairwise fun a b => a.cps.toList < b.cps.toList := by unfold letters; decide
  exact h.imp fun q => lt_of_cps q
def subsL {α : Type} (xs : List α) : List (List α) := xs.foldl (fun acc n => acc ++ acc.map fun l => l ++ [n]) [[]]
theorem snoc_ind {α : Type} {P : List α → Prop} (h0 : P []) (h1 : ∀ xs x, P xs → P (xs ++ [x])) (xs : List α) : P xs := by
  have h : ∀ ys : List α, P ys.reverse := fun ys => by
    induction ys with
    | nil => exact h0
    | cons y ys ih => rw [List.reverse_cons]; exact h1 _ y ih
  have := h xs.reverse
  rwa [List.reverse_reverse] at this
theorem subsL_snoc {α : Type} (xs : List α) (x : α) : subsL (xs ++ [x]) = subsL xs ++ (subsL xs).map fun l => l ++ [x] := by
  unfold subsL
  rw [List.foldl_append]
  rfl
theorem subsL_len {α : Type} (xs : List α) : (subsL xs).length = 2 ^ xs.length := by
  refine snoc_ind (P := fun xs => (subsL xs).length = 2 ^ xs.length) rfl (fun xs x ih => ?_) xs
  rw [subsL_snoc, List.length_append, List.length_map, ih, List.length_append, List.length_singleton, Nat.pow_succ]
  omega
theorem subsL_mem {α : Type} {xs l : List α} : l ∈ subsL xs ↔ l.Sublist xs := by
  refine snoc_ind (P := fun xs => ∀ l : List α, l ∈ subsL xs ↔ l.Sublist xs) (fun l => ?_) (fun xs x ih l => ?_) xs l
  · show l ∈ [[]] ↔ _
    rw [List.mem_singleton, List.sublist_nil]
  · rw [subsL_snoc, List.mem_append, ih, List.mem_map]
    constructor
    · rintro (h | ⟨m, hm, rfl⟩)
      · exact h.trans (List.sublist_append_left _ _)
      · exact ((ih m).mp hm).append (.refl _)
    · intro h
      obtain ⟨l1, l2, rfl, h1, h2⟩ := List.sublist_append_iff.mp h
      have h2 : l2 = [] ∨ l2 = [x] := by
        cases h2 with
        | cons _ h => exact .inl (List.sublist_nil.mp h)
        | cons_cons _ h => rw [List.sublist_nil.mp h]; exact .inr rfl
      rcases h2 with rfl | rfl
      · left
        rw [List.append_nil]
        exact h1
      · right
        exact ⟨l1, (ih l1).mpr h1, rfl⟩
end LW

set_option Elab.async false
set_option linter.all false
set_option maxRecDepth 100000
set_option maxHeartbeats 4000000
namespace LW
open PySem PySem.Spec PyProof.Rows L2 TL
local macro_rules | `(tactic| symm_saturate) => `(tactic| repeat (first
  | ((with_reducible refine ke_rd' ?_); refine ⟨_, rfl, ?_⟩)
  | with_reducible refine ke_cst ?_ | with_reducible refine ke_b2 ?_ | with_reducible refine ke_u1 ?_ | with_reducible refine ke_cN ?_ | with_reducible refine ke_cS ?_ | with_reducible refine ke_cI ?_
  | with_reducible refine ke_mkT ?_ | with_reducible refine ke_mkL ?_ | with_reducible refine ke_bE ?_ | with_reducible refine ke_sl3 ?_ | with_reducible refine ko_N ?_ | with_reducible refine ko_S ?_ | with_reducible refine ka_N ?_ | with_reducible refine ka_C ?_ | with_reducible refine ka_iE ?_
  | with_reducible refine kb_tst ?_ | with_reducible refine kb_bT ?_ | with_reducible refine kb_not ?_ | with_reducible refine ks_seq ?_ | with_reducible refine ks_N ?_ | with_reducible refine ks_set ?_ | with_reducible refine ks_par ?_ | with_reducible refine ks_ret ?_
  | with_reducible refine seqP_nx ?_ | with_reducible refine seqP_rt ?_ | with_reducible refine lapP_nx ?_ | with_reducible refine lapP_rt ?_ | with_reducible refine lapP_ct ?_ | with_reducible refine lapP_bk ?_ | with_reducible refine seqP_ct ?_ | with_reducible refine seqP_bk ?_ | with_reducible refine retP_rt ?_ | with_reducible refine retS_rt ?_
  | with_reducible refine ks_thaw ?_ | with_reducible refine ke_newK ?_ | with_reducible refine ke_newT ?_ | with_reducible refine ke_mkTV ?_ | with_reducible refine ke_mkLV ?_
  | (with_reducible first
    | refine ⟨_, add_ii _ _, ?_⟩ | refine ⟨_, sub_ii _ _, ?_⟩ | refine ⟨_, lt_ii _ _, ?_⟩ | refine ⟨_, le_ii _ _, ?_⟩ | refine ⟨_, gt_ii _ _, ?_⟩ | refine ⟨_, ge_ii _ _, ?_⟩ | refine ⟨_, neg_i _, ?_⟩
    | refine ⟨_, len_l _, ?_⟩ | refine ⟨_, len_t _, ?_⟩ | refine ⟨_, tup_l _, ?_⟩ | refine ⟨_, tup_t _, ?_⟩ | refine ⟨_, lst_l _, ?_⟩ | refine ⟨_, lst_t _, ?_⟩)
  | ((with_reducible show ∃ d, dTuple _ = some d ∧ _); first | refine ⟨_, tup_l _, ?_⟩ | refine ⟨_, tup_t _, ?_⟩)
  | ((with_reducible show ∃ d, dLen _ = some d ∧ _); first | refine ⟨_, len_l _, ?_⟩ | refine ⟨_, len_t _, ?_⟩)
  | ((with_reducible show ∃ i, _ = PyData.int i ∧ _); refine ⟨_, rfl, ?_⟩)
  | ((with_reducible show ∃ b, _ = PyData.bool b ∧ _); refine ⟨_, rfl, ?_⟩)
  | ((with_reducible show ∃ ds, items _ = some ds ∧ _); refine ⟨_, rfl, ?_⟩)
  | ((with_reducible show ∃ d, dSub2 _ _ = some d ∧ _); first | refine ⟨_, ix0, ?_⟩ | refine ⟨_, ix1, ?_⟩ | refine ⟨_, ix2, ?_⟩ | refine ⟨_, ix3, ?_⟩ | refine ⟨_, ixl0, ?_⟩ | refine ⟨_, ixl1, ?_⟩)))

/-! ### helpers of family C -/
theorem sub_tied {xs : List Str} {f : List (Str × Str)} (hx : xs.Pairwise (oLt sS)) (h : ∀ p ∈ f, p ∈ pairsOf xs) : ∀ p, p ∈ tsOf xs (tied f) ↔ ∃ q ∈ f, ordP q = p := by
  intro p
  rw [tsOf_mem hx]
  constructor
  · rintro ⟨h1, h2⟩
    unfold tied at h2
    rw [Bool.or_eq_true, decide_eq_true_eq, decide_eq_true_eq] at h2
    rcases h2 with h2 | h2
    · exact ⟨p, h2, ordP_lt h1.2.2⟩
    · exact (ord_str.asymm h1.2.2 ((pairsOf_mem hx).mp (h _ h2)).2.2).elim
  · rintro ⟨q, hq, rfl⟩
    have hm := (pairsOf_mem hx).mp (h q hq)
    rw [ordP_lt hm.2.2]
    exact ⟨hm, by unfold tied; rw [decide_eq_true hq]; rfl⟩
theorem tied_symC (f : List (Str × Str)) : Sym (tied f) := fun a b => by unfold tied; rw [Bool.or_comm]
theorem told_drawn {zs : List Po} {f : List (Str × Str)} (h : WebOk zs) (hf : ∀ p ∈ f, p ∈ pairsOf (zs.map Po.n)) (hl : f.length ≤ 10000) {P T : D} (hP : items P = some (zs.map pD)) (hT : items T = some (f.map prS)) : m_web_told [P, T] = some (cw zs (tied f)) := by
  have hlen := h.len
  unfold cw
  refine web_told_eq hP hT (by omega) (by omega) h.lt ?_ (tsOf_lt h.nms) (sub_tied h.nms hf)
  have e : zs.map fixP = zs := by
    conv => rhs; rw [← List.map_id zs]
    exact List.map_congr_left fun z hz => h.fix z hz
  rw [e]
def abC : List (Int × Int) := [(0, 2), (1, 1), (1, 2), (0, 3), (2, 1), (1, 4)]
def PkC (z : Po) : Prop := (z.a, z.b) ∈ abC ∨ (z.k = false ∧ z.a = 0 ∧ z.b = 1)
theorem mul_listB {α : Type} (enc : α → D) (x : α) (n : Int) (hn : n = 0 ∨ n = 3) : dMulA (.list [enc x]) (.int n) = some (.list ((List.replicate n.toNat x).map enc)) := by
  unfold dMulA
  dsimp only
  rcases hn with rfl | rfl
  · rw [if_pos ⟨by decide, by decide, by show 1 * 0 ≤ sizeLine; decide⟩]
    rfl
  · rw [if_pos ⟨by decide, by decide, by show 1 * 3 ≤ sizeLine; decide⟩]
    rfl
theorem ev_lengthC {b : Bool} {S : Src} {K : D → Src → Prop} (k : ∀ t S', (t ∈ abC ∨ (b = false ∧ t = (0, 1))) → K (pairD2 t) S') : ∃ d S2, m__law_length [kD b] S = some (d, S2) ∧ K d S2 := by
  refine kp_runS ?_
  unfold g__law_length
  symm_saturate
  have e1 : dEq (kD b) (.str "apart") = some (.bool (decide (b = false))) := kD_eq b false
  refine ⟨_, e1, ?_⟩
  symm_saturate
  refine ⟨_, int_of _, ?_⟩
  symm_saturate
  have e2 : dMulA (.int 3) (.int (bI (decide (b = false)))) = some (.int (3 * bI (decide (b = false)))) := by
    show dMul (.int 3) (.int (bI (decide (b = false)))) = _
    exact dMul_sm ⟨by decide, by decide⟩
  refine ⟨_, e2, ?_⟩
  have e3 : (3 * bI (decide (b = false)) : Int) = 0 ∨ (3 * bI (decide (b = false)) : Int) = 3 := by cases b <;> decide
  refine ⟨_, mul_listB pairD2 (0, 1) _ e3, ?_⟩
  refine ⟨.list ((abC ++ List.replicate (3 * bI (decide (b = false)) : Int).toNat (0, 1)).map pairD2), ?_, ?_⟩
  · rw [List.map_append]
    exact add_ll (by rw [List.length_map, List.length_replicate]; have : (3 * bI (decide (b = false)) : Int).toNat ≤ 3 := by omega
                     show 6 + _ ≤ _; omega)
  symm_saturate
  refine ev_of pairD2 _ (by simp [abC]) (by rw [List.length_append, List.length_replicate]; have : abC.length = 6 := rfl; omega) fun i t S' ht => ?_
  symm_saturate
  refine k t S' ?_
  rcases List.mem_append.mp (List.mem_of_getElem? ht) with h | h
  · exact .inl h
  · obtain ⟨h1, rfl⟩ := List.mem_replicate.mp h
    refine .inr ⟨?_, rfl⟩
    cases b
    · rfl
    · exact absurd rfl h1
theorem ev_postsC {xs : List Str} {S : Src} (hl : xs.length ≤ 100) {K : D → Src → Prop} (k : ∀ (zs : List Po) S', zs.map Po.n = xs → (∀ z ∈ zs, PkC z) → K (.list (zs.map pD)) S') : ∃ d S2, m__law_posts [lS xs] S = some (d, S2) ∧ K d S2 := by
  refine kp_runS ?_
  unfold g__law_posts
  refine ks_seq (ks_own ?_)
  symm_saturate
  refine ⟨rfl, ?_⟩
  symm_saturate
  refine ks_forT PyData.str ?_
  symm_saturate
  refine ⟨xs, rfl, fun i ρ S => ∃ (zs : List Po) (a b : Option D), ρ = [none, some (lS xs), some (.list (zs.map pD)), a, b] ∧ zs.map Po.n = xs.take i ∧ ∀ z ∈ zs, PkC z, ⟨[], none, none, rfl, rfl, fun z hz => nomatch hz⟩, ?_, ?_⟩
  · rintro i x ρ S hx ⟨zs, a, b, rfl, hn, hp⟩
    have hzl : zs.length ≤ 100 := by
      have := congrArg List.length hn
      rw [List.length_map, List.length_take] at this
      omega
    refine ⟨[none, some (lS xs), some (.list (zs.map pD)), some (.str x), b], rfl, ?_⟩
    symm_saturate
    refine ev_of kD [false, false, false, true] (by decide) (by decide) fun i kk S2 hk => ?_
    symm_saturate
    refine ks_app ?_
    symm_saturate
    refine ev_lengthC fun t S3 ht => ?_
    refine ⟨_, add_tt (by simp), ?_⟩
    refine ⟨_, rfl, by rw [List.length_map]; omega, ?_⟩
    symm_saturate
    refine ⟨zs ++ [⟨x, kk, t.1, t.2⟩], some (.str x), some (kD kk), ?_, ?_, fun z hz => ?_⟩
    · rw [List.map_append]
      rfl
    · rw [List.map_append, hn, List.take_add_one, hx]
      rfl
    · rcases List.mem_append.mp hz with hz | hz
      · exact hp z hz
      · rw [List.mem_singleton.mp hz]
        rcases ht with h | ⟨h1, rfl⟩
        · exact .inl h
        · exact .inr ⟨h1, rfl, rfl⟩
  · rintro ρ S ⟨zs, a, b, rfl, hn, hp⟩
    rw [List.take_length] at hn
    symm_saturate
    exact k zs S hn hp
theorem PkC.fix {z : Po} (h : PkC z) : fixP z = z := by
  obtain ⟨n, k, a, b⟩ := z
  unfold PkC abC at h
  unfold fixP
  split
  · rename_i c
    dsimp only at c h
    obtain ⟨rfl, rfl⟩ := c
    rcases h with h | h
    · simp at h
    · rw [h.1]
  · rfl
theorem PkC.nums {z : Po} (h : PkC z) : 0 ≤ z.a ∧ z.a ≤ 2 ∧ 1 ≤ z.b ∧ z.b ≤ 4 := by
  obtain ⟨n, k, a, b⟩ := z
  unfold PkC abC at h
  simp only [List.mem_cons, Prod.mk.injEq, List.not_mem_nil, or_false] at h
  dsimp only
  omega
theorem fin_lt {xs : List Str} (hx : xs.Pairwise (oLt sS)) {i j : Nat} {a b : Str} (h : i < j) (ha : xs[i]? = some a) (hb : xs[j]? = some b) : (a, b) ∈ pairsOf xs := by
  obtain ⟨h1, rfl⟩ := List.getElem?_eq_some_iff.mp ha
  obtain ⟨h2, rfl⟩ := List.getElem?_eq_some_iff.mp hb
  exact (pairsOf_mem hx).mpr ⟨List.getElem_mem _, List.getElem_mem _, List.pairwise_iff_getElem.mp hx i j h1 h2 h⟩
theorem ix_last {xs : List Str} (h0 : xs ≠ []) : dSub2 (lS xs) (.int (-1)) = some (.str (xs.getLast h0)) := by
  have e := List.dropLast_concat_getLast h0
  have h : lS xs = .list (xs.dropLast.map PyData.str ++ [.str (xs.getLast h0)]) := by
    unfold lS
    congr 1
    rw [← List.map_singleton (f := PyData.str), ← List.map_append, e]
  rw [h]
  exact L2.atI_last _ _
theorem ev_tiesC {xs : List Str} {S : Src} (hx : xs.Pairwise (oLt sS)) (hl : xs.length ≤ 100) (h0 : xs ≠ []) {K : D → Src → Prop} (k : ∀ (f : List (Str × Str)) S', (∀ p ∈ f, p ∈ pairsOf xs) → f.length ≤ 10000 → K (.list (f.map prS)) S') : ∃ d S2, m__law_ties [lS xs] S = some (d, S2) ∧ K d S2 := by
  have hlen : 0 < xs.length := List.length_pos_iff.mpr h0
  refine kp_runS ?_
  unfold g__law_ties
  refine ks_seq (ks_par ?_)
  symm_saturate
  refine ev_pick (n := 6) (by decide) (by decide) fun way S1 hw => ?_
  symm_saturate
  refine ks_for ?_
  refine ka_iEnG ?_
  symm_saturate
  refine ⟨_, _, _, rfl, rfl, fun i ρ S => ∃ (f : List (Str × Str)) (a b c : Option D), ρ = [none, some (lS xs), some (.list (f.map prS)), some (.int (way : Nat)), a, b, c, none, none, none, none, none] ∧ (∀ p ∈ f, p ∈ pairsOf xs) ∧ f.length ≤ i * 100, ⟨[], none, none, none, rfl, (fun p hp => nomatch hp), by simp⟩, ?_, ?_⟩
  · rintro i dd ρ S hd ⟨f, a, b, c, rfl, hf, hfl⟩
    obtain ⟨o, ho, rfl⟩ := enumD_at hd
    rw [List.getElem?_map] at ho
    obtain ⟨one, hone', rfl⟩ := Option.map_eq_some_iff.mp ho
    have hone : xs[i]? = some one := hone'
    have hi : i < xs.length := (List.getElem?_eq_some_iff.mp hone).1
    refine ⟨[none, some (lS xs), some (.list (f.map prS)), some (.int (way : Nat)), some (.int (i : Nat)), some (.str one), c, none, none, none, none, none], rfl, ?_⟩
    symm_saturate
    refine ke_lcA (fun j : Nat => PyData.int (j : Nat)) (fun j => prS (xs.getD j "", one)) ?_
    refine ka_iR1 ?_
    symm_saturate
    refine ⟨(i : Nat), rfl, by omega, List.range i, by rw [Int.toNat_natCast], by rw [List.length_range]; omega, fun j hj => ⟨_, rfl, ?_⟩, ?_⟩
    · have hj' := List.mem_range.mp hj
      have hjx : xs[j]? = some (xs.getD j "") := by
        rw [List.getD_eq_getElem?_getD, List.getElem?_eq_getElem (by omega)]
        rfl
      symm_saturate
      refine ⟨.str (xs.getD j ""), ixL (by rw [List.getElem?_map, hjx]; rfl), ?_⟩
      symm_saturate
      exact ⟨rfl, rfl⟩
    refine ⟨_, add_ll (by rw [List.length_map, List.length_map, List.length_range]; omega), ?_⟩
    symm_saturate
    refine ⟨f ++ (List.range i).map fun j => (xs.getD j "", one), some (.int (i : Nat)), some (.str one), c, ?_, fun p hp => ?_, ?_⟩
    · rw [List.map_append, List.map_map]
      rfl
    · rcases List.mem_append.mp hp with hp | hp
      · exact hf p hp
      · obtain ⟨j, hj, rfl⟩ := List.mem_map.mp hp
        have hj' := List.mem_range.mp hj
        have hjx : xs[j]? = some (xs.getD j "") := by
          rw [List.getD_eq_getElem?_getD, List.getElem?_eq_getElem (by omega)]
          rfl
        exact fin_lt hx hj' hjx hone
    · rw [List.length_append, List.length_map, List.length_range]
      omega
  · rintro ρ S ⟨f, a, b, c, rfl, hf, hfl⟩
    rw [enumD_len, List.length_map] at hfl
    have hfl' : f.length ≤ 10000 := by omega
    refine seqP_nx (ks_seq (ks_if ?_))
    symm_saturate
    have hsub : ∀ {ys : List (Str × Str)}, ys.Sublist f → (∀ p ∈ ys, p ∈ pairsOf xs) ∧ ys.length ≤ 10000 := fun h => ⟨fun p hp => hf p (h.subset hp), by have := h.length_le; omega⟩
    refine ⟨fun c1 => ?_, fun c1 => ?_⟩
    · symm_saturate
      refine ev_pick (n := 3) (by decide) (by decide) fun m S2 hm => ?_
      symm_saturate
      refine ke_lcS prS prS ?_
      symm_saturate
      refine ⟨f, rfl, by omega, fun p _ => ⟨_, rfl, fun S => ?_⟩, fun ys S' hys => ?_⟩
      · symm_saturate
        refine ev_pick (n := 4) (by decide) (by decide) fun j S' hj => ?_
        symm_saturate
        intro _
        symm_saturate
        rfl
      · exact k ys S' (hsub hys).1 (hsub hys).2
    · symm_saturate
      refine ke_lcA (fun j : Nat => PyData.int (j : Nat)) (fun j => prS (xs.getD j "", xs.getD (j + 1) "")) ?_
      refine ka_iR1 ?_
      symm_saturate
      have hgd : ∀ j, j < xs.length → xs[j]? = some (xs.getD j "") := fun j hj => by
        rw [List.getD_eq_getElem?_getD, List.getElem?_eq_getElem hj]
        rfl
      refine ⟨((xs.length - 1 : Nat) : Int), by rw [List.length_map]; congr 3; omega, by omega, List.range (xs.length - 1), by rw [Int.toNat_natCast], by rw [List.length_range]; omega, fun j hj => ⟨_, rfl, ?_⟩, ?_⟩
      · have hj' := List.mem_range.mp hj
        symm_saturate
        refine ⟨.str (xs.getD j ""), ixL (by rw [List.getElem?_map, hgd j (by omega)]; rfl), ?_⟩
        symm_saturate
        refine ⟨.str (xs.getD (j + 1) ""), ixL (i := j + 1) (by rw [List.getElem?_map, hgd (j + 1) (by omega)]; rfl), ?_⟩
        symm_saturate
        exact ⟨rfl, rfl⟩
      symm_saturate
      have hline : ∀ p ∈ (List.range (xs.length - 1)).map (fun j => (xs.getD j "", xs.getD (j + 1) "")), p ∈ pairsOf xs := fun p hp => by
        obtain ⟨j, hj, rfl⟩ := List.mem_map.mp hp
        have hj' := List.mem_range.mp hj
        exact fin_lt hx (Nat.lt_succ_self j) (hgd j (by omega)) (hgd (j + 1) (by omega))
      have hmap : (List.range (xs.length - 1)).map (fun j => prS (xs.getD j "", xs.getD (j + 1) "")) = ((List.range (xs.length - 1)).map fun j => (xs.getD j "", xs.getD (j + 1) "")).map prS := by rw [List.map_map]; rfl
      rw [hmap]
      refine ks_if ?_
      symm_saturate
      refine ⟨_, good_int.eq, ?_⟩
      symm_saturate
      refine ⟨fun c2 => ?_, fun c2 => ?_⟩
      · symm_saturate
        exact k _ S hline (by rw [List.length_map, List.length_range]; omega)
      · symm_saturate
        refine ks_if ?_
        symm_saturate
        refine ⟨_, good_int.eq, ?_⟩
        symm_saturate
        refine ⟨fun c3 => ?_, fun c3 => ?_⟩
        · symm_saturate
          obtain ⟨x0, r, rfl⟩ : ∃ x0 r, xs = x0 :: r := by
            cases xs with
            | nil => exact absurd rfl h0
            | cons x0 r => exact ⟨x0, r, rfl⟩
          have hrl : r.length + 1 ≤ 100 := hl
          refine ⟨.str x0, ixl0, ?_⟩
          symm_saturate
          refine ⟨_, ix_last h0, ?_⟩
          symm_saturate
          refine ⟨_, int_of _, ?_⟩
          symm_saturate
          refine ⟨_, mul_bool (.tuple [.str x0, .str ((x0 :: r).getLast h0)]) _, ?_⟩
          refine ⟨_, add_ll (by rw [List.length_map, List.length_map, List.length_range]; split <;> simp <;> omega), ?_⟩
          symm_saturate
          generalize hbb : decide ((((x0 :: r).map PyData.str).length : Int) > 2) = bb
          have hm : (((List.range ((x0 :: r).length - 1)).map fun j => ((x0 :: r).getD j "", (x0 :: r).getD (j + 1) "")).map prS ++ if bb = true then [PyData.tuple [.str x0, .str ((x0 :: r).getLast h0)]] else []) = (((List.range ((x0 :: r).length - 1)).map fun j => ((x0 :: r).getD j "", (x0 :: r).getD (j + 1) "")) ++ (if bb = true then [(x0, (x0 :: r).getLast h0)] else [])).map prS := by
            rw [List.map_append]
            cases bb <;> rfl
          rw [hm]
          refine k _ S (fun p hp => ?_) ?_
          · rcases List.mem_append.mp hp with hp | hp
            · exact hline p hp
            · cases bb with
              | false => simp at hp
              | true =>
                rw [if_pos rfl, List.mem_singleton] at hp
                rw [hp]
                rw [decide_eq_true_eq, List.length_map] at hbb
                have hlast : (x0 :: r)[(x0 :: r).length - 1]? = some ((x0 :: r).getLast h0) := by
                  rw [← List.getLast?_eq_getElem?, List.getLast?_eq_some_getLast h0]
                exact fin_lt hx (i := 0) (by omega) rfl hlast
          · rw [List.length_append, List.length_map, List.length_range]
            split <;> simp <;> omega
        · symm_saturate
          refine ke_lcS PyData.str PyData.str ?_
          symm_saturate
          refine ⟨xs, rfl, by omega, fun s _ => ⟨_, rfl, fun S => ?_⟩, fun lot S3 hlot => ?_⟩
          · symm_saturate
            refine ev_pick (n := 2) (by decide) (by decide) fun j S' hj => ?_
            symm_saturate
            refine ⟨_, good_int.eq, ?_⟩
            symm_saturate
            intro _
            symm_saturate
            rfl
          symm_saturate
          refine ke_lcS prS prS ?_
          symm_saturate
          refine ⟨f, rfl, by omega, fun p _ => ⟨_, rfl, fun S => ?_⟩, fun ys S' hys => ?_⟩
          · refine kb_or' ?_
            symm_saturate
            refine ⟨_, (lot_lS lot).isin p.1, ?_⟩
            symm_saturate
            refine ⟨_, (lot_lS lot).isin p.2, ?_⟩
            refine ⟨_, good_bool.ne (x := decide (p.1 ∈ lot)) (y := decide (p.2 ∈ lot)), ?_⟩
            symm_saturate
            refine ⟨fun _ => ?_, fun _ => fun _ => ?_⟩
            · symm_saturate
              refine ev_pick (n := 6) (by decide) (by decide) fun j S' hj => ?_
              symm_saturate
              refine ⟨_, good_int.eq, ?_⟩
              symm_saturate
              intro _
              symm_saturate
              rfl
            · symm_saturate
              rfl
          · exact k ys S' (hsub hys).1 (hsub hys).2
end LW

set_option Elab.async false
set_option linter.all false
set_option maxRecDepth 100000
set_option maxHeartbeats 4000000
namespace LW
open PySem PySem.Spec PyProof.Rows L2 TL
local macro_rules | `(tactic| symm_saturate) => `(tactic| repeat (first
  | ((with_reducible refine ke_rd' ?_); refine ⟨_, rfl, ?_⟩)
  | with_reducible refine ke_cst ?_ | with_reducible refine ke_b2 ?_ | with_reducible refine ke_u1 ?_ | with_reducible refine ke_cN ?_ | with_reducible refine ke_cS ?_ | with_reducible refine ke_cI ?_
  | with_reducible refine ke_mkT ?_ | with_reducible refine ke_mkL ?_ | with_reducible refine ke_bE ?_ | with_reducible refine ke_sl3 ?_ | with_reducible refine ko_N ?_ | with_reducible refine ko_S ?_ | with_reducible refine ka_N ?_ | with_reducible refine ka_C ?_ | with_reducible refine ka_iE ?_
  | with_reducible refine kb_tst ?_ | with_reducible refine kb_bT ?_ | with_reducible refine kb_not ?_ | with_reducible refine ks_seq ?_ | with_reducible refine ks_N ?_ | with_reducible refine ks_set ?_ | with_reducible refine ks_par ?_ | with_reducible refine ks_ret ?_
  | with_reducible refine seqP_nx ?_ | with_reducible refine seqP_rt ?_ | with_reducible refine lapP_nx ?_ | with_reducible refine lapP_rt ?_ | with_reducible refine lapP_ct ?_ | with_reducible refine lapP_bk ?_ | with_reducible refine seqP_ct ?_ | with_reducible refine seqP_bk ?_ | with_reducible refine retP_rt ?_ | with_reducible refine retS_rt ?_
  | with_reducible refine ks_thaw ?_ | with_reducible refine ke_newK ?_ | with_reducible refine ke_newT ?_ | with_reducible refine ke_mkTV ?_ | with_reducible refine ke_mkLV ?_
  | (with_reducible first
    | refine ⟨_, add_ii _ _, ?_⟩ | refine ⟨_, sub_ii _ _, ?_⟩ | refine ⟨_, lt_ii _ _, ?_⟩ | refine ⟨_, le_ii _ _, ?_⟩ | refine ⟨_, gt_ii _ _, ?_⟩ | refine ⟨_, ge_ii _ _, ?_⟩ | refine ⟨_, neg_i _, ?_⟩
    | refine ⟨_, len_l _, ?_⟩ | refine ⟨_, len_t _, ?_⟩ | refine ⟨_, tup_l _, ?_⟩ | refine ⟨_, tup_t _, ?_⟩ | refine ⟨_, lst_l _, ?_⟩ | refine ⟨_, lst_t _, ?_⟩)
  | ((with_reducible show ∃ d, dTuple _ = some d ∧ _); first | refine ⟨_, tup_l _, ?_⟩ | refine ⟨_, tup_t _, ?_⟩)
  | ((with_reducible show ∃ d, dLen _ = some d ∧ _); first | refine ⟨_, len_l _, ?_⟩ | refine ⟨_, len_t _, ?_⟩)
  | ((with_reducible show ∃ i, _ = PyData.int i ∧ _); refine ⟨_, rfl, ?_⟩)
  | ((with_reducible show ∃ b, _ = PyData.bool b ∧ _); refine ⟨_, rfl, ?_⟩)
  | ((with_reducible show ∃ ds, items _ = some ds ∧ _); refine ⟨_, rfl, ?_⟩)
  | ((with_reducible show ∃ d, dSub2 _ _ = some d ∧ _); first | refine ⟨_, ix0, ?_⟩ | refine ⟨_, ix1, ?_⟩ | refine ⟨_, ix2, ?_⟩ | refine ⟨_, ix3, ?_⟩ | refine ⟨_, ixl0, ?_⟩ | refine ⟨_, ixl1, ?_⟩)))

theorem tied_snoc (f : List (Str × Str)) (p : Str × Str) : (fun i j => (tied f i j || (decide (i = p.1) && decide (j = p.2))) || (decide (i = p.2) && decide (j = p.1))) = tied (f ++ [p]) := by
  funext i j
  unfold tied
  simp only [List.mem_append, List.mem_singleton, Prod.ext_iff]
  by_cases a1 : i = p.1 <;> by_cases a2 : j = p.2 <;> by_cases a3 : i = p.2 <;> by_cases a4 : j = p.1 <;> by_cases a5 : (i, j) ∈ f <;> by_cases a6 : (j, i) ∈ f <;> simp_all
theorem known_eqC {L : D} {f : List (Str × Str)} (hL : items L = some (f.map prS)) (hl : f.length ≤ 10000) : ∃ kvs, m__law_known [L] = some (.dict kvs) ∧ Kn (tied f) kvs := by
  suffices h : KS g__law_known (([L].map some) ++ List.replicate (4 - 1) none) S0 (fun r => ∃ kvs S', r = .rt (.dict kvs) S' ∧ Kn (tied f) kvs) by
    obtain ⟨r, e, kvs, S', rfl, K⟩ := h
    exact ⟨kvs, kp_run ⟨_, e, rfl⟩, K⟩
  unfold g__law_known
  refine ks_seq (ks_own ?_)
  symm_saturate
  refine ⟨rfl, ?_⟩
  symm_saturate
  refine ks_forT prS ?_
  symm_saturate
  refine ⟨_, hL, f, rfl, fun i ρ S => ∃ (kvs : List (D × D)) (a b : Option D), ρ = [some L, some (.dict kvs), a, b] ∧ Kn (tied (f.take i)) kvs ∧ kvs.length ≤ 2 * i + 1, ⟨_, none, none, rfl, kn0, by simp⟩, ?_, ?_⟩
  · rintro i p ρ S hp ⟨kvs, a, b, rfl, hk, hkl⟩
    have hi : i < f.length := (List.getElem?_eq_some_iff.mp hp).1
    refine ⟨[some L, some (.dict kvs), some (.str p.1), some (.str p.2)], rfl, ?_⟩
    have k1 := hk.put p.1 p.2 (.int 0)
    have k2 := k1.put p.2 p.1 (.int 0)
    have l1 := putD_len kvs (prS (p.1, p.2)) (.int 0)
    have l2 := putD_len (putD kvs (prS (p.1, p.2)) (.int 0)) (prS (p.2, p.1)) (.int 0)
    refine ks_seq (ks_putK ?_)
    symm_saturate
    refine ⟨_, putAt_val (k := prS (p.1, p.2)) rfl (ok_prS hk.hd _) (by omega), ?_⟩
    symm_saturate
    refine ks_putK ?_
    symm_saturate
    refine ⟨_, putAt_val (k := prS (p.2, p.1)) rfl (ok_prS k1.hd _) (by omega), ?_⟩
    symm_saturate
    refine ⟨putD (putD kvs (prS (p.1, p.2)) (.int 0)) (prS (p.2, p.1)) (.int 0), some (.str p.1), some (.str p.2), rfl, ?_, by omega⟩
    rw [List.take_add_one, hp]
    show Kn (tied (f.take i ++ [p])) _
    rw [← tied_snoc]
    exact k2
  · rintro ρ S ⟨kvs, a, b, rfl, hk, hkl⟩
    rw [List.take_length] at hk
    symm_saturate
    exact ⟨kvs, S, rfl, hk⟩
theorem lots_eqC {L : D} {xs : List Str} (hL : items L = some (xs.map .str)) (hl : xs.length ≤ 12) : m__law_lots [L] = some (.list ((subsL xs).map tS)) := by
  refine kp_run ?_
  unfold g__law_lots
  have hp : ∀ i, (subsL (xs.take i)).length ≤ 4096 := fun i => by
    rw [subsL_len]
    have h1 : (xs.take i).length ≤ 12 := by rw [List.length_take]; omega
    exact Nat.le_trans (Nat.pow_le_pow_right (by decide) h1) (by decide)
  symm_saturate
  refine ks_forT PyData.str ?_
  symm_saturate
  refine ⟨_, hL, xs, rfl, fun i ρ S => S = S0 ∧ ∃ b, ρ = [some L, some (.list ((subsL (xs.take i)).map tS)), b, none], ⟨rfl, none, rfl⟩, ?_, ?_⟩
  · rintro i x ρ S hi ⟨rfl, b, rfl⟩
    refine ⟨[some L, some (.list ((subsL (xs.take i)).map tS)), some (.str x), none], rfl, ?_⟩
    symm_saturate
    refine ke_lcA tS (fun l => tS (l ++ [x])) ?_
    symm_saturate
    refine ⟨subsL (xs.take i), rfl, by have := hp i; omega, fun l hl' => ⟨_, rfl, ?_⟩, ?_⟩
    · symm_saturate
      have hll : l.length ≤ 12 := Nat.le_trans ((subsL_mem.mp hl').length_le) (by rw [List.length_take]; omega)
      refine ⟨tS (l ++ [x]), ?_, rfl, rfl⟩
      unfold tS
      rw [List.map_append]
      exact add_tt (by rw [List.length_map]; simp; omega)
    refine ⟨_, add_ll (by rw [List.length_map, List.length_map]; have := hp i; omega), ?_⟩
    symm_saturate
    refine ⟨rfl, some (.str x), ?_⟩
    rw [List.take_add_one, hi]
    show _ = [some L, some (.list ((subsL (xs.take i ++ [x])).map tS)), some (.str x), none]
    rw [subsL_snoc, List.map_append, List.map_map]
    rfl
  · rintro ρ S ⟨rfl, b, rfl⟩
    rw [List.take_length]
    symm_saturate
    rfl
end LW

set_option Elab.async false
set_option linter.all false
set_option maxRecDepth 100000
set_option maxHeartbeats 4000000
namespace LW
open PySem PySem.Spec PyProof.Rows L2 TL
def topS (i : Nat) : Stmt := PySem.Challenge.pw_forcedarrows_k37_whole_later_and_at.main.body.getD i (.Pass ⟨0, 0, 0, 0⟩)
abbrev s_is_long : Stmt := topS 9
abbrev s_not_long : Stmt := topS 10
abbrev s_number_line : Stmt := topS 11
abbrev s_line_at : Stmt := topS 12
abbrev s_number_at : Stmt := topS 13
abbrev s_next_unlike : Stmt := topS 14
abbrev s_number_told : Stmt := topS 15
abbrev s_beside : Stmt := topS 16
abbrev s_numbers_sum : Stmt := topS 17
abbrev s_change_of : Stmt := topS 18
abbrev s_numbers_chosen : Stmt := topS 19
abbrev s_numbers_most : Stmt := topS 20
abbrev s_number_later : Stmt := topS 21
abbrev s_last_from : Stmt := topS 22
abbrev s_post_told : Stmt := topS 26
abbrev s_web_told : Stmt := topS 27
abbrev s_names_of : Stmt := topS 28
abbrev s_post_of : Stmt := topS 29
abbrev s_copies_told : Stmt := topS 30
abbrev s_weight_told : Stmt := topS 31
abbrev s_size_told : Stmt := topS 32
abbrev s_web_later : Stmt := topS 34
abbrev s_web_at : Stmt := topS 35
abbrev s_known_ties : Stmt := topS 37
abbrev s_goes_with : Stmt := topS 39
abbrev s_greatest_lots : Stmt := topS 40
abbrev s_most_told : Stmt := topS 41
abbrev s_chain_told : Stmt := topS 42
abbrev s_lone_told : Stmt := topS 43
abbrev s__law_source : Stmt := topS 45
abbrev s__law_pick : Stmt := topS 46
abbrev s__law_of : Stmt := topS 47
abbrev s__law_length : Stmt := topS 48
abbrev s__law_posts : Stmt := topS 49
abbrev s__law_ties : Stmt := topS 50
abbrev s__law_known : Stmt := topS 51
abbrev s__law_lots : Stmt := topS 52
abbrev s__law_late_posts : Stmt := topS 53
abbrev s__law_greatest : Stmt := topS 54
abbrev s_law : Stmt := topS 55
theorem sc_is_long : FnScope ["number"] ["number"] (defScope s_is_long) := ⟨rfl, rfl, rfl, by decide +kernel, rfl, by decide +kernel, by decide +kernel⟩
theorem ok_is_long {P : Program} {w : World} {K : PySem.W.Frag} {mg : Str → Option Value} {base : Heap} (F : DefG K mg "is_long" s_is_long ["number"])  (b_abs : mg "abs" = none) (b_str : mg "str" = none) (b_len : mg "len" = none) (k_SURE_BITS : ∃ t, mg "SURE_BITS" = some (.int 997 t)) (k_MOST_FIGURES : ∃ t, mg "MOST_FIGURES" = some (.int 300 t)) :
  CalG P w K mg base 1 "is_long" (spP 1 m_is_long) :=
  cal_P (kb := kdL []) (kd := kdL []) (kd' := kdL []) F sc_is_long rfl (by decide) fun f cdv A outer s H Z room gd =>
    (p_one (p_ret (ps_ret (f2s (v_or (v_of (x_cmp o_gt (f2s (x_bits (x2s (xv 0 (pv 0))))) (f2s (x_gint (by rfl) k_SURE_BITS.choose_spec)) (nomark _))) (v_one (v_of (x_cmp o_gt (f2s (x_fn c_len (by rfl) b_len bt_len (a_cons (f2s (x_ty c_str (by rfl) b_str bt_str (a_cons (f2s (x_fn c_abs (by rfl) b_abs bt_abs (a_cons (x2s (xv 0 (pv 0))) a_nil))) a_nil))) a_nil))) (f2s (x_gint (by rfl) k_MOST_FIGURES.choose_spec)) (nomark _)))))))))
theorem sc_not_long : FnScope ["pieces", "piece", "number"] ["pieces"] (defScope s_not_long) := ⟨rfl, rfl, rfl, by decide +kernel, rfl, by decide +kernel, by decide +kernel⟩
theorem ok_not_long {P : Program} {w : World} {K : PySem.W.Frag} {mg : Str → Option Value} {base : Heap} (F : DefG K mg "not_long" s_not_long ["pieces"]) (c_is_long : CalG P w K mg base 1 "is_long" (spP 1 m_is_long)) (b_any : mg "any" = none)  :
  CalG P w K mg base 2 "not_long" (spP 1 m_not_long) :=
  cal_P (kb := kdL []) (kd := kdL []) (kd' := kdL []) F sc_not_long rfl (by decide) fun f cdv A outer s H Z room gd =>
    (p_cons (p_for PassesOwn.never rfl (i_seq (xv 0 (pv 0))) (g_name (pg_name (i := 1) sc_not_long.nd rfl (by first | exact .inl rfl | exact .inr rfl))) (p_one (p_if (t_val (f2s (x_fn (c_any rfl) (by rfl) b_any bt_any (a_cons (f2s (x_lc rfl sc_not_long.nd (i_seq (xv 1 (pv 1))) (blk_by (own := [("number", 2)]) (by kernel_rfl)) (not_in rfl) (sub_in rfl) (fun _ _ _ _ _ => (g_name (pg_name (i := 2) sc_not_long.nd rfl (by first | exact .inl rfl | exact .inr rfl)))) (fun _ _ _ _ _ => ts_nil) (fun _ _ _ _ _ => (y_P c_is_long gd room (ax_cons (xv 2 (pv 2)) ax_nil))))) a_nil)))) (p_one p_bad) p_nil)))
    (p_one (p_ret (ps_ret (x2s (xv 0 (pv 0)))))))
theorem sc_number_line : FnScope ["value", "step"] ["value", "step"] (defScope s_number_line) := ⟨rfl, rfl, rfl, by decide +kernel, rfl, by decide +kernel, by decide +kernel⟩
theorem ok_number_line {P : Program} {w : World} {K : PySem.W.Frag} {mg : Str → Option Value} {base : Heap} (F : DefG K mg "number_line" s_number_line ["value", "step"]) (c_not_long : CalG P w K mg base 2 "not_long" (spP 1 m_not_long))   :
  CalG P w K mg base 3 "number_line" (spP 2 m_number_line) :=
  cal_P (kb := kdL []) (kd := kdL []) (kd' := kdL []) F sc_number_line rfl (by decide) fun f cdv A outer s H Z room gd =>
    (p_one (p_ret (ps_ret (x2s (y_P c_not_long gd room (ax_cons (f2x (x_tup (ax_cons (f2x (x_tup (ax_cons (f2x x_int) (ax_cons (xv 0 (pv 0)) (ax_cons (xv 1 (pv 1)) ax_nil))))) ax_nil))) ax_nil))))))
theorem sc_line_at : FnScope ["number", "n", "begin", "value", "step", "piece"] ["number", "n"] (defScope s_line_at) := ⟨rfl, rfl, rfl, by decide +kernel, rfl, by decide +kernel, by decide +kernel⟩
theorem ok_line_at {P : Program} {w : World} {K : PySem.W.Frag} {mg : Str → Option Value} {base : Heap} (F : DefG K mg "line_at" s_line_at ["number", "n"])    :
  CalG P w K mg base 1 "line_at" (spP 2 m_line_at) :=
  cal_P (kb := kdL []) (kd := kdL []) (kd' := kdL []) F sc_line_at rfl (by decide) fun f cdv A outer s H Z room gd =>
    (p_cons (p_unp (ps_asg (x_sub room.units (f2s (x_lc rfl sc_line_at.nd (i_seq (xv 0 (pv 0))) (blk_by (own := [("piece", 5)]) (by kernel_rfl)) (not_in rfl) (sub_in rfl) (fun _ _ _ _ _ => (g_name (pg_name (i := 5) sc_line_at.nd rfl (by first | exact .inl rfl | exact .inr rfl)))) (fun _ _ _ _ _ => (ts_one (t_cmp o_le (x2s (x_sub room.units (x2s (xv 5 (pv 5))) (f2s x_int) (fun _ _ => rfl) (fun _ _ => rfl))) (x2s (xv 1 (pv 1))) (nomark _)))) (fun _ _ _ _ _ => (xv 5 (pv 5))))) (f2s (x_un o_neg (f2s x_int))) (fun _ _ => rfl) (fun _ _ => rfl)) (g_tup rfl (gs_cons (g_name (pg_name (i := 2) sc_line_at.nd rfl (by first | exact .inl rfl | exact .inr rfl))) (gs_cons (g_name (pg_name (i := 3) sc_line_at.nd rfl (by first | exact .inl rfl | exact .inr rfl))) (gs_cons (g_name (pg_name (i := 4) sc_line_at.nd rfl (by first | exact .inl rfl | exact .inr rfl))) gs_nil))) (sC_len (sC_len (sC_len s0_len))))))
    (p_one (p_ret (ps_ret (f2s (x_tup (ax_cons (f2x (x_bin o_add (x2s (xv 3 (pv 3))) (f2s (x_bin o_mul (x2s (xv 4 (pv 4))) (f2s (x_bin o_sub (x2s (xv 1 (pv 1))) (x2s (xv 2 (pv 2))))))))) (ax_cons (xv 4 (pv 4)) ax_nil))))))))
theorem sc_number_at : FnScope ["number", "n"] ["number", "n"] (defScope s_number_at) := ⟨rfl, rfl, rfl, by decide +kernel, rfl, by decide +kernel, by decide +kernel⟩
theorem ok_number_at {P : Program} {w : World} {K : PySem.W.Frag} {mg : Str → Option Value} {base : Heap} (F : DefG K mg "number_at" s_number_at ["number", "n"]) (c_line_at : CalG P w K mg base 1 "line_at" (spP 2 m_line_at))   :
  CalG P w K mg base 2 "number_at" (spP 2 m_number_at) :=
  cal_P (kb := kdL []) (kd := kdL []) (kd' := kdL []) F sc_number_at rfl (by decide) fun f cdv A outer s H Z room gd =>
    (p_one (p_ret (ps_ret (x2s (x_sub room.units (x2s (y_P c_line_at gd room (ax_cons (xv 0 (pv 0)) (ax_cons (xv 1 (pv 1)) ax_nil)))) (f2s x_int) (fun _ _ => rfl) (fun _ _ => rfl))))))
theorem sc_next_unlike : FnScope ["raw", "here", "first", "value", "step", "k", "piece", "end", "begin", "there", "turn"] ["raw", "here"] (defScope s_next_unlike) := ⟨rfl, rfl, rfl, by decide +kernel, rfl, by decide +kernel, by decide +kernel⟩
theorem ok_next_unlike {P : Program} {w : World} {K : PySem.W.Frag} {mg : Str → Option Value} {base : Heap} (F : DefG K mg "next_unlike" s_next_unlike ["raw", "here"]) (c_line_at : CalG P w K mg base 1 "line_at" (spP 2 m_line_at)) (b_enumerate : mg "enumerate" = none) (b_len : mg "len" = none) (b_max : mg "max" = none)  :
  CalG P w K mg base 2 "next_unlike" (spP 2 m_next_unlike) :=
  cal_P (kb := kdL []) (kd := kdL []) (kd' := kdL []) F sc_next_unlike rfl (by decide) fun f cdv A outer s H Z room gd =>
    (p_cons (p_unp (ps_asg (xv 1 (pv 1)) (g_tup rfl (gs_cons (g_name (pg_name (i := 2) sc_next_unlike.nd rfl (by first | exact .inl rfl | exact .inr rfl))) (gs_cons (g_name (pg_name (i := 3) sc_next_unlike.nd rfl (by first | exact .inl rfl | exact .inr rfl))) (gs_cons (g_name (pg_name (i := 4) sc_next_unlike.nd rfl (by first | exact .inl rfl | exact .inr rfl))) gs_nil))) (sC_len (sC_len (sC_len s0_len))))))
    (p_cons (p_for PassesOwn.never rfl (i_enumG (by rfl) b_enumerate (ax_cons (xv 0 (pv 0)) ax_nil)) (g_tup rfl (gs_cons (g_name (pg_name (i := 5) sc_next_unlike.nd rfl (by first | exact .inl rfl | exact .inr rfl))) (gs_cons (g_name (pg_name (i := 6) sc_next_unlike.nd rfl (by first | exact .inl rfl | exact .inr rfl))) gs_nil)) (sC_len (sC_len s0_len))) (p_cons (p_set (ps_set (i := 7) sc_next_unlike.nd rfl (by first | exact .inl rfl | exact .inr rfl) (x_if (t_cmp o_lt (f2s (x_bin o_add (x2s (xv 5 (pv 5))) (f2s x_int))) (f2s (x_fn c_len (by rfl) b_len bt_len (a_cons (x2s (xv 0 (pv 0))) a_nil))) (nomark _)) (x_sub room.units (x2s (x_sub room.units (x2s (xv 0 (pv 0))) (f2s (x_bin o_add (x2s (xv 5 (pv 5))) (f2s x_int))) (fun _ _ => rfl) (fun _ _ => rfl))) (f2s x_int) (fun _ _ => rfl) (fun _ _ => rfl)) (f2x x_non))))
      (p_cons (p_set (asg_f2x (ps_set (i := 8) sc_next_unlike.nd rfl (by first | exact .inl rfl | exact .inr rfl) (x_fn (c_maxA room.units rfl) (by rfl) b_max bt_max (a_cons (x2s (x_sub room.units (x2s (xv 6 (pv 6))) (f2s x_int) (fun _ _ => rfl) (fun _ _ => rfl))) (a_cons (f2s (x_bin o_add (x2s (xv 2 (pv 2))) (f2s x_int))) a_nil))))))
      (p_one (p_if (PW.pt (w_or (t_cmp o_is (x2s (xv 7 (pv 7))) (f2s x_non) (nomark _)) (w_or1 (t_cmp o_lt (x2s (xv 8 (pv 8))) (x2s (xv 7 (pv 7))) (nomark _))))) (p_cons (p_unp (ps_asg (y_P c_line_at gd room (ax_cons (f2x (x_tup (ax_cons (xv 6 (pv 6)) ax_nil))) (ax_cons (xv 8 (pv 8)) ax_nil))) (g_tup rfl (gs_cons (g_name (pg_name (i := 9) sc_next_unlike.nd rfl (by first | exact .inl rfl | exact .inr rfl))) (gs_cons (g_name (pg_name (i := 10) sc_next_unlike.nd rfl (by first | exact .inl rfl | exact .inr rfl))) gs_nil)) (sC_len (sC_len s0_len)))))
      (p_cons (p_if (t_cmp (o_ne room.units) (x2s (xv 9 (pv 9))) (f2s (x_bin o_add (x2s (xv 3 (pv 3))) (f2s (x_bin o_mul (x2s (xv 4 (pv 4))) (f2s (x_bin o_sub (x2s (xv 8 (pv 8))) (x2s (xv 2 (pv 2))))))))) (nomark _)) (p_one (p_ret (ps_ret (x2s (xv 8 (pv 8)))))) p_nil)
      (p_one (p_if (PW.pt (w_and (t_cmp (o_ne room.units) (x2s (xv 10 (pv 10))) (x2s (xv 4 (pv 4))) (nomark _)) (w_and1 (PW.pt (w_or (t_cmp o_is (x2s (xv 7 (pv 7))) (f2s x_non) (nomark _)) (w_or1 (t_cmp o_lt (f2s (x_bin o_add (x2s (xv 8 (pv 8))) (f2s x_int))) (x2s (xv 7 (pv 7))) (nomark _)))))))) (p_one (p_ret (ps_ret (f2s (x_bin o_add (x2s (xv 8 (pv 8))) (f2s x_int)))))) p_nil)))) p_nil)))))
    (p_one (p_ret (ps_ret (f2s x_non))))))
theorem sc_number_told : FnScope ["raw", "found", "n", "value"] ["raw"] (defScope s_number_told) := ⟨rfl, rfl, rfl, by decide +kernel, rfl, by decide +kernel, by decide +kernel⟩
theorem ok_number_told {P : Program} {w : World} {K : PySem.W.Frag} {mg : Str → Option Value} {base : Heap} (F : DefG K mg "number_told" s_number_told ["raw"]) (c_not_long : CalG P w K mg base 2 "not_long" (spP 1 m_not_long)) (c_number_at : CalG P w K mg base 2 "number_at" (spP 2 m_number_at)) (c_next_unlike : CalG P w K mg base 2 "next_unlike" (spP 2 m_next_unlike)) (b_len : mg "len" = none) (b_tuple : mg "tuple" = none) (k_MOST_PIECES : ∃ t, mg "MOST_PIECES" = some (.int 60 t)) :
  CalG P w K mg base 3 "number_told" (spP 1 m_number_told) :=
  cal_P (kb := kdL []) (kd := kdL [1]) (kd' := kdL []) F sc_number_told rfl (by decide) fun f cdv A outer s H Z room gd =>
    (p_cons (p_par (sto_par (ps_par (i := 1) (j := 2) rfl sc_number_told.nd rfl rfl (by decide) rfl rfl (m_own (x_lst ax_nil) (m_cl (f2x x_int) m_nil)) rfl)))
    (p_cons (p_if (t_cmp (o_eq room.units) (f2s (x_fn c_len (by rfl) b_len bt_len (a_cons (x2s (xv 0 (pv 0))) a_nil))) (f2s x_int) (nomark _)) (p_one (p_ret (ps_ret (x2s (y_P c_not_long gd room (ax_cons (f2x (x_tup (ax_cons (f2x (x_ty c_tuple (by rfl) b_tuple bt_tuple (a_cons (x2s (x_sub room.units (x2s (xv 0 (pv 0))) (f2s x_int) (fun _ _ => rfl) (fun _ _ => rfl))) a_nil))) ax_nil))) ax_nil)))))) p_nil)
    (p_cons (p_while 100000 PassesOwn.never (t_cmp o_isnot (x2s (xv 2 (pv 2))) (f2s x_non) (nomark _)) (p_cons (p_if (t_cmp (o_eq room.units) (f2s (x_fn c_len (by rfl) b_len bt_len (a_cons (xo 1 (pv 1)) a_nil))) (f2s (x_gint (by rfl) k_MOST_PIECES.choose_spec)) (nomark _)) (p_one p_bad) p_nil)
      (p_cons (p_set (ps_set (i := 3) sc_number_told.nd rfl (by first | exact .inl rfl | exact .inr rfl) (y_P c_number_at gd room (ax_cons (xv 0 (pv 0)) (ax_cons (xv 2 (pv 2)) ax_nil)))))
      (p_cons (p_app (ps_expr (pe_bm PySem.F.plainAttrs_list PySem.F.slot_list_append PySem.F.type_list_append mt_append (pv 1) (pa_cons (f2x (x_tup (ax_cons (xv 2 (pv 2)) (ax_cons (xv 3 (pv 3)) (ax_cons (f2x (x_bin o_sub (x2s (y_P c_number_at gd room (ax_cons (xv 0 (pv 0)) (ax_cons (f2x (x_bin o_add (x2s (xv 2 (pv 2))) (f2s x_int))) ax_nil)))) (x2s (xv 3 (pv 3))))) ax_nil))))) pa_nil))))
      (p_one (p_set (ps_set (i := 2) sc_number_told.nd rfl (by first | exact .inl rfl | exact .inr rfl) (y_P c_next_unlike gd room (ax_cons (xv 0 (pv 0)) (ax_cons (x_sub room.units (xo 1 (pv 1)) (f2s (x_un o_neg (f2s x_int))) (fun _ _ => rfl) (fun _ _ => rfl)) ax_nil))))))))))
    (p_freeze (kd2 := kdL []) (kdL_sub rfl) (p_one (p_ret (ps_ret (x2s (y_P c_not_long gd room (ax_cons (f2x (x_ty c_tuple (by rfl) b_tuple bt_tuple (a_cons (x2s (xv 1 (pv 1))) a_nil))) ax_nil))))))))))
theorem sc_beside : FnScope ["one", "other", "begins", "piece", "ends", "begin", "end"] ["one", "other"] (defScope s_beside) := ⟨rfl, rfl, rfl, by decide +kernel, rfl, by decide +kernel, by decide +kernel⟩
theorem ok_beside {P : Program} {w : World} {K : PySem.W.Frag} {mg : Str → Option Value} {base : Heap} (F : DefG K mg "beside" s_beside ["one", "other"]) (c_line_at : CalG P w K mg base 1 "line_at" (spP 2 m_line_at)) (b_dict : mg "dict" = none) (b_sorted : mg "sorted" = none) (b_zip : mg "zip" = none)  :
  CalG P w K mg base 2 "beside" (spP 2 m_beside) :=
  cal_P (kb := kdL []) (kd := kdL []) (kd' := kdL []) F sc_beside rfl (by decide) fun f cdv A outer s H Z room gd =>
    (p_cons (p_set (asg_f2x (ps_set (i := 2) sc_beside.nd rfl (by first | exact .inl rfl | exact .inr rfl) (x_fn (c_sortedC room.units rfl) (by rfl) b_sorted bt_sorted (a_cons (f2s (x_ty (c_dictK rfl) (by rfl) b_dict bt_dict (a_cons (f2s (x_lc rfl sc_beside.nd (i_seq (f2x (x_tupV (av_star (xv 0 (pv 0)) (av_star (xv 1 (pv 1)) av_nil))))) (blk_by (own := [("piece", 3)]) (by kernel_rfl)) (not_in rfl) (sub_in rfl) (fun _ _ _ _ _ => (g_name (pg_name (i := 3) sc_beside.nd rfl (by first | exact .inl rfl | exact .inr rfl)))) (fun _ _ _ _ _ => ts_nil) (fun _ _ _ _ _ => (f2x (x_tup (ax_cons (x_sub room.units (x2s (xv 3 (pv 3))) (f2s x_int) (fun _ _ => rfl) (fun _ _ => rfl)) (ax_cons (f2x x_bl) ax_nil))))))) a_nil))) a_nil)))))
    (p_cons (p_set (asg_f2x (ps_set (i := 4) sc_beside.nd rfl (by first | exact .inl rfl | exact .inr rfl) (x_lstV (av_star (f2x (x_sl (x2s (xv 2 (pv 2))) (p_some (f2s x_int)) p_none)) (av_cons (f2x x_non) av_nil))))))
    (p_one (p_ret (ps_ret (f2s (x_lc rfl sc_beside.nd (i_zipK (by rfl) b_zip (ax_cons (xv 2 (pv 2)) (ax_cons (xv 4 (pv 4)) ax_nil))) (blk_by (own := [("begin", 5), ("end", 6)]) (by kernel_rfl)) (not_in rfl) (sub_in rfl) (fun _ _ _ _ _ => (g_tup rfl (gs_cons (g_name (pg_name (i := 5) sc_beside.nd rfl (by first | exact .inl rfl | exact .inr rfl))) (gs_cons (g_name (pg_name (i := 6) sc_beside.nd rfl (by first | exact .inl rfl | exact .inr rfl))) gs_nil)) (sC_len (sC_len s0_len)))) (fun _ _ _ _ _ => ts_nil) (fun _ _ _ _ _ => (f2x (x_tup (ax_cons (xv 5 (pv 5)) (ax_cons (xv 6 (pv 6)) (ax_cons (y_P c_line_at gd room (ax_cons (xv 0 (pv 0)) (ax_cons (xv 5 (pv 5)) ax_nil))) (ax_cons (y_P c_line_at gd room (ax_cons (xv 1 (pv 1)) (ax_cons (xv 5 (pv 5)) ax_nil))) ax_nil))))))))))))))
theorem sc_numbers_sum : FnScope ["one", "other", "begin", "end", "here", "there"] ["one", "other"] (defScope s_numbers_sum) := ⟨rfl, rfl, rfl, by decide +kernel, rfl, by decide +kernel, by decide +kernel⟩
theorem ok_numbers_sum {P : Program} {w : World} {K : PySem.W.Frag} {mg : Str → Option Value} {base : Heap} (F : DefG K mg "numbers_sum" s_numbers_sum ["one", "other"]) (c_beside : CalG P w K mg base 2 "beside" (spP 2 m_beside)) (c_number_told : CalG P w K mg base 3 "number_told" (spP 1 m_number_told))   :
  CalG P w K mg base 4 "numbers_sum" (spP 2 m_numbers_sum) :=
  cal_P (kb := kdL []) (kd := kdL []) (kd' := kdL []) F sc_numbers_sum rfl (by decide) fun f cdv A outer s H Z room gd =>
    (p_one (p_ret (ps_ret (x2s (y_P c_number_told gd room (ax_cons (f2x (x_lc rfl sc_numbers_sum.nd (i_seq (y_P c_beside gd room (ax_cons (xv 0 (pv 0)) (ax_cons (xv 1 (pv 1)) ax_nil)))) (blk_by (own := [("begin", 2), ("end", 3), ("here", 4), ("there", 5)]) (by kernel_rfl)) (not_in rfl) (sub_in rfl) (fun _ _ _ _ _ => (g_tup rfl (gs_cons (g_name (pg_name (i := 2) sc_numbers_sum.nd rfl (by first | exact .inl rfl | exact .inr rfl))) (gs_cons (g_name (pg_name (i := 3) sc_numbers_sum.nd rfl (by first | exact .inl rfl | exact .inr rfl))) (gs_cons (g_name (pg_name (i := 4) sc_numbers_sum.nd rfl (by first | exact .inl rfl | exact .inr rfl))) (gs_cons (g_name (pg_name (i := 5) sc_numbers_sum.nd rfl (by first | exact .inl rfl | exact .inr rfl))) gs_nil)))) (sC_len (sC_len (sC_len (sC_len s0_len)))))) (fun _ _ _ _ _ => ts_nil) (fun _ _ _ _ _ => (f2x (x_tup (ax_cons (xv 2 (pv 2)) (ax_cons (f2x (x_bin o_add (x2s (x_sub room.units (x2s (xv 4 (pv 4))) (f2s x_int) (fun _ _ => rfl) (fun _ _ => rfl))) (x2s (x_sub room.units (x2s (xv 5 (pv 5))) (f2s x_int) (fun _ _ => rfl) (fun _ _ => rfl))))) (ax_cons (f2x (x_bin o_add (x2s (x_sub room.units (x2s (xv 4 (pv 4))) (f2s x_int) (fun _ _ => rfl) (fun _ _ => rfl))) (x2s (x_sub room.units (x2s (xv 5 (pv 5))) (f2s x_int) (fun _ _ => rfl) (fun _ _ => rfl))))) ax_nil)))))))) ax_nil))))))
theorem sc_change_of : FnScope ["begin", "gap", "turn"] ["begin", "gap", "turn"] (defScope s_change_of) := ⟨rfl, rfl, rfl, by decide +kernel, rfl, by decide +kernel, by decide +kernel⟩
theorem ok_change_of {P : Program} {w : World} {K : PySem.W.Frag} {mg : Str → Option Value} {base : Heap} (F : DefG K mg "change_of" s_change_of ["begin", "gap", "turn"])    :
  CalG P w K mg base 1 "change_of" (spP 3 m_change_of) :=
  cal_P (kb := kdL []) (kd := kdL []) (kd' := kdL []) F sc_change_of rfl (by decide) fun f cdv A outer s H Z room gd =>
    (p_cons (p_if (t_chain o_lt o_lt (x2s (xv 1 (pv 1))) (f2s x_int) (x2s (xv 2 (pv 2)))) (p_one (p_ret (ps_ret (f2s (x_bin o_add (f2s (x_bin o_add (x2s (xv 0 (pv 0))) (f2s (x_bin o_fdiv (f2s (x_un o_neg (x2s (xv 1 (pv 1))))) (x2s (xv 2 (pv 2))))))) (f2s x_int)))))) p_nil)
    (p_one (p_ret (ps_ret (f2s (x_ifF (t_chain o_lt o_lt (x2s (xv 2 (pv 2))) (f2s x_int) (x2s (xv 1 (pv 1)))) (x_bin o_add (f2s (x_bin o_add (x2s (xv 0 (pv 0))) (f2s (x_bin o_fdiv (x2s (xv 1 (pv 1))) (f2s (x_un o_neg (x2s (xv 2 (pv 2))))))))) (f2s x_int)) x_non))))))
theorem sc_numbers_chosen : FnScope ["one", "other", "sign", "raw", "begin", "end", "here", "there", "gap", "turn", "first", "second", "late"] ["one", "other", "sign"] (defScope s_numbers_chosen) := ⟨rfl, rfl, rfl, by decide +kernel, rfl, by decide +kernel, by decide +kernel⟩
theorem ok_numbers_chosen {P : Program} {w : World} {K : PySem.W.Frag} {mg : Str → Option Value} {base : Heap} (F : DefG K mg "numbers_chosen" s_numbers_chosen ["one", "other", "sign"]) (c_beside : CalG P w K mg base 2 "beside" (spP 2 m_beside)) (c_change_of : CalG P w K mg base 1 "change_of" (spP 3 m_change_of)) (c_number_told : CalG P w K mg base 3 "number_told" (spP 1 m_number_told))   :
  CalG P w K mg base 4 "numbers_chosen" (spP 3 m_numbers_chosen) :=
  cal_P (kb := kdL []) (kd := kdL [3]) (kd' := kdL []) F sc_numbers_chosen rfl (by decide) fun f cdv A outer s H Z room gd =>
    (p_cons (p_own (ps_set (i := 3) sc_numbers_chosen.nd rfl (by first | exact .inl rfl | exact .inr rfl) (x_lst ax_nil)))
    (p_cons (p_for PassesOwn.never rfl (i_seq (y_P c_beside gd room (ax_cons (xv 0 (pv 0)) (ax_cons (xv 1 (pv 1)) ax_nil)))) (g_tup rfl (gs_cons (g_name (pg_name (i := 4) sc_numbers_chosen.nd rfl (by first | exact .inl rfl | exact .inr rfl))) (gs_cons (g_name (pg_name (i := 5) sc_numbers_chosen.nd rfl (by first | exact .inl rfl | exact .inr rfl))) (gs_cons (g_name (pg_name (i := 6) sc_numbers_chosen.nd rfl (by first | exact .inl rfl | exact .inr rfl))) (gs_cons (g_name (pg_name (i := 7) sc_numbers_chosen.nd rfl (by first | exact .inl rfl | exact .inr rfl))) gs_nil)))) (sC_len (sC_len (sC_len (sC_len s0_len))))) (p_cons (p_par (sto_par (ps_par (i := 8) (j := 9) rfl sc_numbers_chosen.nd rfl rfl (by decide) rfl rfl (m_cl (f2x (x_bin o_mul (x2s (xv 2 (pv 2))) (f2s (x_bin o_sub (x2s (x_sub room.units (x2s (xv 7 (pv 7))) (f2s x_int) (fun _ _ => rfl) (fun _ _ => rfl))) (x2s (x_sub room.units (x2s (xv 6 (pv 6))) (f2s x_int) (fun _ _ => rfl) (fun _ _ => rfl))))))) (m_cl (f2x (x_bin o_mul (x2s (xv 2 (pv 2))) (f2s (x_bin o_sub (x2s (x_sub room.units (x2s (xv 7 (pv 7))) (f2s x_int) (fun _ _ => rfl) (fun _ _ => rfl))) (x2s (x_sub room.units (x2s (xv 6 (pv 6))) (f2s x_int) (fun _ _ => rfl) (fun _ _ => rfl))))))) m_nil)) rfl)))
      (p_cons (p_unp (ps_asg (f2x (x_ifF (PW.pt (w_or (t_cmp o_lt (x2s (xv 8 (pv 8))) (f2s x_int) (nomark _)) (w_or1 (PW.pt (w_and (t_cmp (o_eq room.units) (x2s (xv 8 (pv 8))) (f2s x_int) (nomark _)) (w_and1 (t_cmp o_lt (x2s (xv 9 (pv 9))) (f2s x_int) (nomark _)))))))) (x_tup (ax_cons (xv 6 (pv 6)) (ax_cons (xv 7 (pv 7)) ax_nil))) (x_tup (ax_cons (xv 7 (pv 7)) (ax_cons (xv 6 (pv 6)) ax_nil))))) (g_tup rfl (gs_cons (g_name (pg_name (i := 10) sc_numbers_chosen.nd rfl (by first | exact .inl rfl | exact .inr rfl))) (gs_cons (g_name (pg_name (i := 11) sc_numbers_chosen.nd rfl (by first | exact .inl rfl | exact .inr rfl))) gs_nil)) (sC_len (sC_len s0_len)))))
      (p_cons (p_app (ps_expr (pe_bm PySem.F.plainAttrs_list PySem.F.slot_list_append PySem.F.type_list_append mt_append (pv 3) (pa_cons (f2x (x_tupV (av_cons (xv 4 (pv 4)) (av_star (xv 10 (pv 10)) av_nil)))) pa_nil))))
      (p_cons (p_set (ps_set (i := 12) sc_numbers_chosen.nd rfl (by first | exact .inl rfl | exact .inr rfl) (y_P c_change_of gd room (ax_cons (xv 4 (pv 4)) (ax_cons (xv 8 (pv 8)) (ax_cons (xv 9 (pv 9)) ax_nil))))))
      (p_one (p_if (PW.pt (w_and (t_cmp o_isnot (x2s (xv 12 (pv 12))) (f2s x_non) (nomark _)) (w_and1 (PW.pt (w_or (t_cmp o_is (x2s (xv 5 (pv 5))) (f2s x_non) (nomark _)) (w_or1 (t_cmp o_lt (x2s (xv 12 (pv 12))) (x2s (xv 5 (pv 5))) (nomark _)))))))) (p_one (p_app (ps_expr (pe_bm PySem.F.plainAttrs_list PySem.F.slot_list_append PySem.F.type_list_append mt_append (pv 3) (pa_cons (f2x (x_tup (ax_cons (xv 12 (pv 12)) (ax_cons (f2x (x_bin o_add (x2s (x_sub room.units (x2s (xv 11 (pv 11))) (f2s x_int) (fun _ _ => rfl) (fun _ _ => rfl))) (f2s (x_bin o_mul (x2s (x_sub room.units (x2s (xv 11 (pv 11))) (f2s x_int) (fun _ _ => rfl) (fun _ _ => rfl))) (f2s (x_bin o_sub (x2s (xv 12 (pv 12))) (x2s (xv 4 (pv 4))))))))) (ax_cons (x_sub room.units (x2s (xv 11 (pv 11))) (f2s x_int) (fun _ _ => rfl) (fun _ _ => rfl)) ax_nil))))) pa_nil))))) p_nil)))))))
    (p_freeze (kd2 := kdL []) (kdL_sub rfl) (p_one (p_ret (ps_ret (x2s (y_P c_number_told gd room (ax_cons (xv 3 (pv 3)) ax_nil)))))))))
theorem sc_numbers_most : FnScope ["one", "other"] ["one", "other"] (defScope s_numbers_most) := ⟨rfl, rfl, rfl, by decide +kernel, rfl, by decide +kernel, by decide +kernel⟩
theorem ok_numbers_most {P : Program} {w : World} {K : PySem.W.Frag} {mg : Str → Option Value} {base : Heap} (F : DefG K mg "numbers_most" s_numbers_most ["one", "other"]) (c_numbers_chosen : CalG P w K mg base 4 "numbers_chosen" (spP 3 m_numbers_chosen))   :
  CalG P w K mg base 5 "numbers_most" (spP 2 m_numbers_most) :=
  cal_P (kb := kdL []) (kd := kdL []) (kd' := kdL []) F sc_numbers_most rfl (by decide) fun f cdv A outer s H Z room gd =>
    (p_one (p_ret (ps_ret (x2s (y_P c_numbers_chosen gd room (ax_cons (xv 0 (pv 0)) (ax_cons (xv 1 (pv 1)) (ax_cons (f2x x_int) ax_nil))))))))
theorem sc_number_later : FnScope ["number", "many", "pieces", "piece", "begin", "value", "step"] ["number", "many"] (defScope s_number_later) := ⟨rfl, rfl, rfl, by decide +kernel, rfl, by decide +kernel, by decide +kernel⟩
theorem ok_number_later {P : Program} {w : World} {K : PySem.W.Frag} {mg : Str → Option Value} {base : Heap} (F : DefG K mg "number_later" s_number_later ["number", "many"]) (c_line_at : CalG P w K mg base 1 "line_at" (spP 2 m_line_at)) (c_number_told : CalG P w K mg base 3 "number_told" (spP 1 m_number_told))   :
  CalG P w K mg base 4 "number_later" (spP 2 m_number_later) :=
  cal_P (kb := kdL []) (kd := kdL []) (kd' := kdL []) F sc_number_later rfl (by decide) fun f cdv A outer s H Z room gd =>
    (p_cons (p_set (asg_f2x (asg_lc (ps_setLc (i := 2) rfl sc_number_later.nd rfl rfl rfl (i_seq (xv 0 (pv 0))) (blk_by (own := [("piece", 3)]) (by kernel_rfl)) (fun _ _ _ _ _ => (g_name (pg_name (i := 3) sc_number_later.nd rfl (by first | exact .inl rfl | exact .inr rfl)))) (fun _ _ _ _ _ => (ts_one (t_cmp o_gt (x2s (x_sub room.units (x2s (xv 3 (pv 3))) (f2s x_int) (fun _ _ => rfl) (fun _ _ => rfl))) (x2s (xv 1 (pv 1))) (nomark _)))) (fun _ _ _ _ _ => (xv 3 (pv 3)))) (not_in rfl) (sub_in rfl))))
    (p_one (p_ret (ps_ret (x2s (y_P c_number_told gd room (ax_cons (f2x (x_lstV (av_cons (f2x (x_tupV (av_cons (f2x x_int) (av_star (y_P c_line_at gd room (ax_cons (xv 0 (pv 0)) (ax_cons (xv 1 (pv 1)) ax_nil))) av_nil)))) (av_star (f2x (x_lc rfl sc_number_later.nd (i_seq (xv 2 (pv 2))) (blk_by (own := [("begin", 4), ("value", 5), ("step", 6)]) (by kernel_rfl)) (not_in rfl) (sub_in rfl) (fun _ _ _ _ _ => (g_tup rfl (gs_cons (g_name (pg_name (i := 4) sc_number_later.nd rfl (by first | exact .inl rfl | exact .inr rfl))) (gs_cons (g_name (pg_name (i := 5) sc_number_later.nd rfl (by first | exact .inl rfl | exact .inr rfl))) (gs_cons (g_name (pg_name (i := 6) sc_number_later.nd rfl (by first | exact .inl rfl | exact .inr rfl))) gs_nil))) (sC_len (sC_len (sC_len s0_len))))) (fun _ _ _ _ _ => ts_nil) (fun _ _ _ _ _ => (f2x (x_tup (ax_cons (f2x (x_bin o_sub (x2s (xv 4 (pv 4))) (x2s (xv 1 (pv 1))))) (ax_cons (xv 5 (pv 5)) (ax_cons (xv 6 (pv 6)) ax_nil)))))))) av_nil)))) ax_nil)))))))
theorem sc_last_from : FnScope ["number"] ["number"] (defScope s_last_from) := ⟨rfl, rfl, rfl, by decide +kernel, rfl, by decide +kernel, by decide +kernel⟩
theorem ok_last_from {P : Program} {w : World} {K : PySem.W.Frag} {mg : Str → Option Value} {base : Heap} (F : DefG K mg "last_from" s_last_from ["number"])    :
  CalG P w K mg base 1 "last_from" (spP 1 m_last_from) :=
  cal_P (kb := kdL []) (kd := kdL []) (kd' := kdL []) F sc_last_from rfl (by decide) fun f cdv A outer s H Z room gd =>
    (p_one (p_ret (ps_ret (x2s (x_sub room.units (x2s (x_sub room.units (x2s (xv 0 (pv 0))) (f2s (x_un o_neg (f2s x_int))) (fun _ _ => rfl) (fun _ _ => rfl))) (f2s x_int) (fun _ _ => rfl) (fun _ _ => rfl))))))
theorem sc_post_told : FnScope ["name", "kind", "times", "more"] ["name", "kind", "times", "more"] (defScope s_post_told) := ⟨rfl, rfl, rfl, by decide +kernel, rfl, by decide +kernel, by decide +kernel⟩
theorem ok_post_told {P : Program} {w : World} {K : PySem.W.Frag} {mg : Str → Option Value} {base : Heap} (F : DefG K mg "post_told" s_post_told ["name", "kind", "times", "more"])   (k_APART : ∃ t, mg "APART" = some (.str "apart" t)) :
  CalG P w K mg base 1 "post_told" (spP 4 m_post_told) :=
  cal_P (kb := kdL []) (kd := kdL []) (kd' := kdL []) F sc_post_told rfl (by decide) fun f cdv A outer s H Z room gd =>
    (p_one (p_ret (ps_ret (f2s (x_tup (ax_cons (xv 0 (pv 0)) (ax_cons (x_if (t_cmp (o_eq room.units) (f2s (x_tup (ax_cons (xv 2 (pv 2)) (ax_cons (xv 3 (pv 3)) ax_nil)))) (f2s (x_tup (ax_cons (f2x x_int) (ax_cons (f2x x_int) ax_nil)))) (nomark _)) (f2x (x_gstr (by rfl) k_APART.choose_spec)) (xv 1 (pv 1))) (ax_cons (xv 2 (pv 2)) (ax_cons (xv 3 (pv 3)) ax_nil)))))))))
theorem sc_web_told : FnScope ["posts", "ties", "known", "post", "pairs", "tie", "name"] ["posts", "ties"] (defScope s_web_told) := ⟨rfl, rfl, rfl, by decide +kernel, rfl, by decide +kernel, by decide +kernel⟩
theorem ok_web_told {P : Program} {w : World} {K : PySem.W.Frag} {mg : Str → Option Value} {base : Heap} (F : DefG K mg "web_told" s_web_told ["posts", "ties"]) (c_post_told : CalG P w K mg base 1 "post_told" (spP 4 m_post_told)) (b_dict : mg "dict" = none) (b_sorted : mg "sorted" = none) (b_tuple : mg "tuple" = none)  :
  CalG P w K mg base 2 "web_told" (spP 2 m_web_told) :=
  cal_P (kb := kdL []) (kd := kdL []) (kd' := kdL []) F sc_web_told rfl (by decide) fun f cdv A outer s H Z room gd =>
    (p_cons (p_set (asg_f2x (ps_set (i := 2) sc_web_told.nd rfl (by first | exact .inl rfl | exact .inr rfl) (x_ty (c_dictK rfl) (by rfl) b_dict bt_dict (a_cons (f2s (x_lc rfl sc_web_told.nd (i_seq (xv 0 (pv 0))) (blk_by (own := [("post", 3)]) (by kernel_rfl)) (not_in rfl) (sub_in rfl) (fun _ _ _ _ _ => (g_name (pg_name (i := 3) sc_web_told.nd rfl (by first | exact .inl rfl | exact .inr rfl)))) (fun _ _ _ _ _ => ts_nil) (fun _ _ _ _ _ => (f2x (x_tup (ax_cons (x_sub room.units (x2s (xv 3 (pv 3))) (f2s x_int) (fun _ _ => rfl) (fun _ _ => rfl)) (ax_cons (y_P c_post_told gd room (ax_cons (x_sub room.units (x2s (xv 3 (pv 3))) (f2s x_int) (fun _ _ => rfl) (fun _ _ => rfl)) (ax_cons (x_sub room.units (x2s (xv 3 (pv 3))) (f2s x_int) (fun _ _ => rfl) (fun _ _ => rfl)) (ax_cons (x_sub room.units (x2s (xv 3 (pv 3))) (f2s x_int) (fun _ _ => rfl) (fun _ _ => rfl)) (ax_cons (x_sub room.units (x2s (xv 3 (pv 3))) (f2s x_int) (fun _ _ => rfl) (fun _ _ => rfl)) ax_nil))))) ax_nil))))))) a_nil)))))
    (p_cons (p_set (asg_f2x (ps_set (i := 4) sc_web_told.nd rfl (by first | exact .inl rfl | exact .inr rfl) (x_ty (c_dictT room.units rfl) (by rfl) b_dict bt_dict (a_cons (f2s (x_lc rfl sc_web_told.nd (i_seq (xv 1 (pv 1))) (blk_by (own := [("tie", 5)]) (by kernel_rfl)) (not_in rfl) (sub_in rfl) (fun _ _ _ _ _ => (g_name (pg_name (i := 5) sc_web_told.nd rfl (by first | exact .inl rfl | exact .inr rfl)))) (fun _ _ _ _ _ => ts_nil) (fun _ _ _ _ _ => (f2x (x_tup (ax_cons (f2x (x_ty c_tuple (by rfl) b_tuple bt_tuple (a_cons (f2s (x_fn (c_sortedB room.units rfl) (by rfl) b_sorted bt_sorted (a_cons (x2s (xv 5 (pv 5))) a_nil))) a_nil))) (ax_cons (f2x x_bl) ax_nil))))))) a_nil)))))
    (p_one (p_ret (ps_ret (f2s (x_tup (ax_cons (f2x (x_ty c_tuple (by rfl) b_tuple bt_tuple (a_cons (f2s (x_lc rfl sc_web_told.nd (i_seq (f2x (x_fn (c_sortedB room.units rfl) (by rfl) b_sorted bt_sorted (a_cons (x2s (xv 2 (pv 2))) a_nil)))) (blk_by (own := [("name", 6)]) (by kernel_rfl)) (not_in rfl) (sub_in rfl) (fun _ _ _ _ _ => (g_name (pg_name (i := 6) sc_web_told.nd rfl (by first | exact .inl rfl | exact .inr rfl)))) (fun _ _ _ _ _ => ts_nil) (fun _ _ _ _ _ => (x_sub room.units (x2s (xv 2 (pv 2))) (x2s (xv 6 (pv 6))) (fun _ _ => rfl) (fun _ _ => rfl))))) a_nil))) (ax_cons (f2x (x_ty c_tuple (by rfl) b_tuple bt_tuple (a_cons (f2s (x_fn (c_sortedB room.units rfl) (by rfl) b_sorted bt_sorted (a_cons (x2s (xv 4 (pv 4))) a_nil))) a_nil))) ax_nil)))))))))
theorem sc_names_of : FnScope ["web", "post"] ["web"] (defScope s_names_of) := ⟨rfl, rfl, rfl, by decide +kernel, rfl, by decide +kernel, by decide +kernel⟩
theorem ok_names_of {P : Program} {w : World} {K : PySem.W.Frag} {mg : Str → Option Value} {base : Heap} (F : DefG K mg "names_of" s_names_of ["web"])  (b_tuple : mg "tuple" = none)  :
  CalG P w K mg base 1 "names_of" (spP 1 m_names_of) :=
  cal_P (kb := kdL []) (kd := kdL []) (kd' := kdL []) F sc_names_of rfl (by decide) fun f cdv A outer s H Z room gd =>
    (p_one (p_ret (ps_ret (f2s (x_ty c_tuple (by rfl) b_tuple bt_tuple (a_cons (f2s (x_lc rfl sc_names_of.nd (i_seq (x_sub room.units (x2s (xv 0 (pv 0))) (f2s x_int) (fun _ _ => rfl) (fun _ _ => rfl))) (blk_by (own := [("post", 1)]) (by kernel_rfl)) (not_in rfl) (sub_in rfl) (fun _ _ _ _ _ => (g_name (pg_name (i := 1) sc_names_of.nd rfl (by first | exact .inl rfl | exact .inr rfl)))) (fun _ _ _ _ _ => ts_nil) (fun _ _ _ _ _ => (x_sub room.units (x2s (xv 1 (pv 1))) (f2s x_int) (fun _ _ => rfl) (fun _ _ => rfl))))) a_nil))))))
theorem sc_post_of : FnScope ["web", "name", "post"] ["web", "name"] (defScope s_post_of) := ⟨rfl, rfl, rfl, by decide +kernel, rfl, by decide +kernel, by decide +kernel⟩
theorem ok_post_of {P : Program} {w : World} {K : PySem.W.Frag} {mg : Str → Option Value} {base : Heap} (F : DefG K mg "post_of" s_post_of ["web", "name"])    :
  CalG P w K mg base 1 "post_of" (spP 2 m_post_of) :=
  cal_P (kb := kdL []) (kd := kdL []) (kd' := kdL []) F sc_post_of rfl (by decide) fun f cdv A outer s H Z room gd =>
    (p_one (p_ret (ps_ret (x2s (x_sub room.units (f2s (x_lc rfl sc_post_of.nd (i_seq (x_sub room.units (x2s (xv 0 (pv 0))) (f2s x_int) (fun _ _ => rfl) (fun _ _ => rfl))) (blk_by (own := [("post", 2)]) (by kernel_rfl)) (not_in rfl) (sub_in rfl) (fun _ _ _ _ _ => (g_name (pg_name (i := 2) sc_post_of.nd rfl (by first | exact .inl rfl | exact .inr rfl)))) (fun _ _ _ _ _ => (ts_one (t_cmp (o_eq room.units) (x2s (x_sub room.units (x2s (xv 2 (pv 2))) (f2s x_int) (fun _ _ => rfl) (fun _ _ => rfl))) (x2s (xv 1 (pv 1))) (nomark _)))) (fun _ _ _ _ _ => (xv 2 (pv 2))))) (f2s x_int) (fun _ _ => rfl) (fun _ _ => rfl))))))
theorem sc_copies_told : FnScope ["web", "name", "kind", "times", "more"] ["web", "name"] (defScope s_copies_told) := ⟨rfl, rfl, rfl, by decide +kernel, rfl, by decide +kernel, by decide +kernel⟩
theorem ok_copies_told {P : Program} {w : World} {K : PySem.W.Frag} {mg : Str → Option Value} {base : Heap} (F : DefG K mg "copies_told" s_copies_told ["web", "name"]) (c_post_of : CalG P w K mg base 1 "post_of" (spP 2 m_post_of)) (c_number_line : CalG P w K mg base 3 "number_line" (spP 2 m_number_line))   :
  CalG P w K mg base 4 "copies_told" (spP 2 m_copies_told) :=
  cal_P (kb := kdL []) (kd := kdL []) (kd' := kdL []) F sc_copies_told rfl (by decide) fun f cdv A outer s H Z room gd =>
    (p_cons (p_unp (ps_asg (y_P c_post_of gd room (ax_cons (xv 0 (pv 0)) (ax_cons (xv 1 (pv 1)) ax_nil))) (g_tup rfl (gs_cons (g_name (pg_name (i := 1) sc_copies_told.nd rfl (by first | exact .inl rfl | exact .inr rfl))) (gs_cons (g_name (pg_name (i := 2) sc_copies_told.nd rfl (by first | exact .inl rfl | exact .inr rfl))) (gs_cons (g_name (pg_name (i := 3) sc_copies_told.nd rfl (by first | exact .inl rfl | exact .inr rfl))) (gs_cons (g_name (pg_name (i := 4) sc_copies_told.nd rfl (by first | exact .inl rfl | exact .inr rfl))) gs_nil)))) (sC_len (sC_len (sC_len (sC_len s0_len)))))))
    (p_one (p_ret (ps_ret (x2s (y_P c_number_line gd room (ax_cons (xv 4 (pv 4)) (ax_cons (xv 3 (pv 3)) ax_nil))))))))
theorem sc_weight_told : FnScope ["web", "lot", "kind", "found", "name", "is_counted"] ["web", "lot", "kind"] (defScope s_weight_told) := ⟨rfl, rfl, rfl, by decide +kernel, rfl, by decide +kernel, by decide +kernel⟩
theorem ok_weight_told {P : Program} {w : World} {K : PySem.W.Frag} {mg : Str → Option Value} {base : Heap} (F : DefG K mg "weight_told" s_weight_told ["web", "lot", "kind"]) (c_number_line : CalG P w K mg base 3 "number_line" (spP 2 m_number_line)) (c_post_of : CalG P w K mg base 1 "post_of" (spP 2 m_post_of)) (c_copies_told : CalG P w K mg base 4 "copies_told" (spP 2 m_copies_told)) (c_numbers_sum : CalG P w K mg base 4 "numbers_sum" (spP 2 m_numbers_sum))   :
  CalG P w K mg base 5 "weight_told" (spP 3 m_weight_told) :=
  cal_P (kb := kdL []) (kd := kdL []) (kd' := kdL []) F sc_weight_told rfl (by decide) fun f cdv A outer s H Z room gd =>
    (p_cons (p_set (ps_set (i := 3) sc_weight_told.nd rfl (by first | exact .inl rfl | exact .inr rfl) (y_P c_number_line gd room (ax_cons (f2x x_int) (ax_cons (f2x x_int) ax_nil)))))
    (p_cons (p_for PassesOwn.never rfl (i_seq (xv 1 (pv 1))) (g_name (pg_name (i := 4) sc_weight_told.nd rfl (by first | exact .inl rfl | exact .inr rfl))) (p_cons (p_set (asg_f2x (ps_set (i := 5) sc_weight_told.nd rfl (by first | exact .inl rfl | exact .inr rfl) (x_cmp (o_eq room.units) (x2s (x_sub room.units (x2s (y_P c_post_of gd room (ax_cons (xv 0 (pv 0)) (ax_cons (xv 4 (pv 4)) ax_nil)))) (f2s x_int) (fun _ _ => rfl) (fun _ _ => rfl))) (x2s (xv 2 (pv 2))) (nomark _)))))
      (p_one (p_set (ps_set (i := 3) sc_weight_told.nd rfl (by first | exact .inl rfl | exact .inr rfl) (y_P c_numbers_sum gd room (ax_cons (xv 3 (pv 3)) (ax_cons (x_if (t_val (x2s (xv 5 (pv 5)))) (y_P c_copies_told gd room (ax_cons (xv 0 (pv 0)) (ax_cons (xv 4 (pv 4)) ax_nil))) (y_P c_number_line gd room (ax_cons (f2x x_int) (ax_cons (f2x x_int) ax_nil)))) ax_nil))))))))
    (p_one (p_ret (ps_ret (x2s (xv 3 (pv 3))))))))
theorem sc_size_told : FnScope ["web", "found", "name"] ["web"] (defScope s_size_told) := ⟨rfl, rfl, rfl, by decide +kernel, rfl, by decide +kernel, by decide +kernel⟩
theorem ok_size_told {P : Program} {w : World} {K : PySem.W.Frag} {mg : Str → Option Value} {base : Heap} (F : DefG K mg "size_told" s_size_told ["web"]) (c_number_line : CalG P w K mg base 3 "number_line" (spP 2 m_number_line)) (c_names_of : CalG P w K mg base 1 "names_of" (spP 1 m_names_of)) (c_copies_told : CalG P w K mg base 4 "copies_told" (spP 2 m_copies_told)) (c_numbers_sum : CalG P w K mg base 4 "numbers_sum" (spP 2 m_numbers_sum))   :
  CalG P w K mg base 5 "size_told" (spP 1 m_size_told) :=
  cal_P (kb := kdL []) (kd := kdL []) (kd' := kdL []) F sc_size_told rfl (by decide) fun f cdv A outer s H Z room gd =>
    (p_cons (p_set (ps_set (i := 1) sc_size_told.nd rfl (by first | exact .inl rfl | exact .inr rfl) (y_P c_number_line gd room (ax_cons (f2x x_int) (ax_cons (f2x x_int) ax_nil)))))
    (p_cons (p_for PassesOwn.never rfl (i_seq (y_P c_names_of gd room (ax_cons (xv 0 (pv 0)) ax_nil))) (g_name (pg_name (i := 2) sc_size_told.nd rfl (by first | exact .inl rfl | exact .inr rfl))) (p_one (p_set (ps_set (i := 1) sc_size_told.nd rfl (by first | exact .inl rfl | exact .inr rfl) (y_P c_numbers_sum gd room (ax_cons (xv 1 (pv 1)) (ax_cons (y_P c_copies_told gd room (ax_cons (xv 0 (pv 0)) (ax_cons (xv 2 (pv 2)) ax_nil))) ax_nil)))))))
    (p_one (p_ret (ps_ret (x2s (xv 1 (pv 1))))))))
theorem sc_web_later : FnScope ["web", "many", "name", "kind", "times", "more"] ["web", "many"] (defScope s_web_later) := ⟨rfl, rfl, rfl, by decide +kernel, rfl, by decide +kernel, by decide +kernel⟩
theorem ok_web_later {P : Program} {w : World} {K : PySem.W.Frag} {mg : Str → Option Value} {base : Heap} (F : DefG K mg "web_later" s_web_later ["web", "many"]) (c_web_told : CalG P w K mg base 2 "web_told" (spP 2 m_web_told))   :
  CalG P w K mg base 3 "web_later" (spP 2 m_web_later) :=
  cal_P (kb := kdL []) (kd := kdL []) (kd' := kdL []) F sc_web_later rfl (by decide) fun f cdv A outer s H Z room gd =>
    (p_one (p_ret (ps_ret (x2s (y_P c_web_told gd room (ax_cons (f2x (x_lc rfl sc_web_later.nd (i_seq (x_sub room.units (x2s (xv 0 (pv 0))) (f2s x_int) (fun _ _ => rfl) (fun _ _ => rfl))) (blk_by (own := [("name", 2), ("kind", 3), ("times", 4), ("more", 5)]) (by kernel_rfl)) (not_in rfl) (sub_in rfl) (fun _ _ _ _ _ => (g_tup rfl (gs_cons (g_name (pg_name (i := 2) sc_web_later.nd rfl (by first | exact .inl rfl | exact .inr rfl))) (gs_cons (g_name (pg_name (i := 3) sc_web_later.nd rfl (by first | exact .inl rfl | exact .inr rfl))) (gs_cons (g_name (pg_name (i := 4) sc_web_later.nd rfl (by first | exact .inl rfl | exact .inr rfl))) (gs_cons (g_name (pg_name (i := 5) sc_web_later.nd rfl (by first | exact .inl rfl | exact .inr rfl))) gs_nil)))) (sC_len (sC_len (sC_len (sC_len s0_len)))))) (fun _ _ _ _ _ => ts_nil) (fun _ _ _ _ _ => (f2x (x_tup (ax_cons (xv 2 (pv 2)) (ax_cons (xv 3 (pv 3)) (ax_cons (xv 4 (pv 4)) (ax_cons (f2x (x_bin o_add (f2s (x_bin o_mul (x2s (xv 4 (pv 4))) (x2s (xv 1 (pv 1))))) (x2s (xv 5 (pv 5))))) ax_nil))))))))) (ax_cons (x_sub room.units (x2s (xv 0 (pv 0))) (f2s x_int) (fun _ _ => rfl) (fun _ _ => rfl)) ax_nil)))))))
theorem sc_web_at : FnScope ["web", "n", "name", "kind", "times", "more"] ["web", "n"] (defScope s_web_at) := ⟨rfl, rfl, rfl, by decide +kernel, rfl, by decide +kernel, by decide +kernel⟩
theorem ok_web_at {P : Program} {w : World} {K : PySem.W.Frag} {mg : Str → Option Value} {base : Heap} (F : DefG K mg "web_at" s_web_at ["web", "n"]) (c_web_told : CalG P w K mg base 2 "web_told" (spP 2 m_web_told))   :
  CalG P w K mg base 3 "web_at" (spP 2 m_web_at) :=
  cal_P (kb := kdL []) (kd := kdL []) (kd' := kdL []) F sc_web_at rfl (by decide) fun f cdv A outer s H Z room gd =>
    (p_one (p_ret (ps_ret (x2s (y_P c_web_told gd room (ax_cons (f2x (x_lc rfl sc_web_at.nd (i_seq (x_sub room.units (x2s (xv 0 (pv 0))) (f2s x_int) (fun _ _ => rfl) (fun _ _ => rfl))) (blk_by (own := [("name", 2), ("kind", 3), ("times", 4), ("more", 5)]) (by kernel_rfl)) (not_in rfl) (sub_in rfl) (fun _ _ _ _ _ => (g_tup rfl (gs_cons (g_name (pg_name (i := 2) sc_web_at.nd rfl (by first | exact .inl rfl | exact .inr rfl))) (gs_cons (g_name (pg_name (i := 3) sc_web_at.nd rfl (by first | exact .inl rfl | exact .inr rfl))) (gs_cons (g_name (pg_name (i := 4) sc_web_at.nd rfl (by first | exact .inl rfl | exact .inr rfl))) (gs_cons (g_name (pg_name (i := 5) sc_web_at.nd rfl (by first | exact .inl rfl | exact .inr rfl))) gs_nil)))) (sC_len (sC_len (sC_len (sC_len s0_len)))))) (fun _ _ _ _ _ => ts_nil) (fun _ _ _ _ _ => (f2x (x_tup (ax_cons (xv 2 (pv 2)) (ax_cons (xv 3 (pv 3)) (ax_cons (f2x x_int) (ax_cons (f2x (x_bin o_add (f2s (x_bin o_mul (x2s (xv 4 (pv 4))) (x2s (xv 1 (pv 1))))) (x2s (xv 5 (pv 5))))) ax_nil))))))))) (ax_cons (x_sub room.units (x2s (xv 0 (pv 0))) (f2s x_int) (fun _ _ => rfl) (fun _ _ => rfl)) ax_nil)))))))
theorem sc_known_ties : FnScope ["web", "found", "one", "other"] ["web"] (defScope s_known_ties) := ⟨rfl, rfl, rfl, by decide +kernel, rfl, by decide +kernel, by decide +kernel⟩
theorem ok_known_ties {P : Program} {w : World} {K : PySem.W.Frag} {mg : Str → Option Value} {base : Heap} (F : DefG K mg "known_ties" s_known_ties ["web"])    :
  CalG P w K mg base 1 "known_ties" (spP 1 m_known_ties) :=
  cal_P (kb := kdL []) (kd := kdL [1]) (kd' := kdL []) F sc_known_ties rfl (by decide) fun f cdv A outer s H Z room gd =>
    (p_cons (p_own (ps_set (i := 1) sc_known_ties.nd rfl (by first | exact .inl rfl | exact .inr rfl) x_newT))
    (p_cons (p_for PassesOwn.never rfl (i_seq (x_sub room.units (x2s (xv 0 (pv 0))) (f2s x_int) (fun _ _ => rfl) (fun _ _ => rfl))) (g_tup rfl (gs_cons (g_name (pg_name (i := 2) sc_known_ties.nd rfl (by first | exact .inl rfl | exact .inr rfl))) (gs_cons (g_name (pg_name (i := 3) sc_known_ties.nd rfl (by first | exact .inl rfl | exact .inr rfl))) gs_nil)) (sC_len (sC_len s0_len))) (p_one (p_m (ps_asg (f2x (x_tup (ax_cons (f2x x_bl) (ax_cons (f2x x_bl) ax_nil)))) (mg_tup rfl (ms_cons (mg_put (pg_sub (pv 1) (f2s (x_tup (ax_cons (xv 2 (pv 2)) (ax_cons (xv 3 (pv 3)) ax_nil)))) (pset_dic room.units))) (ms_cons (mg_put (pg_sub (pv 1) (f2s (x_tup (ax_cons (xv 3 (pv 3)) (ax_cons (xv 2 (pv 2)) ax_nil)))) (pset_dic room.units))) ms_nil)) (mC_len (mC_len m0_len)))))))
    (p_freeze (kd2 := kdL []) (kdL_sub rfl) (p_one (p_ret (ps_ret (x2s (xv 1 (pv 1)))))))))
theorem sc_goes_with : FnScope ["known", "post", "lot", "kind", "one"] ["known", "post", "lot", "kind"] (defScope s_goes_with) := ⟨rfl, rfl, rfl, by decide +kernel, rfl, by decide +kernel, by decide +kernel⟩
theorem ok_goes_with {P : Program} {w : World} {K : PySem.W.Frag} {mg : Str → Option Value} {base : Heap} (F : DefG K mg "goes_with" s_goes_with ["known", "post", "lot", "kind"])  (b_all : mg "all" = none) (k_TIED : ∃ t, mg "TIED" = some (.str "tied" t)) :
  CalG P w K mg base 1 "goes_with" (spP 4 m_goes_with) :=
  cal_P (kb := kdL []) (kd := kdL []) (kd' := kdL []) F sc_goes_with rfl (by decide) fun f cdv A outer s H Z room gd =>
    (p_one (p_ret (ps_ret (f2s (x_fn (c_all rfl) (by rfl) b_all bt_all (a_cons (f2s (x_lc rfl sc_goes_with.nd (i_seq (xv 2 (pv 2))) (blk_by (own := [("one", 4)]) (by kernel_rfl)) (not_in rfl) (sub_in rfl) (fun _ _ _ _ _ => (g_name (pg_name (i := 4) sc_goes_with.nd rfl (by first | exact .inl rfl | exact .inr rfl)))) (fun _ _ _ _ _ => ts_nil) (fun _ _ _ _ _ => (f2x (x_cmp (o_eq room.units) (f2s (x_cmp (o_inD room.units) (f2s (x_tup (ax_cons (xv 1 (pv 1)) (ax_cons (xv 4 (pv 4)) ax_nil)))) (x2s (xv 0 (pv 0))) (by with_unfolding_all rfl))) (f2s (x_cmp (o_eq room.units) (x2s (xv 3 (pv 3))) (f2s (x_gstr (by rfl) k_TIED.choose_spec)) (nomark _))) (nomark _)))))) a_nil))))))
theorem sc_greatest_lots : FnScope ["web", "kind", "known", "names", "found", "post", "lot", "late"] ["web", "kind"] (defScope s_greatest_lots) := ⟨rfl, rfl, rfl, by decide +kernel, rfl, by decide +kernel, by decide +kernel⟩
theorem ok_greatest_lots {P : Program} {w : World} {K : PySem.W.Frag} {mg : Str → Option Value} {base : Heap} (F : DefG K mg "greatest_lots" s_greatest_lots ["web", "kind"]) (c_names_of : CalG P w K mg base 1 "names_of" (spP 1 m_names_of)) (c_known_ties : CalG P w K mg base 1 "known_ties" (spP 1 m_known_ties)) (c_goes_with : CalG P w K mg base 1 "goes_with" (spP 4 m_goes_with)) (b_any : mg "any" = none) (b_sorted : mg "sorted" = none)  :
  CalG P w K mg base 2 "greatest_lots" (spP 2 m_greatest_lots) :=
  cal_P (kb := kdL []) (kd := kdL [7]) (kd' := kdL []) F sc_greatest_lots rfl (by decide) fun f cdv A outer s H Z room gd =>
    (p_cons (p_par (is := [2, 3, 4]) (sto_cell (n := 3) (ps_asg (pe_tup (m_cl (y_P c_known_ties gd room (ax_cons (xv 0 (pv 0)) ax_nil)) (m_cl (y_P c_names_of gd room (ax_cons (xv 0 (pv 0)) ax_nil)) (m_cl (f2x (x_lst (ax_cons (f2x (x_tup ax_nil)) ax_nil))) m_nil)))) (pg_tup rfl (pgs_cons (pg_name (i := 2) sc_greatest_lots.nd rfl (by first | exact .inl rfl | exact .inr rfl)) (pgs_cons (pg_name (i := 3) sc_greatest_lots.nd rfl (by first | exact .inl rfl | exact .inr rfl)) (pgs_cons (pg_name (i := 4) sc_greatest_lots.nd rfl (by first | exact .inl rfl | exact .inr rfl)) pgs_nil))) rfl rfl))))
    (p_cons (p_for PassesOwn.never rfl (i_seq (xv 3 (pv 3))) (g_name (pg_name (i := 5) sc_greatest_lots.nd rfl (by first | exact .inl rfl | exact .inr rfl))) (p_one (p_set (asg_f2x (ps_set (i := 4) sc_greatest_lots.nd rfl (by first | exact .inl rfl | exact .inr rfl) (x_bin o_add (x2s (xv 4 (pv 4))) (f2s (x_lc rfl sc_greatest_lots.nd (i_seq (xv 4 (pv 4))) (blk_by (own := [("lot", 6)]) (by kernel_rfl)) (not_in rfl) (sub_in rfl) (fun _ _ _ _ _ => (g_name (pg_name (i := 6) sc_greatest_lots.nd rfl (by first | exact .inl rfl | exact .inr rfl)))) (fun _ _ _ _ _ => (ts_one (t_val (x2s (y_P c_goes_with gd room (ax_cons (xv 2 (pv 2)) (ax_cons (xv 5 (pv 5)) (ax_cons (xv 6 (pv 6)) (ax_cons (xv 1 (pv 1)) ax_nil))))))))) (fun _ _ _ _ _ => (f2x (x_tupV (av_star (xv 6 (pv 6)) (av_cons (xv 5 (pv 5)) av_nil)))))))))))))
    (p_cons (p_own (ps_set (i := 7) sc_greatest_lots.nd rfl (by first | exact .inl rfl | exact .inr rfl) (x_lst ax_nil)))
    (p_cons (p_for PassesOwn.never rfl (i_seq (xv 4 (pv 4))) (g_name (pg_name (i := 6) sc_greatest_lots.nd rfl (by first | exact .inl rfl | exact .inr rfl))) (p_one (p_if (t_not (t_val (f2s (x_fn (c_any rfl) (by rfl) b_any bt_any (a_cons (f2s (x_lc rfl sc_greatest_lots.nd (i_seq (xv 3 (pv 3))) (blk_by (own := [("post", 5)]) (by kernel_rfl)) (not_in rfl) (sub_in rfl) (fun _ _ _ _ _ => (g_name (pg_name (i := 5) sc_greatest_lots.nd rfl (by first | exact .inl rfl | exact .inr rfl)))) (fun _ _ _ _ _ => ts_nil) (fun _ _ _ _ _ => (f2x (v_and (v_of (x_cmp (o_notinD room.units) (x2s (xv 5 (pv 5))) (x2s (xv 6 (pv 6))) (by with_unfolding_all rfl))) (v_one (v_ofS (x2s (y_P c_goes_with gd room (ax_cons (xv 2 (pv 2)) (ax_cons (xv 5 (pv 5)) (ax_cons (xv 6 (pv 6)) (ax_cons (xv 1 (pv 1)) ax_nil))))))))))))) a_nil))))) (p_one (p_app (ps_expr (pe_bm PySem.F.plainAttrs_list PySem.F.slot_list_append PySem.F.type_list_append mt_append (pv 7) (pa_cons (xv 6 (pv 6)) pa_nil))))) p_nil)))
    (p_freeze (kd2 := kdL []) (kdL_sub rfl) (p_one (p_ret (ps_ret (f2s (x_fn (c_sortedB room.units rfl) (by rfl) b_sorted bt_sorted (a_cons (x2s (xv 7 (pv 7))) a_nil)))))))))))
theorem sc_most_told : FnScope ["web", "kind", "lots", "found", "lot"] ["web", "kind"] (defScope s_most_told) := ⟨rfl, rfl, rfl, by decide +kernel, rfl, by decide +kernel, by decide +kernel⟩
theorem ok_most_told {P : Program} {w : World} {K : PySem.W.Frag} {mg : Str → Option Value} {base : Heap} (F : DefG K mg "most_told" s_most_told ["web", "kind"]) (c_greatest_lots : CalG P w K mg base 2 "greatest_lots" (spP 2 m_greatest_lots)) (c_weight_told : CalG P w K mg base 5 "weight_told" (spP 3 m_weight_told)) (c_numbers_most : CalG P w K mg base 5 "numbers_most" (spP 2 m_numbers_most))   :
  CalG P w K mg base 6 "most_told" (spP 2 m_most_told) :=
  cal_P (kb := kdL []) (kd := kdL []) (kd' := kdL []) F sc_most_told rfl (by decide) fun f cdv A outer s H Z room gd =>
    (p_cons (p_set (ps_set (i := 2) sc_most_told.nd rfl (by first | exact .inl rfl | exact .inr rfl) (y_P c_greatest_lots gd room (ax_cons (xv 0 (pv 0)) (ax_cons (xv 1 (pv 1)) ax_nil)))))
    (p_cons (p_set (ps_set (i := 3) sc_most_told.nd rfl (by first | exact .inl rfl | exact .inr rfl) (y_P c_weight_told gd room (ax_cons (xv 0 (pv 0)) (ax_cons (x_sub room.units (x2s (xv 2 (pv 2))) (f2s x_int) (fun _ _ => rfl) (fun _ _ => rfl)) (ax_cons (xv 1 (pv 1)) ax_nil))))))
    (p_cons (p_for PassesOwn.never rfl (i_seq (f2x (x_sl (x2s (xv 2 (pv 2))) (p_some (f2s x_int)) p_none))) (g_name (pg_name (i := 4) sc_most_told.nd rfl (by first | exact .inl rfl | exact .inr rfl))) (p_one (p_set (ps_set (i := 3) sc_most_told.nd rfl (by first | exact .inl rfl | exact .inr rfl) (y_P c_numbers_most gd room (ax_cons (xv 3 (pv 3)) (ax_cons (y_P c_weight_told gd room (ax_cons (xv 0 (pv 0)) (ax_cons (xv 4 (pv 4)) (ax_cons (xv 1 (pv 1)) ax_nil)))) ax_nil)))))))
    (p_one (p_ret (ps_ret (x2s (xv 3 (pv 3)))))))))
theorem sc_chain_told : FnScope ["web"] ["web"] (defScope s_chain_told) := ⟨rfl, rfl, rfl, by decide +kernel, rfl, by decide +kernel, by decide +kernel⟩
theorem ok_chain_told {P : Program} {w : World} {K : PySem.W.Frag} {mg : Str → Option Value} {base : Heap} (F : DefG K mg "chain_told" s_chain_told ["web"]) (c_most_told : CalG P w K mg base 6 "most_told" (spP 2 m_most_told))  (k_TIED : ∃ t, mg "TIED" = some (.str "tied" t)) :
  CalG P w K mg base 7 "chain_told" (spP 1 m_chain_told) :=
  cal_P (kb := kdL []) (kd := kdL []) (kd' := kdL []) F sc_chain_told rfl (by decide) fun f cdv A outer s H Z room gd =>
    (p_one (p_ret (ps_ret (x2s (y_P c_most_told gd room (ax_cons (xv 0 (pv 0)) (ax_cons (f2x (x_gstr (by rfl) k_TIED.choose_spec)) ax_nil)))))))
theorem sc_lone_told : FnScope ["web"] ["web"] (defScope s_lone_told) := ⟨rfl, rfl, rfl, by decide +kernel, rfl, by decide +kernel, by decide +kernel⟩
theorem ok_lone_told {P : Program} {w : World} {K : PySem.W.Frag} {mg : Str → Option Value} {base : Heap} (F : DefG K mg "lone_told" s_lone_told ["web"]) (c_most_told : CalG P w K mg base 6 "most_told" (spP 2 m_most_told))  (k_APART : ∃ t, mg "APART" = some (.str "apart" t)) :
  CalG P w K mg base 7 "lone_told" (spP 1 m_lone_told) :=
  cal_P (kb := kdL []) (kd := kdL []) (kd' := kdL []) F sc_lone_told rfl (by decide) fun f cdv A outer s H Z room gd =>
    (p_one (p_ret (ps_ret (x2s (y_P c_most_told gd room (ax_cons (xv 0 (pv 0)) (ax_cons (f2x (x_gstr (by rfl) k_APART.choose_spec)) ax_nil)))))))
theorem sc__law_source : FnScope ["script", "mixed", "cell"] ["script"] (defScope s__law_source) := ⟨rfl, rfl, rfl, by decide +kernel, rfl, by decide +kernel, by decide +kernel⟩
theorem ok__law_source {P : Program} {w : World} {K : PySem.W.Frag} {mg : Str → Option Value} {base : Heap} (F : DefG K mg "_law_source" s__law_source ["script"]) (b_abs : mg "abs" = none) (b_int : mg "int" = none) :
  CalG P w K mg base 1 "_law_source" (spSrc K 63) := by
  obtain ⟨f, fd, hF, h1, h2⟩ := F.ex
  refine ⟨f, fd, ["script"], fnG_of (k := 0) hF sc__law_source (fun vs H Q E ⟨a, ns, e, _⟩ => by rw [e]; rfl) (fun cdv A outer s H vs Q room gd h => ⟨_,
    pss_cons (ps_set (i := 1) sc__law_source.nd rfl (.inl rfl) pe_int)
    (pss_cons (ps_for PassesOwn.never rfl (pi_list (pv 0)) (pg_name (i := 2) sc__law_source.nd rfl (.inl rfl))
      (pss_one (ps_set (i := 1) sc__law_source.nd rfl (.inl rfl) (pe_op op_mod (pe_callTy call_int1 (by rfl) b_int bt_int (pa_cons (pe_op op_add (pe_op op_add (pe_op op_mul (pv 1) pe_int) (pe_op op_mul (pv 2) pe_int)) pe_int) pa_nil)) pe_int))))
    (pss_one (ps_ret (pe_disp (pps_cons pe_str (pe_revL (pe_lc rfl sc__law_source.nd (pi_list (pv 0)) (blk_by (own := [("cell", 2)]) (by kernel_rfl)) (fun _ _ _ _ _ => pg_name (i := 2) sc__law_source.nd rfl (.inl rfl)) (fun _ _ _ _ _ => pts_nil)
        (fun _ _ _ _ _ => pe_callB call_abs (by rfl) b_abs bt_abs (pa_cons (pv 2) pa_nil))))
      (pps_cons pe_str pe_int (pps_cons pe_str (pv 1) (pps_cons pe_str pe_int pps_nil)))) rfl rfl (fun z => nomatch z) (by decide))))), ?_⟩), h1, hF.kp, h2⟩
  obtain ⟨a, ns, rfl, sq, hl, bits, q⟩ := h
  exact source_run sq hl bits q
theorem sc__law_pick : FnScope ["source", "many", "left", "mixed"] ["source", "many"] (defScope s__law_pick) := ⟨rfl, rfl, rfl, by decide +kernel, rfl, by decide +kernel, by decide +kernel⟩
theorem ok__law_pick {P : Program} {w : World} {K : PySem.W.Frag} {mg : Str → Option Value} {base : Heap} (F : DefG K mg "_law_pick" s__law_pick ["source", "many"])  (b_len : mg "len" = none) (b_max : mg "max" = none) (b_int : mg "int" = none)  :
  CalG P w K mg base 1 "_law_pick" (spS 1 m__law_pick) :=
  cal_S (kb := kdL []) (kd := kdL []) (kd' := kdL []) F sc__law_pick rfl (by decide) fun f cdv A outer s H Z x c room gd =>
    (p_cons (p_while 65 PassesOwn.never (PW.pt (w_and (t_cmp o_gt (x2s (xv 1 (pv 1))) (f2s x_int) (nomark _)) (w_and (t_cmp o_lt (f2s (x_sL ⟨_, rfl⟩ (pe_dget (hu_of room) (pv 0) pe_str (fun _ _ => rfl)))) (f2s x_int) (nomark _)) (w_and1 (t_cmp o_gt (f2s (x_sN ⟨_, rfl⟩ (pe_callB call_len_seq (by rfl) b_len PySem.boot_len (pa_cons (pe_dget (hu_of room) (pv 0) pe_str (fun _ _ => rfl)) pa_nil)))) (f2s x_int) (nomark _)))))) (p_one (p_sPull ⟨_, rfl⟩ (ps_dput (hu_of room) (pv 0) pe_str (pe_bm0 PySem.F.plainAttrs_list PySem.F.slot_list_pop PySem.F.type_list_pop mt_pop (pe_dget (hu_of room) (pv 0) pe_str (fun _ _ => rfl))) rfl))))
    (p_cons (p_set (asg_f2x (ps_set (i := 2) sc__law_pick.nd rfl (by first | exact .inl rfl | exact .inr rfl) (x_sL ⟨_, rfl⟩ (pe_dget (hu_of room) (pv 0) pe_str (fun _ _ => rfl))))))
    (p_cons (p_if (PW.pt (w_or (t_cmp o_lt (x2s (xv 1 (pv 1))) (f2s x_int) (nomark _)) (w_or1 (t_cmp o_gt (x2s (xv 2 (pv 2))) (f2s x_int) (nomark _))))) (p_cons (p_sL ⟨_, rfl⟩ (ps_dput (hu_of room) (pv 0) pe_str (f2x (x_bin o_fdiv (x2s (xv 2 (pv 2))) (f2s (x_fn (c_max rfl) (by rfl) b_max bt_max (a_cons (f2s x_int) (a_cons (x2s (xv 1 (pv 1))) a_nil)))))) rfl))
      (p_one (p_ret (ps_ret (f2s (x_bin o_mod (f2s (x_ty c_int (by rfl) b_int bt_int (a_cons (x2s (xv 2 (pv 2))) a_nil))) (f2s (x_fn (c_max rfl) (by rfl) b_max bt_max (a_cons (f2s x_int) (a_cons (x2s (xv 1 (pv 1))) a_nil)))))))))) p_nil)
    (p_cons (p_sT ⟨_, rfl⟩ (ps_dput (hu_of room) (pv 0) pe_str (f2x (x_bin o_add (f2s (x_sT ⟨_, rfl⟩ (pe_dget (hu_of room) (pv 0) pe_str (fun _ _ => rfl)))) (f2s x_int))) rfl))
    (p_cons (p_set (asg_f2x (ps_set (i := 3) sc__law_pick.nd rfl (by first | exact .inl rfl | exact .inr rfl) (x_bin o_mod (f2s (x_ty c_int (by rfl) b_int bt_int (a_cons (f2s (x_bin o_add (f2s (x_sM ⟨_, rfl⟩ (pe_dget (hu_of room) (pv 0) pe_str (fun _ _ => rfl)))) (f2s (x_bin o_mul (f2s (x_sT ⟨_, rfl⟩ (pe_dget (hu_of room) (pv 0) pe_str (fun _ _ => rfl)))) (f2s x_int))))) a_nil))) (f2s x_int)))))
    (p_cons (p_set (asg_f2x (ps_set (i := 3) sc__law_pick.nd rfl (by first | exact .inl rfl | exact .inr rfl) (x_bin o_mod (f2s (x_ty c_int (by rfl) b_int bt_int (a_cons (f2s (x_bin o_add (f2s (x_bin o_mul (x2s (xv 3 (pv 3))) (x2s (xv 3 (pv 3))))) (f2s (x_bin o_mul (f2s (x_sT ⟨_, rfl⟩ (pe_dget (hu_of room) (pv 0) pe_str (fun _ _ => rfl)))) (f2s x_int))))) a_nil))) (f2s x_int)))))
    (p_cons (p_sM ⟨_, rfl⟩ (ps_dput (hu_of room) (pv 0) pe_str (xv 3 (pv 3)) rfl))
    (p_one (p_ret (ps_ret (f2s (x_bin o_mod (f2s (x_ty c_int (by rfl) b_int bt_int (a_cons (f2s (x_bin o_fdiv (x2s (xv 3 (pv 3))) (f2s x_int))) a_nil))) (x2s (xv 1 (pv 1)))))))))))))))
theorem sc__law_of : FnScope ["source", "some"] ["source", "some"] (defScope s__law_of) := ⟨rfl, rfl, rfl, by decide +kernel, rfl, by decide +kernel, by decide +kernel⟩
theorem ok__law_of {P : Program} {w : World} {K : PySem.W.Frag} {mg : Str → Option Value} {base : Heap} (F : DefG K mg "_law_of" s__law_of ["source", "some"]) (c__law_pick : CalG P w K mg base 1 "_law_pick" (spS 1 m__law_pick)) (b_len : mg "len" = none)  :
  CalG P w K mg base 2 "_law_of" (spS 1 m__law_of) :=
  cal_S (kb := kdL []) (kd := kdL []) (kd' := kdL []) F sc__law_of rfl (by decide) fun f cdv A outer s H Z x c room gd =>
    (p_one (p_ret (ps_ret (x2s (x_sub room.units (x2s (xv 1 (pv 1))) (x2s (y_S c__law_pick ⟨_, rfl⟩ gd room (as_cons (by intro z; cases z) (pv 0) (ax_cons (f2x (x_fn c_len (by rfl) b_len bt_len (a_cons (x2s (xv 1 (pv 1))) a_nil))) ax_nil)))) (fun _ _ => rfl) (fun _ _ => rfl))))))
theorem sc__law_length : FnScope ["source", "kind"] ["source", "kind"] (defScope s__law_length) := ⟨rfl, rfl, rfl, by decide +kernel, rfl, by decide +kernel, by decide +kernel⟩
theorem ok__law_length {P : Program} {w : World} {K : PySem.W.Frag} {mg : Str → Option Value} {base : Heap} (F : DefG K mg "_law_length" s__law_length ["source", "kind"]) (c__law_of : CalG P w K mg base 2 "_law_of" (spS 1 m__law_of)) (b_int : mg "int" = none)  :
  CalG P w K mg base 3 "_law_length" (spS 1 m__law_length) :=
  cal_S (kb := kdL []) (kd := kdL []) (kd' := kdL []) F sc__law_length rfl (by decide) fun f cdv A outer s H Z x c room gd =>
    (p_one (p_ret (ps_ret (x2s (y_S c__law_of ⟨_, rfl⟩ gd room (as_cons (by intro z; cases z) (pv 0) (ax_cons (f2x (x_bin o_add (f2s (x_lst (ax_cons (f2x (x_tup (ax_cons (f2x x_int) (ax_cons (f2x x_int) ax_nil)))) (ax_cons (f2x (x_tup (ax_cons (f2x x_int) (ax_cons (f2x x_int) ax_nil)))) (ax_cons (f2x (x_tup (ax_cons (f2x x_int) (ax_cons (f2x x_int) ax_nil)))) (ax_cons (f2x (x_tup (ax_cons (f2x x_int) (ax_cons (f2x x_int) ax_nil)))) (ax_cons (f2x (x_tup (ax_cons (f2x x_int) (ax_cons (f2x x_int) ax_nil)))) (ax_cons (f2x (x_tup (ax_cons (f2x x_int) (ax_cons (f2x x_int) ax_nil)))) ax_nil)))))))) (f2s (x_bin o_mulA (f2s (x_lst (ax_cons (f2x (x_tup (ax_cons (f2x x_int) (ax_cons (f2x x_int) ax_nil)))) ax_nil))) (f2s (x_bin o_mulA (f2s x_int) (f2s (x_ty c_int (by rfl) b_int bt_int (a_cons (f2s (x_cmp (o_eq room.units) (x2s (xv 1 (pv 1))) (f2s x_str) (nomark _))) a_nil))))))))) ax_nil)))))))
theorem sc__law_posts : FnScope ["source", "names", "found", "name", "kind"] ["source", "names"] (defScope s__law_posts) := ⟨rfl, rfl, rfl, by decide +kernel, rfl, by decide +kernel, by decide +kernel⟩
theorem ok__law_posts {P : Program} {w : World} {K : PySem.W.Frag} {mg : Str → Option Value} {base : Heap} (F : DefG K mg "_law_posts" s__law_posts ["source", "names"]) (c__law_of : CalG P w K mg base 2 "_law_of" (spS 1 m__law_of)) (c__law_length : CalG P w K mg base 3 "_law_length" (spS 1 m__law_length))   :
  CalG P w K mg base 4 "_law_posts" (spS 1 m__law_posts) :=
  cal_S (kb := kdL []) (kd := kdL [2]) (kd' := kdL []) F sc__law_posts rfl (by decide) fun f cdv A outer s H Z x c room gd =>
    (p_cons (p_own (ps_set (i := 2) sc__law_posts.nd rfl (by first | exact .inl rfl | exact .inr rfl) (x_lst ax_nil)))
    (p_cons (p_for PassesOwn.never rfl (i_seq (xv 1 (pv 1))) (g_name (pg_name (i := 3) sc__law_posts.nd rfl (by first | exact .inl rfl | exact .inr rfl))) (p_cons (p_set (ps_set (i := 4) sc__law_posts.nd rfl (by first | exact .inl rfl | exact .inr rfl) (y_S c__law_of ⟨_, rfl⟩ gd room (as_cons (by intro z; cases z) (pv 0) (ax_cons (f2x (x_lst (ax_cons (f2x x_str) (ax_cons (f2x x_str) (ax_cons (f2x x_str) (ax_cons (f2x x_str) ax_nil)))))) ax_nil)))))
      (p_one (p_app (ps_expr (pe_bm PySem.F.plainAttrs_list PySem.F.slot_list_append PySem.F.type_list_append mt_append (pv 2) (pa_cons (f2x (x_bin o_add (f2s (x_tup (ax_cons (xv 3 (pv 3)) (ax_cons (xv 4 (pv 4)) ax_nil)))) (x2s (y_S c__law_length ⟨_, rfl⟩ gd room (as_cons (by intro z; cases z) (pv 0) (ax_cons (xv 4 (pv 4)) ax_nil)))))) pa_nil)))))))
    (p_freeze (kd2 := kdL []) (kdL_sub rfl) (p_one (p_ret (ps_ret (x2s (xv 2 (pv 2)))))))))
theorem sc__law_ties : FnScope ["source", "names", "pairs", "way", "k", "one", "j", "many", "pair", "line", "lot", "name"] ["source", "names"] (defScope s__law_ties) := ⟨rfl, rfl, rfl, by decide +kernel, rfl, by decide +kernel, by decide +kernel⟩
theorem ok__law_ties {P : Program} {w : World} {K : PySem.W.Frag} {mg : Str → Option Value} {base : Heap} (F : DefG K mg "_law_ties" s__law_ties ["source", "names"]) (c__law_pick : CalG P w K mg base 1 "_law_pick" (spS 1 m__law_pick)) (b_enumerate : mg "enumerate" = none) (b_range : mg "range" = none) (b_len : mg "len" = none) (b_int : mg "int" = none)  :
  CalG P w K mg base 2 "_law_ties" (spS 1 m__law_ties) :=
  cal_S (kb := kdL []) (kd := kdL []) (kd' := kdL []) F sc__law_ties rfl (by decide) fun f cdv A outer s H Z x c room gd =>
    (p_cons (p_par (sto_par (ps_par (i := 2) (j := 3) rfl sc__law_ties.nd rfl rfl (by decide) rfl rfl (m_cl (f2x (x_lst ax_nil)) (m_cl (y_S c__law_pick ⟨_, rfl⟩ gd room (as_cons (by intro z; cases z) (pv 0) (ax_cons (f2x x_int) ax_nil))) m_nil)) rfl)))
    (p_cons (p_for PassesOwn.never rfl (i_enumG (by rfl) b_enumerate (ax_cons (xv 1 (pv 1)) ax_nil)) (g_tup rfl (gs_cons (g_name (pg_name (i := 4) sc__law_ties.nd rfl (by first | exact .inl rfl | exact .inr rfl))) (gs_cons (g_name (pg_name (i := 5) sc__law_ties.nd rfl (by first | exact .inl rfl | exact .inr rfl))) gs_nil)) (sC_len (sC_len s0_len))) (p_one (p_set (asg_f2x (ps_set (i := 2) sc__law_ties.nd rfl (by first | exact .inl rfl | exact .inr rfl) (x_bin o_add (x2s (xv 2 (pv 2))) (f2s (x_lc rfl sc__law_ties.nd (i_rng1 (by rfl) b_range (a_cons (x2s (xv 4 (pv 4))) a_nil)) (blk_by (own := [("j", 6)]) (by kernel_rfl)) (not_in rfl) (sub_in rfl) (fun _ _ _ _ _ => (g_name (pg_name (i := 6) sc__law_ties.nd rfl (by first | exact .inl rfl | exact .inr rfl)))) (fun _ _ _ _ _ => ts_nil) (fun _ _ _ _ _ => (f2x (x_tup (ax_cons (x_sub room.units (x2s (xv 1 (pv 1))) (x2s (xv 6 (pv 6))) (fun _ _ => rfl) (fun _ _ => rfl)) (ax_cons (xv 5 (pv 5)) ax_nil)))))))))))))
    (p_cons (p_if (t_cmp o_lt (x2s (xv 3 (pv 3))) (f2s x_int) (nomark _)) (p_cons (p_set (asg_f2x (ps_set (i := 7) sc__law_ties.nd rfl (by first | exact .inl rfl | exact .inr rfl) (x_bin o_add (f2s x_int) (x2s (y_S c__law_pick ⟨_, rfl⟩ gd room (as_cons (by intro z; cases z) (pv 0) (ax_cons (f2x x_int) ax_nil))))))))
      (p_one (p_ret (ps_ret (f2s (x_lc rfl sc__law_ties.nd (i_seq (xv 2 (pv 2))) (blk_by (own := [("pair", 8)]) (by kernel_rfl)) (not_in rfl) (sub_in rfl) (fun _ _ _ _ _ => (g_name (pg_name (i := 8) sc__law_ties.nd rfl (by first | exact .inl rfl | exact .inr rfl)))) (fun _ _ _ _ _ => (ts_one (t_cmp o_lt (x2s (y_S c__law_pick ⟨_, rfl⟩ gd room (as_cons (by intro z; cases z) (pv 0) (ax_cons (f2x x_int) ax_nil)))) (x2s (xv 7 (pv 7))) (nomark _)))) (fun _ _ _ _ _ => (xv 8 (pv 8))))))))) p_nil)
    (p_cons (p_set (asg_f2x (asg_lc (ps_setLc (i := 9) rfl sc__law_ties.nd rfl rfl rfl (i_rng1 (by rfl) b_range (a_cons (f2s (x_bin o_sub (f2s (x_fn c_len (by rfl) b_len bt_len (a_cons (x2s (xv 1 (pv 1))) a_nil))) (f2s x_int))) a_nil)) (blk_by (own := [("k", 4)]) (by kernel_rfl)) (fun _ _ _ _ _ => (g_name (pg_name (i := 4) sc__law_ties.nd rfl (by first | exact .inl rfl | exact .inr rfl)))) (fun _ _ _ _ _ => ts_nil) (fun _ _ _ _ _ => (f2x (x_tup (ax_cons (x_sub room.units (x2s (xv 1 (pv 1))) (x2s (xv 4 (pv 4))) (fun _ _ => rfl) (fun _ _ => rfl)) (ax_cons (x_sub room.units (x2s (xv 1 (pv 1))) (f2s (x_bin o_add (x2s (xv 4 (pv 4))) (f2s x_int))) (fun _ _ => rfl) (fun _ _ => rfl)) ax_nil)))))) (not_in rfl) (sub_in rfl))))
    (p_cons (p_if (t_cmp (o_eq room.units) (x2s (xv 3 (pv 3))) (f2s x_int) (nomark _)) (p_one (p_ret (ps_ret (x2s (xv 9 (pv 9)))))) p_nil)
    (p_cons (p_if (t_cmp (o_eq room.units) (x2s (xv 3 (pv 3))) (f2s x_int) (nomark _)) (p_one (p_ret (ps_ret (f2s (x_bin o_add (x2s (xv 9 (pv 9))) (f2s (x_bin o_mulA (f2s (x_lst (ax_cons (f2x (x_tup (ax_cons (x_sub room.units (x2s (xv 1 (pv 1))) (f2s x_int) (fun _ _ => rfl) (fun _ _ => rfl)) (ax_cons (x_sub room.units (x2s (xv 1 (pv 1))) (f2s (x_un o_neg (f2s x_int))) (fun _ _ => rfl) (fun _ _ => rfl)) ax_nil)))) ax_nil))) (f2s (x_ty c_int (by rfl) b_int bt_int (a_cons (f2s (x_cmp o_gt (f2s (x_fn c_len (by rfl) b_len bt_len (a_cons (x2s (xv 1 (pv 1))) a_nil))) (f2s x_int) (nomark _))) a_nil)))))))))) p_nil)
    (p_cons (p_set (asg_f2x (ps_set (i := 10) sc__law_ties.nd rfl (by first | exact .inl rfl | exact .inr rfl) (x_lc rfl sc__law_ties.nd (i_seq (xv 1 (pv 1))) (blk_by (own := [("name", 11)]) (by kernel_rfl)) (not_in rfl) (sub_in rfl) (fun _ _ _ _ _ => (g_name (pg_name (i := 11) sc__law_ties.nd rfl (by first | exact .inl rfl | exact .inr rfl)))) (fun _ _ _ _ _ => (ts_one (t_cmp (o_eq room.units) (x2s (y_S c__law_pick ⟨_, rfl⟩ gd room (as_cons (by intro z; cases z) (pv 0) (ax_cons (f2x x_int) ax_nil)))) (f2s x_int) (nomark _)))) (fun _ _ _ _ _ => (xv 11 (pv 11)))))))
    (p_one (p_ret (ps_ret (f2s (x_lc rfl sc__law_ties.nd (i_seq (xv 2 (pv 2))) (blk_by (own := [("pair", 8)]) (by kernel_rfl)) (not_in rfl) (sub_in rfl) (fun _ _ _ _ _ => (g_name (pg_name (i := 8) sc__law_ties.nd rfl (by first | exact .inl rfl | exact .inr rfl)))) (fun _ _ _ _ _ => (ts_one (PW.pt (w_or (t_cmp (o_ne room.units) (f2s (x_cmp (o_inD room.units) (x2s (x_sub room.units (x2s (xv 8 (pv 8))) (f2s x_int) (fun _ _ => rfl) (fun _ _ => rfl))) (x2s (xv 10 (pv 10))) (by with_unfolding_all rfl))) (f2s (x_cmp (o_inD room.units) (x2s (x_sub room.units (x2s (xv 8 (pv 8))) (f2s x_int) (fun _ _ => rfl) (fun _ _ => rfl))) (x2s (xv 10 (pv 10))) (by with_unfolding_all rfl))) (nomark _)) (w_or1 (t_cmp (o_eq room.units) (x2s (y_S c__law_pick ⟨_, rfl⟩ gd room (as_cons (by intro z; cases z) (pv 0) (ax_cons (f2x x_int) ax_nil)))) (f2s x_int) (nomark _))))))) (fun _ _ _ _ _ => (xv 8 (pv 8)))))))))))))))
theorem sc__law_known : FnScope ["ties", "found", "one", "other"] ["ties"] (defScope s__law_known) := ⟨rfl, rfl, rfl, by decide +kernel, rfl, by decide +kernel, by decide +kernel⟩
theorem ok__law_known {P : Program} {w : World} {K : PySem.W.Frag} {mg : Str → Option Value} {base : Heap} (F : DefG K mg "_law_known" s__law_known ["ties"])    :
  CalG P w K mg base 1 "_law_known" (spP 1 m__law_known) :=
  cal_P (kb := kdL []) (kd := kdL [1]) (kd' := kdL []) F sc__law_known rfl (by decide) fun f cdv A outer s H Z room gd =>
    (p_cons (p_own (ps_set (i := 1) sc__law_known.nd rfl (by first | exact .inl rfl | exact .inr rfl) x_newT))
    (p_cons (p_for PassesOwn.never rfl (i_seq (xv 0 (pv 0))) (g_tup rfl (gs_cons (g_name (pg_name (i := 2) sc__law_known.nd rfl (by first | exact .inl rfl | exact .inr rfl))) (gs_cons (g_name (pg_name (i := 3) sc__law_known.nd rfl (by first | exact .inl rfl | exact .inr rfl))) gs_nil)) (sC_len (sC_len s0_len))) (p_cons (p_put (ps_dput (hu_of room) (pv 1) (f2s (x_tup (ax_cons (xv 2 (pv 2)) (ax_cons (xv 3 (pv 3)) ax_nil)))) (f2x x_int) rfl))
      (p_one (p_put (ps_dput (hu_of room) (pv 1) (f2s (x_tup (ax_cons (xv 3 (pv 3)) (ax_cons (xv 2 (pv 2)) ax_nil)))) (f2x x_int) rfl)))))
    (p_freeze (kd2 := kdL []) (kdL_sub rfl) (p_one (p_ret (ps_ret (x2s (xv 1 (pv 1)))))))))
theorem sc__law_lots : FnScope ["names", "found", "name", "lot"] ["names"] (defScope s__law_lots) := ⟨rfl, rfl, rfl, by decide +kernel, rfl, by decide +kernel, by decide +kernel⟩
theorem ok__law_lots {P : Program} {w : World} {K : PySem.W.Frag} {mg : Str → Option Value} {base : Heap} (F : DefG K mg "_law_lots" s__law_lots ["names"])    :
  CalG P w K mg base 1 "_law_lots" (spP 1 m__law_lots) :=
  cal_P (kb := kdL []) (kd := kdL []) (kd' := kdL []) F sc__law_lots rfl (by decide) fun f cdv A outer s H Z room gd =>
    (p_cons (p_set (asg_f2x (ps_set (i := 1) sc__law_lots.nd rfl (by first | exact .inl rfl | exact .inr rfl) (x_lst (ax_cons (f2x (x_tup ax_nil)) ax_nil)))))
    (p_cons (p_for PassesOwn.never rfl (i_seq (xv 0 (pv 0))) (g_name (pg_name (i := 2) sc__law_lots.nd rfl (by first | exact .inl rfl | exact .inr rfl))) (p_one (p_set (asg_f2x (ps_set (i := 1) sc__law_lots.nd rfl (by first | exact .inl rfl | exact .inr rfl) (x_bin o_add (x2s (xv 1 (pv 1))) (f2s (x_lc rfl sc__law_lots.nd (i_seq (xv 1 (pv 1))) (blk_by (own := [("lot", 3)]) (by kernel_rfl)) (not_in rfl) (sub_in rfl) (fun _ _ _ _ _ => (g_name (pg_name (i := 3) sc__law_lots.nd rfl (by first | exact .inl rfl | exact .inr rfl)))) (fun _ _ _ _ _ => ts_nil) (fun _ _ _ _ _ => (f2x (x_bin o_add (x2s (xv 3 (pv 3))) (f2s (x_tup (ax_cons (xv 2 (pv 2)) ax_nil))))))))))))))
    (p_one (p_ret (ps_ret (x2s (xv 1 (pv 1))))))))
theorem sc__law_late_posts : FnScope ["source", "names", "found", "name", "kind", "a", "b"] ["source", "names"] (defScope s__law_late_posts) := ⟨rfl, rfl, rfl, by decide +kernel, rfl, by decide +kernel, by decide +kernel⟩
def g__law_late_posts : FS :=
  (gSeq (gOwn 2 (mkL aN))
  (gSeq (gFor (iE (rd 1)) (sN 3) (gSeq (gSet 4 (cS m__law_of (aC (mkL (aC (cst (.str "apart")) (aC (cst (.str "tied")) aN))) aN)))
    (gSeq (gUnp (sT (sC (sN 5) (sC (sN 6) s0))) (cS m__law_of (aC (mkL (aC (mkT (aC (cst (.int 1)) (aC (cst (.int 1)) aN))) (aC (mkT (aC (cst (.int 2)) (aC (cst (.int 1)) aN))) (aC (mkT (aC (cst (.int 1)) (aC (cst (.int 40)) aN))) (aC (mkT (aC (cst (.int 3)) (aC (cst (.int 1)) aN))) (aC (mkT (aC (cst (.int 0)) (aC (cst (.int 77)) aN))) (aC (mkT (aC (cst (.int 0)) (aC (b2 dPow (cst (.int 10)) (cst (.int 6))) aN))) (aC (mkT (aC (cst (.int 1)) (aC (cst (.int 999999999)) aN))) (aC (mkT (aC (cst (.int 0)) (aC (cst (.int 2)) aN))) aN))))))))) aN)))
    (gApp 2 (mkT (aC (rd 3) (aC (rd 4) (aC (rd 5) (aC (rd 6) aN)))))))))
  (gRet (rd 2))))
def m__law_late_posts : List D → Src → Option (D × Src) := runS 7 g__law_late_posts
theorem ok__law_late_posts {P : Program} {w : World} {K : PySem.W.Frag} {mg : Str → Option Value} {base : Heap} (F : DefG K mg "_law_late_posts" s__law_late_posts ["source", "names"]) (c__law_of : CalG P w K mg base 2 "_law_of" (spS 1 m__law_of))   :
  CalG P w K mg base 3 "_law_late_posts" (spS 1 m__law_late_posts) :=
  cal_S (kb := kdL []) (kd := kdL [2]) (kd' := kdL []) F sc__law_late_posts rfl (by decide) fun f cdv A outer s H Z x c room gd =>
    (p_cons (p_own (ps_set (i := 2) sc__law_late_posts.nd rfl (by first | exact .inl rfl | exact .inr rfl) (x_lst ax_nil)))
    (p_cons (p_for PassesOwn.never rfl (i_seq (xv 1 (pv 1))) (g_name (pg_name (i := 3) sc__law_late_posts.nd rfl (by first | exact .inl rfl | exact .inr rfl))) (p_cons (p_set (ps_set (i := 4) sc__law_late_posts.nd rfl (by first | exact .inl rfl | exact .inr rfl) (y_S c__law_of ⟨_, rfl⟩ gd room (as_cons (by intro z; cases z) (pv 0) (ax_cons (f2x (x_lst (ax_cons (f2x x_str) (ax_cons (f2x x_str) ax_nil)))) ax_nil)))))
      (p_cons (p_unp (ps_asg (y_S c__law_of ⟨_, rfl⟩ gd room (as_cons (by intro z; cases z) (pv 0) (ax_cons (f2x (x_lst (ax_cons (f2x (x_tup (ax_cons (f2x x_int) (ax_cons (f2x x_int) ax_nil)))) (ax_cons (f2x (x_tup (ax_cons (f2x x_int) (ax_cons (f2x x_int) ax_nil)))) (ax_cons (f2x (x_tup (ax_cons (f2x x_int) (ax_cons (f2x x_int) ax_nil)))) (ax_cons (f2x (x_tup (ax_cons (f2x x_int) (ax_cons (f2x x_int) ax_nil)))) (ax_cons (f2x (x_tup (ax_cons (f2x x_int) (ax_cons (f2x x_int) ax_nil)))) (ax_cons (f2x (x_tup (ax_cons (f2x x_int) (ax_cons (f2x (x_bin o_pow (f2s x_int) (f2s x_int))) ax_nil)))) (ax_cons (f2x (x_tup (ax_cons (f2x x_int) (ax_cons (f2x x_int) ax_nil)))) (ax_cons (f2x (x_tup (ax_cons (f2x x_int) (ax_cons (f2x x_int) ax_nil)))) ax_nil)))))))))) ax_nil))) (g_tup rfl (gs_cons (g_name (pg_name (i := 5) sc__law_late_posts.nd rfl (by first | exact .inl rfl | exact .inr rfl))) (gs_cons (g_name (pg_name (i := 6) sc__law_late_posts.nd rfl (by first | exact .inl rfl | exact .inr rfl))) gs_nil)) (sC_len (sC_len s0_len)))))
      (p_one (p_app (ps_expr (pe_bm PySem.F.plainAttrs_list PySem.F.slot_list_append PySem.F.type_list_append mt_append (pv 2) (pa_cons (f2x (x_tup (ax_cons (xv 3 (pv 3)) (ax_cons (xv 4 (pv 4)) (ax_cons (xv 5 (pv 5)) (ax_cons (xv 6 (pv 6)) ax_nil)))))) pa_nil))))))))
    (p_freeze (kd2 := kdL []) (kdL_sub rfl) (p_one (p_ret (ps_ret (x2s (xv 2 (pv 2)))))))))
theorem sc__law_greatest : FnScope ["posts", "known", "kind", "names", "n", "found", "wanted", "lot", "is_such", "k", "one", "other", "some", "post"] ["posts", "known", "kind", "names", "n"] (defScope s__law_greatest) := ⟨rfl, rfl, rfl, by decide +kernel, rfl, by decide +kernel, by decide +kernel⟩
def g__law_greatest : FS :=
  (gSeq (gPar [5, 6] (aC (cst (.int 0)) (aC (b2 dEq (rd 2) (cst (.str "tied"))) aN)))
  (gSeq (gFor (iE (cN m__law_lots (aC (rd 3) aN))) (sN 7) (gSeq (gSet 8 (cst (.bool true)))
    (gSeq (gFor (iEnG (aC (rd 7) aN)) (sT (sC (sN 9) (sC (sN 10) s0))) (gSet 8 (bE (fAnd (tst (rd 8)) (tst (b2 dEq (lcE [11] (iE (sl3 (rd 7) pN (pS (rd 9)))) (sN 11) (tst (b2 dNe (b2 dInD (mkT (aC (rd 10) (aC (rd 11) aN))) (rd 1)) (rd 6))) (cst (.int 1))) (mkL aN)))))))
    (gIf (tst (rd 8)) (gSeq (gSet 12 (lcE [13] (iE (rd 0)) (sN 13) (tst (b2 dInD (b2 dSub2 (rd 13) (cst (.int 0))) (rd 7))) (ifE (tst (b2 dEq (b2 dSub2 (rd 13) (cst (.int 1))) (rd 2))) (b2 dAdd (b2 dMul (b2 dSub2 (rd 13) (cst (.int 2))) (rd 4)) (b2 dSub2 (rd 13) (cst (.int 3)))) (cst (.int 1)))))
    (gSet 5 (cN dMaxA (aC (rd 5) (aC (cN dSum (aC (rd 12) aN)) aN))))) gN))))
  (gRet (rd 5))))
def m__law_greatest : List D → Option D := runP 14 g__law_greatest
theorem ok__law_greatest {P : Program} {w : World} {K : PySem.W.Frag} {mg : Str → Option Value} {base : Heap} (F : DefG K mg "_law_greatest" s__law_greatest ["posts", "known", "kind", "names", "n"]) (c__law_lots : CalG P w K mg base 1 "_law_lots" (spP 1 m__law_lots)) (b_enumerate : mg "enumerate" = none) (b_sum : mg "sum" = none) (b_max : mg "max" = none)  :
  CalG P w K mg base 2 "_law_greatest" (spP 5 m__law_greatest) :=
  cal_P (kb := kdL []) (kd := kdL []) (kd' := kdL []) F sc__law_greatest rfl (by decide) fun f cdv A outer s H Z room gd =>
    (p_cons (p_par (is := [5, 6]) (sto_cell (n := 2) (ps_asg (pe_tup (m_cl (f2x x_int) (m_cl (f2x (x_cmp (o_eq room.units) (x2s (xv 2 (pv 2))) (f2s x_str) (nomark _))) m_nil))) (pg_tup rfl (pgs_cons (pg_name (i := 5) sc__law_greatest.nd rfl (by first | exact .inl rfl | exact .inr rfl)) (pgs_cons (pg_name (i := 6) sc__law_greatest.nd rfl (by first | exact .inl rfl | exact .inr rfl)) pgs_nil)) rfl rfl))))
    (p_cons (p_for PassesOwn.never rfl (i_seq (y_P c__law_lots gd room (ax_cons (xv 3 (pv 3)) ax_nil))) (g_name (pg_name (i := 7) sc__law_greatest.nd rfl (by first | exact .inl rfl | exact .inr rfl))) (p_cons (p_set (asg_f2x (ps_set (i := 8) sc__law_greatest.nd rfl (by first | exact .inl rfl | exact .inr rfl) x_bl)))
      (p_cons (p_for PassesOwn.never rfl (i_enumG (by rfl) b_enumerate (ax_cons (xv 7 (pv 7)) ax_nil)) (g_tup rfl (gs_cons (g_name (pg_name (i := 9) sc__law_greatest.nd rfl (by first | exact .inl rfl | exact .inr rfl))) (gs_cons (g_name (pg_name (i := 10) sc__law_greatest.nd rfl (by first | exact .inl rfl | exact .inr rfl))) gs_nil)) (sC_len (sC_len s0_len))) (p_one (p_set (asg_f2x (ps_set (i := 8) sc__law_greatest.nd rfl (by first | exact .inl rfl | exact .inr rfl) (v_and (v_ofS (x2s (xv 8 (pv 8)))) (v_one (v_of (x_cmp (o_eq room.units) (f2s (x_lc rfl sc__law_greatest.nd (i_seq (f2x (x_sl (x2s (xv 7 (pv 7))) p_none (p_some (x2s (xv 9 (pv 9))))))) (blk_by (own := [("other", 11)]) (by kernel_rfl)) (not_in rfl) (sub_in rfl) (fun _ _ _ _ _ => (g_name (pg_name (i := 11) sc__law_greatest.nd rfl (by first | exact .inl rfl | exact .inr rfl)))) (fun _ _ _ _ _ => (ts_one (t_cmp (o_ne room.units) (f2s (x_cmp (o_inD room.units) (f2s (x_tup (ax_cons (xv 10 (pv 10)) (ax_cons (xv 11 (pv 11)) ax_nil)))) (x2s (xv 1 (pv 1))) (by with_unfolding_all rfl))) (x2s (xv 6 (pv 6))) (nomark _)))) (fun _ _ _ _ _ => (f2x x_int)))) (f2s (x_lst ax_nil)) (nomark _))))))))))
      (p_one (p_if (t_val (x2s (xv 8 (pv 8)))) (p_cons (p_set (asg_f2x (asg_lc (ps_setLc (i := 12) rfl sc__law_greatest.nd rfl rfl rfl (i_seq (xv 0 (pv 0))) (blk_by (own := [("post", 13)]) (by kernel_rfl)) (fun _ _ _ _ _ => (g_name (pg_name (i := 13) sc__law_greatest.nd rfl (by first | exact .inl rfl | exact .inr rfl)))) (fun _ _ _ _ _ => (ts_one (t_cmp (o_inD room.units) (x2s (x_sub room.units (x2s (xv 13 (pv 13))) (f2s x_int) (fun _ _ => rfl) (fun _ _ => rfl))) (x2s (xv 7 (pv 7))) (by with_unfolding_all rfl)))) (fun _ _ _ _ _ => (f2x (x_ifF (t_cmp (o_eq room.units) (x2s (x_sub room.units (x2s (xv 13 (pv 13))) (f2s x_int) (fun _ _ => rfl) (fun _ _ => rfl))) (x2s (xv 2 (pv 2))) (nomark _)) (x_bin o_add (f2s (x_bin o_mul (x2s (x_sub room.units (x2s (xv 13 (pv 13))) (f2s x_int) (fun _ _ => rfl) (fun _ _ => rfl))) (x2s (xv 4 (pv 4))))) (x2s (x_sub room.units (x2s (xv 13 (pv 13))) (f2s x_int) (fun _ _ => rfl) (fun _ _ => rfl)))) x_int)))) (not_in rfl) (sub_in rfl))))
      (p_one (p_set (asg_f2x (ps_set (i := 5) sc__law_greatest.nd rfl (by first | exact .inl rfl | exact .inr rfl) (x_fn (c_maxA room.units rfl) (by rfl) b_max bt_max (a_cons (x2s (xv 5 (pv 5))) (a_cons (f2s (x_fn (c_sum rfl) (by rfl) b_sum bt_sum (a_cons (x2s (xv 12 (pv 12))) a_nil))) a_nil)))))))) p_nil)))))
    (p_one (p_ret (ps_ret (x2s (xv 5 (pv 5))))))))
theorem sc_law : FnScope ["script", "source", "names", "posts", "ties", "web", "known", "many", "late", "told", "behind", "number", "more", "looks", "n", "due", "kind", "post", "fixed", "here", "m"] ["script"] (defScope s_law) := ⟨rfl, rfl, rfl, by decide +kernel, rfl, by decide +kernel, by decide +kernel⟩
def L_1 : FS :=
  (gSet 2 (sl3 (mkL (aC (cst (.str "a")) (aC (cst (.str "b")) (aC (cst (.str "c")) (aC (cst (.str "d")) (aC (cst (.str "e")) (aC (cst (.str "f")) aN))))))) pN (pS (b2 dAdd (cst (.int 2)) (cS m__law_pick (aC (cst (.int 5)) aN))))))
def L_2 : FS :=
  (gSet 3 (ifE (tst (b2 dEq (cS m__law_pick (aC (cst (.int 2)) aN)) (cst (.int 0)))) (cS m__law_late_posts (aC (rd 2) aN)) (cS m__law_posts (aC (rd 2) aN))))
def L_3 : FS :=
  (gSet 4 (cS m__law_ties (aC (rd 2) aN)))
def L_4 : FS :=
  (gPar [5, 6] (aC (cN m_web_told (aC (rd 3) (aC (rd 4) aN))) (aC (cN m__law_known (aC (rd 4) aN)) aN)))
def L_5 : FS :=
  (gSet 7 (cS m__law_of (aC (mkL (aC (cst (.int 0)) (aC (cst (.int 1)) (aC (cst (.int 3)) (aC (cst (.int 38)) (aC (b2 dPow (cst (.int 10)) (cst (.int 6))) (aC (cst (.int 999999998)) aN))))))) aN)))
def L_6 : FS :=
  (gSet 8 (cN m_web_later (aC (rd 5) (aC (rd 7) aN))))
def L_7 : FS :=
  (gSet 9 (mkL (aC (cN m_chain_told (aC (rd 5) aN)) (aC (cN m_lone_told (aC (rd 5) aN)) (aC (cN m_size_told (aC (rd 5) aN)) aN)))))
def L_8 : FS :=
  (gSet 10 (mkL (aC (cN m_chain_told (aC (rd 8) aN)) (aC (cN m_lone_told (aC (rd 8) aN)) (aC (cN m_size_told (aC (rd 8) aN)) aN)))))
def L_9 : FS :=
  (gIf (tst (b2 dNe (cN dRepr (aC (rd 10) aN)) (cN dRepr (aC (lcE [11] (iE (rd 9)) (sN 11) bT (cN m_number_later (aC (rd 11) (aC (rd 7) aN)))) aN)))) (gRet (cst (.bool false))) gN)
def L_10 : FS :=
  (gSet 12 (cS m__law_pick (aC (cst (.int 5)) aN)))
def L_11 : FS :=
  (gIf (tst (b2 dNe (cN dRepr (aC (cN m_web_later (aC (rd 8) (aC (rd 12) aN))) aN)) (cN dRepr (aC (cN m_web_later (aC (rd 5) (aC (b2 dAdd (rd 7) (rd 12)) aN))) aN)))) (gRet (cst (.bool false))) gN)
def L_12 : FS :=
  (gIf (tst (b2 dNe (cN dRepr (aC (lcE [11] (iE (rd 9)) (sN 11) bT (cN m_number_told (aC (rd 11) aN))) aN)) (cN dRepr (aC (rd 9) aN)))) (gRet (cst (.bool false))) gN)
def L_13 : FS :=
  (gOwn 13 (cst (.dict [(.int 0, .int 0), (.int 1, .int 0), (.int 2, .int 0), (.int 7, .int 0), (.int 1000000000000, .int 0)])))
def L_14 : FS :=
  (gFor (iE (rd 9)) (sN 11) (gSeq (gPutK 13 (cN m_last_from (aC (rd 11) aN)) (cst (.int 0)))
    (gPutK 13 (cN dMaxA (aC (cst (.int 0)) (aC (b2 dSub (cN m_last_from (aC (rd 11) aN)) (cst (.int 1))) aN))) (cst (.int 0)))))
def L_15 : FS :=
  (gFor (iE (cN dSortedC (aC (rd 13) aN))) (sN 14) (gSeq (gOwn 15 (lcE [16] (iE (mkT (aC (cst (.str "tied")) (aC (cst (.str "apart")) aN)))) (sN 16) bT (cN m__law_greatest (aC (rd 3) (aC (rd 6) (aC (rd 16) (aC (rd 2) (aC (rd 14) aN))))))))
    (gSeq (gApp 15 (cN dSum (aC (lcE [17] (iE (rd 3)) (sN 17) bT (b2 dAdd (b2 dMul (b2 dSub2 (rd 17) (cst (.int 2))) (rd 14)) (b2 dSub2 (rd 17) (cst (.int 3))))) aN)))
    (gSeq (gIf (tst (b2 dNe (cN dRepr (aC (lcE [11] (iE (rd 9)) (sN 11) bT (cN m_number_at (aC (rd 11) (aC (rd 14) aN)))) aN)) (cN dRepr (aC (rd 15) aN)))) (gRet (cst (.bool false))) gN)
    (gSeq (gSet 18 (cN m_web_at (aC (rd 5) (aC (rd 14) aN))))
    (gSeq (gSet 19 (mkL (aC (cN m_chain_told (aC (rd 18) aN)) (aC (cN m_lone_told (aC (rd 18) aN)) (aC (cN m_size_told (aC (rd 18) aN)) aN)))))
    (gSeq (gIf (tst (b2 dNe (cN dRepr (aC (rd 19) aN)) (cN dRepr (aC (lcE [11] (iE (rd 15)) (sN 11) bT (cN m_number_line (aC (rd 11) (aC (cst (.int 0)) aN)))) aN)))) (gRet (cst (.bool false))) gN)
    (gFor (iE (b2 dSub2 (rd 18) (cst (.int 0)))) (sN 17) (gIf (fOr (tst (b2 dNe (b2 dSub2 (rd 17) (cst (.int 2))) (cst (.int 0)))) (fAnd (tst (b2 dLt (b2 dSub2 (rd 17) (cst (.int 3))) (cst (.int 2)))) (tst (b2 dNe (b2 dSub2 (rd 17) (cst (.int 1))) (cst (.str "apart")))))) (gRet (cst (.bool false))) gN)))))))))
def L_16 : FS :=
  (gSet 20 (cS m__law_pick (aC (cst (.int 9)) aN)))
def L_17 : FS :=
  (gRet (bE (fAnd (tst (b2 dEq (cN dRepr (aC (cN m_web_at (aC (rd 8) (aC (rd 20) aN))) aN)) (cN dRepr (aC (cN m_web_at (aC (rd 5) (aC (b2 dAdd (rd 7) (rd 20)) aN))) aN)))) (tst (b2 dEq (cN dRepr (aC (cN m_web_later (aC (rd 5) (aC (cst (.int 0)) aN))) aN)) (cN dRepr (aC (rd 5) aN)))))))
def g_law : FS :=
  (gSeq L_1
  (gSeq L_2
  (gSeq L_3
  (gSeq L_4
  (gSeq L_5
  (gSeq L_6
  (gSeq L_7
  (gSeq L_8
  (gSeq L_9
  (gSeq L_10
  (gSeq L_11
  (gSeq L_12
  (gSeq L_13
  (gSeq L_14
  (gSeq L_15
  (gSeq L_16
  L_17))))))))))))))))
theorem ok_law {P : Program} {w : World} {K : PySem.W.Frag} {mg : Str → Option Value} {base : Heap} {f : Addr} {fd : FuncData} (F : Fun K "law" "law" s_law f fd) (c__law_source : CalG P w K mg base 1 "_law_source" (spSrc K 63)) (c__law_pick : CalG P w K mg base 1 "_law_pick" (spS 1 m__law_pick)) (c__law_late_posts : CalG P w K mg base 3 "_law_late_posts" (spS 1 m__law_late_posts)) (c__law_posts : CalG P w K mg base 4 "_law_posts" (spS 1 m__law_posts)) (c__law_ties : CalG P w K mg base 2 "_law_ties" (spS 1 m__law_ties)) (c__law_known : CalG P w K mg base 1 "_law_known" (spP 1 m__law_known)) (c_web_told : CalG P w K mg base 2 "web_told" (spP 2 m_web_told)) (c__law_of : CalG P w K mg base 2 "_law_of" (spS 1 m__law_of)) (c_web_later : CalG P w K mg base 3 "web_later" (spP 2 m_web_later)) (c_size_told : CalG P w K mg base 5 "size_told" (spP 1 m_size_told)) (c_lone_told : CalG P w K mg base 7 "lone_told" (spP 1 m_lone_told)) (c_chain_told : CalG P w K mg base 7 "chain_told" (spP 1 m_chain_told)) (c_number_later : CalG P w K mg base 4 "number_later" (spP 2 m_number_later)) (c_number_told : CalG P w K mg base 3 "number_told" (spP 1 m_number_told)) (c_last_from : CalG P w K mg base 1 "last_from" (spP 1 m_last_from)) (c__law_greatest : CalG P w K mg base 2 "_law_greatest" (spP 5 m__law_greatest)) (c_number_at : CalG P w K mg base 2 "number_at" (spP 2 m_number_at)) (c_web_at : CalG P w K mg base 3 "web_at" (spP 2 m_web_at)) (c_number_line : CalG P w K mg base 3 "number_line" (spP 2 m_number_line)) (b_repr : mg "repr" = none) (b_max : mg "max" = none) (b_sorted : mg "sorted" = none) (b_sum : mg "sum" = none) 
  (tr : ∀ T : Src, ∃ T', g_law (List.replicate 21 none) T = some (.rt (.bool true) T')) : FnG P w K mg base 9 f fd ["script"] (spLaw K 63) :=
  cal_L (kb := kdL []) (kd := kdL [13, 15]) (kd' := kdL []) F sc_law rfl (by decide) (fun cdv A outer s H room gd => ps_set (i := 1) sc_law.nd rfl (by first | exact .inl rfl | exact .inr rfl) (y_src c__law_source gd room (pa_cons (pv 0) pa_nil)))
   (fun cdv A outer s H H1 Z x c room gd =>
    (p_cons (p_set (asg_f2x (ps_set (i := 2) sc_law.nd rfl (by first | exact .inl rfl | exact .inr rfl) (x_sl (f2s (x_lst (ax_cons (f2x x_str) (ax_cons (f2x x_str) (ax_cons (f2x x_str) (ax_cons (f2x x_str) (ax_cons (f2x x_str) (ax_cons (f2x x_str) ax_nil)))))))) p_none (p_some (f2s (x_bin o_add (f2s x_int) (x2s (y_S c__law_pick ⟨_, rfl⟩ gd room (as_cons (by intro z; cases z) (pv 1) (ax_cons (f2x x_int) ax_nil)))))))))))
    (p_cons (p_set (ps_set (i := 3) sc_law.nd rfl (by first | exact .inl rfl | exact .inr rfl) (x_if (t_cmp (o_eq room.units) (x2s (y_S c__law_pick ⟨_, rfl⟩ gd room (as_cons (by intro z; cases z) (pv 1) (ax_cons (f2x x_int) ax_nil)))) (f2s x_int) (nomark _)) (y_S c__law_late_posts ⟨_, rfl⟩ gd room (as_cons (by intro z; cases z) (pv 1) (ax_cons (xv 2 (pv 2)) ax_nil))) (y_S c__law_posts ⟨_, rfl⟩ gd room (as_cons (by intro z; cases z) (pv 1) (ax_cons (xv 2 (pv 2)) ax_nil))))))
    (p_cons (p_set (ps_set (i := 4) sc_law.nd rfl (by first | exact .inl rfl | exact .inr rfl) (y_S c__law_ties ⟨_, rfl⟩ gd room (as_cons (by intro z; cases z) (pv 1) (ax_cons (xv 2 (pv 2)) ax_nil)))))
    (p_cons (p_par (is := [5, 6]) (sto_cell (n := 2) (ps_asg (pe_tup (m_cl (y_P c_web_told gd room (ax_cons (xv 3 (pv 3)) (ax_cons (xv 4 (pv 4)) ax_nil))) (m_cl (y_P c__law_known gd room (ax_cons (xv 4 (pv 4)) ax_nil)) m_nil))) (pg_tup rfl (pgs_cons (pg_name (i := 5) sc_law.nd rfl (by first | exact .inl rfl | exact .inr rfl)) (pgs_cons (pg_name (i := 6) sc_law.nd rfl (by first | exact .inl rfl | exact .inr rfl)) pgs_nil)) rfl rfl))))
    (p_cons (p_set (ps_set (i := 7) sc_law.nd rfl (by first | exact .inl rfl | exact .inr rfl) (y_S c__law_of ⟨_, rfl⟩ gd room (as_cons (by intro z; cases z) (pv 1) (ax_cons (f2x (x_lst (ax_cons (f2x x_int) (ax_cons (f2x x_int) (ax_cons (f2x x_int) (ax_cons (f2x x_int) (ax_cons (f2x (x_bin o_pow (f2s x_int) (f2s x_int))) (ax_cons (f2x x_int) ax_nil)))))))) ax_nil)))))
    (p_cons (p_set (ps_set (i := 8) sc_law.nd rfl (by first | exact .inl rfl | exact .inr rfl) (y_P c_web_later gd room (ax_cons (xv 5 (pv 5)) (ax_cons (xv 7 (pv 7)) ax_nil)))))
    (p_cons (p_set (asg_f2x (ps_set (i := 9) sc_law.nd rfl (by first | exact .inl rfl | exact .inr rfl) (x_lst (ax_cons (y_P c_chain_told gd room (ax_cons (xv 5 (pv 5)) ax_nil)) (ax_cons (y_P c_lone_told gd room (ax_cons (xv 5 (pv 5)) ax_nil)) (ax_cons (y_P c_size_told gd room (ax_cons (xv 5 (pv 5)) ax_nil)) ax_nil)))))))
    (p_cons (p_set (asg_f2x (ps_set (i := 10) sc_law.nd rfl (by first | exact .inl rfl | exact .inr rfl) (x_lst (ax_cons (y_P c_chain_told gd room (ax_cons (xv 8 (pv 8)) ax_nil)) (ax_cons (y_P c_lone_told gd room (ax_cons (xv 8 (pv 8)) ax_nil)) (ax_cons (y_P c_size_told gd room (ax_cons (xv 8 (pv 8)) ax_nil)) ax_nil)))))))
    (p_cons (p_if (t_cmp (o_ne room.units) (f2s (x_fn (c_repr gd room.units) (by rfl) b_repr bt_repr (a_cons (x2s (xv 10 (pv 10))) a_nil))) (f2s (x_fn (c_repr gd room.units) (by rfl) b_repr bt_repr (a_cons (f2s (x_lc rfl sc_law.nd (i_seq (xv 9 (pv 9))) (blk_by (own := [("number", 11)]) (by kernel_rfl)) (not_in rfl) (sub_in rfl) (fun _ _ _ _ _ => (g_name (pg_name (i := 11) sc_law.nd rfl (by first | exact .inl rfl | exact .inr rfl)))) (fun _ _ _ _ _ => ts_nil) (fun _ _ _ _ _ => (y_P c_number_later gd room (ax_cons (xv 11 (pv 11)) (ax_cons (xv 7 (pv 7)) ax_nil)))))) a_nil))) (nomark _)) (p_one (p_ret (ps_ret (f2s x_bl)))) p_nil)
    (p_cons (p_set (ps_set (i := 12) sc_law.nd rfl (by first | exact .inl rfl | exact .inr rfl) (y_S c__law_pick ⟨_, rfl⟩ gd room (as_cons (by intro z; cases z) (pv 1) (ax_cons (f2x x_int) ax_nil)))))
    (p_cons (p_if (t_cmp (o_ne room.units) (f2s (x_fn (c_repr gd room.units) (by rfl) b_repr bt_repr (a_cons (x2s (y_P c_web_later gd room (ax_cons (xv 8 (pv 8)) (ax_cons (xv 12 (pv 12)) ax_nil)))) a_nil))) (f2s (x_fn (c_repr gd room.units) (by rfl) b_repr bt_repr (a_cons (x2s (y_P c_web_later gd room (ax_cons (xv 5 (pv 5)) (ax_cons (f2x (x_bin o_add (x2s (xv 7 (pv 7))) (x2s (xv 12 (pv 12))))) ax_nil)))) a_nil))) (nomark _)) (p_one (p_ret (ps_ret (f2s x_bl)))) p_nil)
    (p_cons (p_if (t_cmp (o_ne room.units) (f2s (x_fn (c_repr gd room.units) (by rfl) b_repr bt_repr (a_cons (f2s (x_lc rfl sc_law.nd (i_seq (xv 9 (pv 9))) (blk_by (own := [("number", 11)]) (by kernel_rfl)) (not_in rfl) (sub_in rfl) (fun _ _ _ _ _ => (g_name (pg_name (i := 11) sc_law.nd rfl (by first | exact .inl rfl | exact .inr rfl)))) (fun _ _ _ _ _ => ts_nil) (fun _ _ _ _ _ => (y_P c_number_told gd room (ax_cons (xv 11 (pv 11)) ax_nil))))) a_nil))) (f2s (x_fn (c_repr gd room.units) (by rfl) b_repr bt_repr (a_cons (x2s (xv 9 (pv 9))) a_nil))) (nomark _)) (p_one (p_ret (ps_ret (f2s x_bl)))) p_nil)
    (p_cons (p_own (ps_set (i := 13) sc_law.nd rfl (by first | exact .inl rfl | exact .inr rfl) (x_dispC [.inl 0, .inl 1, .inl 2, .inl 7, .inl 1000000000000] [.int 0, .int 0, .int 0, .int 0, .int 0] [(.int 0, .int 0), (.int 1, .int 0), (.int 2, .int 0), (.int 7, .int 0), (.int 1000000000000, .int 0)] (pps_cons pe_int pe_int (pps_cons pe_int pe_int (pps_cons pe_int pe_int (pps_cons pe_int pe_int (pps_cons (pe_powC 1000000000000 pe_int pe_int (by decide) (by decide)) pe_int pps_nil))))) rfl rfl rfl (fun z => nomatch z) (by decide) rfl rfl (by decide) (fun _ _ => (rv_cons rv_int (rv_cons rv_int (rv_cons rv_int (rv_cons rv_int (rv_cons rv_int rv_nil)))))) rfl)))
    (p_cons (p_for PassesOwn.never rfl (i_seq (xv 9 (pv 9))) (g_name (pg_name (i := 11) sc_law.nd rfl (by first | exact .inl rfl | exact .inr rfl))) (p_cons (p_put (ps_dput (hu_of room) (pv 13) (x2s (y_P c_last_from gd room (ax_cons (xv 11 (pv 11)) ax_nil))) (f2x x_int) rfl))
      (p_one (p_put (ps_dput (hu_of room) (pv 13) (f2s (x_fn (c_maxA room.units rfl) (by rfl) b_max bt_max (a_cons (f2s x_int) (a_cons (f2s (x_bin o_sub (x2s (y_P c_last_from gd room (ax_cons (xv 11 (pv 11)) ax_nil))) (f2s x_int))) a_nil)))) (f2x x_int) rfl)))))
    (p_freeze (kd2 := kdL [15]) (kdL_sub rfl) (p_cons (p_for PassesOwn.never rfl (i_seq (f2x (x_fn (c_sortedC room.units rfl) (by rfl) b_sorted bt_sorted (a_cons (x2s (xv 13 (pv 13))) a_nil)))) (g_name (pg_name (i := 14) sc_law.nd rfl (by first | exact .inl rfl | exact .inr rfl))) (p_cons (p_own (asg_lc (ps_setLc (i := 15) rfl sc_law.nd rfl rfl rfl (i_seq (f2x (x_tup (ax_cons (f2x x_str) (ax_cons (f2x x_str) ax_nil))))) (blk_by (own := [("kind", 16)]) (by kernel_rfl)) (fun _ _ _ _ _ => (g_name (pg_name (i := 16) sc_law.nd rfl (by first | exact .inl rfl | exact .inr rfl)))) (fun _ _ _ _ _ => ts_nil) (fun _ _ _ _ _ => (y_P c__law_greatest gd room (ax_cons (xv 3 (pv 3)) (ax_cons (xv 6 (pv 6)) (ax_cons (xv 16 (pv 16)) (ax_cons (xv 2 (pv 2)) (ax_cons (xv 14 (pv 14)) ax_nil)))))))) (not_in rfl) (sub_in rfl)))
      (p_cons (p_app (ps_expr (pe_bm PySem.F.plainAttrs_list PySem.F.slot_list_append PySem.F.type_list_append mt_append (pv 15) (pa_cons (f2x (x_fn (c_sum rfl) (by rfl) b_sum bt_sum (a_cons (f2s (x_lc rfl sc_law.nd (i_seq (xv 3 (pv 3))) (blk_by (own := [("post", 17)]) (by kernel_rfl)) (not_in rfl) (sub_in rfl) (fun _ _ _ _ _ => (g_name (pg_name (i := 17) sc_law.nd rfl (by first | exact .inl rfl | exact .inr rfl)))) (fun _ _ _ _ _ => ts_nil) (fun _ _ _ _ _ => (f2x (x_bin o_add (f2s (x_bin o_mul (x2s (x_sub room.units (x2s (xv 17 (pv 17))) (f2s x_int) (fun _ _ => rfl) (fun _ _ => rfl))) (x2s (xv 14 (pv 14))))) (x2s (x_sub room.units (x2s (xv 17 (pv 17))) (f2s x_int) (fun _ _ => rfl) (fun _ _ => rfl)))))))) a_nil))) pa_nil))))
      (p_cons (p_if (t_cmp (o_ne room.units) (f2s (x_fn (c_repr gd room.units) (by rfl) b_repr bt_repr (a_cons (f2s (x_lc rfl sc_law.nd (i_seq (xv 9 (pv 9))) (blk_by (own := [("number", 11)]) (by kernel_rfl)) (not_in rfl) (sub_in rfl) (fun _ _ _ _ _ => (g_name (pg_name (i := 11) sc_law.nd rfl (by first | exact .inl rfl | exact .inr rfl)))) (fun _ _ _ _ _ => ts_nil) (fun _ _ _ _ _ => (y_P c_number_at gd room (ax_cons (xv 11 (pv 11)) (ax_cons (xv 14 (pv 14)) ax_nil)))))) a_nil))) (f2s (x_fn (c_repr gd room.units) (by rfl) b_repr bt_repr (a_cons (xo 15 (pv 15)) a_nil))) (nomark _)) (p_one (p_ret (ps_ret (f2s x_bl)))) p_nil)
      (p_cons (p_set (ps_set (i := 18) sc_law.nd rfl (by first | exact .inl rfl | exact .inr rfl) (y_P c_web_at gd room (ax_cons (xv 5 (pv 5)) (ax_cons (xv 14 (pv 14)) ax_nil)))))
      (p_cons (p_set (asg_f2x (ps_set (i := 19) sc_law.nd rfl (by first | exact .inl rfl | exact .inr rfl) (x_lst (ax_cons (y_P c_chain_told gd room (ax_cons (xv 18 (pv 18)) ax_nil)) (ax_cons (y_P c_lone_told gd room (ax_cons (xv 18 (pv 18)) ax_nil)) (ax_cons (y_P c_size_told gd room (ax_cons (xv 18 (pv 18)) ax_nil)) ax_nil)))))))
      (p_cons (p_if (t_cmp (o_ne room.units) (f2s (x_fn (c_repr gd room.units) (by rfl) b_repr bt_repr (a_cons (x2s (xv 19 (pv 19))) a_nil))) (f2s (x_fn (c_repr gd room.units) (by rfl) b_repr bt_repr (a_cons (f2s (x_lc rfl sc_law.nd (i_seqS (xo 15 (pv 15))) (blk_by (own := [("number", 11)]) (by kernel_rfl)) (not_in rfl) (sub_in rfl) (fun _ _ _ _ _ => (g_name (pg_name (i := 11) sc_law.nd rfl (by first | exact .inl rfl | exact .inr rfl)))) (fun _ _ _ _ _ => ts_nil) (fun _ _ _ _ _ => (y_P c_number_line gd room (ax_cons (xv 11 (pv 11)) (ax_cons (f2x x_int) ax_nil)))))) a_nil))) (nomark _)) (p_one (p_ret (ps_ret (f2s x_bl)))) p_nil)
      (p_one (p_for PassesOwn.never rfl (i_seq (x_sub room.units (x2s (xv 18 (pv 18))) (f2s x_int) (fun _ _ => rfl) (fun _ _ => rfl))) (g_name (pg_name (i := 17) sc_law.nd rfl (by first | exact .inl rfl | exact .inr rfl))) (p_one (p_if (PW.pt (w_or (t_cmp (o_ne room.units) (x2s (x_sub room.units (x2s (xv 17 (pv 17))) (f2s x_int) (fun _ _ => rfl) (fun _ _ => rfl))) (f2s x_int) (nomark _)) (w_or1 (PW.pt (w_and (t_cmp o_lt (x2s (x_sub room.units (x2s (xv 17 (pv 17))) (f2s x_int) (fun _ _ => rfl) (fun _ _ => rfl))) (f2s x_int) (nomark _)) (w_and1 (t_cmp (o_ne room.units) (x2s (x_sub room.units (x2s (xv 17 (pv 17))) (f2s x_int) (fun _ _ => rfl) (fun _ _ => rfl))) (f2s x_str) (nomark _)))))))) (p_one (p_ret (ps_ret (f2s x_bl)))) p_nil)))))))))))
    (p_freeze (kd2 := kdL []) (kdL_sub rfl) (p_cons (p_set (ps_set (i := 20) sc_law.nd rfl (by first | exact .inl rfl | exact .inr rfl) (y_S c__law_pick ⟨_, rfl⟩ gd room (as_cons (by intro z; cases z) (pv 1) (ax_cons (f2x x_int) ax_nil)))))
    (p_one (p_ret (ps_ret (f2s (v_and (v_of (x_cmp (o_eq room.units) (f2s (x_fn (c_repr gd room.units) (by rfl) b_repr bt_repr (a_cons (x2s (y_P c_web_at gd room (ax_cons (xv 8 (pv 8)) (ax_cons (xv 20 (pv 20)) ax_nil)))) a_nil))) (f2s (x_fn (c_repr gd room.units) (by rfl) b_repr bt_repr (a_cons (x2s (y_P c_web_at gd room (ax_cons (xv 5 (pv 5)) (ax_cons (f2x (x_bin o_add (x2s (xv 7 (pv 7))) (x2s (xv 20 (pv 20))))) ax_nil)))) a_nil))) (nomark _))) (v_one (v_of (x_cmp (o_eq room.units) (f2s (x_fn (c_repr gd room.units) (by rfl) b_repr bt_repr (a_cons (x2s (y_P c_web_later gd room (ax_cons (xv 5 (pv 5)) (ax_cons (f2x x_int) ax_nil)))) a_nil))) (f2s (x_fn (c_repr gd room.units) (by rfl) b_repr bt_repr (a_cons (x2s (xv 5 (pv 5))) a_nil))) (nomark _)))))))))))))))))))))))))))) tr
end LW

set_option Elab.async false
set_option linter.all false
set_option maxRecDepth 100000
set_option maxHeartbeats 4000000
namespace LW
open PySem PySem.Spec PyProof.Rows L2 TL

def wvAt (k : Bool) (m : Int) (z : Po) : Int := if z.k = k then z.a * m + z.b else 1
def allKb (R : Str → Str → Bool) (k : Bool) (lot : List Str) : Bool := decide (lot.Pairwise fun a b => R a b = k)
theorem allKb_iff {R : Str → Str → Bool} {k : Bool} {lot : List Str} : allKb R k lot = true ↔ AllK R k lot := by
  unfold allKb AllK
  exact decide_eq_true_iff
theorem allKb_snoc (R : Str → Str → Bool) (k : Bool) (lot : List Str) (x : Str) : allKb R k (lot ++ [x]) = (allKb R k lot && lot.all fun o => decide (R o x = k)) := by
  rw [Bool.eq_iff_iff, Bool.and_eq_true, allKb_iff, allKb_iff, List.all_eq_true]
  unfold AllK
  rw [List.pairwise_append]
  constructor
  · rintro ⟨h1, _, h3⟩
    exact ⟨h1, fun o ho => decide_eq_true (h3 o ho x (List.mem_singleton.mpr rfl))⟩
  · rintro ⟨h1, h2⟩
    exact ⟨h1, List.pairwise_singleton .., fun a ha b hb => by rw [List.mem_singleton.mp hb]; exact of_decide_eq_true (h2 a ha)⟩
theorem wv_ln (zs : List Po) (k : Bool) (m : Int) (lot : List Str) : (lot.map fun s => wvAt k m (poOf zs s)).sum = ln (lnOf zs k lot) m := by
  unfold ln lnOf
  dsimp only
  induction lot with
  | nil => simp
  | cons s lot ih =>
    rw [List.map_cons, List.map_cons, List.map_cons, List.sum_cons, List.sum_cons, List.sum_cons, ih, Int.add_mul]
    have : wvAt k m (poOf zs s) = wvB zs k s + wvA zs k s * m := by
      unfold wvAt wvB wvA
      split
      · omega
      · simp
    omega
theorem lot_po {qs zs : List Po} {lot : List Str} (hp : qs.Perm zs) (nd : (zs.map Po.n).Nodup) (ndl : lot.Nodup) (hs : ∀ s ∈ lot, s ∈ zs.map Po.n) : (qs.filter fun z => decide (z.n ∈ lot)).Perm (lot.map (poOf zs)) := by
  have ndz : zs.Nodup := List.Pairwise.of_map Po.n (fun a b h e => h (congrArg Po.n e)) nd
  have h1 : (lot.map (poOf zs)).Nodup := nodup_on ndl fun a ha b hb e => by
    have := congrArg Po.n e
    rw [(poOf_mem nd (hs a ha)).2, (poOf_mem nd (hs b hb)).2] at this
    exact this
  refine (List.perm_ext_iff_of_nodup ((hp.nodup_iff.mpr ndz).sublist List.filter_sublist) h1).mpr fun z => ?_
  rw [List.mem_filter, decide_eq_true_eq, List.mem_map, hp.mem_iff]
  constructor
  · rintro ⟨h1, h2⟩
    exact ⟨z.n, h2, poOf_eq nd h1⟩
  · rintro ⟨s, h1, rfl⟩
    have := poOf_mem nd (hs s h1)
    exact ⟨this.1, by rw [this.2]; exact h1⟩
theorem sum_lot {qs zs : List Po} (hp : qs.Perm zs) (nd : (zs.map Po.n).Nodup) (k : Bool) (m : Int) {lot : List Str} (hl : lot.Nodup) (hs : ∀ s ∈ lot, s ∈ zs.map Po.n) : ((qs.filter fun z => decide (z.n ∈ lot)).map (wvAt k m)).sum = ln (lnOf zs k lot) m := by
  rw [fold_sum_perm (wvAt k m) (lot_po hp nd hl hs), List.map_map]
  exact wv_ln zs k m lot
section
variable {zs : List Po} {R : Str → Str → Bool}
theorem mostF_of (s : Sym R) {k : Bool} {ls : List (List Str)} (h : ∀ lot, lot ∈ ls ↔ lot.Sublist (zs.map Po.n) ∧ AllK R k lot) (n : Int) : mx (ls.map (lnOf zs k)) n = mostF zs R k n := by
  have e : ∀ lot, lot ∈ ls ↔ lot ∈ foundL R k (zs.map Po.n) := fun lot => by rw [h, found_mem s]
  refine mx_eq (fun l hl => ?_) fun l hl => ?_
  · obtain ⟨lot, hm, rfl⟩ := List.mem_map.mp hl
    exact ⟨_, List.mem_map.mpr ⟨lot, (e lot).mp hm, rfl⟩, Int.le_refl _⟩
  · obtain ⟨lot, hm, rfl⟩ := List.mem_map.mp hl
    exact ⟨_, List.mem_map.mpr ⟨lot, (e lot).mpr hm, rfl⟩, Int.le_refl _⟩
/-- webs whose posts weigh alike at some n, m -/
theorem mostF_map {f : Po → Po} (hf : ∀ z, (f z).n = z.n) (nd : (zs.map Po.n).Nodup) (s : Sym R) (k : Bool) {n m : Int} (hw : ∀ z ∈ zs, wvAt k n (f z) = wvAt k m z) : mostF (zs.map f) R k n = mostF zs R k m := by
  have hn : (zs.map f).map Po.n = zs.map Po.n := map_names hf zs
  have nd' : ((zs.map f).map Po.n).Nodup := by rw [hn]; exact nd
  have key : ∀ lot, lot.Sublist (zs.map Po.n) → ln (lnOf (zs.map f) k lot) n = ln (lnOf zs k lot) m := fun lot hl => by
    rw [← wv_ln, ← wv_ln]
    congr 1
    refine List.map_congr_left fun t ht => ?_
    obtain ⟨h1, h2⟩ := poOf_mem nd (hl.subset ht)
    have h3 : poOf (zs.map f) t = f (poOf zs t) := by
      have := poOf_eq nd' (List.mem_map.mpr ⟨_, h1, rfl⟩)
      rw [hf, h2] at this
      exact this
    rw [h3]
    exact hw _ h1
  unfold mostF
  rw [hn]
  have a : ∀ lot ∈ foundL R k (zs.map Po.n), lot.Sublist (zs.map Po.n) := fun lot hl => ((found_mem s k _ lot).mp hl).1
  generalize foundL R k (zs.map Po.n) = ls at a
  induction ls with
  | nil => rfl
  | cons l ls ih =>
    rw [List.map_cons, List.map_cons, mx_cons, mx_cons, ih fun lot hl => a lot (List.mem_cons_of_mem _ hl), key l (a l (List.mem_cons_self ..))]
theorem laP_eq {z : Po} (h : fixP z = z) (ha : 0 ≤ z.a) (hb : 1 ≤ z.b) {m : Int} (hm : 0 ≤ m) : laP m z = { z with b := z.a * m + z.b } := by
  unfold laP fixP
  split
  · rename_i c
    obtain ⟨c1, c2⟩ := c
    dsimp only at c1 c2 ⊢
    rw [c1, Int.zero_mul, Int.zero_add] at c2
    have : z.k = false := by
      have e : fixP z = { z with k := false } := if_pos ⟨c1, c2⟩
      rw [e] at h
      rw [← h]
    rw [this]
  · rfl
theorem wv_la {z : Po} (h : fixP z = z) (ha : 0 ≤ z.a) (hb : 1 ≤ z.b) {m : Int} (hm : 0 ≤ m) (k : Bool) (n : Int) : wvAt k n (laP m z) = wvAt k (m + n) z := by
  rw [laP_eq h ha hb hm]
  unfold wvAt
  dsimp only
  split
  · rw [Int.mul_add]; omega
  · rfl
theorem wv_atP (z : Po) (k : Bool) (m n : Int) : wvAt k n (atP m z) = wvAt k m z := by
  unfold atP fixP wvAt
  split
  · rename_i c
    have c2 : z.a * m + z.b = 1 := c.2
    dsimp only
    rw [c2]
    split <;> split <;> simp
  · dsimp only
    split
    · simp
    · rfl
theorem mostF_la (h : WebOk zs) (s : Sym R) (hp : ∀ z ∈ zs, 0 ≤ z.a ∧ 1 ≤ z.b) (k : Bool) {m : Int} (hm : 0 ≤ m) (n : Int) : mostF (zs.map (laP m)) R k n = mostF zs R k (m + n) :=
  mostF_map (laP_n m) h.nd s k fun z hz => wv_la (h.fix z hz) (hp z hz).1 (hp z hz).2 hm k n
theorem mostF_at (h : WebOk zs) (s : Sym R) (k : Bool) (m n : Int) : mostF (zs.map (atP m)) R k n = mostF zs R k m :=
  mostF_map (atP_n m) h.nd s k fun z _ => wv_atP z k m n
end
/-! ### told numbers -/
theorem tf_const {F : Int → Int} {c : Int} (h : ∀ n, 0 ≤ n → F n = c) : TF F 0 [(0, c, 0)] := by
  have e0 := h 0 (by omega)
  have e1 := h (0 + 1) (by omega)
  have t : TF F 0 [(0, F 0, F (0 + 1) - F 0)] := .last fun n hn => by
    rw [e1, e0, h n (by omega)]
    omega
  rw [e1, e0, Int.sub_self] at t
  exact t
theorem tf_line1 {F : Int → Int} {b a : Int} (h : ∀ n, 0 ≤ n → F n = b + a * n) : TF F 0 [(0, b, a)] := by
  have e0 := h 0 (by omega)
  have e1 := h (0 + 1) (by omega)
  have t : TF F 0 [(0, F 0, F (0 + 1) - F 0)] := .last fun n hn => by
    rw [e1, e0, h n (by omega)]
    have : b + a * (0 + 1) - (b + a * 0) = a := by simp; omega
    rw [this]
    simp
  have e2 : F (0 + 1) - F 0 = a := by
    rw [e1, e0]
    simp
    omega
  rw [e2, e0] at t
  have e3 : b + a * 0 = b := by simp
  rw [e3] at t
  exact t
theorem told_self {F : Int → Int} {ps : List Pc} (t : TF F 0 ps) (f : Fit ps) : m_number_told [numT ps] = some (numT ps) :=
  number_told_eq (num_T ps) (f.raw t) (TF.congr (fun n hn => (tf_val t n hn).symm) t (Int.le_refl _)) f.1 f.2.1 f.st
theorem at_told {F : Int → Int} {ps : List Pc} (t : TF F 0 ps) (f : Fit ps) {n : Int} (hn : 0 ≤ n) : m_number_at [numT ps, .int n] = some (.int (F n)) := by
  rw [number_at_num (num_T ps) (f.raw t) hn, tf_val t n hn]
theorem later_of {F G : Int → Int} {ps qs : List Pc} {m : Int} (t : TF F 0 ps) (f : Fit ps) (hm : 0 ≤ m) (t' : TF G 0 qs) (f' : Fit qs) (h : ∀ n, 0 ≤ n → G n = F (m + n)) : m_number_later [numT ps, .int m] = some (numT qs) :=
  later_told (num_T ps) (f.raw t) (by have := f.1; omega) hm (TF.congr (fun n hn => by rw [h n hn, tf_val t (m + n) (by omega)]) t' (Int.le_refl _)) f'.1 f'.2.1 f'.st
theorem fit_one {b a : Int} (hb : Sm b) (ha : -(2 ^ 28) < a ∧ a < 2 ^ 28) : Fit [(0, b, a)] := ⟨by simp, fun p hp => by rw [List.mem_singleton.mp hp]; exact ⟨sm0, hb, sm_of (by dsimp only; omega)⟩, fun p hp => by rw [List.mem_singleton.mp hp]; exact ha⟩
theorem shw_pc {p : Pc} (h : Sm p.1 ∧ Sm p.2.1 ∧ Sm p.2.2) : Shw (pcD p) 900 1 := by
  have e : pcD p = .tuple ([p.1, p.2.1, p.2.2].map PyData.int) := rfl
  rw [e]
  refine (shw_tup PyData.int (c := 292) (dp := 0) fun x hx => ?_).mono (by simp) (by omega)
  have hx' : x = p.1 ∨ x = p.2.1 ∨ x = p.2.2 := by simpa using hx
  have hs : ∀ i : Int, Sm i → Shw (.int i) 292 0 := fun i hi => shw_int (c := 290) hi (by omega)
  rcases hx' with rfl | rfl | rfl
  · exact hs _ h.1
  · exact hs _ h.2.1
  · exact hs _ h.2.2
theorem shw_num {ps : List Pc} (f : Fit ps) : Shw (numT ps) 60000 2 := by
  unfold numT
  refine (shw_tup pcD (c := 900) (dp := 1) fun p hp => shw_pc (f.2.1 p hp)).mono ?_ (by omega)
  have := f.1
  have h : ps.length * (900 + 2) ≤ 60 * 902 := Nat.mul_le_mul this (by omega)
  omega
/-! ### dicts of whole numbers -/
structure KI (kvs : List (D × D)) (xs : List Int) : Prop where
  k : kvs.map (·.1) = xs.map .int
  l : kvs.length ≤ 1000
theorem KI.ok {kvs : List (D × D)} {xs : List Int} (h : KI kvs xs) (i : Int) : okKey kvs (.int i) = true := by
  have ek : isT kvs = false := by
    have h := h.k
    cases kvs with
    | nil => rfl
    | cons p r =>
      cases xs with
      | nil => cases h
      | cons a us =>
        rw [List.map_cons, List.map_cons, List.cons.injEq] at h
        obtain ⟨pk, pv⟩ := p
        have e := h.1
        dsimp only at e
        subst e
        rfl
  unfold okKey
  rw [ek, if_neg Bool.false_ne_true]
  rfl
theorem KI.put {kvs : List (D × D)} {xs : List Int} (h : KI kvs xs) (hl : kvs.length < 1000) (i : Int) (v : D) : ∃ ys, KI (putD kvs (.int i) v) ys ∧ ∀ y, y ∈ ys ↔ y ∈ xs ∨ y = i := by
  unfold putD
  split
  · rename_i c
    refine ⟨xs, ⟨?_, by rw [List.length_map]; exact h.l⟩, fun y => ⟨.inl, ?_⟩⟩
    · rw [← h.k, List.map_map]
      refine List.map_congr_left fun p _ => ?_
      show (if PyData.eqv p.1 (.int i) = true then (p.1, v) else p).1 = p.1
      split <;> rfl
    · rintro (q | rfl)
      · exact q
      · obtain ⟨p, hp, e⟩ := List.any_eq_true.mp c
        have hm : p.1 ∈ kvs.map (·.1) := List.mem_map.mpr ⟨p, hp, rfl⟩
        rw [h.k] at hm
        obtain ⟨x, hx, e2⟩ := List.mem_map.mp hm
        rw [← e2, good_int.eqv, decide_eq_true_eq] at e
        rw [← e]
        exact hx
  · refine ⟨xs ++ [i], ⟨by rw [List.map_append, List.map_append, h.k]; rfl, by rw [List.length_append, List.length_singleton]; omega⟩, fun y => by rw [List.mem_append, List.mem_singleton]⟩
theorem KI.sorted {kvs : List (D × D)} {xs : List Int} (h : KI kvs xs) : dSortedC [.dict kvs] = some (.list ((oSort PyData.int xs).map .int)) := sorted_ints h.k
theorem take_cutT {ds : List D} {i : Nat} : dSl (.tuple ds) none (some (i : Int)) = some (.tuple (ds.take i)) := by
  show some (PyData.tuple (TL.cutD ds none (some (i : Int)))) = _
  unfold TL.cutD
  rw [HT.sIx_nat, HT.sIx_none]
  congr 2
  rw [List.drop_zero, Nat.sub_zero]
  by_cases h : i ≤ ds.length
  · rw [Nat.min_eq_left h]
  · rw [Nat.min_eq_right (by omega), List.take_of_length_le (Nat.le_refl _), List.take_of_length_le (by omega)]
theorem good_ints : Good (fun xs : List Int => PyData.list (xs.map .int)) := good_int.lsts fun _ => Nat.zero_le _
theorem ones_nil {α : Type} (xs : List α) : dEq (.list (xs.map fun _ => .int 1)) (.list []) = some (.bool (decide (xs = []))) := by
  have h := good_ints.eq (x := xs.map fun _ => (1 : Int)) (y := [])
  rw [List.map_map] at h
  rw [show (fun _ : α => PyData.int 1) = PyData.int ∘ fun _ => 1 from rfl]
  refine h.trans ?_
  congr 2
  rw [decide_eq_decide, List.map_eq_nil_iff]
end LW

set_option Elab.async false
set_option linter.all false
set_option maxRecDepth 100000
set_option maxHeartbeats 4000000
namespace LW
open PySem PySem.Spec PyProof.Rows L2 TL
local macro_rules | `(tactic| symm_saturate) => `(tactic| repeat (first
  | ((with_reducible refine ke_rd' ?_); refine ⟨_, rfl, ?_⟩)
  | with_reducible refine ke_cst ?_ | with_reducible refine ke_b2 ?_ | with_reducible refine ke_u1 ?_ | with_reducible refine ke_cN ?_ | with_reducible refine ke_cS ?_ | with_reducible refine ke_cI ?_
  | with_reducible refine ke_mkT ?_ | with_reducible refine ke_mkL ?_ | with_reducible refine ke_bE ?_ | with_reducible refine ke_sl3 ?_ | with_reducible refine ko_N ?_ | with_reducible refine ko_S ?_ | with_reducible refine ka_N ?_ | with_reducible refine ka_C ?_ | with_reducible refine ka_iE ?_
  | with_reducible refine kb_tst ?_ | with_reducible refine kb_bT ?_ | with_reducible refine kb_not ?_ | with_reducible refine ks_seq ?_ | with_reducible refine ks_N ?_ | with_reducible refine ks_set ?_ | with_reducible refine ks_par ?_ | with_reducible refine ks_ret ?_
  | with_reducible refine seqP_nx ?_ | with_reducible refine seqP_rt ?_ | with_reducible refine lapP_nx ?_ | with_reducible refine lapP_rt ?_ | with_reducible refine lapP_ct ?_ | with_reducible refine lapP_bk ?_ | with_reducible refine seqP_ct ?_ | with_reducible refine seqP_bk ?_ | with_reducible refine retP_rt ?_ | with_reducible refine retS_rt ?_
  | with_reducible refine ks_thaw ?_ | with_reducible refine ke_newK ?_ | with_reducible refine ke_newT ?_ | with_reducible refine ke_mkTV ?_ | with_reducible refine ke_mkLV ?_
  | (with_reducible first
    | refine ⟨_, add_ii _ _, ?_⟩ | refine ⟨_, sub_ii _ _, ?_⟩ | refine ⟨_, lt_ii _ _, ?_⟩ | refine ⟨_, le_ii _ _, ?_⟩ | refine ⟨_, gt_ii _ _, ?_⟩ | refine ⟨_, ge_ii _ _, ?_⟩ | refine ⟨_, neg_i _, ?_⟩
    | refine ⟨_, len_l _, ?_⟩ | refine ⟨_, len_t _, ?_⟩ | refine ⟨_, tup_l _, ?_⟩ | refine ⟨_, tup_t _, ?_⟩ | refine ⟨_, lst_l _, ?_⟩ | refine ⟨_, lst_t _, ?_⟩)
  | ((with_reducible show ∃ d, dTuple _ = some d ∧ _); first | refine ⟨_, tup_l _, ?_⟩ | refine ⟨_, tup_t _, ?_⟩)
  | ((with_reducible show ∃ d, dLen _ = some d ∧ _); first | refine ⟨_, len_l _, ?_⟩ | refine ⟨_, len_t _, ?_⟩)
  | ((with_reducible show ∃ i, _ = PyData.int i ∧ _); refine ⟨_, rfl, ?_⟩)
  | ((with_reducible show ∃ b, _ = PyData.bool b ∧ _); refine ⟨_, rfl, ?_⟩)
  | ((with_reducible show ∃ ds, items _ = some ds ∧ _); refine ⟨_, rfl, ?_⟩)
  | ((with_reducible show ∃ d, dSub2 _ _ = some d ∧ _); first | refine ⟨_, ix0, ?_⟩ | refine ⟨_, ix1, ?_⟩ | refine ⟨_, ix2, ?_⟩ | refine ⟨_, ix3, ?_⟩ | refine ⟨_, ixl0, ?_⟩ | refine ⟨_, ixl1, ?_⟩)))

def abL : List (Int × Int) := [(1, 1), (2, 1), (1, 40), (3, 1), (0, 77), (0, 1000000), (1, 999999999), (0, 2)]
theorem ev_late {xs : List Str} {S : Src} (hl : xs.length ≤ 100) {K : D → Src → Prop} (k : ∀ (zs : List Po) S', zs.map Po.n = xs → (∀ z ∈ zs, (z.a, z.b) ∈ abL) → K (.list (zs.map pD)) S') : ∃ d S2, m__law_late_posts [lS xs] S = some (d, S2) ∧ K d S2 := by
  refine kp_runS ?_
  unfold g__law_late_posts
  refine ks_seq (ks_own ?_)
  symm_saturate
  refine ⟨rfl, ?_⟩
  symm_saturate
  refine ks_forT PyData.str ?_
  symm_saturate
  refine ⟨xs, rfl, fun i ρ S => ∃ (zs : List Po) (a b c d : Option D), ρ = [none, some (lS xs), some (.list (zs.map pD)), a, b, c, d] ∧ zs.map Po.n = xs.take i ∧ ∀ z ∈ zs, (z.a, z.b) ∈ abL, ⟨[], none, none, none, none, rfl, rfl, fun z hz => nomatch hz⟩, ?_, ?_⟩
  · rintro i x ρ S hx ⟨zs, a, b, c, d, rfl, hn, hp⟩
    have hzl : zs.length ≤ 100 := by
      have := congrArg List.length hn
      rw [List.length_map, List.length_take] at this
      omega
    refine ⟨[none, some (lS xs), some (.list (zs.map pD)), some (.str x), b, c, d], rfl, ?_⟩
    symm_saturate
    refine ev_of kD [false, true] (by decide) (by decide) fun i kk S2 hk => ?_
    symm_saturate
    refine ks_unp ?_
    symm_saturate
    have hpw : dPow (.int 10) (.int 6) = some (.int 1000000) := by
      unfold dPow
      dsimp only
      exact if_pos ⟨by decide, by decide, by decide⟩
    refine ⟨_, hpw, ?_⟩
    symm_saturate
    refine ev_of pairD2 abL (by decide) (by decide) fun i t S3 ht => ?_
    refine ⟨_, rfl, ?_⟩
    symm_saturate
    refine ks_app ?_
    symm_saturate
    refine ⟨_, rfl, by rw [List.length_map]; omega, ?_⟩
    symm_saturate
    refine ⟨zs ++ [⟨x, kk, t.1, t.2⟩], some (.str x), some (kD kk), some (.int t.1), some (.int t.2), ?_, ?_, fun z hz => ?_⟩
    · rw [List.map_append]
      rfl
    · rw [List.map_append, hn, List.take_add_one, hx]
      rfl
    · rcases List.mem_append.mp hz with hz | hz
      · exact hp z hz
      · rw [List.mem_singleton.mp hz]
        exact List.mem_of_getElem? ht
  · rintro ρ S ⟨zs, a, b, c, d, rfl, hn, hp⟩
    rw [List.take_length] at hn
    symm_saturate
    exact k zs S hn hp
section
variable {zs : List Po} {R : Str → Str → Bool}
theorem greatest_due (h : WebOk zs) (h12 : zs.length ≤ 12) (s : Sym R) {kvs : List (D × D)} (K : Kn R kvs) (ha : ∀ z ∈ zs, -(2 ^ 64) < z.a ∧ z.a < 2 ^ 64) (k : Bool) (n : Int) : m__law_greatest [.list (zs.map pD), .dict kvs, kD k, lS (zs.map Po.n), .int n] = some (.int (mostF zs R k n)) := by
  have hnl : (zs.map Po.n).length ≤ 12 := by rw [List.length_map]; exact h12
  refine kp_run ?_
  unfold g__law_greatest
  refine ks_seq (ks_par ?_)
  symm_saturate
  refine ⟨_, kD_eq k true, ?_⟩
  symm_saturate
  obtain ⟨ls, hls⟩ : ∃ ls, ls = subsL (zs.map Po.n) := ⟨_, rfl⟩
  have hlm : ∀ lot, lot ∈ ls ↔ lot.Sublist (zs.map Po.n) := fun lot => by rw [hls]; exact subsL_mem
  have hlots : m__law_lots [lS (zs.map Po.n)] = some (.list (ls.map tS)) := by rw [hls]; exact lots_eqC rfl hnl
  refine ks_forT tS ?_
  symm_saturate
  refine ⟨_, hlots, ?_⟩
  symm_saturate
  refine ⟨ls, rfl, fun i ρ S => S = S0 ∧ ∃ a7 a8 a9 a10 a12, ρ = [some (.list (zs.map pD)), some (.dict kvs), some (kD k), some (lS (zs.map Po.n)), some (.int n), some (.int (mx (((ls.take i).filter (allKb R k)).map (lnOf zs k)) n)), some (.bool (decide (k = true))), a7, a8, a9, a10, none, a12, none], ⟨rfl, none, none, none, none, none, rfl⟩, ?_, ?_⟩
  · rintro i lot ρ S hl ⟨rfl, a7, a8, a9, a10, a12, rfl⟩
    have hlot := (hlm lot).mp (List.mem_of_getElem? hl)
    have hll : lot.length ≤ 12 := Nat.le_trans hlot.length_le hnl
    have hnd := h.nd.sublist hlot
    have e : ls.take (i + 1) = ls.take i ++ [lot] := by rw [List.take_add_one, hl]; rfl
    refine ⟨[some (.list (zs.map pD)), some (.dict kvs), some (kD k), some (lS (zs.map Po.n)), some (.int n), some (.int (mx (((ls.take i).filter (allKb R k)).map (lnOf zs k)) n)), some (.bool (decide (k = true))), some (tS lot), a8, a9, a10, none, a12, none], rfl, ?_⟩
    symm_saturate
    refine ks_for ?_
    refine ka_iEnG ?_
    symm_saturate
    refine ⟨_, _, _, rfl, rfl, fun j ρ S => S = S0 ∧ ∃ a9 a10, ρ = [some (.list (zs.map pD)), some (.dict kvs), some (kD k), some (lS (zs.map Po.n)), some (.int n), some (.int (mx (((ls.take i).filter (allKb R k)).map (lnOf zs k)) n)), some (.bool (decide (k = true))), some (tS lot), some (.bool (allKb R k (lot.take j))), a9, a10, none, a12, none], ⟨rfl, a9, a10, rfl⟩, ?_, ?_⟩
    · rintro j dd ρ S hd ⟨rfl, a9, a10, rfl⟩
      obtain ⟨o, ho, rfl⟩ := enumD_at hd
      rw [List.getElem?_map] at ho
      obtain ⟨one, hone', rfl⟩ := Option.map_eq_some_iff.mp ho
      have hone : lot[j]? = some one := hone'
      have hj : j < lot.length := (List.getElem?_eq_some_iff.mp hone).1
      refine ⟨[some (.list (zs.map pD)), some (.dict kvs), some (kD k), some (lS (zs.map Po.n)), some (.int n), some (.int (mx (((ls.take i).filter (allKb R k)).map (lnOf zs k)) n)), some (.bool (decide (k = true))), some (tS lot), some (.bool (allKb R k (lot.take j))), some (.int (j : Nat)), some (.str one), none, a12, none], rfl, ?_⟩
      have e2 : lot.take (j + 1) = lot.take j ++ [one] := by rw [List.take_add_one, hone]; rfl
      have fin : ∀ b, b = allKb R k (lot.take (j + 1)) → lapP (fun ρ S => S = S0 ∧ ∃ a9 a10, ρ = [some (.list (zs.map pD)), some (.dict kvs), some (kD k), some (lS (zs.map Po.n)), some (.int n), some (.int (mx (((ls.take i).filter (allKb R k)).map (lnOf zs k)) n)), some (.bool (decide (k = true))), some (tS lot), some (.bool (allKb R k (lot.take (j + 1)))), a9, a10, none, a12, none]) (fun _ _ => False) (fun _ => False)
          (.nx [some (.list (zs.map pD)), some (.dict kvs), some (kD k), some (lS (zs.map Po.n)), some (.int n), some (.int (mx (((ls.take i).filter (allKb R k)).map (lnOf zs k)) n)), some (.bool (decide (k = true))), some (tS lot), some (.bool b), some (.int (j : Nat)), some (.str one), none, a12, none] S0) := fun b hb => by
        rw [hb]
        exact ⟨rfl, _, _, rfl⟩
      symm_saturate
      refine kb_and' ?_
      symm_saturate
      refine ⟨fun q => ?_, fun q => ?_⟩
      · symm_saturate
        refine ke_lc PyData.str (fun o => !decide (R one o = k)) (fun _ => .int 1) ?_
        symm_saturate
        refine ⟨.tuple ((lot.take j).map .str), ?_, ?_⟩
        · have := take_cutT (ds := lot.map PyData.str) (i := j)
          rw [List.map_take]
          exact this
        symm_saturate
        refine ⟨lot.take j, rfl, by rw [List.length_take]; omega, fun o ho => ⟨_, rfl, ?_⟩, ?_⟩
        · symm_saturate
          refine ⟨_, K.inD one o, ?_⟩
          symm_saturate
          refine ⟨_, TL.good_bool.ne (x := R one o) (y := decide (k = true)), ?_⟩
          symm_saturate
          refine ⟨?_, rfl, fun _ => ?_⟩
          · cases k <;> cases R one o <;> rfl
          · symm_saturate
            exact ⟨rfl, rfl⟩
        symm_saturate
        refine ⟨_, ones_nil _, ?_⟩
        symm_saturate
        refine fin _ ?_
        rw [e2, allKb_snoc, q, Bool.true_and]
        rw [Bool.eq_iff_iff, decide_eq_true_iff, List.filter_eq_nil_iff, List.all_eq_true]
        constructor
        · intro w o ho
          have := w o ho
          rw [s]
          simpa using this
        · intro w o ho
          have := w o ho
          rw [s] at this
          simpa using this
      · refine fin _ ?_
        rw [e2, allKb_snoc, q, Bool.false_and]
    · rintro ρ S ⟨rfl, a9, a10, rfl⟩
      rw [enumD_len, List.length_map, List.take_length]
      refine seqP_nx (ks_if ?_)
      symm_saturate
      refine ⟨fun q => ?_, fun q => ?_⟩
      · symm_saturate
        refine ke_lc pD (fun z => decide (z.n ∈ lot)) (fun z => .int (wvAt k n z)) ?_
        symm_saturate
        refine ⟨zs, rfl, by omega, fun z hz => ⟨_, rfl, ?_⟩, ?_⟩
        · symm_saturate
          refine ⟨_, (lot_tS lot).isin z.n, ?_⟩
          symm_saturate
          refine ⟨rfl, rfl, fun _ => ?_⟩
          refine ke_ifE ?_
          symm_saturate
          refine ⟨_, kD_eq _ _, ?_⟩
          symm_saturate
          refine ⟨fun q => ?_, fun q => ?_⟩
          · rw [decide_eq_true_eq] at q
            symm_saturate
            refine ⟨_, dMul_sm (ha z hz), ?_⟩
            symm_saturate
            refine ⟨?_, rfl⟩
            unfold wvAt
            rw [if_pos q]
          · rw [decide_eq_false_iff_not] at q
            symm_saturate
            refine ⟨?_, rfl⟩
            unfold wvAt
            rw [if_neg q]
        symm_saturate
        refine ⟨_, sum_ints _ _, ?_⟩
        symm_saturate
        refine ⟨_, max_ii _ _, ?_⟩
        symm_saturate
        refine ⟨rfl, some (tS lot), some (.bool (allKb R k lot)), a9, a10, some (.list ((zs.filter fun z => decide (z.n ∈ lot)).map fun z => .int (wvAt k n z))), ?_⟩
        rw [sum_lot (List.Perm.refl zs) h.nd k n hnd fun s hs => hlot.subset hs]
        have key : mx (((ls.take (i + 1)).filter (allKb R k)).map (lnOf zs k)) n = if ln (lnOf zs k lot) n > mx (((ls.take i).filter (allKb R k)).map (lnOf zs k)) n then ln (lnOf zs k lot) n else mx (((ls.take i).filter (allKb R k)).map (lnOf zs k)) n := by
          rw [e, List.filter_append, List.filter_cons_of_pos q, List.filter_nil, List.map_append, List.map_singleton, mx_snoc]
          split <;> omega
        rw [key]
        rfl
      · symm_saturate
        refine ⟨rfl, some (tS lot), some (.bool (allKb R k lot)), a9, a10, a12, ?_⟩
        rw [e, List.filter_append, List.filter_cons_of_neg (by rw [q]; decide), List.filter_nil, List.append_nil]
  · rintro ρ S ⟨rfl, a7, a8, a9, a10, a12, rfl⟩
    rw [List.take_length]
    symm_saturate
    have := mostF_of s (k := k) (ls := ls.filter (allKb R k)) (zs := zs) (fun lot => by rw [List.mem_filter, hlm, allKb_iff]) n
    rw [this]
end
end LW

set_option Elab.async false
set_option linter.all false
set_option maxRecDepth 100000
set_option maxHeartbeats 4000000
namespace LW
open PySem PySem.Spec PyProof.Rows L2 TL

section
variable {zs : List Po} {R : Str → Str → Bool}
theorem lnOf_b (nd : (zs.map Po.n).Nodup) (hp : ∀ z ∈ zs, 0 ≤ z.a ∧ 1 ≤ z.b) (k : Bool) {lot : List Str} (hl : lot.Sublist (zs.map Po.n)) : 0 ≤ (lnOf zs k lot).1 ∧ (lnOf zs k lot).1 ≤ (zs.map Po.b).sum ∧ 0 ≤ (lnOf zs k lot).2 ∧ (lnOf zs k lot).2 ≤ (zs.map Po.a).sum := by
  have hs : ∀ s ∈ zs.map Po.n, 0 ≤ wvB zs k s ∧ wvB zs k s ≤ (poOf zs s).b ∧ 0 ≤ wvA zs k s ∧ wvA zs k s ≤ (poOf zs s).a := fun s hs => by
    have := hp _ (poOf_mem nd hs).1
    unfold wvB wvA
    split <;> omega
  have nn : ∀ (f : Str → Int) (xs : List Str), (∀ x ∈ xs, 0 ≤ f x) → 0 ≤ (xs.map f).sum := fun f xs h => by
    induction xs with
    | nil => exact Int.le_refl _
    | cons x xs ih =>
      have h1 := ih fun y hy => h y (List.mem_cons_of_mem _ hy)
      have h2 := h x (List.mem_cons_self ..)
      rw [List.map_cons, List.sum_cons]
      omega
  have c1 := sum_sub_le (wvB zs k) hl fun s q => (hs s q).1
  have c2 := sum_le_map (wvB zs k) (fun s => (poOf zs s).b) (zs.map Po.n) fun s q => (hs s q).2.1
  have c3 := names_po nd Po.b
  have d1 := sum_sub_le (wvA zs k) hl fun s q => (hs s q).2.2.1
  have d2 := sum_le_map (wvA zs k) (fun s => (poOf zs s).a) (zs.map Po.n) fun s q => (hs s q).2.2.2
  have d3 := names_po nd Po.a
  refine ⟨nn _ _ fun s q => (hs s (hl.subset q)).1, ?_, nn _ _ fun s q => (hs s (hl.subset q)).2.2.1, ?_⟩
  · show (lot.map (wvB zs k)).sum ≤ _
    omega
  · show (lot.map (wvA zs k)).sum ≤ _
    omega
theorem found_ne (s : Sym R) (k : Bool) (xs : List Str) : foundL R k xs ≠ [] := fun e => by
  have : ([] : List Str) ∈ foundL R k xs := (found_mem s k xs []).mpr ⟨List.nil_sublist _, List.Pairwise.nil⟩
  rw [e] at this
  cases this
/-- where the greatest lots' telling begins its pieces -/
theorem most_begin (nd : (zs.map Po.n).Nodup) (s : Sym R) (hp : ∀ z ∈ zs, 0 ≤ z.a ∧ 1 ≤ z.b) {k : Bool} {ps : List Pc} (t : TF (mostF zs R k) 0 ps) : ∀ p ∈ ps, 0 ≤ p.1 ∧ p.1 ≤ (zs.map Po.b).sum + 1 := by
  have hsub : ∀ lot ∈ foundL R k (zs.map Po.n), lot.Sublist (zs.map Po.n) := fun lot hl => ((found_mem s k _ lot).mp hl).1
  obtain ⟨l, h1, h2⟩ := mx_far (ls := (foundL R k (zs.map Po.n)).map (lnOf zs k)) (by simpa using found_ne s k _) (M := (zs.map Po.b).sum) fun l hl => by
    obtain ⟨lot, hm, rfl⟩ := List.mem_map.mp hl
    have := lnOf_b nd hp k (hsub lot hm)
    exact ⟨this.1, this.2.1, this.2.2.1⟩
  have h0 : 0 ≤ (zs.map Po.b).sum := by
    have := lnOf_b (k := k) nd hp (List.nil_sublist (zs.map Po.n))
    omega
  have hF : ∀ n, (zs.map Po.b).sum ≤ n → mostF zs R k n = line (0, l.1, l.2) n := fun n hn => by
    show mx _ n = _
    rw [h2 n hn]
    unfold ln line
    rw [Int.sub_zero]
  intro p hp'
  have h3 := (tf_asc t).2 p hp'
  rcases tf_begin hF t p hp' with q | q <;> omega
theorem most_nn (k : Bool) (n : Int) : 0 ≤ mostF zs R k n := mx_nn _ _
theorem most_hi (nd : (zs.map Po.n).Nodup) (s : Sym R) (hp : ∀ z ∈ zs, 0 ≤ z.a ∧ 1 ≤ z.b) (k : Bool) {n : Int} (hn : 0 ≤ n) : mostF zs R k n ≤ (zs.map Po.b).sum + (zs.map Po.a).sum * n := by
  have h0 := lnOf_b (k := k) nd hp (List.nil_sublist (zs.map Po.n))
  refine mx_le (by have := Int.mul_nonneg (show 0 ≤ (zs.map Po.a).sum by omega) hn; omega) fun l hl => ?_
  obtain ⟨lot, hm, rfl⟩ := List.mem_map.mp hl
  have := lnOf_b nd hp k ((found_mem s k _ lot).mp hm).1
  unfold ln
  have := Int.mul_le_mul_of_nonneg_right this.2.2.2 hn
  omega
end
theorem sum_at (zs : List Po) (n : Int) : (zs.map fun z => z.a * n + z.b).sum = (zs.map Po.b).sum + (zs.map Po.a).sum * n := by
  induction zs with
  | nil => simp
  | cons z zs ih =>
    rw [List.map_cons, List.map_cons, List.map_cons, List.sum_cons, List.sum_cons, List.sum_cons, ih, Int.add_mul]
    omega
theorem atP_ab (m : Int) (z : Po) : (atP m z).a = 0 ∧ (atP m z).b = z.a * m + z.b := fix_ab _
theorem laP_ab (m : Int) (z : Po) : (laP m z).a = z.a ∧ (laP m z).b = z.a * m + z.b := fix_ab _
theorem la_la {z : Po} (h : fixP z = z) (ha : 0 ≤ z.a) (hb : 1 ≤ z.b) {m n : Int} (hm : 0 ≤ m) (hn : 0 ≤ n) : laP n (laP m z) = laP (m + n) z := by
  have hq := Int.mul_nonneg ha hm
  have e := laP_eq h ha hb hm
  have hf : fixP (laP m z) = laP m z := fix_fix _
  rw [laP_eq hf (by rw [e]; exact ha) (by rw [e]; dsimp only; omega) hn, e, laP_eq h ha hb (by omega)]
  dsimp only
  congr 1
  rw [Int.mul_add]
  omega
theorem at_la {z : Po} (h : fixP z = z) (ha : 0 ≤ z.a) (hb : 1 ≤ z.b) {m : Int} (hm : 0 ≤ m) (n : Int) : atP n (laP m z) = atP (m + n) z := by
  rw [laP_eq h ha hb hm]
  unfold atP
  dsimp only
  congr 2
  rw [Int.mul_add]
  omega
theorem la_zero {z : Po} (h : fixP z = z) : laP 0 z = z := by
  unfold laP
  rw [Int.mul_zero, Int.zero_add]
  exact h
theorem log100 {i : Int} (h0 : 0 ≤ i) (h : i < 2 ^ 100) : i.natAbs.log2 ≤ 100 := by
  by_cases hz : i.natAbs = 0
  · rw [hz]; decide
  · have := (Nat.log2_lt hz (k := 100)).mpr (by omega)
    omega
theorem repr_nums {pss : List (List Pc)} (h : ∀ ps ∈ pss, Fit ps) (hl : pss.length ≤ 10) : ∃ t, dRepr [.list (pss.map numT)] = some (.str t) :=
  (shw_lst numT fun ps hp => shw_num (h ps hp)).repr (by
    omega) (by omega)
theorem repr_ints {xs : List Int} (h : ∀ x ∈ xs, Sm x) (hl : xs.length ≤ 1000) : ∃ t, dRepr [.list (xs.map .int)] = some (.str t) :=
  (shw_lst PyData.int (c := 292) (dp := 0) fun x hx => shw_int (c := 290) (h x hx) (by omega)).repr (by
    omega) (by omega)
theorem lastB_mem {ps : List Pc} (h : ps ≠ []) : ∃ p ∈ ps, lastB ps = p.1 := ⟨ps.getLast h, List.getLast_mem h, by
  unfold lastB
  rw [List.getLast?_eq_some_getLast h]
  rfl⟩
theorem sum_zeros {α : Type} : ∀ xs : List α, (xs.map fun _ => (0 : Int)).sum = 0
  | [] => rfl
  | x :: xs => by rw [List.map_cons, List.sum_cons, sum_zeros xs]; rfl
end LW

set_option Elab.async false
set_option linter.all false
set_option maxRecDepth 100000
set_option maxHeartbeats 4000000
namespace LW
open PySem PySem.Spec PyProof.Rows L2 TL
local macro_rules | `(tactic| symm_saturate) => `(tactic| repeat (first
  | ((with_reducible refine ke_rd' ?_); refine ⟨_, rfl, ?_⟩)
  | with_reducible refine ke_cst ?_ | with_reducible refine ke_b2 ?_ | with_reducible refine ke_u1 ?_ | with_reducible refine ke_cN ?_ | with_reducible refine ke_cS ?_ | with_reducible refine ke_cI ?_
  | with_reducible refine ke_mkT ?_ | with_reducible refine ke_mkL ?_ | with_reducible refine ke_bE ?_ | with_reducible refine ke_sl3 ?_ | with_reducible refine ko_N ?_ | with_reducible refine ko_S ?_ | with_reducible refine ka_N ?_ | with_reducible refine ka_C ?_ | with_reducible refine ka_iE ?_
  | with_reducible refine kb_tst ?_ | with_reducible refine kb_bT ?_ | with_reducible refine kb_not ?_ | with_reducible refine ks_seq ?_ | with_reducible refine ks_N ?_ | with_reducible refine ks_set ?_ | with_reducible refine ks_par ?_ | with_reducible refine ks_ret ?_
  | with_reducible refine seqP_nx ?_ | with_reducible refine seqP_rt ?_ | with_reducible refine lapP_nx ?_ | with_reducible refine lapP_rt ?_ | with_reducible refine lapP_ct ?_ | with_reducible refine lapP_bk ?_ | with_reducible refine seqP_ct ?_ | with_reducible refine seqP_bk ?_ | with_reducible refine retP_rt ?_ | with_reducible refine retS_rt ?_
  | with_reducible refine ks_thaw ?_ | with_reducible refine ke_newK ?_ | with_reducible refine ke_newT ?_ | with_reducible refine ke_mkTV ?_ | with_reducible refine ke_mkLV ?_
  | (with_reducible first
    | refine ⟨_, add_ii _ _, ?_⟩ | refine ⟨_, sub_ii _ _, ?_⟩ | refine ⟨_, lt_ii _ _, ?_⟩ | refine ⟨_, le_ii _ _, ?_⟩ | refine ⟨_, gt_ii _ _, ?_⟩ | refine ⟨_, ge_ii _ _, ?_⟩ | refine ⟨_, neg_i _, ?_⟩
    | refine ⟨_, len_l _, ?_⟩ | refine ⟨_, len_t _, ?_⟩ | refine ⟨_, tup_l _, ?_⟩ | refine ⟨_, tup_t _, ?_⟩ | refine ⟨_, lst_l _, ?_⟩ | refine ⟨_, lst_t _, ?_⟩)
  | ((with_reducible show ∃ d, dTuple _ = some d ∧ _); first | refine ⟨_, tup_l _, ?_⟩ | refine ⟨_, tup_t _, ?_⟩)
  | ((with_reducible show ∃ d, dLen _ = some d ∧ _); first | refine ⟨_, len_l _, ?_⟩ | refine ⟨_, len_t _, ?_⟩)
  | ((with_reducible show ∃ i, _ = PyData.int i ∧ _); refine ⟨_, rfl, ?_⟩)
  | ((with_reducible show ∃ b, _ = PyData.bool b ∧ _); refine ⟨_, rfl, ?_⟩)
  | ((with_reducible show ∃ ds, items _ = some ds ∧ _); refine ⟨_, rfl, ?_⟩)
  | ((with_reducible show ∃ d, dSub2 _ _ = some d ∧ _); first | refine ⟨_, ix0, ?_⟩ | refine ⟨_, ix1, ?_⟩ | refine ⟨_, ix2, ?_⟩ | refine ⟨_, ix3, ?_⟩ | refine ⟨_, ixl0, ?_⟩ | refine ⟨_, ixl1, ?_⟩)))

def P37 (z : Po) : Prop := PkC z ∨ (z.a, z.b) ∈ abL
theorem P37.nums {z : Po} (h : P37 z) : 0 ≤ z.a ∧ z.a ≤ 3 ∧ 1 ≤ z.b ∧ z.b ≤ 999999999 := by
  rcases h with h | h
  · have := h.nums
    omega
  · obtain ⟨n, k, a, b⟩ := z
    unfold abL at h
    simp only [List.mem_cons, Prod.mk.injEq, List.not_mem_nil, or_false] at h
    dsimp only
    omega
theorem P37.fix {z : Po} (h : P37 z) : fixP z = z := by
  rcases h with h | h
  · exact h.fix
  · unfold fixP
    split
    · rename_i c
      rw [c.1, c.2] at h
      simp [abL] at h
    · rfl
structure W37 (zs : List Po) (f : List (Str × Str)) (kvs : List (D × D)) : Prop where
  ok : WebOk zs
  l6 : zs.length ≤ 6
  l2 : 2 ≤ zs.length
  pk : ∀ z ∈ zs, P37 z
  nm : ∀ s ∈ zs.map Po.n, s ∈ letters
  kn : Kn (tied f) kvs
theorem short_lettersC : ∀ s ∈ letters, (reprText s).length ≤ 20 := by
  intro s hs
  have h : letters.all (fun s => decide ((reprText s).length ≤ 20)) = true := by decide +kernel
  simpa using List.all_eq_true.mp h s hs
theorem sums_le (zs : List Po) (h : ∀ z ∈ zs, P37 z) : 0 ≤ (zs.map Po.a).sum ∧ (zs.map Po.a).sum ≤ 3 * zs.length ∧ 0 ≤ (zs.map Po.b).sum ∧ (zs.map Po.b).sum ≤ 999999999 * zs.length := by
  induction zs with
  | nil => simp
  | cons z zs ih =>
    have h1 := ih fun y hy => h y (List.mem_cons_of_mem _ hy)
    have h2 := (h z (List.mem_cons_self ..)).nums
    rw [List.map_cons, List.map_cons, List.sum_cons, List.sum_cons, List.length_cons]
    omega
/-- the numbers of the web -/
structure T37 (zs : List Po) (R : Str → Str → Bool) (p1 p2 p3 : List Pc) : Prop where
  t1 : TF (mostF zs R true) 0 p1
  t2 : TF (mostF zs R false) 0 p2
  t3 : TF (fun n => (zs.map Po.b).sum + (zs.map Po.a).sum * n) 0 p3
  f1 : Fit p1
  f2 : Fit p2
  f3 : Fit p3
theorem told3 {zs : List Po} {R : Str → Str → Bool} (h : WebOk zs) (s : Sym R) (l6 : zs.length ≤ 6) (l2 : 2 ≤ zs.length) (hb : ∀ z ∈ zs, 0 ≤ z.a ∧ z.a ≤ 3 ∧ 0 ≤ z.b ∧ z.b ≤ 2 ^ 100) : ∃ p1 p2 p3, m_chain_told [cw zs R] = some (numT p1) ∧ m_lone_told [cw zs R] = some (numT p2) ∧ m_size_told [cw zs R] = some (numT p3) ∧ T37 zs R p1 p2 p3 := by
  have hB : ∀ z ∈ zs, PoB z := fun z hz => by
    have := hb z hz
    exact ⟨⟨this.1, by omega⟩, ⟨by omega, by omega⟩⟩
  have hsum : (zs.map Po.a).sum ≤ 3 * zs.length ∧ 0 ≤ (zs.map Po.a).sum ∧ 0 ≤ (zs.map Po.b).sum ∧ (zs.map Po.b).sum ≤ 2 ^ 100 * zs.length := by
    clear hB l2 l6 h
    induction zs with
    | nil => simp
    | cons z zs ih =>
      have h1 := ih fun y hy => hb y (List.mem_cons_of_mem _ hy)
      have h2 := hb z (List.mem_cons_self ..)
      rw [List.map_cons, List.map_cons, List.sum_cons, List.sum_cons, List.length_cons]
      omega
  have h0 : zs ≠ [] := fun e => by rw [e] at l2; simp at l2
  obtain ⟨p1, a1, b1, c1⟩ := chain_told_eq (R := R) h s (by omega) h0 hB (by omega)
  obtain ⟨p2, a2, b2, c2⟩ := lone_told_eq (R := R) h s (by omega) h0 hB (by omega)
  exact ⟨p1, p2, _, a1, a2, size_told_eq h hB, b1, b2, tf_line1 fun n _ => rfl, c1, c2, fit_one (sm_of (by omega)) (by omega)⟩
def e37 (zs : List Po) (f : List (Str × Str)) (kvs : List (D × D)) (m : Int) (p1 p2 p3 : List Pc) (a10 a11 a12 a13 a14 a15 a16 a17 a18 a19 : Option D) : Rho :=
  [none, none, some (lS (zs.map Po.n)), some (.list (zs.map pD)), some (.list (f.map prS)), some (cw zs (tied f)), some (.dict kvs), some (.int m), some (cw (zs.map (laP m)) (tied f)), some (.list ([p1, p2, p3].map numT)), a10, a11, a12, a13, a14, a15, a16, a17, a18, a19, none]
section
variable {zs : List Po} {f : List (Str × Str)} {kvs : List (D × D)} {m : Int} {p1 p2 p3 : List Pc} {a10 a11 a12 a13 a14 a15 a16 a17 a18 a19 : Option D} {S : Src}
theorem W37.ab (h : W37 zs f kvs) : ∀ z ∈ zs, 0 ≤ z.a ∧ 1 ≤ z.b := fun z hz => by have := (h.pk z hz).nums; omega
theorem W37.sum (h : W37 zs f kvs) : 0 ≤ (zs.map Po.a).sum ∧ (zs.map Po.a).sum ≤ 18 ∧ 0 ≤ (zs.map Po.b).sum ∧ (zs.map Po.b).sum ≤ 5999999994 := by
  have := sums_le zs h.pk
  have := h.l6
  omega
theorem W37.ne (h : W37 zs f kvs) : zs ≠ [] := fun e => by have := h.l2; rw [e] at this; simp at this
theorem mem_of_names {zs : List Po} {z : Po} (hz : z ∈ zs) : z.n ∈ zs.map Po.n := List.mem_map.mpr ⟨z, hz, rfl⟩
/-- one look: at n -/
theorem look37 (h : W37 zs f kvs) (t : T37 zs (tied f) p1 p2 p3) {n : Int} (hn : 0 ≤ n) (hn2 : n < 2 ^ 60) {P : Res → Prop} (k : ∀ a15 a17 a18 a19, P (.nx (e37 zs f kvs m p1 p2 p3 a10 a11 a12 a13 (some (.int n)) a15 none a17 a18 a19) S)) :
    KS (gSeq (gOwn 15 (lcE [16] (iE (mkT (aC (cst (.str "tied")) (aC (cst (.str "apart")) aN)))) (sN 16) bT (cN m__law_greatest (aC (rd 3) (aC (rd 6) (aC (rd 16) (aC (rd 2) (aC (rd 14) aN))))))))
    (gSeq (gApp 15 (cN dSum (aC (lcE [17] (iE (rd 3)) (sN 17) bT (b2 dAdd (b2 dMul (b2 dSub2 (rd 17) (cst (.int 2))) (rd 14)) (b2 dSub2 (rd 17) (cst (.int 3))))) aN)))
    (gSeq (gIf (tst (b2 dNe (cN dRepr (aC (lcE [11] (iE (rd 9)) (sN 11) bT (cN m_number_at (aC (rd 11) (aC (rd 14) aN)))) aN)) (cN dRepr (aC (rd 15) aN)))) (gRet (cst (.bool false))) gN)
    (gSeq (gSet 18 (cN m_web_at (aC (rd 5) (aC (rd 14) aN))))
    (gSeq (gSet 19 (mkL (aC (cN m_chain_told (aC (rd 18) aN)) (aC (cN m_lone_told (aC (rd 18) aN)) (aC (cN m_size_told (aC (rd 18) aN)) aN)))))
    (gSeq (gIf (tst (b2 dNe (cN dRepr (aC (rd 19) aN)) (cN dRepr (aC (lcE [11] (iE (rd 15)) (sN 11) bT (cN m_number_line (aC (rd 11) (aC (cst (.int 0)) aN)))) aN)))) (gRet (cst (.bool false))) gN)
    (gFor (iE (b2 dSub2 (rd 18) (cst (.int 0)))) (sN 17) (gIf (fOr (tst (b2 dNe (b2 dSub2 (rd 17) (cst (.int 2))) (cst (.int 0)))) (fAnd (tst (b2 dLt (b2 dSub2 (rd 17) (cst (.int 3))) (cst (.int 2)))) (tst (b2 dNe (b2 dSub2 (rd 17) (cst (.int 1))) (cst (.str "apart")))))) (gRet (cst (.bool false))) gN)))))))) (e37 zs f kvs m p1 p2 p3 a10 a11 a12 a13 (some (.int n)) a15 none a17 a18 a19) S P := by
  have hs := tied_symC f
  have hl6 := h.l6
  have hsm := h.sum
  have ha : ∀ z ∈ zs, -(2 ^ 64) < z.a ∧ z.a < 2 ^ 64 := fun z hz => by have := (h.pk z hz).nums; omega
  have hokA : WebOk (zs.map (atP n)) := h.ok.at_ n
  obtain ⟨q1, q2, q3, c1, c2, c3, tq⟩ := told3 (R := tied f) hokA hs (by rw [List.length_map]; omega) (by rw [List.length_map]; exact h.l2) fun z hz => by
    obtain ⟨y, hy, rfl⟩ := List.mem_map.mp hz
    obtain ⟨e1, e2⟩ := atP_ab n y
    have hn2' := (h.pk y hy).nums
    have := Int.mul_nonneg hn2'.1 hn
    have : y.a * n ≤ 3 * n := Int.mul_le_mul_of_nonneg_right hn2'.2.1 hn
    rw [e1, e2]
    omega
  have u1 := TF.uniq tq.t1 (tf_const fun j hj => mostF_at (R := tied f) h.ok hs true n j)
  have u2 := TF.uniq tq.t2 (tf_const fun j hj => mostF_at (R := tied f) h.ok hs false n j)
  have hsA : ((zs.map (atP n)).map Po.b).sum = (zs.map fun z => z.a * n + z.b).sum ∧ ((zs.map (atP n)).map Po.a).sum = 0 := by
    constructor
    · rw [List.map_map]
      congr 1
      exact List.map_congr_left fun z _ => (atP_ab n z).2
    · rw [List.map_map]
      have : zs.map (Po.a ∘ atP n) = zs.map fun _ => 0 := List.map_congr_left fun z _ => (atP_ab n z).1
      rw [this]
      exact sum_zeros zs
  have u3 := TF.uniq tq.t3 (tf_const (c := (zs.map fun z => z.a * n + z.b).sum) fun j hj => by rw [hsA.1, hsA.2]; simp)
  have s1 : Sm (mostF zs (tied f) true n) := by
    have := (tq.f1.2.1 _ (u1 ▸ List.mem_cons_self ..)).2.1
    exact this
  have s2 : Sm (mostF zs (tied f) false n) := by
    have := (tq.f2.2.1 _ (u2 ▸ List.mem_cons_self ..)).2.1
    exact this
  have s3 : Sm (zs.map fun z => z.a * n + z.b).sum := by
    have := (tq.f3.2.1 _ (u3 ▸ List.mem_cons_self ..)).2.1
    exact this
  have hdue : ∀ x ∈ [mostF zs (tied f) true n, mostF zs (tied f) false n, (zs.map fun z => z.a * n + z.b).sum], Sm x := fun x hx => by
    simp only [List.mem_cons, List.not_mem_nil, or_false] at hx
    rcases hx with rfl | rfl | rfl <;> assumption
  refine ks_seq (ks_own ?_)
  refine ke_lcA kD (fun kk => .int (mostF zs (tied f) kk n)) ?_
  symm_saturate
  refine ⟨[true, false], rfl, by simp, fun kk _ => ⟨_, rfl, ?_⟩, ?_⟩
  · symm_saturate
    refine ⟨_, greatest_due h.ok (by omega) hs h.kn ha kk n, rfl, rfl⟩
  refine ⟨rfl, ?_⟩
  symm_saturate
  refine ks_app ?_
  symm_saturate
  refine ke_lcA pD (fun z => .int (z.a * n + z.b)) ?_
  symm_saturate
  refine ⟨zs, rfl, by omega, fun z hz => ⟨_, rfl, ?_⟩, ?_⟩
  · symm_saturate
    refine ⟨_, dMul_sm (ha z hz), ?_⟩
    symm_saturate
    exact ⟨rfl, rfl⟩
  symm_saturate
  refine ⟨_, sum_ints (fun z : Po => z.a * n + z.b) zs, ?_⟩
  refine ⟨_, rfl, by simp, ?_⟩
  symm_saturate
  refine ks_ifF ?_
  symm_saturate
  let due := [mostF zs (tied f) true n, mostF zs (tied f) false n, (zs.map fun z => z.a * n + z.b).sum]
  obtain ⟨tt, ht⟩ := repr_ints hdue (by simp)
  have rest : ∀ (ρ : Rho), ρ = e37 zs f kvs m p1 p2 p3 a10 a11 a12 a13 (some (.int n)) (some (.list (due.map .int))) none a17 a18 a19 → KS (gSeq (gSet 18 (cN m_web_at (aC (rd 5) (aC (rd 14) aN))))
    (gSeq (gSet 19 (mkL (aC (cN m_chain_told (aC (rd 18) aN)) (aC (cN m_lone_told (aC (rd 18) aN)) (aC (cN m_size_told (aC (rd 18) aN)) aN)))))
    (gSeq (gIf (tst (b2 dNe (cN dRepr (aC (rd 19) aN)) (cN dRepr (aC (lcE [11] (iE (rd 15)) (sN 11) bT (cN m_number_line (aC (rd 11) (aC (cst (.int 0)) aN)))) aN)))) (gRet (cst (.bool false))) gN)
    (gFor (iE (b2 dSub2 (rd 18) (cst (.int 0)))) (sN 17) (gIf (fOr (tst (b2 dNe (b2 dSub2 (rd 17) (cst (.int 2))) (cst (.int 0)))) (fAnd (tst (b2 dLt (b2 dSub2 (rd 17) (cst (.int 3))) (cst (.int 2)))) (tst (b2 dNe (b2 dSub2 (rd 17) (cst (.int 1))) (cst (.str "apart")))))) (gRet (cst (.bool false))) gN))))) ρ S P := by
    rintro _ rfl
    symm_saturate
    refine ⟨_, web_at_eq h.ok ha n, ?_⟩
    symm_saturate
    refine ⟨_, c1, ?_⟩
    symm_saturate
    refine ⟨_, c2, ?_⟩
    symm_saturate
    refine ⟨_, c3, ?_⟩
    symm_saturate
    refine ks_ifF ?_
    symm_saturate
    obtain ⟨t2, ht2⟩ := repr_nums (pss := [q1, q2, q3]) (fun ps hp => by
      simp only [List.mem_cons, List.not_mem_nil, or_false] at hp
      rcases hp with rfl | rfl | rfl
      · exact tq.f1
      · exact tq.f2
      · exact tq.f3) (by simp)
    refine ⟨_, ht2, ?_⟩
    symm_saturate
    refine ke_lcA PyData.int (fun v => nlD v 0) ?_
    symm_saturate
    refine ⟨due, rfl, by simp [due], fun v hv => ⟨_, rfl, ?_⟩, ?_⟩
    · symm_saturate
      exact ⟨_, number_line_eq (hdue v hv) sm0, rfl, rfl⟩
    symm_saturate
    have hnum : due.map (fun v => nlD v 0) = [q1, q2, q3].map numT := by
      rw [u1, u2, u3]
      rfl
    rw [hnum]
    refine ⟨_, ht2, ?_⟩
    symm_saturate
    refine ⟨_, ne_same t2, ?_⟩
    symm_saturate
    refine ⟨rfl, ?_⟩
    symm_saturate
    refine ks_forT pD ?_
    symm_saturate
    refine ⟨zs.map (atP n), rfl, fun i ρ S' => S' = S ∧ ∃ a17, ρ = e37 zs f kvs m p1 p2 p3 a10 a11 a12 a13 (some (.int n)) (some (.list (due.map .int))) none a17 (some (cw (zs.map (atP n)) (tied f))) (some (.list ([q1, q2, q3].map numT))), ⟨rfl, a17, rfl⟩, ?_, ?_⟩
    · rintro i z ρ S' hz ⟨rfl, a17, rfl⟩
      obtain ⟨y, hy, rfl⟩ := List.mem_map.mp (List.mem_of_getElem? hz)
      obtain ⟨e1, e2⟩ := atP_ab n y
      have hy2 := (h.pk y hy).nums
      have hmul := Int.mul_nonneg hy2.1 hn
      refine ⟨e37 zs f kvs m p1 p2 p3 a10 a11 a12 a13 (some (.int n)) (some (.list (due.map .int))) none (some (pD (atP n y))) (some (cw (zs.map (atP n)) (tied f))) (some (.list ([q1, q2, q3].map numT))), rfl, ?_⟩
      refine ks_ifF (kb_or' ?_)
      symm_saturate
      refine ⟨_, good_int.ne, ?_⟩
      symm_saturate
      rw [e1]
      refine ⟨fun _ => ?_, fun c => by simp at c⟩
      refine kb_and' ?_
      symm_saturate
      refine ⟨fun c => ?_, fun c => ?_⟩
      · rw [decide_eq_true_eq, e2] at c
        symm_saturate
        refine ⟨_, (good_kD.ne (x := (atP n y).k) (y := false)), ?_⟩
        symm_saturate
        have hk : (atP n y).k = false := by
          unfold atP fixP
          rw [if_pos ⟨rfl, by dsimp only; omega⟩]
        rw [hk]
        refine ⟨rfl, ?_⟩
        symm_saturate
        exact ⟨rfl, _, rfl⟩
      · refine ⟨rfl, ?_⟩
        symm_saturate
        exact ⟨rfl, _, rfl⟩
    · rintro ρ S' ⟨rfl, a17, rfl⟩
      exact k _ _ _ _
  refine ke_lcA numT (fun ps => .int (val ps n)) ?_
  symm_saturate
  refine ⟨[p1, p2, p3], rfl, by simp, fun ps hp => ⟨_, rfl, ?_⟩, ?_⟩
  · symm_saturate
    refine ⟨.int (val ps n), ?_, rfl, rfl⟩
    simp only [List.mem_cons, List.not_mem_nil, or_false] at hp
    rcases hp with rfl | rfl | rfl
    · exact number_at_num (num_T _) (t.f1.raw t.t1) hn
    · exact number_at_num (num_T _) (t.f2.raw t.t2) hn
    · exact number_at_num (num_T _) (t.f3.raw t.t3) hn
  symm_saturate
  have hv : [p1, p2, p3].map (fun ps => PyData.int (val ps n)) = due.map .int := by
    show [PyData.int (val p1 n), .int (val p2 n), .int (val p3 n)] = _
    rw [tf_val t.t1 n hn, tf_val t.t2 n hn, tf_val t.t3 n hn, ← sum_at]
    rfl
  rw [hv]
  refine ⟨_, ht, ?_⟩
  symm_saturate
  refine ⟨_, ht, ?_⟩
  symm_saturate
  refine ⟨_, ne_same tt, ?_⟩
  symm_saturate
  refine ⟨rfl, ?_⟩
  exact ks_N (seqP_nx (rest _ rfl))
end
end LW

set_option Elab.async false
set_option linter.all false
set_option maxRecDepth 100000
set_option maxHeartbeats 4000000
namespace LW
open PySem PySem.Spec PyProof.Rows L2 TL
local macro_rules | `(tactic| symm_saturate) => `(tactic| repeat (first
  | ((with_reducible refine ke_rd' ?_); refine ⟨_, rfl, ?_⟩)
  | with_reducible refine ke_cst ?_ | with_reducible refine ke_b2 ?_ | with_reducible refine ke_u1 ?_ | with_reducible refine ke_cN ?_ | with_reducible refine ke_cS ?_ | with_reducible refine ke_cI ?_
  | with_reducible refine ke_mkT ?_ | with_reducible refine ke_mkL ?_ | with_reducible refine ke_bE ?_ | with_reducible refine ke_sl3 ?_ | with_reducible refine ko_N ?_ | with_reducible refine ko_S ?_ | with_reducible refine ka_N ?_ | with_reducible refine ka_C ?_ | with_reducible refine ka_iE ?_
  | with_reducible refine kb_tst ?_ | with_reducible refine kb_bT ?_ | with_reducible refine kb_not ?_ | with_reducible refine ks_seq ?_ | with_reducible refine ks_N ?_ | with_reducible refine ks_set ?_ | with_reducible refine ks_par ?_ | with_reducible refine ks_ret ?_
  | with_reducible refine seqP_nx ?_ | with_reducible refine seqP_rt ?_ | with_reducible refine lapP_nx ?_ | with_reducible refine lapP_rt ?_ | with_reducible refine lapP_ct ?_ | with_reducible refine lapP_bk ?_ | with_reducible refine seqP_ct ?_ | with_reducible refine seqP_bk ?_ | with_reducible refine retP_rt ?_ | with_reducible refine retS_rt ?_
  | with_reducible refine ks_thaw ?_ | with_reducible refine ke_newK ?_ | with_reducible refine ke_newT ?_ | with_reducible refine ke_mkTV ?_ | with_reducible refine ke_mkLV ?_
  | (with_reducible first
    | refine ⟨_, add_ii _ _, ?_⟩ | refine ⟨_, sub_ii _ _, ?_⟩ | refine ⟨_, lt_ii _ _, ?_⟩ | refine ⟨_, le_ii _ _, ?_⟩ | refine ⟨_, gt_ii _ _, ?_⟩ | refine ⟨_, ge_ii _ _, ?_⟩ | refine ⟨_, neg_i _, ?_⟩
    | refine ⟨_, len_l _, ?_⟩ | refine ⟨_, len_t _, ?_⟩ | refine ⟨_, tup_l _, ?_⟩ | refine ⟨_, tup_t _, ?_⟩ | refine ⟨_, lst_l _, ?_⟩ | refine ⟨_, lst_t _, ?_⟩)
  | ((with_reducible show ∃ d, dTuple _ = some d ∧ _); first | refine ⟨_, tup_l _, ?_⟩ | refine ⟨_, tup_t _, ?_⟩)
  | ((with_reducible show ∃ d, dLen _ = some d ∧ _); first | refine ⟨_, len_l _, ?_⟩ | refine ⟨_, len_t _, ?_⟩)
  | ((with_reducible show ∃ i, _ = PyData.int i ∧ _); refine ⟨_, rfl, ?_⟩)
  | ((with_reducible show ∃ b, _ = PyData.bool b ∧ _); refine ⟨_, rfl, ?_⟩)
  | ((with_reducible show ∃ ds, items _ = some ds ∧ _); refine ⟨_, rfl, ?_⟩)
  | ((with_reducible show ∃ d, dSub2 _ _ = some d ∧ _); first | refine ⟨_, ix0, ?_⟩ | refine ⟨_, ix1, ?_⟩ | refine ⟨_, ix2, ?_⟩ | refine ⟨_, ix3, ?_⟩ | refine ⟨_, ixl0, ?_⟩ | refine ⟨_, ixl1, ?_⟩)))

section
variable {zs : List Po} {f : List (Str × Str)} {kvs : List (D × D)} {m : Int} {p1 p2 p3 : List Pc} {a10 a11 a12 a13 a14 a15 a16 a17 a18 a19 : Option D} {S : Src}
/-- all looks -/
theorem looks37 (h : W37 zs f kvs) (t : T37 zs (tied f) p1 p2 p3) {P : Res → Prop} (k : ∀ a11 a13 a14 a15 a17 a18 a19, P (.nx (e37 zs f kvs m p1 p2 p3 a10 a11 a12 a13 a14 a15 none a17 a18 a19) S)) :
    KS (gSeq L_13 (gSeq L_14 L_15)) (e37 zs f kvs m p1 p2 p3 a10 none a12 none none none none none none none) S P := by
  have hs := tied_symC f
  have hsm := h.sum
  refine ks_seq ?_
  unfold L_13
  refine ks_own ?_
  symm_saturate
  refine ⟨rfl, ?_⟩
  refine seqP_nx (ks_seq ?_)
  unfold L_14
  have k0 : KI [((.int 0 : D), (.int 0 : D)), (.int 1, .int 0), (.int 2, .int 0), (.int 7, .int 0), (.int 1000000000000, .int 0)] [0, 1, 2, 7, 1000000000000] := ⟨rfl, by simp⟩
  refine ks_forT numT ?_
  symm_saturate
  refine ⟨[p1, p2, p3], rfl, fun i ρ S' => S' = S ∧ ∃ a11 kv xs, ρ = e37 zs f kvs m p1 p2 p3 a10 a11 a12 (some (.dict kv)) none none none none none none ∧ KI kv xs ∧ (∀ x ∈ xs, 0 ≤ x ∧ x < 2 ^ 60) ∧ kv.length ≤ 5 + 2 * i, ⟨rfl, none, _, _, rfl, k0, (fun x hx => ?_), by simp⟩, ?_, ?_⟩
  · simp only [List.mem_cons, List.not_mem_nil, or_false] at hx
    omega
  · rintro i ps ρ S' hp ⟨rfl, a11, kv, xs, rfl, hk, hx, hkl⟩
    have hi : i < 3 := (List.getElem?_eq_some_iff.mp hp).1
    have hbeg : ps ≠ [] ∧ ∀ p ∈ ps, 0 ≤ p.1 ∧ p.1 ≤ (zs.map Po.b).sum + 1 := by
      have hm := List.mem_of_getElem? hp
      simp only [List.mem_cons, List.not_mem_nil, or_false] at hm
      rcases hm with rfl | rfl | rfl
      · exact ⟨(t.f1.raw t.t1).ne, most_begin h.ok.nd hs h.ab t.t1⟩
      · exact ⟨(t.f2.raw t.t2).ne, most_begin h.ok.nd hs h.ab t.t2⟩
      · refine ⟨(t.f3.raw t.t3).ne, fun p hp => ?_⟩
        have := TF.uniq t.t3 (tf_line1 fun n _ => rfl)
        rw [this, List.mem_singleton] at hp
        rw [hp]
        dsimp only
        omega
    obtain ⟨q, hq, hl⟩ := lastB_mem hbeg.1
    have hb := hbeg.2 q hq
    rw [← hl] at hb
    refine ⟨e37 zs f kvs m p1 p2 p3 a10 (some (numT ps)) a12 (some (.dict kv)) none none none none none none, rfl, ?_⟩
    obtain ⟨ys, k1, hy⟩ := hk.put (by omega) (lastB ps) (.int 0)
    have l1 := putD_len kv (.int (lastB ps)) (.int 0)
    obtain ⟨xs2, k2, hx2⟩ := k1.put (by omega) (if lastB ps - 1 > 0 then lastB ps - 1 else 0) (.int 0)
    have l2 := putD_len (putD kv (.int (lastB ps)) (.int 0)) (.int (if lastB ps - 1 > 0 then lastB ps - 1 else 0)) (.int 0)
    refine ks_seq (ks_putK ?_)
    symm_saturate
    refine ⟨_, last_eq hbeg.1, ?_⟩
    refine ⟨_, putAt_val (kvs := kv) rfl (hk.ok _) (by omega), ?_⟩
    refine seqP_nx (ks_putK ?_)
    symm_saturate
    refine ⟨_, last_eq hbeg.1, ?_⟩
    symm_saturate
    refine ⟨_, max_ii _ _, ?_⟩
    refine ⟨_, putAt_val rfl (k1.ok _) (by omega), ?_⟩
    refine ⟨rfl, some (numT ps), _, xs2, rfl, k2, fun x hx' => ?_, by omega⟩
    rcases (hx2 x).mp hx' with q | rfl
    · rcases (hy x).mp q with q | rfl
      · exact hx x q
      · omega
    · split <;> omega
  · rintro ρ S' ⟨rfl, a11, kv, xs, rfl, hk, hx, hkl⟩
    refine seqP_nx ?_
    unfold L_15
    refine ks_forT PyData.int ?_
    symm_saturate
    refine ⟨_, hk.sorted, ?_⟩
    symm_saturate
    refine ⟨_, rfl, fun i ρ S'' => S'' = S' ∧ ∃ a11 a14 a15 a17 a18 a19, ρ = e37 zs f kvs m p1 p2 p3 a10 a11 a12 (some (.dict kv)) a14 a15 none a17 a18 a19, ⟨rfl, a11, none, none, none, none, none, rfl⟩, ?_, ?_⟩
    · rintro i n ρ S'' hn ⟨rfl, a11, a14, a15, a17, a18, a19, rfl⟩
      have hnm := hx n ((oSort_perm xs).subset (List.mem_of_getElem? hn))
      refine ⟨e37 zs f kvs m p1 p2 p3 a10 a11 a12 (some (.dict kv)) (some (.int n)) a15 none a17 a18 a19, rfl, ?_⟩
      exact look37 (a10 := a10) (a11 := a11) (a17 := a17) (a12 := a12) (a13 := some (.dict kv)) (a15 := a15) (a18 := a18) (a19 := a19) (m := m) h t hnm.1 hnm.2 fun a15 a17 a18 a19 => ⟨rfl, _, _, _, _, _, _, rfl⟩
    · rintro ρ S'' ⟨rfl, a11, a14, a15, a17, a18, a19, rfl⟩
      exact k _ _ _ _ _ _ _
end
end LW

set_option Elab.async false
set_option linter.all false
set_option maxRecDepth 100000
set_option maxHeartbeats 4000000
namespace LW
open PySem PySem.Spec PyProof.Rows L2 TL
local macro_rules | `(tactic| symm_saturate) => `(tactic| repeat (first
  | ((with_reducible refine ke_rd' ?_); refine ⟨_, rfl, ?_⟩)
  | with_reducible refine ke_cst ?_ | with_reducible refine ke_b2 ?_ | with_reducible refine ke_u1 ?_ | with_reducible refine ke_cN ?_ | with_reducible refine ke_cS ?_ | with_reducible refine ke_cI ?_
  | with_reducible refine ke_mkT ?_ | with_reducible refine ke_mkL ?_ | with_reducible refine ke_bE ?_ | with_reducible refine ke_sl3 ?_ | with_reducible refine ko_N ?_ | with_reducible refine ko_S ?_ | with_reducible refine ka_N ?_ | with_reducible refine ka_C ?_ | with_reducible refine ka_iE ?_
  | with_reducible refine kb_tst ?_ | with_reducible refine kb_bT ?_ | with_reducible refine kb_not ?_ | with_reducible refine ks_seq ?_ | with_reducible refine ks_N ?_ | with_reducible refine ks_set ?_ | with_reducible refine ks_par ?_ | with_reducible refine ks_ret ?_
  | with_reducible refine seqP_nx ?_ | with_reducible refine seqP_rt ?_ | with_reducible refine lapP_nx ?_ | with_reducible refine lapP_rt ?_ | with_reducible refine lapP_ct ?_ | with_reducible refine lapP_bk ?_ | with_reducible refine seqP_ct ?_ | with_reducible refine seqP_bk ?_ | with_reducible refine retP_rt ?_ | with_reducible refine retS_rt ?_
  | with_reducible refine ks_thaw ?_ | with_reducible refine ke_newK ?_ | with_reducible refine ke_newT ?_ | with_reducible refine ke_mkTV ?_ | with_reducible refine ke_mkLV ?_
  | (with_reducible first
    | refine ⟨_, add_ii _ _, ?_⟩ | refine ⟨_, sub_ii _ _, ?_⟩ | refine ⟨_, lt_ii _ _, ?_⟩ | refine ⟨_, le_ii _ _, ?_⟩ | refine ⟨_, gt_ii _ _, ?_⟩ | refine ⟨_, ge_ii _ _, ?_⟩ | refine ⟨_, neg_i _, ?_⟩
    | refine ⟨_, len_l _, ?_⟩ | refine ⟨_, len_t _, ?_⟩ | refine ⟨_, tup_l _, ?_⟩ | refine ⟨_, tup_t _, ?_⟩ | refine ⟨_, lst_l _, ?_⟩ | refine ⟨_, lst_t _, ?_⟩)
  | ((with_reducible show ∃ d, dTuple _ = some d ∧ _); first | refine ⟨_, tup_l _, ?_⟩ | refine ⟨_, tup_t _, ?_⟩)
  | ((with_reducible show ∃ d, dLen _ = some d ∧ _); first | refine ⟨_, len_l _, ?_⟩ | refine ⟨_, len_t _, ?_⟩)
  | ((with_reducible show ∃ i, _ = PyData.int i ∧ _); refine ⟨_, rfl, ?_⟩)
  | ((with_reducible show ∃ b, _ = PyData.bool b ∧ _); refine ⟨_, rfl, ?_⟩)
  | ((with_reducible show ∃ ds, items _ = some ds ∧ _); refine ⟨_, rfl, ?_⟩)
  | ((with_reducible show ∃ d, dSub2 _ _ = some d ∧ _); first | refine ⟨_, ix0, ?_⟩ | refine ⟨_, ix1, ?_⟩ | refine ⟨_, ix2, ?_⟩ | refine ⟨_, ix3, ?_⟩ | refine ⟨_, ixl0, ?_⟩ | refine ⟨_, ixl1, ?_⟩)))

theorem gSeq_assoc (a b c : FS) : gSeq a (gSeq b c) = gSeq (gSeq a b) c := by
  funext ρ S
  unfold gSeq
  cases h : a ρ S with
  | none => rfl
  | some r => cases r <;> rfl
theorem repr_web {zs : List Po} {R : Str → Str → Bool} (h : WebOk zs) (hn : ∀ s ∈ zs.map Po.n, s ∈ letters) (hs : ∀ z ∈ zs, 0 ≤ z.a ∧ z.a < 2 ^ 90 ∧ 0 ≤ z.b ∧ z.b < 2 ^ 90) : ∃ t, dRepr [cw zs R] = some (.str t) :=
  repr_cw h fun z hz => ⟨short_lettersC _ (hn _ (mem_of_names hz)), log100 (by have := hs z hz; omega) (by have := hs z hz; omega), log100 (by have := hs z hz; omega) (by have := hs z hz; omega)⟩
theorem law_true (T : Src) : ∃ T', g_law (List.replicate 21 none) T = some (.rt (.bool true) T') := by
  have main : KS g_law (List.replicate 21 none) T (fun r => ∃ T', r = .rt (.bool true) T') := by
    unfold g_law
    refine ks_seq ?_
    unfold L_1
    symm_saturate
    refine ev_pick (n := 5) (by decide) (by decide) fun j S1 hj => ?_
    symm_saturate
    refine ⟨lS ((letters.take 6).take (2 + j)), ?_, ?_⟩
    · have := take_cut (ds := (letters.take 6).map PyData.str) (i := 2 + j)
      unfold lS
      rw [List.map_take]
      exact this
    have hx : ((letters.take 6).take (2 + j)).Pairwise (oLt sS) := letters_lt.sublist ((List.take_sublist ..).trans (List.take_sublist ..))
    have hxl : ((letters.take 6).take (2 + j)).length = 2 + j := by
      rw [List.length_take]
      exact Nat.min_eq_left (by show 2 + j ≤ 6; omega)
    have hxm : ∀ s ∈ (letters.take 6).take (2 + j), s ∈ letters := fun s hs => List.mem_of_mem_take (List.mem_of_mem_take hs)
    generalize (letters.take 6).take (2 + j) = xs at hx hxl hxm
    symm_saturate
    have rest : ∀ (zs : List Po) (S : Src), zs.map Po.n = xs → (∀ z ∈ zs, P37 z) → KS (gSeq L_3 (gSeq L_4 (gSeq L_5 (gSeq L_6 (gSeq L_7 (gSeq L_8 (gSeq L_9 (gSeq L_10 (gSeq L_11 (gSeq L_12 (gSeq L_13 (gSeq L_14 (gSeq L_15 (gSeq L_16 L_17)))))))))))))) [none, none, some (lS xs), some (.list (zs.map pD)), none, none, none, none, none, none, none, none, none, none, none, none, none, none, none, none, none] S (fun r => ∃ T', r = .rt (.bool true) T') := by
      intro zs S hn hp
      have hzl : zs.length = 2 + j := by rw [← hxl, ← hn, List.length_map]
      have hok : WebOk zs := ⟨by rw [← List.pairwise_map, hn]; exact hx, by omega, fun z hz => (hp z hz).fix⟩
      refine ks_seq ?_
      unfold L_3
      symm_saturate
      refine ev_tiesC hx (by omega) (fun e => by rw [e] at hxl; simp at hxl; omega) fun f S3 hf hfl => ?_
      have hs := tied_symC f
      symm_saturate
      unfold L_4
      refine ks_par ?_
      symm_saturate
      refine ⟨_, told_drawn hok (by rw [hn]; exact hf) hfl rfl rfl, ?_⟩
      symm_saturate
      obtain ⟨kvs, hk, K⟩ := known_eqC (L := .list (f.map prS)) rfl hfl
      refine ⟨_, hk, ?_⟩
      symm_saturate
      have hW : W37 zs f kvs := ⟨hok, by omega, by omega, hp, by rw [hn]; exact hxm, K⟩
      unfold L_5
      symm_saturate
      have hpw : dPow (.int 10) (.int 6) = some (.int 1000000) := by
        unfold dPow
        dsimp only
        exact if_pos ⟨by decide, by decide, by decide⟩
      refine ⟨_, hpw, ?_⟩
      symm_saturate
      refine ev_of PyData.int [0, 1, 3, 38, 1000000, 999999998] (by decide) (by decide) fun i m S4 hm => ?_
      have hm : 0 ≤ m ∧ m ≤ 999999998 := by
        have := List.mem_of_getElem? hm
        simp only [List.mem_cons, List.not_mem_nil, or_false] at this
        omega
      symm_saturate
      unfold L_6
      symm_saturate
      have ha : ∀ z ∈ zs, -(2 ^ 64) < z.a ∧ z.a < 2 ^ 64 := fun z hz => by have := (hp z hz).nums; omega
      refine ⟨_, web_later_eq hok ha m, ?_⟩
      obtain ⟨p1, p2, p3, c1, c2, c3, t⟩ := told3 (R := tied f) hok hs (by omega) (by omega) fun z hz => by have := (hp z hz).nums; omega
      have hokL := hok.la m
      have hnumL : ∀ z ∈ zs.map (laP m), 0 ≤ z.a ∧ z.a ≤ 3 ∧ 1 ≤ z.b ∧ z.b ≤ 3999999999 := fun z hz => by
        obtain ⟨y, hy, rfl⟩ := List.mem_map.mp hz
        obtain ⟨e1, e2⟩ := laP_ab m y
        have h1 := (hp y hy).nums
        have := Int.mul_nonneg h1.1 hm.1
        have h2 : y.a * m ≤ 3 * m := Int.mul_le_mul_of_nonneg_right h1.2.1 hm.1
        rw [e1, e2]
        omega
      obtain ⟨q1, q2, q3, d1, d2, d3, tq⟩ := told3 (R := tied f) hokL hs (by rw [List.length_map]; omega) (by rw [List.length_map]; omega) fun z hz => by have := hnumL z hz; omega
      symm_saturate
      unfold L_7
      symm_saturate
      refine ⟨_, c1, ?_⟩
      symm_saturate
      refine ⟨_, c2, ?_⟩
      symm_saturate
      refine ⟨_, c3, ?_⟩
      symm_saturate
      unfold L_8
      symm_saturate
      refine ⟨_, d1, ?_⟩
      symm_saturate
      refine ⟨_, d2, ?_⟩
      symm_saturate
      refine ⟨_, d3, ?_⟩
      symm_saturate
      unfold L_9
      refine ks_ifF ?_
      symm_saturate
      obtain ⟨t2, ht2⟩ := repr_nums (pss := [q1, q2, q3]) (fun ps hp => by
        simp only [List.mem_cons, List.not_mem_nil, or_false] at hp
        rcases hp with rfl | rfl | rfl
        · exact tq.f1
        · exact tq.f2
        · exact tq.f3) (by simp)
      obtain ⟨t3, ht3⟩ := repr_nums (pss := [p1, p2, p3]) (fun ps hp => by
        simp only [List.mem_cons, List.not_mem_nil, or_false] at hp
        rcases hp with rfl | rfl | rfl
        · exact t.f1
        · exact t.f2
        · exact t.f3) (by simp)
      refine ⟨_, ht2, ?_⟩
      symm_saturate
      have lt1 := later_of (m := m) t.t1 t.f1 hm.1 tq.t1 tq.f1 fun n hn => mostF_la hok hs hW.ab true hm.1 n
      have lt2 := later_of (m := m) t.t2 t.f2 hm.1 tq.t2 tq.f2 fun n hn => mostF_la hok hs hW.ab false hm.1 n
      have hsB : ((zs.map (laP m)).map Po.b).sum = (zs.map Po.b).sum + (zs.map Po.a).sum * m := by
        rw [← sum_at, List.map_map]
        congr 1
        exact List.map_congr_left fun z _ => (laP_ab m z).2
      have hsA : ((zs.map (laP m)).map Po.a).sum = (zs.map Po.a).sum := by
        rw [List.map_map]
        congr 1
        exact List.map_congr_left fun z _ => (laP_ab m z).1
      have lt3 := later_of (m := m) t.t3 t.f3 hm.1 tq.t3 tq.f3 fun n hn => by
        rw [hsB, hsA, Int.mul_add]
        omega
      refine ke_lcA numT (fun ps => (m_number_later [numT ps, .int m]).getD .none) ?_
      symm_saturate
      refine ⟨[p1, p2, p3], rfl, by simp, fun ps hps => ⟨_, rfl, ?_⟩, ?_⟩
      · symm_saturate
        simp only [List.mem_cons, List.not_mem_nil, or_false] at hps
        rcases hps with rfl | rfl | rfl
        · exact ⟨_, lt1, by rw [lt1]; rfl, rfl⟩
        · exact ⟨_, lt2, by rw [lt2]; rfl, rfl⟩
        · exact ⟨_, lt3, by rw [lt3]; rfl, rfl⟩
      have hmp : [p1, p2, p3].map (fun ps => (m_number_later [numT ps, .int m]).getD .none) = [q1, q2, q3].map numT := by
        show [(m_number_later [numT p1, .int m]).getD .none, (m_number_later [numT p2, .int m]).getD .none, (m_number_later [numT p3, .int m]).getD .none] = _
        rw [lt1, lt2, lt3]
        rfl
      rw [hmp]
      symm_saturate
      refine ⟨_, ht2, ?_⟩
      symm_saturate
      refine ⟨_, ne_same t2, ?_⟩
      symm_saturate
      refine ⟨rfl, ?_⟩
      symm_saturate
      unfold L_10
      symm_saturate
      refine ev_pick (n := 5) (by decide) (by decide) fun more S5 hmore => ?_
      symm_saturate
      unfold L_11
      refine ks_ifF ?_
      symm_saturate
      refine ⟨_, web_later_eq hokL (fun z hz => by have := hnumL z hz; omega) more, ?_⟩
      have e11 : (zs.map (laP m)).map (laP (more : Int)) = zs.map (laP (m + more)) := by
        rw [List.map_map]
        exact List.map_congr_left fun z hz => la_la (hok.fix z hz) (hW.ab z hz).1 (hW.ab z hz).2 hm.1 (by omega)
      rw [e11]
      have hnumLL : ∀ (r : Int), 0 ≤ r → r ≤ 100 → ∀ z ∈ zs.map (laP (m + r)), 0 ≤ z.a ∧ z.a ≤ 3 ∧ 1 ≤ z.b ∧ z.b ≤ 4999999999 := fun r hr1 hr2 z hz => by
        obtain ⟨y, hy, rfl⟩ := List.mem_map.mp hz
        obtain ⟨e1, e2⟩ := laP_ab (m + r) y
        have h1 := (hp y hy).nums
        have := Int.mul_nonneg h1.1 (show 0 ≤ m + r by omega)
        have h2 : y.a * (m + r) ≤ 3 * (m + r) := Int.mul_le_mul_of_nonneg_right h1.2.1 (by omega)
        rw [e1, e2]
        omega
      obtain ⟨t4, ht4⟩ := repr_web (R := tied f) (hok.la (m + more)) (by rw [map_names (laP_n _), hn]; exact hxm) fun z hz => by have := hnumLL more (by omega) (by omega) z hz; omega
      symm_saturate
      refine ⟨_, ht4, ?_⟩
      symm_saturate
      refine ⟨_, web_later_eq hok ha (m + more), ?_⟩
      symm_saturate
      refine ⟨_, ht4, ?_⟩
      symm_saturate
      refine ⟨_, ne_same t4, ?_⟩
      symm_saturate
      refine ⟨rfl, ?_⟩
      symm_saturate
      unfold L_12
      refine ks_ifF ?_
      symm_saturate
      refine ke_lcA numT numT ?_
      symm_saturate
      refine ⟨[p1, p2, p3], rfl, by simp, fun ps hps => ⟨_, rfl, ?_⟩, ?_⟩
      · symm_saturate
        simp only [List.mem_cons, List.not_mem_nil, or_false] at hps
        rcases hps with rfl | rfl | rfl
        · exact ⟨_, told_self t.t1 t.f1, rfl, rfl⟩
        · exact ⟨_, told_self t.t2 t.f2, rfl, rfl⟩
        · exact ⟨_, told_self t.t3 t.f3, rfl, rfl⟩
      symm_saturate
      refine ⟨_, ht3, ?_⟩
      symm_saturate
      refine ⟨_, ht3, ?_⟩
      symm_saturate
      refine ⟨_, ne_same t3, ?_⟩
      symm_saturate
      refine ⟨rfl, ?_⟩
      refine ks_N (seqP_nx ?_)
      rw [gSeq_assoc L_14, gSeq_assoc L_13]
      refine ks_seq ?_
      rw [← hn]
      refine looks37 (a10 := some (.list ([q1, q2, q3].map numT))) (a12 := some (.int (more : Nat))) (zs := zs) (f := f) (kvs := kvs) (m := m) (p1 := p1) (p2 := p2) (p3 := p3) hW t fun a11 a13 a14 a15 a17 a18 a19 => ?_
      refine seqP_nx (ks_seq ?_)
      unfold L_16
      symm_saturate
      refine ev_pick (n := 9) (by decide) (by decide) fun m2 S6 hm2 => ?_
      symm_saturate
      unfold L_17
      symm_saturate
      refine kb_and ?_
      symm_saturate
      refine ⟨_, web_at_eq hokL (fun z hz => by have := hnumL z hz; omega) m2, ?_⟩
      have e17 : (zs.map (laP m)).map (atP (m2 : Int)) = zs.map (atP (m + m2)) := by
        rw [List.map_map]
        exact List.map_congr_left fun z hz => at_la (hok.fix z hz) (hW.ab z hz).1 (hW.ab z hz).2 hm.1 _
      rw [e17]
      obtain ⟨t5, ht5⟩ := repr_web (R := tied f) (hok.at_ (m + m2)) (by rw [map_names (atP_n _), hn]; exact hxm) fun z hz => by
        obtain ⟨y, hy, rfl⟩ := List.mem_map.mp hz
        obtain ⟨e1, e2⟩ := atP_ab (m + m2) y
        have h1 := (hp y hy).nums
        have := Int.mul_nonneg h1.1 (show 0 ≤ m + (m2 : Int) by omega)
        have h2 : y.a * (m + m2) ≤ 3 * (m + m2) := Int.mul_le_mul_of_nonneg_right h1.2.1 (by omega)
        rw [e1, e2]
        omega
      symm_saturate
      refine ⟨_, ht5, ?_⟩
      symm_saturate
      refine ⟨_, web_at_eq hok ha (m + m2), ?_⟩
      symm_saturate
      refine ⟨_, ht5, ?_⟩
      symm_saturate
      refine ⟨_, good_str.eq, ?_⟩
      symm_saturate
      refine ⟨rfl, ?_⟩
      symm_saturate
      refine ⟨_, web_later_eq hok ha 0, ?_⟩
      have e0 : zs.map (laP 0) = zs := by
        conv => rhs; rw [← List.map_id zs]
        exact List.map_congr_left fun z hz => la_zero (hok.fix z hz)
      rw [e0]
      obtain ⟨t6, ht6⟩ := repr_web (R := tied f) hok (by rw [hn]; exact hxm) fun z hz => by have := (hp z hz).nums; omega
      symm_saturate
      refine ⟨_, ht6, ?_⟩
      symm_saturate
      refine ⟨_, ht6, ?_⟩
      symm_saturate
      refine ⟨_, good_str.eq, ?_⟩
      symm_saturate
      refine ⟨rfl, ?_⟩
      symm_saturate
      exact ⟨_, by simp; rfl⟩
    unfold L_2
    refine ks_set ?_
    refine ke_ifE ?_
    symm_saturate
    refine ev_pick (n := 2) (by decide) (by decide) fun c S2 hc => ?_
    symm_saturate
    refine ⟨_, good_int.eq, ?_⟩
    symm_saturate
    refine ⟨fun _ => ?_, fun _ => ?_⟩
    · symm_saturate
      refine ev_late (by omega) fun zs S3 hn hz => ?_
      exact seqP_nx (rest zs S3 hn fun z q => .inr (hz z q))
    · symm_saturate
      refine ev_postsC (by omega) fun zs S3 hn hz => ?_
      exact seqP_nx (rest zs S3 hn fun z q => .inl (hz z q))
  obtain ⟨r, e, T', rfl⟩ := main
  exact ⟨T', e⟩
end LW

set_option Elab.async false
set_option maxRecDepth 100000
open PySem PySem.W PyProof.Rows
set_option maxHeartbeats 0 in
theorem PySem.Challenge.cw_forcedarrows_k37_whole_later_and_at_holds : PySem.Challenge.rw_forcedarrows_k37_whole_later_and_at.Holds := by
  w_on; o_law; k_head; (case hw => w_witness2)
  k_fill
  refine TL.walkG (l := PySem.Challenge.rw_forcedarrows_k37_whole_later_and_at) (n := 63) (k := 9) (x := "script") rfl (by decide) rfl ⟨rfl, by decide, by decide⟩ (fun w h Y => PySem.W.kIn_of Y) ?F
  case F =>
    intro w mg fa h KX G hmg
    refine' TL.def_then (x := "is_long") (st := LW.s_is_long) (ps := ["number"]) KX G (fun _ _ _ _ _ _ us hl => match us, hl with | [_], _ => rfl) ?a0 ?l0 ?c0 ?k0 ?n0
    (case a0 => k_is); (case l0 => k_is); (case c0 => k_is); (case k0 => k_is)
    intro F_is_long
    refine' TL.def_then (x := "not_long") (st := LW.s_not_long) (ps := ["pieces"]) KX G (fun _ _ _ _ _ _ us hl => match us, hl with | [_], _ => rfl) ?a1 ?l1 ?c1 ?k1 ?n1
    (case a1 => k_is); (case l1 => k_is); (case c1 => k_is); (case k1 => k_is)
    intro F_not_long
    refine' TL.def_then (x := "number_line") (st := LW.s_number_line) (ps := ["value", "step"]) KX G (fun _ _ _ _ _ _ us hl => match us, hl with | [_, _], _ => rfl) ?a2 ?l2 ?c2 ?k2 ?n2
    (case a2 => k_is); (case l2 => k_is); (case c2 => k_is); (case k2 => k_is)
    intro F_number_line
    refine' TL.def_then (x := "line_at") (st := LW.s_line_at) (ps := ["number", "n"]) KX G (fun _ _ _ _ _ _ us hl => match us, hl with | [_, _], _ => rfl) ?a3 ?l3 ?c3 ?k3 ?n3
    (case a3 => k_is); (case l3 => k_is); (case c3 => k_is); (case k3 => k_is)
    intro F_line_at
    refine' TL.def_then (x := "number_at") (st := LW.s_number_at) (ps := ["number", "n"]) KX G (fun _ _ _ _ _ _ us hl => match us, hl with | [_, _], _ => rfl) ?a4 ?l4 ?c4 ?k4 ?n4
    (case a4 => k_is); (case l4 => k_is); (case c4 => k_is); (case k4 => k_is)
    intro F_number_at
    refine' TL.def_then (x := "next_unlike") (st := LW.s_next_unlike) (ps := ["raw", "here"]) KX G (fun _ _ _ _ _ _ us hl => match us, hl with | [_, _], _ => rfl) ?a5 ?l5 ?c5 ?k5 ?n5
    (case a5 => k_is); (case l5 => k_is); (case c5 => k_is); (case k5 => k_is)
    intro F_next_unlike
    refine' TL.def_then (x := "number_told") (st := LW.s_number_told) (ps := ["raw"]) KX G (fun _ _ _ _ _ _ us hl => match us, hl with | [_], _ => rfl) ?a6 ?l6 ?c6 ?k6 ?n6
    (case a6 => k_is); (case l6 => k_is); (case c6 => k_is); (case k6 => k_is)
    intro F_number_told
    refine' TL.def_then (x := "beside") (st := LW.s_beside) (ps := ["one", "other"]) KX G (fun _ _ _ _ _ _ us hl => match us, hl with | [_, _], _ => rfl) ?a7 ?l7 ?c7 ?k7 ?n7
    (case a7 => k_is); (case l7 => k_is); (case c7 => k_is); (case k7 => k_is)
    intro F_beside
    refine' TL.def_then (x := "numbers_sum") (st := LW.s_numbers_sum) (ps := ["one", "other"]) KX G (fun _ _ _ _ _ _ us hl => match us, hl with | [_, _], _ => rfl) ?a8 ?l8 ?c8 ?k8 ?n8
    (case a8 => k_is); (case l8 => k_is); (case c8 => k_is); (case k8 => k_is)
    intro F_numbers_sum
    refine' TL.def_then (x := "change_of") (st := LW.s_change_of) (ps := ["begin", "gap", "turn"]) KX G (fun _ _ _ _ _ _ us hl => match us, hl with | [_, _, _], _ => rfl) ?a9 ?l9 ?c9 ?k9 ?n9
    (case a9 => k_is); (case l9 => k_is); (case c9 => k_is); (case k9 => k_is)
    intro F_change_of
    refine' TL.def_then (x := "numbers_chosen") (st := LW.s_numbers_chosen) (ps := ["one", "other", "sign"]) KX G (fun _ _ _ _ _ _ us hl => match us, hl with | [_, _, _], _ => rfl) ?a10 ?l10 ?c10 ?k10 ?n10
    (case a10 => k_is); (case l10 => k_is); (case c10 => k_is); (case k10 => k_is)
    intro F_numbers_chosen
    refine' TL.def_then (x := "numbers_most") (st := LW.s_numbers_most) (ps := ["one", "other"]) KX G (fun _ _ _ _ _ _ us hl => match us, hl with | [_, _], _ => rfl) ?a11 ?l11 ?c11 ?k11 ?n11
    (case a11 => k_is); (case l11 => k_is); (case c11 => k_is); (case k11 => k_is)
    intro F_numbers_most
    refine' TL.def_then (x := "number_later") (st := LW.s_number_later) (ps := ["number", "many"]) KX G (fun _ _ _ _ _ _ us hl => match us, hl with | [_, _], _ => rfl) ?a12 ?l12 ?c12 ?k12 ?n12
    (case a12 => k_is); (case l12 => k_is); (case c12 => k_is); (case k12 => k_is)
    intro F_number_later
    refine' TL.def_then (x := "last_from") (st := LW.s_last_from) (ps := ["number"]) KX G (fun _ _ _ _ _ _ us hl => match us, hl with | [_], _ => rfl) ?a13 ?l13 ?c13 ?k13 ?n13
    (case a13 => k_is); (case l13 => k_is); (case c13 => k_is); (case k13 => k_is)
    intro F_last_from
    refine' TL.def_then (x := "post_told") (st := LW.s_post_told) (ps := ["name", "kind", "times", "more"]) KX G (fun _ _ _ _ _ _ us hl => match us, hl with | [_, _, _, _], _ => rfl) ?a14 ?l14 ?c14 ?k14 ?n14
    (case a14 => k_is); (case l14 => k_is); (case c14 => k_is); (case k14 => k_is)
    intro F_post_told
    refine' TL.def_then (x := "web_told") (st := LW.s_web_told) (ps := ["posts", "ties"]) KX G (fun _ _ _ _ _ _ us hl => match us, hl with | [_, _], _ => rfl) ?a15 ?l15 ?c15 ?k15 ?n15
    (case a15 => k_is); (case l15 => k_is); (case c15 => k_is); (case k15 => k_is)
    intro F_web_told
    refine' TL.def_then (x := "names_of") (st := LW.s_names_of) (ps := ["web"]) KX G (fun _ _ _ _ _ _ us hl => match us, hl with | [_], _ => rfl) ?a16 ?l16 ?c16 ?k16 ?n16
    (case a16 => k_is); (case l16 => k_is); (case c16 => k_is); (case k16 => k_is)
    intro F_names_of
    refine' TL.def_then (x := "post_of") (st := LW.s_post_of) (ps := ["web", "name"]) KX G (fun _ _ _ _ _ _ us hl => match us, hl with | [_, _], _ => rfl) ?a17 ?l17 ?c17 ?k17 ?n17
    (case a17 => k_is); (case l17 => k_is); (case c17 => k_is); (case k17 => k_is)
    intro F_post_of
    refine' TL.def_then (x := "copies_told") (st := LW.s_copies_told) (ps := ["web", "name"]) KX G (fun _ _ _ _ _ _ us hl => match us, hl with | [_, _], _ => rfl) ?a18 ?l18 ?c18 ?k18 ?n18
    (case a18 => k_is); (case l18 => k_is); (case c18 => k_is); (case k18 => k_is)
    intro F_copies_told
    refine' TL.def_then (x := "weight_told") (st := LW.s_weight_told) (ps := ["web", "lot", "kind"]) KX G (fun _ _ _ _ _ _ us hl => match us, hl with | [_, _, _], _ => rfl) ?a19 ?l19 ?c19 ?k19 ?n19
    (case a19 => k_is); (case l19 => k_is); (case c19 => k_is); (case k19 => k_is)
    intro F_weight_told
    refine' TL.def_then (x := "size_told") (st := LW.s_size_told) (ps := ["web"]) KX G (fun _ _ _ _ _ _ us hl => match us, hl with | [_], _ => rfl) ?a20 ?l20 ?c20 ?k20 ?n20
    (case a20 => k_is); (case l20 => k_is); (case c20 => k_is); (case k20 => k_is)
    intro F_size_told
    refine' TL.def_then (x := "web_later") (st := LW.s_web_later) (ps := ["web", "many"]) KX G (fun _ _ _ _ _ _ us hl => match us, hl with | [_, _], _ => rfl) ?a21 ?l21 ?c21 ?k21 ?n21
    (case a21 => k_is); (case l21 => k_is); (case c21 => k_is); (case k21 => k_is)
    intro F_web_later
    refine' TL.def_then (x := "web_at") (st := LW.s_web_at) (ps := ["web", "n"]) KX G (fun _ _ _ _ _ _ us hl => match us, hl with | [_, _], _ => rfl) ?a22 ?l22 ?c22 ?k22 ?n22
    (case a22 => k_is); (case l22 => k_is); (case c22 => k_is); (case k22 => k_is)
    intro F_web_at
    refine' TL.def_then (x := "known_ties") (st := LW.s_known_ties) (ps := ["web"]) KX G (fun _ _ _ _ _ _ us hl => match us, hl with | [_], _ => rfl) ?a23 ?l23 ?c23 ?k23 ?n23
    (case a23 => k_is); (case l23 => k_is); (case c23 => k_is); (case k23 => k_is)
    intro F_known_ties
    refine' TL.def_then (x := "goes_with") (st := LW.s_goes_with) (ps := ["known", "post", "lot", "kind"]) KX G (fun _ _ _ _ _ _ us hl => match us, hl with | [_, _, _, _], _ => rfl) ?a24 ?l24 ?c24 ?k24 ?n24
    (case a24 => k_is); (case l24 => k_is); (case c24 => k_is); (case k24 => k_is)
    intro F_goes_with
    refine' TL.def_then (x := "greatest_lots") (st := LW.s_greatest_lots) (ps := ["web", "kind"]) KX G (fun _ _ _ _ _ _ us hl => match us, hl with | [_, _], _ => rfl) ?a25 ?l25 ?c25 ?k25 ?n25
    (case a25 => k_is); (case l25 => k_is); (case c25 => k_is); (case k25 => k_is)
    intro F_greatest_lots
    refine' TL.def_then (x := "most_told") (st := LW.s_most_told) (ps := ["web", "kind"]) KX G (fun _ _ _ _ _ _ us hl => match us, hl with | [_, _], _ => rfl) ?a26 ?l26 ?c26 ?k26 ?n26
    (case a26 => k_is); (case l26 => k_is); (case c26 => k_is); (case k26 => k_is)
    intro F_most_told
    refine' TL.def_then (x := "chain_told") (st := LW.s_chain_told) (ps := ["web"]) KX G (fun _ _ _ _ _ _ us hl => match us, hl with | [_], _ => rfl) ?a27 ?l27 ?c27 ?k27 ?n27
    (case a27 => k_is); (case l27 => k_is); (case c27 => k_is); (case k27 => k_is)
    intro F_chain_told
    refine' TL.def_then (x := "lone_told") (st := LW.s_lone_told) (ps := ["web"]) KX G (fun _ _ _ _ _ _ us hl => match us, hl with | [_], _ => rfl) ?a28 ?l28 ?c28 ?k28 ?n28
    (case a28 => k_is); (case l28 => k_is); (case c28 => k_is); (case k28 => k_is)
    intro F_lone_told
    refine' TL.def_then (x := "_law_source") (st := LW.s__law_source) (ps := ["script"]) KX G (fun _ _ _ _ _ _ us hl => match us, hl with | [_], _ => rfl) ?a29 ?l29 ?c29 ?k29 ?n29
    (case a29 => k_is); (case l29 => k_is); (case c29 => k_is); (case k29 => k_is)
    intro F__law_source
    refine' TL.def_then (x := "_law_pick") (st := LW.s__law_pick) (ps := ["source", "many"]) KX G (fun _ _ _ _ _ _ us hl => match us, hl with | [_, _], _ => rfl) ?a30 ?l30 ?c30 ?k30 ?n30
    (case a30 => k_is); (case l30 => k_is); (case c30 => k_is); (case k30 => k_is)
    intro F__law_pick
    refine' TL.def_then (x := "_law_of") (st := LW.s__law_of) (ps := ["source", "some"]) KX G (fun _ _ _ _ _ _ us hl => match us, hl with | [_, _], _ => rfl) ?a31 ?l31 ?c31 ?k31 ?n31
    (case a31 => k_is); (case l31 => k_is); (case c31 => k_is); (case k31 => k_is)
    intro F__law_of
    refine' TL.def_then (x := "_law_length") (st := LW.s__law_length) (ps := ["source", "kind"]) KX G (fun _ _ _ _ _ _ us hl => match us, hl with | [_, _], _ => rfl) ?a32 ?l32 ?c32 ?k32 ?n32
    (case a32 => k_is); (case l32 => k_is); (case c32 => k_is); (case k32 => k_is)
    intro F__law_length
    refine' TL.def_then (x := "_law_posts") (st := LW.s__law_posts) (ps := ["source", "names"]) KX G (fun _ _ _ _ _ _ us hl => match us, hl with | [_, _], _ => rfl) ?a33 ?l33 ?c33 ?k33 ?n33
    (case a33 => k_is); (case l33 => k_is); (case c33 => k_is); (case k33 => k_is)
    intro F__law_posts
    refine' TL.def_then (x := "_law_ties") (st := LW.s__law_ties) (ps := ["source", "names"]) KX G (fun _ _ _ _ _ _ us hl => match us, hl with | [_, _], _ => rfl) ?a34 ?l34 ?c34 ?k34 ?n34
    (case a34 => k_is); (case l34 => k_is); (case c34 => k_is); (case k34 => k_is)
    intro F__law_ties
    refine' TL.def_then (x := "_law_known") (st := LW.s__law_known) (ps := ["ties"]) KX G (fun _ _ _ _ _ _ us hl => match us, hl with | [_], _ => rfl) ?a35 ?l35 ?c35 ?k35 ?n35
    (case a35 => k_is); (case l35 => k_is); (case c35 => k_is); (case k35 => k_is)
    intro F__law_known
    refine' TL.def_then (x := "_law_lots") (st := LW.s__law_lots) (ps := ["names"]) KX G (fun _ _ _ _ _ _ us hl => match us, hl with | [_], _ => rfl) ?a36 ?l36 ?c36 ?k36 ?n36
    (case a36 => k_is); (case l36 => k_is); (case c36 => k_is); (case k36 => k_is)
    intro F__law_lots
    refine' TL.def_then (x := "_law_late_posts") (st := LW.s__law_late_posts) (ps := ["source", "names"]) KX G (fun _ _ _ _ _ _ us hl => match us, hl with | [_, _], _ => rfl) ?a37 ?l37 ?c37 ?k37 ?n37
    (case a37 => k_is); (case l37 => k_is); (case c37 => k_is); (case k37 => k_is)
    intro F__law_late_posts
    refine' TL.def_then (x := "_law_greatest") (st := LW.s__law_greatest) (ps := ["posts", "known", "kind", "names", "n"]) KX G (fun _ _ _ _ _ _ us hl => match us, hl with | [_, _, _, _, _], _ => rfl) ?a38 ?l38 ?c38 ?k38 ?n38
    (case a38 => k_is); (case l38 => k_is); (case c38 => k_is); (case k38 => k_is)
    intro F__law_greatest
    refine' TL.def_then (x := "law") (st := LW.s_law) (ps := ["script"]) KX G (fun _ _ _ _ _ _ us hl => match us, hl with | [_], _ => rfl) ?a39 ?l39 ?c39 ?k39 ?n39
    (case a39 => k_is); (case l39 => k_is); (case c39 => k_is); (case k39 => k_is)
    intro F_law
    refine' TL.int_then (x := "SURE_BITS") (i := 997) KX G ?ta0 ?tn0
    (case ta0 => k_is)
    intro k_SURE_BITS
    refine' TL.int_then (x := "MOST_FIGURES") (i := 300) KX G ?ta1 ?tn1
    (case ta1 => k_is)
    intro k_MOST_FIGURES
    refine' TL.int_then (x := "MOST_PIECES") (i := 60) KX G ?ta2 ?tn2
    (case ta2 => k_is)
    intro k_MOST_PIECES
    refine' TL.str_then (x := "APART") (s := "apart") KX G ?ta3 ?tn3
    (case ta3 => k_is)
    intro k_APART
    refine' TL.str_then (x := "TIED") (s := "tied") KX G ?ta4 ?tn4
    (case ta4 => k_is)
    intro k_TIED
    have b_abs : mg "abs" = none := PySem.W.mg_none_of KX G (by k_is)
    have b_str : mg "str" = none := PySem.W.mg_none_of KX G (by k_is)
    have b_len : mg "len" = none := PySem.W.mg_none_of KX G (by k_is)
    have b_any : mg "any" = none := PySem.W.mg_none_of KX G (by k_is)
    have b_enumerate : mg "enumerate" = none := PySem.W.mg_none_of KX G (by k_is)
    have b_max : mg "max" = none := PySem.W.mg_none_of KX G (by k_is)
    have b_tuple : mg "tuple" = none := PySem.W.mg_none_of KX G (by k_is)
    have b_dict : mg "dict" = none := PySem.W.mg_none_of KX G (by k_is)
    have b_sorted : mg "sorted" = none := PySem.W.mg_none_of KX G (by k_is)
    have b_zip : mg "zip" = none := PySem.W.mg_none_of KX G (by k_is)
    have b_all : mg "all" = none := PySem.W.mg_none_of KX G (by k_is)
    have b_int : mg "int" = none := PySem.W.mg_none_of KX G (by k_is)
    have b_range : mg "range" = none := PySem.W.mg_none_of KX G (by k_is)
    have b_sum : mg "sum" = none := PySem.W.mg_none_of KX G (by k_is)
    have b_repr : mg "repr" = none := PySem.W.mg_none_of KX G (by k_is)
    obtain ⟨fd, hF, hb⟩ := F_law.law hmg
    refine ⟨fd, hb, fun base _ _ => ?_⟩
    have c__law_source := LW.ok__law_source (P := PySem.Challenge.pw_forcedarrows_k37_whole_later_and_at) (w := w) (base := base) F__law_source b_abs b_int
    have c_is_long := LW.ok_is_long (P := PySem.Challenge.pw_forcedarrows_k37_whole_later_and_at) (w := w) (base := base) F_is_long  b_abs b_str b_len k_SURE_BITS k_MOST_FIGURES
    have c_not_long := LW.ok_not_long (P := PySem.Challenge.pw_forcedarrows_k37_whole_later_and_at) (w := w) (base := base) F_not_long c_is_long b_any
    have c_number_line := LW.ok_number_line (P := PySem.Challenge.pw_forcedarrows_k37_whole_later_and_at) (w := w) (base := base) F_number_line c_not_long 
    have c_line_at := LW.ok_line_at (P := PySem.Challenge.pw_forcedarrows_k37_whole_later_and_at) (w := w) (base := base) F_line_at  
    have c_number_at := LW.ok_number_at (P := PySem.Challenge.pw_forcedarrows_k37_whole_later_and_at) (w := w) (base := base) F_number_at c_line_at 
    have c_next_unlike := LW.ok_next_unlike (P := PySem.Challenge.pw_forcedarrows_k37_whole_later_and_at) (w := w) (base := base) F_next_unlike c_line_at b_enumerate b_len b_max
    have c_number_told := LW.ok_number_told (P := PySem.Challenge.pw_forcedarrows_k37_whole_later_and_at) (w := w) (base := base) F_number_told c_not_long c_number_at c_next_unlike b_len b_tuple k_MOST_PIECES
    have c_beside := LW.ok_beside (P := PySem.Challenge.pw_forcedarrows_k37_whole_later_and_at) (w := w) (base := base) F_beside c_line_at b_dict b_sorted b_zip
    have c_numbers_sum := LW.ok_numbers_sum (P := PySem.Challenge.pw_forcedarrows_k37_whole_later_and_at) (w := w) (base := base) F_numbers_sum c_beside c_number_told 
    have c_change_of := LW.ok_change_of (P := PySem.Challenge.pw_forcedarrows_k37_whole_later_and_at) (w := w) (base := base) F_change_of  
    have c_numbers_chosen := LW.ok_numbers_chosen (P := PySem.Challenge.pw_forcedarrows_k37_whole_later_and_at) (w := w) (base := base) F_numbers_chosen c_beside c_change_of c_number_told 
    have c_numbers_most := LW.ok_numbers_most (P := PySem.Challenge.pw_forcedarrows_k37_whole_later_and_at) (w := w) (base := base) F_numbers_most c_numbers_chosen 
    have c_number_later := LW.ok_number_later (P := PySem.Challenge.pw_forcedarrows_k37_whole_later_and_at) (w := w) (base := base) F_number_later c_line_at c_number_told 
    have c_last_from := LW.ok_last_from (P := PySem.Challenge.pw_forcedarrows_k37_whole_later_and_at) (w := w) (base := base) F_last_from  
    have c_post_told := LW.ok_post_told (P := PySem.Challenge.pw_forcedarrows_k37_whole_later_and_at) (w := w) (base := base) F_post_told  k_APART
    have c_web_told := LW.ok_web_told (P := PySem.Challenge.pw_forcedarrows_k37_whole_later_and_at) (w := w) (base := base) F_web_told c_post_told b_dict b_sorted b_tuple
    have c_names_of := LW.ok_names_of (P := PySem.Challenge.pw_forcedarrows_k37_whole_later_and_at) (w := w) (base := base) F_names_of  b_tuple
    have c_post_of := LW.ok_post_of (P := PySem.Challenge.pw_forcedarrows_k37_whole_later_and_at) (w := w) (base := base) F_post_of  
    have c_copies_told := LW.ok_copies_told (P := PySem.Challenge.pw_forcedarrows_k37_whole_later_and_at) (w := w) (base := base) F_copies_told c_post_of c_number_line 
    have c_weight_told := LW.ok_weight_told (P := PySem.Challenge.pw_forcedarrows_k37_whole_later_and_at) (w := w) (base := base) F_weight_told c_number_line c_post_of c_copies_told c_numbers_sum 
    have c_size_told := LW.ok_size_told (P := PySem.Challenge.pw_forcedarrows_k37_whole_later_and_at) (w := w) (base := base) F_size_told c_number_line c_names_of c_copies_told c_numbers_sum 
    have c_web_later := LW.ok_web_later (P := PySem.Challenge.pw_forcedarrows_k37_whole_later_and_at) (w := w) (base := base) F_web_later c_web_told 
    have c_web_at := LW.ok_web_at (P := PySem.Challenge.pw_forcedarrows_k37_whole_later_and_at) (w := w) (base := base) F_web_at c_web_told 
    have c_known_ties := LW.ok_known_ties (P := PySem.Challenge.pw_forcedarrows_k37_whole_later_and_at) (w := w) (base := base) F_known_ties  
    have c_goes_with := LW.ok_goes_with (P := PySem.Challenge.pw_forcedarrows_k37_whole_later_and_at) (w := w) (base := base) F_goes_with  b_all k_TIED
    have c_greatest_lots := LW.ok_greatest_lots (P := PySem.Challenge.pw_forcedarrows_k37_whole_later_and_at) (w := w) (base := base) F_greatest_lots c_names_of c_known_ties c_goes_with b_any b_sorted
    have c_most_told := LW.ok_most_told (P := PySem.Challenge.pw_forcedarrows_k37_whole_later_and_at) (w := w) (base := base) F_most_told c_greatest_lots c_weight_told c_numbers_most 
    have c_chain_told := LW.ok_chain_told (P := PySem.Challenge.pw_forcedarrows_k37_whole_later_and_at) (w := w) (base := base) F_chain_told c_most_told k_TIED
    have c_lone_told := LW.ok_lone_told (P := PySem.Challenge.pw_forcedarrows_k37_whole_later_and_at) (w := w) (base := base) F_lone_told c_most_told k_APART
    have c__law_pick := LW.ok__law_pick (P := PySem.Challenge.pw_forcedarrows_k37_whole_later_and_at) (w := w) (base := base) F__law_pick  b_len b_max b_int
    have c__law_of := LW.ok__law_of (P := PySem.Challenge.pw_forcedarrows_k37_whole_later_and_at) (w := w) (base := base) F__law_of c__law_pick b_len
    have c__law_length := LW.ok__law_length (P := PySem.Challenge.pw_forcedarrows_k37_whole_later_and_at) (w := w) (base := base) F__law_length c__law_of b_int
    have c__law_posts := LW.ok__law_posts (P := PySem.Challenge.pw_forcedarrows_k37_whole_later_and_at) (w := w) (base := base) F__law_posts c__law_of c__law_length 
    have c__law_ties := LW.ok__law_ties (P := PySem.Challenge.pw_forcedarrows_k37_whole_later_and_at) (w := w) (base := base) F__law_ties c__law_pick b_enumerate b_range b_len b_int
    have c__law_known := LW.ok__law_known (P := PySem.Challenge.pw_forcedarrows_k37_whole_later_and_at) (w := w) (base := base) F__law_known  
    have c__law_lots := LW.ok__law_lots (P := PySem.Challenge.pw_forcedarrows_k37_whole_later_and_at) (w := w) (base := base) F__law_lots  
    have c__law_late_posts := LW.ok__law_late_posts (P := PySem.Challenge.pw_forcedarrows_k37_whole_later_and_at) (w := w) (base := base) F__law_late_posts c__law_of 
    have c__law_greatest := LW.ok__law_greatest (P := PySem.Challenge.pw_forcedarrows_k37_whole_later_and_at) (w := w) (base := base) F__law_greatest c__law_lots b_enumerate b_sum b_max
    exact LW.ok_law hF c__law_source c__law_pick c__law_late_posts c__law_posts c__law_ties c__law_known c_web_told c__law_of c_web_later c_size_told c_lone_told c_chain_told c_number_later c_number_told c_last_from c__law_greatest c_number_at c_web_at c_number_line b_repr b_max b_sorted b_sum LW.law_true

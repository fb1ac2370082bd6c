import PyProof.Rows.All
import Wide.All
import OpenK.AllK
import Wide.FinOn
import PySem.Challenge.RW_rg0131_01
set_option Elab.async false
set_option maxRecDepth 100000
set_option maxHeartbeats 8000000
namespace Mine
section
open PySem PySem.W PyProof.Rows
open_top hd for PySem.Challenge.rw_rg0131_01
end
open PySem PySem.W PySem.Calls PyProof.Rows

/-! # part X0 -/
/-! several witnesses, several facts, in one piece each: a split of them is one step of a proof -/
inductive Ex2 {α0 α1 : Type} (p : α0 → α1 → Prop) : Prop
  | mk (a : α0) (b : α1) (q : p a b) : Ex2 p
inductive Ex3 {α0 α1 α2 : Type} (p : α0 → α1 → α2 → Prop) : Prop
  | mk (a : α0) (b : α1) (c : α2) (q : p a b c) : Ex3 p
inductive Ex4 {α0 α1 α2 α3 : Type} (p : α0 → α1 → α2 → α3 → Prop) : Prop
  | mk (a : α0) (b : α1) (c : α2) (d : α3) (q : p a b c d) : Ex4 p
inductive Ex5 {α0 α1 α2 α3 α4 : Type} (p : α0 → α1 → α2 → α3 → α4 → Prop) : Prop
  | mk (a : α0) (b : α1) (c : α2) (d : α3) (e : α4) (q : p a b c d e) : Ex5 p
inductive Ex6 {α0 α1 α2 α3 α4 α5 : Type} (p : α0 → α1 → α2 → α3 → α4 → α5 → Prop) : Prop
  | mk (a : α0) (b : α1) (c : α2) (d : α3) (e : α4) (f : α5) (q : p a b c d e f) : Ex6 p
inductive Ex7 {α0 α1 α2 α3 α4 α5 α6 : Type} (p : α0 → α1 → α2 → α3 → α4 → α5 → α6 → Prop) : Prop
  | mk (a : α0) (b : α1) (c : α2) (d : α3) (e : α4) (f : α5) (g : α6) (q : p a b c d e f g) : Ex7 p
inductive Ex8 {α0 α1 α2 α3 α4 α5 α6 α7 : Type} (p : α0 → α1 → α2 → α3 → α4 → α5 → α6 → α7 → Prop) : Prop
  | mk (a : α0) (b : α1) (c : α2) (d : α3) (e : α4) (f : α5) (g : α6) (h : α7) (q : p a b c d e f g h) : Ex8 p
inductive Ex9 {α0 α1 α2 α3 α4 α5 α6 α7 α8 : Type} (p : α0 → α1 → α2 → α3 → α4 → α5 → α6 → α7 → α8 → Prop) : Prop
  | mk (a : α0) (b : α1) (c : α2) (d : α3) (e : α4) (f : α5) (g : α6) (h : α7) (i : α8) (q : p a b c d e f g h i) : Ex9 p
inductive Ex12 {α0 α1 α2 α3 α4 α5 α6 α7 α8 α9 α10 α11 : Type} (p : α0 → α1 → α2 → α3 → α4 → α5 → α6 → α7 → α8 → α9 → α10 → α11 → Prop) : Prop
  | mk (a : α0) (b : α1) (c : α2) (d : α3) (e : α4) (f : α5) (g : α6) (h : α7) (i : α8) (j : α9) (k : α10) (l : α11) (q : p a b c d e f g h i j k l) : Ex12 p
inductive All3 (a0 a1 a2 : Prop) : Prop
  | mk (h0 : a0) (h1 : a1) (h2 : a2) : All3 a0 a1 a2
inductive All4 (a0 a1 a2 a3 : Prop) : Prop
  | mk (h0 : a0) (h1 : a1) (h2 : a2) (h3 : a3) : All4 a0 a1 a2 a3
inductive All5 (a0 a1 a2 a3 a4 : Prop) : Prop
  | mk (h0 : a0) (h1 : a1) (h2 : a2) (h3 : a3) (h4 : a4) : All5 a0 a1 a2 a3 a4
inductive All6 (a0 a1 a2 a3 a4 a5 : Prop) : Prop
  | mk (h0 : a0) (h1 : a1) (h2 : a2) (h3 : a3) (h4 : a4) (h5 : a5) : All6 a0 a1 a2 a3 a4 a5
inductive All7 (a0 a1 a2 a3 a4 a5 a6 : Prop) : Prop
  | mk (h0 : a0) (h1 : a1) (h2 : a2) (h3 : a3) (h4 : a4) (h5 : a5) (h6 : a6) : All7 a0 a1 a2 a3 a4 a5 a6
inductive All8 (a0 a1 a2 a3 a4 a5 a6 a7 : Prop) : Prop
  | mk (h0 : a0) (h1 : a1) (h2 : a2) (h3 : a3) (h4 : a4) (h5 : a5) (h6 : a6) (h7 : a7) : All8 a0 a1 a2 a3 a4 a5 a6 a7
inductive All9 (a0 a1 a2 a3 a4 a5 a6 a7 a8 : Prop) : Prop
  | mk (h0 : a0) (h1 : a1) (h2 : a2) (h3 : a3) (h4 : a4) (h5 : a5) (h6 : a6) (h7 : a7) (h8 : a8) : All9 a0 a1 a2 a3 a4 a5 a6 a7 a8
inductive All10 (a0 a1 a2 a3 a4 a5 a6 a7 a8 a9 : Prop) : Prop
  | mk (h0 : a0) (h1 : a1) (h2 : a2) (h3 : a3) (h4 : a4) (h5 : a5) (h6 : a6) (h7 : a7) (h8 : a8) (h9 : a9) : All10 a0 a1 a2 a3 a4 a5 a6 a7 a8 a9
inductive All11 (a0 a1 a2 a3 a4 a5 a6 a7 a8 a9 a10 : Prop) : Prop
  | mk (h0 : a0) (h1 : a1) (h2 : a2) (h3 : a3) (h4 : a4) (h5 : a5) (h6 : a6) (h7 : a7) (h8 : a8) (h9 : a9) (h10 : a10) : All11 a0 a1 a2 a3 a4 a5 a6 a7 a8 a9 a10
inductive All12 (a0 a1 a2 a3 a4 a5 a6 a7 a8 a9 a10 a11 : Prop) : Prop
  | mk (h0 : a0) (h1 : a1) (h2 : a2) (h3 : a3) (h4 : a4) (h5 : a5) (h6 : a6) (h7 : a7) (h8 : a8) (h9 : a9) (h10 : a10) (h11 : a11) : All12 a0 a1 a2 a3 a4 a5 a6 a7 a8 a9 a10 a11
inductive All13 (a0 a1 a2 a3 a4 a5 a6 a7 a8 a9 a10 a11 a12 : Prop) : Prop
  | mk (h0 : a0) (h1 : a1) (h2 : a2) (h3 : a3) (h4 : a4) (h5 : a5) (h6 : a6) (h7 : a7) (h8 : a8) (h9 : a9) (h10 : a10) (h11 : a11) (h12 : a12) : All13 a0 a1 a2 a3 a4 a5 a6 a7 a8 a9 a10 a11 a12

/-! # part B0 -/

/-! ## the state: what is known (I), what is owned (W) -/
abbrev Kn := Addr → Option Obj
abbrev Own := List (Addr × (Obj → Prop))
def Kn.le (I J : Kn) : Prop := ∀ b o, I b = some o → J b = some o
theorem Kn.le.rfl' {I : Kn} : Kn.le I I := fun _ _ e => e
theorem Kn.le.tr {I J K : Kn} (a : Kn.le I J) (b : Kn.le J K) : Kn.le I K := fun _ _ e => b _ _ (a _ _ e)
def Kn.set (I : Kn) (a : Addr) (o : Obj) : Kn := fun b => if b = a then some o else I b
theorem Kn.set_le {I : Kn} {a : Addr} {o : Obj} (h : I a = none) : Kn.le I (I.set a o) := fun b o' e => by
  unfold Kn.set
  by_cases hb : b = a
  · rw [hb, h] at e; cases e
  · rw [if_neg hb]; exact e
theorem Kn.set_self {I : Kn} {a : Addr} {o : Obj} : (I.set a o) a = some o := by unfold Kn.set; rw [if_pos rfl]
theorem Kn.set_ne {I : Kn} {a b : Addr} {o : Obj} (h : b ≠ a) : (I.set a o) b = I b := by unfold Kn.set; rw [if_neg h]

structure Ok (I : Kn) (W : Own) (h : Heap) : Prop where
  keep : ∀ b o, I b = some o → h.get? b = some o
  own : ∀ p ∈ W, I p.1 = none ∧ ∃ o, h.get? p.1 = some o ∧ p.2 o
  nd : (W.map (·.1)).Nodup

structure St (s₀ : Shared) (I : Kn) (W : Own) (s : Shared) : Prop where
  same : ∃ h tk, s = { s₀ with heap := h, toks := tk }
  ok : Ok I W s.heap

inductive Upd (a : Addr) (P : Obj → Prop) : Own → Own → Prop
  | head {P₀ W} : Upd a P ((a, P₀) :: W) ((a, P) :: W)
  | tail {x W W'} : Upd a P W W' → Upd a P (x :: W) (x :: W')
inductive Rem (a : Addr) (P : Obj → Prop) : Own → Own → Prop
  | head {W} : Rem a P ((a, P) :: W) W
  | tail {x W W'} : Rem a P W W' → Rem a P (x :: W) (x :: W')

theorem Upd.addrs {a : Addr} {P : Obj → Prop} {W W' : Own} (u : Upd a P W W') : W'.map (·.1) = W.map (·.1) := by
  induction u with
  | head => rfl
  | tail _ ih => simp [ih]
theorem Upd.mem {a : Addr} {P : Obj → Prop} {W W' : Own} (u : Upd a P W W') : a ∈ W.map (·.1) := by
  induction u with
  | head => simp
  | tail _ ih => exact List.mem_cons_of_mem _ ih
theorem Upd.cases' {a : Addr} {P : Obj → Prop} {W W' : Own} (u : Upd a P W W') (nd : (W.map (·.1)).Nodup) : ∀ p ∈ W', p = (a, P) ∨ (p ∈ W ∧ p.1 ≠ a) := by
  induction u with
  | @head P₀ W =>
    intro p hp
    rcases List.mem_cons.mp hp with e | hp
    · exact .inl e
    · refine .inr ⟨List.mem_cons_of_mem _ hp, fun e => ?_⟩
      have := (List.nodup_cons.mp nd).1
      exact this (List.mem_map.mpr ⟨p, hp, e⟩)
  | @tail x W W' u ih =>
    intro p hp
    rcases List.mem_cons.mp hp with e | hp
    · subst e
      refine .inr ⟨.head _, fun e => ?_⟩
      have e' : p.1 = a := e
      have um := u.mem
      rw [← e'] at um
      exact (List.nodup_cons.mp nd).1 um
    · rcases ih (List.nodup_cons.mp nd).2 p hp with e | ⟨h, e⟩
      · exact .inl e
      · exact .inr ⟨List.mem_cons_of_mem _ h, e⟩
theorem Rem.mem {a : Addr} {P : Obj → Prop} {W W' : Own} (u : Rem a P W W') : (a, P) ∈ W := by
  induction u with
  | head => exact .head _
  | tail _ ih => exact .tail _ ih
theorem Rem.sub {a : Addr} {P : Obj → Prop} {W W' : Own} (u : Rem a P W W') : W'.Sublist W := by
  induction u with
  | head => exact List.sublist_cons_self ..
  | tail _ ih => exact ih.cons_cons _
theorem Rem.off {a : Addr} {P : Obj → Prop} {W W' : Own} (u : Rem a P W W') (nd : (W.map (·.1)).Nodup) : ∀ p ∈ W', p.1 ≠ a := by
  induction u with
  | head => intro p hp e; exact (List.nodup_cons.mp nd).1 (List.mem_map.mpr ⟨p, hp, e⟩)
  | tail u ih =>
    intro p hp e
    rcases List.mem_cons.mp hp with q | hp
    · subst q; exact (List.nodup_cons.mp nd).1 (List.mem_map.mpr ⟨_, u.mem, e.symm⟩)
    · exact ih (List.nodup_cons.mp nd).2 p hp e

namespace Ok
variable {I : Kn} {W W' : Own} {h h' : Heap} {a : Addr} {P : Obj → Prop} {o : Obj}
theorem at' (k : Ok I W h) (m : (a, P) ∈ W) : ∃ o, h.get? a = some o ∧ P o := (k.own _ m).2
theorem ext (k : Ok I W h) (e : ∀ b o, h.get? b = some o → h'.get? b = some o) : Ok I W h' :=
  ⟨fun b o x => e b o (k.keep b o x), fun p hp => ⟨(k.own p hp).1, let ⟨o, x, y⟩ := (k.own p hp).2; ⟨o, e _ _ x, y⟩⟩, k.nd⟩
theorem fresh (k : Ok I W h) : I h.objs.size = none := by
  cases e : I h.objs.size with
  | none => rfl
  | some o => exact absurd (Heap.lt_size (k.keep _ _ e)) (Nat.lt_irrefl _)
theorem free (k : Ok I W h) (hb : h.get? a = none) : I a = none := by
  cases e : I a with
  | none => rfl
  | some o => rw [k.keep _ _ e] at hb; cases hb
theorem extFresh (k : Ok I W h) (e : Heap.ExtBut h.objs.size h h') : Ok I W h' :=
  k.ext fun b o x => e b o (Nat.ne_of_lt (Heap.lt_size x)) x
theorem push (k : Ok I W h) (hf : o.isFreed = false) (hp : P o) : Ok I ((h.objs.size, P) :: W) (h.push o) := by
  refine ⟨fun b o' x => Heap.get?_push_of_some _ (k.keep b o' x), fun p hm => ?_, ?_⟩
  · rcases List.mem_cons.mp hm with e | hm
    · subst e; exact ⟨k.fresh, o, Heap.get?_push_size _ hf, hp⟩
    · exact ⟨(k.own p hm).1, let ⟨o, x, y⟩ := (k.own p hm).2; ⟨o, Heap.get?_push_of_some _ x, y⟩⟩
  · refine List.nodup_cons.mpr ⟨fun hm => ?_, k.nd⟩
    obtain ⟨p, hp, e⟩ := List.mem_map.mp hm
    obtain ⟨_, o, x, _⟩ := k.own p hp
    have e' : p.1 = h.objs.size := e
    exact absurd (Heap.lt_size x) (by rw [e']; exact Nat.lt_irrefl _)
/-- a new object at an address where nothing stood -/
theorem add (k : Ok I W h) (hn : h.get? a = none) (ha : h'.get? a = some o) (hp : P o) (e : ∀ b o, h.get? b = some o → h'.get? b = some o) : Ok I ((a, P) :: W) h' := by
  refine ⟨fun b o' x => e _ _ (k.keep b o' x), fun p hm => ?_, ?_⟩
  · rcases List.mem_cons.mp hm with q | hm
    · subst q; exact ⟨k.free hn, o, ha, hp⟩
    · exact ⟨(k.own p hm).1, let ⟨o, x, y⟩ := (k.own p hm).2; ⟨o, e _ _ x, y⟩⟩
  · refine List.nodup_cons.mpr ⟨fun hm => ?_, k.nd⟩
    obtain ⟨p, hp, q⟩ := List.mem_map.mp hm
    obtain ⟨_, o, x, _⟩ := k.own p hp
    have q' : p.1 = a := q
    rw [q', hn] at x; cases x
theorem upd (k : Ok I W h) (u : Upd a P W W') (e : ∀ b o, b ≠ a → h.get? b = some o → h'.get? b = some o) (ha : h'.get? a = some o) (hp : P o) : Ok I W' h' := by
  have ia : I a = none := by
    obtain ⟨p, hp, q⟩ := List.mem_map.mp u.mem
    have q' : p.1 = a := q
    exact q' ▸ (k.own p hp).1
  refine ⟨fun b o' x => e b o' (fun q => ?_) (k.keep b o' x), fun p hm => ?_, u.addrs ▸ k.nd⟩
  · rw [q, ia] at x; cases x
  · rcases u.cases' k.nd p hm with q | ⟨hm, q⟩
    · subst q; exact ⟨ia, o, ha, hp⟩
    · exact ⟨(k.own p hm).1, let ⟨o, x, y⟩ := (k.own p hm).2; ⟨o, e _ _ q x, y⟩⟩
theorem updS (k : Ok I W h) (u : Upd a P W W') (e : Heap.SameBut a h h') (ha : h'.get? a = some o) (hp : P o) : Ok I W' h' :=
  k.upd u (fun b o n x => (e.2 b n).trans x) ha hp
theorem sub (k : Ok I W h) (s : W'.Sublist W) : Ok I W' h :=
  ⟨k.keep, fun p hp => k.own p (s.subset hp), k.nd.sublist (s.map _)⟩
theorem rem (k : Ok I W h) (u : Rem a P W W') : Ok I W' h := k.sub u.sub
theorem freeze (k : Ok I W h) (u : Rem a P W W') : ∃ o, P o ∧ h.get? a = some o ∧ I a = none ∧ Ok (I.set a o) W' h := by
  obtain ⟨ia, o, x, y⟩ := k.own _ u.mem
  refine ⟨o, y, x, ia, fun b o' e => ?_, fun p hp => ?_, k.nd.sublist (u.sub.map _)⟩
  · by_cases q : b = a
    · subst q; rw [Kn.set_self] at e; cases e; exact x
    · rw [Kn.set_ne q] at e; exact k.keep b o' e
  · have q := u.off k.nd p hp
    exact ⟨(Kn.set_ne q).trans (k.own p (u.sub.subset hp)).1, (k.own p (u.sub.subset hp)).2⟩
theorem weak (k : Ok I W h) (u : Upd a P W W') (hp : ∀ o, h.get? a = some o → P o) : Ok I W' h := by
  obtain ⟨p, hm, q⟩ := List.mem_map.mp u.mem
  obtain ⟨_, o, x, _⟩ := k.own p hm
  have q' : p.1 = a := q
  rw [q'] at x
  exact k.upd u (fun _ _ _ x => x) x (hp o x)
end Ok

namespace St
variable {s₀ s : Shared} {I : Kn} {W W' : Own} {h' : Heap} {a : Addr} {P : Obj → Prop} {o : Obj}
theorem put {I' : Kn} {tk : Nat} (x : St s₀ I W s) (k : Ok I' W' h') : St s₀ I' W' { s with heap := h', toks := tk } :=
  let ⟨h, t, e⟩ := x.same; ⟨⟨h', tk, by rw [e]⟩, k⟩
theorem toks {tk : Nat} (x : St s₀ I W s) : St s₀ I W { s with toks := tk } := x.put x.ok
theorem rem (x : St s₀ I W s) (u : Rem a P W W') : St s₀ I W' s := ⟨x.same, x.ok.rem u⟩
theorem sub (x : St s₀ I W s) (u : W'.Sublist W) : St s₀ I W' s := ⟨x.same, x.ok.sub u⟩
theorem freeze (x : St s₀ I W s) (u : Rem a P W W') : ∃ o, P o ∧ I a = none ∧ St s₀ (I.set a o) W' s :=
  let ⟨o, p, _, n, k⟩ := x.ok.freeze u; ⟨o, p, n, x.same, k⟩
theorem base (x : St s₀ I W s) : s = { s₀ with heap := s.heap, toks := s.toks } := by obtain ⟨h, t, e⟩ := x.same; rw [e]
end St

/-- the locals of a frame -/
def NsO (m : Str → Option Value) : Obj → Prop := fun o => ∃ es ep, o.data = .dict es ep ∧ StrKeys es ∧ ∀ name, nsFind es name = m name
def upd (m : Str → Option Value) (x : Str) (v : Value) : Str → Option Value := fun y => if y = x then some v else m y
theorem upd_same {m : Str → Option Value} {x : Str} {v : Value} : upd m x v x = some v := if_pos rfl
theorem upd_ne {m : Str → Option Value} {x y : Str} {v : Value} (h : y ≠ x) : upd m x v y = m y := if_neg h
theorem St.ns {s₀ s : Shared} {I : Kn} {W : Own} {L : Addr} {m : Str → Option Value} (x : St s₀ I W s) (h : (L, NsO m) ∈ W) : s.heap.Ns L m :=
  let ⟨o, e, es, ep, r⟩ := x.ok.at' h; ⟨o, es, ep, e, r⟩

def CeO (v : Option Value) : Obj → Prop := fun o => o.data = .cell v
theorem St.cell {s₀ s : Shared} {I : Kn} {W : Own} {c : Addr} {v : Option Value} (x : St s₀ I W s) (h : (c, CeO v) ∈ W) : s.heap.IsCell c v :=
  let ⟨o, e, r⟩ := x.ok.at' h; ⟨o, e, r⟩
def LsO (vs : List Value) : Obj → Prop := fun o => ∃ n, o = listOf vs.toArray n
def TuO (vs : List Value) : Obj → Prop := fun o => ∃ n, o = { cls := .type "tuple", data := .seq vs.toArray n }
/-- a list that stands: known or owned -/
def HasL (I : Kn) (W : Own) (a : Addr) (vs : List Value) : Prop := (∃ n, I a = some (listOf vs.toArray n)) ∨ (a, LsO vs) ∈ W
def HasT (I : Kn) (W : Own) (a : Addr) (vs : List Value) : Prop := (∃ n, I a = some { cls := .type "tuple", data := .seq vs.toArray n }) ∨ (a, TuO vs) ∈ W
theorem St.list {s₀ s : Shared} {I : Kn} {W : Own} {a : Addr} {vs : List Value} (x : St s₀ I W s) (h : HasL I W a vs) : ∃ n, s.heap.get? a = some (listOf vs.toArray n) := by
  rcases h with ⟨n, e⟩ | h
  · exact ⟨n, x.ok.keep _ _ e⟩
  · obtain ⟨o, e, n, q⟩ := x.ok.at' h; exact ⟨n, q ▸ e⟩
theorem St.isList {s₀ s : Shared} {I : Kn} {W : Own} {a : Addr} {vs : List Value} (x : St s₀ I W s) (h : HasL I W a vs) : s.heap.IsList a vs.toArray :=
  let ⟨n, e⟩ := x.list h; ⟨_, e, rfl, n, rfl⟩
theorem St.isTup {s₀ s : Shared} {I : Kn} {W : Own} {a : Addr} {vs : List Value} (x : St s₀ I W s) (h : HasT I W a vs) : IsTup s.heap a vs.toArray := by
  rcases h with ⟨n, e⟩ | h
  · exact ⟨_, x.ok.keep _ _ e, rfl, n, rfl⟩
  · obtain ⟨o, e, n, q⟩ := x.ok.at' h; exact ⟨_, e, by rw [q], n, by rw [q]⟩
theorem HasL.mono {I J : Kn} {W : Own} {a : Addr} {vs : List Value} (h : HasL I W a vs) (l : Kn.le I J) : HasL J W a vs :=
  h.imp (fun ⟨n, e⟩ => ⟨n, l _ _ e⟩) id


/-! # part R0 -/

/-- the text's own objects stand in what is known -/
def GE (K : Frag) (p : Program) (loose : List Str) (I : Kn) : Prop :=
  Ex3 fun (G : Heap) (mg mb : Str → Option Value) => All3 (K.In G) (TopRead p loose mg mb G) (∀ b o, G.get? b = some o → I b = some o)
theorem GE.mono {K : Frag} {p : Program} {loose : List Str} {I J : Kn} (g : GE K p loose I) (l : Kn.le I J) : GE K p loose J :=
  let ⟨G, mg, mb, x, t, k⟩ := g; ⟨G, mg, mb, x, t, fun b o e => l _ _ (k b o e)⟩

theorem GE.mono' {K : Frag} {p : Program} {loose : List Str} {I J : Kn} (l : Kn.le I J) (g : GE K p loose I) : GE K p loose J := g.mono l
theorem Kn.le.tr' {I J K : Kn} (b : Kn.le J K) (a : Kn.le I J) : Kn.le I K := a.tr b
/-- room for n more calls -/
structure Rm (A : Around) (n : Nat) : Prop where
  hh : A.handled = none
  dep : A.depth + n < recursionLimit
  un : A.units + 4 * n + 100 < cLine
theorem Rm.le {A : Around} {n k : Nat} (r : Rm A n) (h : k ≤ n) : Rm A k := ⟨r.hh, by have := r.dep; omega, by have := r.un; omega⟩
theorem Rm.in1 {A : Around} {n : Nat} (r : Rm A (n + 1)) : Rm A.in1 n := ⟨r.hh, by have := r.dep; show A.depth + n < _; omega, by have := r.un; show A.units + 1 + 4 * n + 100 < _; omega⟩
theorem Rm.deeper {A : Around} {n : Nat} {env : Env} (r : Rm A (n + 1)) : Rm (A.deeper env) n :=
  ⟨r.hh, by have := r.dep; show A.depth + 1 + n < _; omega, by have := r.un; show A.units + 3 + 4 * n + 100 < _; omega⟩

def retOf : Flow → Value
  | .ret v => v
  | _ => .none

section
variable {prog : Program} {w : World} {A : Around} {E : Value → Shared → Prop} {s s₀ : Shared} {I : Kn} {W W' : Own} {K : Frag} {p : Program} {loose : List Str}
  {cn : Str} {cs : Scope} {L f : Addr} {ccd : Value} {cl : List (Str × Addr)} {m : Str → Option Value} {x : Str} {pos px : Pos} {v : Value} {t u : Tok} {a b : Int}

/-! ### names -/
theorem nL {Q : Value → Shared → Prop} (hs : St s₀ I W s) (hm : (L, NsO m) ∈ W) (hv : m x = some v) (h : Q v s)
    (hk : cs.kind = .function := by rfl) (hx : (envX cn cs L f ccd cl).kindOf x = some .local := by rfl) (hd : (x == ("__debug__" : Str)) = false := by decide) :
    wpAny (model prog w) A (eval (.Name x pos) (envX cn cs L f ccd cl)) Q E s := wpAny_Name (wpAny_loadName_local hk hx (hs.ns hm) hv h) hd
theorem nG {Q : Value → Shared → Prop} (hs : St s₀ I W s) (g : GE K p loose I) (e : nsIn K mainGlobals x = some (some v)) (h : Q v s)
    (hk : cs.kind = .function := by rfl) (hx : (envX cn cs L f ccd cl).kindOf x = some .globalImplicit := by rfl) (hd : (x == ("__debug__" : Str)) = false := by decide) :
    wpAny (model prog w) A (eval (.Name x pos) (envX cn cs L f ccd cl)) Q E s := by
  obtain ⟨G, mg, mb, X, T, k⟩ := g
  have kk : ∀ b o, G.get? b = some o → s.heap.get? b = some o := fun b o q => hs.ok.keep _ _ (k _ _ q)
  exact Name_function_global hk hx (loadGlobal_global (env := envX cn cs L f ccd cl) (T.g.keeps kk) (mg_of X T.g e) h) hd
theorem nB {Q : Value → Shared → Prop} (hs : St s₀ I W s) (g : GE K p loose I) (e : nsIn K mainGlobals x = some none) (hv : bootBuiltins x = some v) (hn : x ≠ "__name__") (h : Q v s)
    (hk : cs.kind = .function := by rfl) (hx : (envX cn cs L f ccd cl).kindOf x = some .globalImplicit := by rfl) (hd : (x == ("__debug__" : Str)) = false := by decide) :
    wpAny (model prog w) A (eval (.Name x pos) (envX cn cs L f ccd cl)) Q E s := by
  obtain ⟨G, mg, mb, X, T, k⟩ := g
  have kk : ∀ b o, G.get? b = some o → s.heap.get? b = some o := fun b o q => hs.ok.keep _ _ (k _ _ q)
  exact Name_function_global hk hx (loadGlobal_builtin (env := envX cn cs L f ccd cl) (T.g.keeps kk) (mg_none_of X T.g e) (T.b.keeps kk) ((T.builtins x hn).trans hv) h) hd
theorem nC {Q : Value → Shared → Prop} {c : Addr} (hs : St s₀ I W s) (hc : cl.lookup x = some c) (hm : (c, CeO (some v)) ∈ W) (h : Q v s)
    (hk : cs.kind = .function := by rfl) (hx : (envX cn cs L f ccd cl).kindOf x = some .cell := by rfl) (hb : (x == ("__debug__" : Str)) = false := by decide) :
    wpAny (model prog w) A (eval (.Name x pos) (envX cn cs L f ccd cl)) Q E s := wpAny_Name (wpAny_loadName_cell hk hx hc (hs.cell hm) h) hb
theorem sL {Q : Unit → Shared → Prop} (hs : St s₀ I W s) (U : ∃ m, (L, NsO m) ∈ W ∧ Upd L (NsO (upd m x v)) W W') (h : ∀ s', St s₀ I W' s' → Q () s')
    (hk : cs.kind = .function := by rfl) (hx : (envX cn cs L f ccd cl).kindOf x = some .local := by rfl) : wpAny (model prog w) A (storeName (envX cn cs L f ccd cl) x v) Q E s := by
  obtain ⟨m, hm, U⟩ := U
  refine wpAny_storeName_local hx (hs.ns hm) (fun h' hn hb => h _ (hs.put ?_)) (by show (cs.kind == .class || (cs.kind == .module && L != mainGlobals)) = false; rw [hk]; rfl)
  obtain ⟨o, es, ep, e, r⟩ := hn
  exact hs.ok.updS U hb e ⟨es, ep, r⟩
theorem sC {Q : Unit → Shared → Prop} {c : Addr} {v₀ : Option Value} (hs : St s₀ I W s) (hc : cl.lookup x = some c) (hm : (c, CeO v₀) ∈ W) (U : Upd c (CeO (some v)) W W') (h : ∀ s', St s₀ I W' s' → Q () s')
    (hk : cs.kind = .function := by rfl) (hx : (envX cn cs L f ccd cl).kindOf x = some .cell := by rfl) : wpAny (model prog w) A (storeName (envX cn cs L f ccd cl) x v) Q E s := by
  refine wpAny_storeName_cell hk hx hc (hs.cell hm) fun h' hv hb => h _ (hs.put (tk := s.toks) ?_)
  obtain ⟨o, e, r⟩ := hv
  exact hs.ok.updS U hb e r

/-! ### ints -/
theorem cI {k : Nat} {env : Env} {i : Int} {Q : Value → Shared → Prop} (hs : St s₀ I W s) (h : ∀ t s', St s₀ I W s' → Q (.int i t) s') : wpAny (model prog w) A (eval (.Constant (.int i) k pos) env) Q E s :=
  wpAny_Constant_int (h _ _ hs.toks)
theorem addI {Q : Value → Shared → Prop} (hs : St s₀ I W s) (h : ∀ t s', St s₀ I W s' → Q (.int (a + b) t) s') : wpAny (model prog w) A (binaryOp .Add (.int a t) (.int b u)) Q E s := add_int (h _ _ hs.toks)
theorem subI {Q : Value → Shared → Prop} (hs : St s₀ I W s) (h : ∀ t s', St s₀ I W s' → Q (.int (a - b) t) s') : wpAny (model prog w) A (binaryOp .Sub (.int a t) (.int b u)) Q E s := sub_int (h _ _ hs.toks)
theorem mulI {Q : Value → Shared → Prop} (hs : St s₀ I W s) (hm : IntMulOk a b) (h : ∀ t s', St s₀ I W s' → Q (.int (a * b) t) s') : wpAny (model prog w) A (binaryOp .Mult (.int a t) (.int b u)) Q E s := mul_int (h _ _ hs.toks) hm
theorem modI {Q : Value → Shared → Prop} (hs : St s₀ I W s) (hb : b ≠ 0) (h : ∀ t s', St s₀ I W s' → Q (.int (a.fmod b) t) s') : wpAny (model prog w) A (binaryOp .Mod (.int a t) (.int b u)) Q E s := mod_int hb (h _ _ hs.toks)
theorem ltI {Q : Value → Shared → Prop} (h : Q (.bool (decide (a < b))) s) : wpAny (model prog w) A (compareOp .Lt (.int a t) (.int b u)) Q E s := lt_int h
theorem gtI {Q : Value → Shared → Prop} (h : Q (.bool (decide (b < a))) s) : wpAny (model prog w) A (compareOp .Gt (.int a t) (.int b u)) Q E s := gt_int h
theorem leI {Q : Value → Shared → Prop} (h : Q (.bool (decide (a ≤ b))) s) : wpAny (model prog w) A (compareOp .LtE (.int a t) (.int b u)) Q E s := le_int h
theorem geI {Q : Value → Shared → Prop} (h : Q (.bool (decide (b ≤ a))) s) : wpAny (model prog w) A (compareOp .GtE (.int a t) (.int b u)) Q E s := ge_int h
theorem eqI {Q : Value → Shared → Prop} (h : Q (.bool (decide (a = b))) s) : wpAny (model prog w) A (compareOp .Eq (.int a t) (.int b u)) Q E s := eq_int (by rw [show (a == b) = decide (a = b) from rfl]; exact h)
theorem neI {Q : Value → Shared → Prop} (h : Q (.bool (decide (a ≠ b))) s) : wpAny (model prog w) A (compareOp .NotEq (.int a t) (.int b u)) Q E s := ne_int (by rw [show (a != b) = decide (a ≠ b) from by by_cases h : a = b <;> simp [h]]; exact h)
end

/-! ### statements -/
section
variable {prog : Program} {w : World} {A : Around} {E : Value → Shared → Prop} {s s₀ : Shared} {env : Env}
/-- what stands behind a statement -/
def Thn (M : Model) (A : Around) (rest : List Stmt) (env : Env) (Q : Flow → Shared → Prop) (E : Value → Shared → Prop) (f : Flow) (s : Shared) : Prop :=
  match f with
  | .next => wpAny M A (execs rest env) Q E s
  | f => Q f s
theorem xAssign {x pos' value pos rest} {Q : Flow → Shared → Prop}
    (h : wpAny (model prog w) A (eval value env) (fun v s₁ => wpAny (model prog w) A (storeName env x v) (fun _ s₂ => wpAny (model prog w) A (execs rest env) Q E s₂) E s₁) E s)
    (hs : swapsWith value (some (.Name x pos')) pos.line env = pure false := by rfl) :
    wpAny (model prog w) A (execs (.Assign [.Name x pos'] value pos :: rest) env) Q E s := wpAny_execs_cons (wpAny_Assign_Name h hs)
theorem xRet {e pos rest} {Q : Flow → Shared → Prop} (h : wpAny (model prog w) A (eval e env) (fun v => Q (.ret v)) E s) :
    wpAny (model prog w) A (execs (.Return (some e) pos :: rest) env) Q E s := wpAny_execs_cons (wpAny_Return_some (wpAny_mono h (fun _ _ q => q) fun _ _ q => q))
theorem xIf {test body orelse pos rest} {Q : Flow → Shared → Prop}
    (h : wpAny (model prog w) A (isTrue test env (eval test env))
      (fun b s₂ => if b = true then wpAny (model prog w) A (execs body env) (Thn (model prog w) A rest env Q E) E s₂ else wpAny (model prog w) A (execs orelse env) (Thn (model prog w) A rest env Q E) E s₂) E s) :
    wpAny (model prog w) A (execs (.If test body orelse pos :: rest) env) Q E s := by
  refine wpAny_execs_cons (wpAny_If (wpAny_mono h (fun b s₂ h₂ => ?_) fun _ _ q => q))
  cases b <;> exact wpAny_mono h₂ (fun f s₃ h₃ => by cases f <;> exact h₃) fun _ _ q => q
/-- an If without else whose body always leaves, or falls through: the rest is walked once -/
theorem xNil {Q : Flow → Shared → Prop} (h : Q .next s) : wpAny (model prog w) A (execs [] env) Q E s := wpAny_execs_nil h
theorem thn_next {M : Model} {A : Around} {rest : List Stmt} {env : Env} {Q : Flow → Shared → Prop} {E : Value → Shared → Prop} {s : Shared} (h : wpAny M A (execs rest env) Q E s) : Thn M A rest env Q E .next s := h
theorem thn_ret {M : Model} {A : Around} {rest : List Stmt} {env : Env} {Q : Flow → Shared → Prop} {E : Value → Shared → Prop} {s : Shared} {v : Value} (h : Q (.ret v) s) : Thn M A rest env Q E (.ret v) s := h
theorem xExpr {e pos rest} {Q : Flow → Shared → Prop} (h : wpAny (model prog w) A (eval e env) (fun v s' => v = .none ∧ wpAny (model prog w) A (execs rest env) Q E s') E s)
    (hi : interactive env = false := by rfl) (hs : swapsWith e none pos.line env = pure false := by rfl) :
    wpAny (model prog w) A (execs (.Expr e pos :: rest) env) Q E s :=
  wpAny_execs_cons (wpAny_Expr (wpAny_mono h (fun v s' h' => by obtain ⟨rfl, h'⟩ := h'; exact h') fun _ _ q => q) hi hs)
theorem xWhile {test body pos rest} {Q : Flow → Shared → Prop} (Inv : Nat → Shared → Prop) (n : Nat) (h0 : Inv n s)
    (turn : ∀ n s, Inv n s → wpAny (model prog w) A (isTrue test env (eval test env)) (fun b s₂ =>
      if b = true then wpAny (model prog w) A (execs body env) (fun f s₃ => match f with
            | .next | .cont => ∃ k, k < n ∧ Inv k s₃
            | .brk => wpAny (model prog w) A (execs rest env) Q E s₃
            | .ret v => Q (.ret v) s₃) (fun _ _ => False) s₂
      else wpAny (model prog w) A (execs rest env) Q E s₂) (fun _ _ => False) s) :
    wpAny (model prog w) A (execs (.While test body [] pos :: rest) env) Q E s := by
  refine wpAny_execs_cons (wpAny_While ?_)
  refine codeAny_whileLoop Inv (fun n s hI => ?_) n h0
  refine wpAny_mono (turn n s hI) (fun b s₂ h₂ => ?_) fun _ _ q => q.elim
  cases b with
  | false => exact wpAny_execs_nil h₂
  | true => exact wpAny_mono h₂ (fun f s₃ h₃ => by cases f <;> exact h₃) fun _ _ q => q.elim
theorem xWhileP {test body pos rest} {Q : Flow → Shared → Prop} (Inv : Nat → Shared → Prop) (Post : Shared → Prop) (n : Nat) (h0 : Inv n s)
    (turn : ∀ n s, Inv n s → wpAny (model prog w) A (isTrue test env (eval test env)) (fun b s₂ =>
      if b = true then wpAny (model prog w) A (execs body env) (fun f s₃ => match f with
            | .next | .cont => ∃ k, k < n ∧ Inv k s₃
            | .brk => Post s₃
            | .ret v => Q (.ret v) s₃) (fun _ _ => False) s₂
      else Post s₂) (fun _ _ => False) s)
    (hp : ∀ s, Post s → wpAny (model prog w) A (execs rest env) Q E s) :
    wpAny (model prog w) A (execs (.While test body [] pos :: rest) env) Q E s := by
  refine xWhile Inv n h0 fun n s hI => wpAny_mono (turn n s hI) (fun b s₂ h₂ => ?_) fun _ _ q => q
  cases b with
  | false => exact hp _ h₂
  | true => exact wpAny_mono h₂ (fun f s₃ h₃ => by cases f <;> first | exact h₃ | exact hp _ h₃) fun _ _ q => q
/-- an If whose ways meet: what holds behind it -/
theorem xIfP {test body orelse pos rest} {Q : Flow → Shared → Prop} (Post : Shared → Prop)
    (h : wpAny (model prog w) A (isTrue test env (eval test env))
      (fun b s₂ => if b = true then wpAny (model prog w) A (execs body env) (fun f s₃ => match f with | .next => Post s₃ | f => Q f s₃) E s₂
        else wpAny (model prog w) A (execs orelse env) (fun f s₃ => match f with | .next => Post s₃ | f => Q f s₃) E s₂) E s)
    (hp : ∀ s, Post s → wpAny (model prog w) A (execs rest env) Q E s) :
    wpAny (model prog w) A (execs (.If test body orelse pos :: rest) env) Q E s := by
  refine xIf (wpAny_mono h (fun b s₂ h₂ => ?_) fun _ _ q => q)
  cases b with
  | false => exact wpAny_mono h₂ (fun f s₃ h₃ => by cases f <;> first | exact h₃ | exact hp _ h₃) fun _ _ q => q
  | true => exact wpAny_mono h₂ (fun f s₃ h₃ => by cases f <;> first | exact h₃ | exact hp _ h₃) fun _ _ q => q
/-- a test in one value -/
theorem tP {M : Model} {test : Expr} {whole : Sem Value} {Q : Bool → Shared → Prop} (P : Bool → Shared → Prop) (h : wpAny M A (isTrue test env whole) P (fun _ _ => False) s) (k : ∀ b s', P b s' → Q b s') : wpAny M A (isTrue test env whole) Q E s :=
  wpAny_mono h k fun _ _ q => q.elim
theorem eP {M : Model} {α : Type} {t : Sem α} {Q : α → Shared → Prop} (P : α → Shared → Prop) (h : wpAny M A t P (fun _ _ => False) s) (k : ∀ b s', P b s' → Q b s') : wpAny M A t Q E s :=
  wpAny_mono h k fun _ _ q => q.elim
theorem if_dec {c : Prop} [Decidable c] {X Y : Prop} (h1 : c → X) (h2 : ¬ c → Y) : if decide c = true then X else Y := by
  by_cases h : c
  · rw [if_pos (decide_eq_true h)]; exact h1 h
  · rw [if_neg (fun q => h (of_decide_eq_true q))]; exact h2 h
theorem if_t {X Y : Prop} (h : X) : if true = true then X else Y := by rw [if_pos rfl]; exact h
theorem if_f {X Y : Prop} (h : Y) : if false = true then X else Y := by rw [if_neg (by decide)]; exact h
theorem if_b {b : Bool} {X Y : Prop} (h1 : b = true → X) (h2 : b = false → Y) : if b = true then X else Y := by
  cases b
  · exact if_f (h2 rfl)
  · exact if_t (h1 rfl)
end

/-! ### calls -/
section
variable {prog : Program} {w : World} {A : Around} {E : Value → Shared → Prop} {s s₀ : Shared} {I : Kn} {W : Own} {K : Frag} {p : Program} {loose : List Str}
theorem xCall {Q : Value → Shared → Prop} {name qual : Str} {params : Arguments} {body : List Stmt} {scope : Scope} {dV kV doc pm cdv ct oc : Value} {an od : Option Addr} {osl : Array (Option Value)} {f : Addr} {args : List Value} {binds : List (Str × Value)} {n : Nat}
    (g : GE K p loose I) (r : Rm A (n + 1)) (hs : St s₀ I W s)
    (ho : K.lookup f = some ⟨oc, od, .func (fnX name qual params body scope [] dV kV doc pm an cdv ct), osl⟩) (hcd : codeIn K cdv qual = true)
    (hbind : bindArgs (fnX name qual params body scope [] dV kV doc pm an cdv ct) ⟨args, []⟩ = pure binds) (hloc : ∀ y ∈ binds, scope.names.lookup y.1 = some .local)
    (hcell : ∀ x ∈ scope.names, x.2 ≠ .cell)
    (h : ∀ A' L s' m, m = (fun y => binds.reverse.lookup y) → St s₀ I ((L, NsO m) :: W) s' → Rm A' n →
      wpAny (model prog w) A' (execs body (envX qual scope L f cdv [])) (fun fl s'' => Q (retOf fl) s'') (fun _ _ => False) s')
    (hco : scope.isCoroutine = false := by rfl) (hgen : scope.isGenerator = false := by rfl) (hk : scope.kind = .function := by rfl) :
    wpAny (model prog w) A (call (.ref f) args) Q E s := by
  obtain ⟨G, mg, mb, X, T, k⟩ := g
  have kk : ∀ b o, G.get? b = some o → s.heap.get? b = some o := fun b o q => hs.ok.keep _ _ (k _ _ q)
  refine wpAny_call (codeAny_call_def (fd := fnX name qual params body scope [] dV kV doc pm an cdv ct) (body := body) (binds := binds) (by have := r.dep; omega) (kk _ _ (X _ _ ho)) rfl (T.nolimit.keeps kk)
    (codeRec_of (X.keeps kk) hcd) rfl (BindsTo.of_eq hbind) hcell hloc (fun h₁ hns hk₁ => ?_) hco hgen hk)
  obtain ⟨oL, es, ep, e, rr⟩ := hns
  have hnone : s.heap.get? s.heap.objs.size = none := by
    cases q : s.heap.get? s.heap.objs.size with
    | none => rfl
    | some o => exact absurd (Heap.lt_size q) (Nat.lt_irrefl _)
  have hs' : St s₀ I ((s.heap.objs.size, NsO (fun y => binds.reverse.lookup y)) :: W) { s with heap := h₁, toks := s.toks + binds.length } :=
    hs.put (hs.ok.add hnone e ⟨es, ep, rr⟩ hk₁)
  exact wpAny_mono (h _ _ _ _ rfl hs' r.deeper) (fun fl s'' q => by cases fl <;> exact q) fun _ _ q => q.elim
end

/-! # part R1 -/

/-! ## data -/
mutual
inductive Rp (I : Kn) : Value → PyData → Prop
  | int (i : Int) (t : Tok) : Rp I (.int i t) (.int i)
  | list {a : Addr} {vs : List Value} {n : Nat} {ds : List PyData} : I a = some (listOf vs.toArray n) → RpA I vs ds → Rp I (.ref a) (.list ds)
  | tup {a : Addr} {vs : List Value} {n : Nat} {ds : List PyData} : I a = some { cls := .type "tuple", data := .seq vs.toArray n } → RpA I vs ds → Rp I (.ref a) (.tuple ds)
inductive RpA (I : Kn) : List Value → List PyData → Prop
  | nil : RpA I [] []
  | cons {v : Value} {vs : List Value} {d : PyData} {ds : List PyData} : Rp I v d → RpA I vs ds → RpA I (v :: vs) (d :: ds)
end
mutual
theorem Rp.mono {I J : Kn} (l : Kn.le I J) : ∀ {v : Value} {d : PyData}, Rp I v d → Rp J v d
  | _, _, .int i t => .int i t
  | _, _, .list h r => .list (l _ _ h) (RpA.mono l r)
  | _, _, .tup h r => .tup (l _ _ h) (RpA.mono l r)
theorem RpA.mono {I J : Kn} (l : Kn.le I J) : ∀ {vs : List Value} {ds : List PyData}, RpA I vs ds → RpA J vs ds
  | _, _, .nil => .nil
  | _, _, .cons h r => .cons (Rp.mono l h) (RpA.mono l r)
end
mutual
theorem Rp.reads {I : Kn} {h : Heap} (k : ∀ b o, I b = some o → h.get? b = some o) : ∀ {v : Value} {d : PyData}, Rp I v d → ∃ as, Reads h v d as
  | _, _, .int i t => ⟨[], .int i t⟩
  | _, _, .list e r => let ⟨_, q⟩ := RpA.reads k r; ⟨_, .list (k _ _ e) rfl rfl q⟩
  | _, _, .tup e r => let ⟨_, q⟩ := RpA.reads k r; ⟨_, .tuple (k _ _ e) rfl rfl q⟩
theorem RpA.reads {I : Kn} {h : Heap} (k : ∀ b o, I b = some o → h.get? b = some o) : ∀ {vs : List Value} {ds : List PyData}, RpA I vs ds → ∃ as, ReadsAll h vs ds as
  | _, _, .nil => ⟨[], .nil⟩
  | _, _, .cons e r => let ⟨_, q⟩ := Rp.reads k e; let ⟨_, q'⟩ := RpA.reads k r; ⟨_, .cons q q'⟩
end
section
variable {I : Kn} {vs ws : List Value} {ds es : List PyData} {v : Value} {d : PyData}
theorem RpA.length (h : RpA I vs ds) : vs.length = ds.length := by
  induction vs generalizing ds with
  | nil => cases h; rfl
  | cons v vs ih => cases h with | cons _ r => rw [List.length_cons, List.length_cons, ih r]
theorem RpA.append (h : RpA I vs ds) (k : RpA I ws es) : RpA I (vs ++ ws) (ds ++ es) := by
  induction vs generalizing ds with
  | nil => cases h; exact k
  | cons v vs ih => cases h with | cons h r => exact .cons h (ih r)
theorem RpA.one (h : Rp I v d) : RpA I [v] [d] := .cons h .nil
theorem RpA.get (h : RpA I vs ds) {k : Nat} (e : ds[k]? = some d) : ∃ v, vs[k]? = some v ∧ Rp I v d := by
  induction vs generalizing ds k with
  | nil => cases h; simp at e
  | cons v vs ih =>
    cases h with
    | cons h r =>
      cases k with
      | zero => simp at e; subst e; exact ⟨v, rfl, h⟩
      | succ k => simp at e; simpa using ih r e
theorem RpA.take (h : RpA I vs ds) (k : Nat) : RpA I (vs.take k) (ds.take k) := by
  induction vs generalizing ds k with
  | nil => cases h; simp; exact .nil
  | cons v vs ih =>
    cases h with
    | cons h r =>
      cases k with
      | zero => simp; exact .nil
      | succ k => simp; exact .cons h (ih r k)
theorem RpA.drop (h : RpA I vs ds) (k : Nat) : RpA I (vs.drop k) (ds.drop k) := by
  induction vs generalizing ds k with
  | nil => cases h; simp; exact .nil
  | cons v vs ih =>
    cases h with
    | cons h r =>
      cases k with
      | zero => simp; exact .cons h r
      | succ k => simp; exact ih r k
theorem RpA.ints {xs : List Int} (h : RpA I vs (xs.map .int)) : IntsAre vs xs := by
  induction vs generalizing xs with
  | nil => cases xs with | nil => exact .nil | cons _ _ => cases h
  | cons v vs ih =>
    cases xs with
    | nil => cases h
    | cons x xs => cases h with | cons h r => cases h; exact .cons _ _ (ih r)
theorem RpA.ofInts {xs : List Int} (h : IntsAre vs xs) : RpA I vs (xs.map .int) := by
  induction h with
  | nil => exact .nil
  | cons i t _ ih => exact .cons (.int i t) ih
end

/-- a list of ints; its parts -/
theorem Rp.listInv {I : Kn} {v : Value} {ds : List PyData} (h : Rp I v (.list ds)) : Ex3 fun a vs n => All3 (v = .ref a) (I a = some (listOf vs.toArray n)) (RpA I vs ds) := by
  cases h with | list e r => exact ⟨_, _, _, rfl, e, r⟩
theorem Rp.tupInv {I : Kn} {v : Value} {ds : List PyData} (h : Rp I v (.tuple ds)) : Ex3 fun a vs n => All3 (v = .ref a) (I a = some { cls := .type "tuple", data := .seq vs.toArray n }) (RpA I vs ds) := by
  cases h with | tup e r => exact ⟨_, _, _, rfl, e, r⟩
theorem Rp.intInv {I : Kn} {v : Value} {i : Int} (h : Rp I v (.int i)) : ∃ t, v = .int i t := by cases h; exact ⟨_, rfl⟩

section
variable {prog : Program} {w : World} {A : Around} {E : Value → Shared → Prop} {s s₀ : Shared} {I : Kn} {W W' : Own} {K : Frag} {p : Program} {loose : List Str}
  {env : Env} {a l b f : Addr} {vs us : List Value} {xs ns : List Int} {v : Value} {t u : Tok} {k : Int} {pos : Pos}

/-! ### calls of built-ins and defs -/
theorem cwB {id : String} {e : Expr} {rest : List Expr} {Q : Value → Shared → Prop}
    (h : wpAny (model prog w) A (spliced (backTo pos (starEach (e :: rest) env))) (fun vs s₁ => wpAny (model prog w) A (call (.builtin id) vs) Q E s₁) E s)
    (he : starEach (e :: rest) env = (false, eval e env) :: starEach rest env := by rfl)
    (hplain : (backTo pos (starEach rest env)).any (·.1) = false := by rfl) :
    wpAny (model prog w) A (callWith pos (.builtin id) [] (backTo pos (starEach (e :: rest) env)) []) Q E s := callWith_method1 h he hplain
theorem cwT {T : String} {e : Expr} {rest : List Expr} {Q : Value → Shared → Prop}
    (h : wpAny (model prog w) A (spliced (backTo pos (starEach (e :: rest) env))) (fun vs s₁ => wpAny (model prog w) A (call (.type T) vs) Q E s₁) E s)
    (he : starEach (e :: rest) env = (false, eval e env) :: starEach rest env := by rfl)
    (hplain : (backTo pos (starEach rest env)).any (·.1) = false := by rfl) :
    wpAny (model prog w) A (callWith pos (.type T) [] (backTo pos (starEach (e :: rest) env)) []) Q E s := Pv.callWith_type1 h he hplain
theorem cwF {e : Expr} {rest : List Expr} {Q : Value → Shared → Prop} (gk : GE K p loose I) (hk : keepIn K (.ref f) = true)
    (h : wpAny (model prog w) A (spliced (backTo pos (starEach (e :: rest) env))) (fun vs s₁ => (Ex5 fun s₀ I W p loose => GE K p loose I ∧ St s₀ I W s₁) ∧ wpAny (model prog w) A (call (.ref f) vs) Q E s₁) E s)
    (he : starEach (e :: rest) env = (false, eval e env) :: starEach rest env := by rfl)
    (hplain : (backTo pos (starEach rest env)).any (·.1) = false := by rfl) :
    wpAny (model prog w) A (callWith pos (.ref f) [] (backTo pos (starEach (e :: rest) env)) []) Q E s := by
  refine callWith_of (by rw [he]; show ((false || (backTo pos (starEach rest env)).any (·.1)) || false) = false; rw [hplain]; rfl) (keeps_K hk) ?_
  rw [he] at h ⊢
  refine evalArgs_plain (wpAny_mono h (fun vs s₁ h₁ => ?_) fun _ _ q => q)
  obtain ⟨⟨s₀, I, W, p, loose, ⟨G, mg, mb, X, T, k⟩, hs⟩, h₁⟩ := h₁
  exact ⟨X.keeps fun b o q => hs.ok.keep _ _ (k _ _ q), h₁⟩
theorem kB {pl : Sem Bool} {T : String} {name : Str} {id : String} {Q : Value × List Value → Shared → Prop} (hT : s.TypeIs (.ref a) T) (pa : PlainAttrs T) (slot : PySem.Slot T name id) (hty : typeOf (.builtin id) = pure (.type "method_descriptor"))
    (hd : ∃ o, s.heap.get? a = some o ∧ o.dict = none) (h : Q (.builtin id, [.ref a]) s) : wpAny (model prog w) A (getMethod (.ref a) name pl) Q E s :=
  getMethod_builtin hT pa slot hty (fun a' e => by cases e; exact hd) h

/-! ### lists -/
theorem lenL {Q : Value → Shared → Prop} (hs : St s₀ I W s) (hl : HasL I W a vs) (hfit : vs.length < 2 ^ 60) (h : ∀ t s', St s₀ I W s' → Q (.int (vs.length : Int) t) s') :
    wpAny (model prog w) A (call (.builtin "len") [.ref a]) Q E s := by
  have e : vs.toArray.size = vs.length := by simp
  refine len_list (hs.isList hl) (by rw [e]; omega) ?_
  rw [e]; exact h _ _ hs.toks
theorem idxL {value slice : Expr} {Q : Value → Shared → Prop} (hs : St s₀ I W s) (hl : HasL I W a vs) (h0 : 0 ≤ k) (hhi : k < 2 ^ 63) (hx : vs[k.toNat]? = some v) (h : Q v s)
    (hb : subscripted slice false (.ref a) (.int k u) = operate [.ref a, .int k u] (getItem (.ref a) (.int k u)) := by with_unfolding_all rfl) :
    wpAny (model prog w) A (subscriptTail value slice (.ref a) (.int k u)) Q E s :=
  tail_any (hs.isList hl).typeIs slot_list_getitem.lookup (wpAny_getItem_list (hs.isList hl) h0 hhi (by simpa using hx) h) hb
theorem idxI {value slice : Expr} {Q : Value → Shared → Prop} (hs : St s₀ I W s) (hl : HasL I W a vs) (hi : IntsAre vs xs) (h0 : 0 ≤ k) (h1 : k < xs.length) (hhi : k < 2 ^ 63) (h : ∀ t, Q (.int (xs.getD k.toNat 0) t) s)
    (hb : subscripted slice false (.ref a) (.int k u) = operate [.ref a, .int k u] (getItem (.ref a) (.int k u)) := by with_unfolding_all rfl) :
    wpAny (model prog w) A (subscriptTail value slice (.ref a) (.int k u)) Q E s := by
  have hk : k.toNat < xs.length := by omega
  obtain ⟨t, e⟩ := hi.get k.toNat _ (List.getElem?_eq_getElem hk)
  refine idxL hs hl h0 hhi e ?_ hb
  have := h t
  rw [List.getD_eq_getElem?_getD, List.getElem?_eq_getElem hk] at this
  exact this
theorem idxN {value slice : Expr} {Q : Value → Shared → Prop} (hs : St s₀ I W s) (hl : HasL I W a vs) (h0 : k < 0) (h1 : -(vs.length : Int) ≤ k) (hfit : -(2 ^ 63) ≤ k) (hx : vs[(k + vs.length).toNat]? = some v) (h : Q v s)
    (hb : subscripted slice false (.ref a) (.int k u) = operate [.ref a, .int k u] (getItem (.ref a) (.int k u)) := by with_unfolding_all rfl) :
    wpAny (model prog w) A (subscriptTail value slice (.ref a) (.int k u)) Q E s :=
  tail_any (hs.isList hl).typeIs slot_list_getitem.lookup (wpAny_getItem_list_neg (hs.isList hl) h0 (by simpa using h1) hfit (by simpa using hx) h) hb
theorem idxT {value slice : Expr} {j : Nat} {Q : Value → Shared → Prop} (hs : St s₀ I W s) (hl : HasT I W a vs) (hlo : -(2 ^ 63) ≤ k) (hhi : k < 2 ^ 63) (hj : seqIndex? k vs.length = some j) (hx : vs[j]? = some v) (h : Q v s)
    (hb : subscripted slice false (.ref a) (.int k u) = operate [.ref a, .int k u] (getItem (.ref a) (.int k u)) := by with_unfolding_all rfl) :
    wpAny (model prog w) A (subscriptTail value slice (.ref a) (.int k u)) Q E s := item_tupleT (hs.isTup hl) hlo hhi hj hx h hb
theorem inK {dd : Option Addr} {sl : Array (Option Value)} {n : Nat} {Q : Value → Shared → Prop} (hs : St s₀ I W s) (g : GE K p loose I) (hl : K.lookup a = some ⟨.type "tuple", dd, .seq vs.toArray n, sl⟩) (hi : IntsAre vs ns)
    (h : Q (.bool (ns.any (· == k))) s) : wpAny (model prog w) A (compareOp .In (.int k u) (.ref a)) Q E s := by
  obtain ⟨G, mg, mb, X, T, kk⟩ := g
  exact in_tuple_ints (tupK (X.keeps fun b o q => hs.ok.keep _ _ (kk _ _ q)) hl) hi h
theorem inT {Q : Value → Shared → Prop} (hs : St s₀ I W s) (hl : HasT I W a vs) (hi : IntsAre vs ns)
    (h : Q (.bool (ns.any (· == k))) s) : wpAny (model prog w) A (compareOp .In (.int k u) (.ref a)) Q E s := in_tuple_ints (hs.isTup hl) hi h
theorem inL {Q : Value → Shared → Prop} (hs : St s₀ I W s) (hl : HasL I W a vs) (hi : IntsAre vs ns)
    (h : Q (.bool (ns.any (· == k))) s) : wpAny (model prog w) A (compareOp .In (.int k u) (.ref a)) Q E s := in_list_ints (hs.isList hl) hi h

theorem mkT {Q : Value → Shared → Prop} {elts : List Expr} {k : Nat}
    (h : wpAny (model prog w) A (spliced (backTo pos (starEach elts env))) (fun vs s₁ => vs.length ≤ sizeLine ∧ Ex3 fun s₀ I W => St s₀ I W s₁ ∧ ∀ a s', I a = none → St s₀ I ((a, TuO vs) :: W) s' → Q (.ref a) s') E s) :
    wpAny (model prog w) A (eval (.Tuple elts k pos) env) Q E s :=
  wpAny_Tuple (wpAny_mono h (fun vs s₁ h₁ => by
    obtain ⟨hl, s₀, I, W, hs, h₁⟩ := h₁
    exact ⟨hl, h₁ _ _ hs.ok.fresh (hs.put (tk := s₁.toks) (hs.ok.push rfl ⟨0, rfl⟩))⟩) fun _ _ q => q)
theorem mkL {Q : Value → Shared → Prop} {elts : List Expr}
    (h : wpAny (model prog w) A (spliced (backTo pos (starEach elts env))) (fun vs s₁ => vs.length ≤ sizeLine ∧ Ex3 fun s₀ I W => St s₀ I W s₁ ∧ ∀ a s', I a = none → St s₀ I ((a, LsO vs) :: W) s' → Q (.ref a) s') E s) :
    wpAny (model prog w) A (eval (.List elts pos) env) Q E s :=
  wpAny_List (wpAny_mono h (fun vs s₁ h₁ => by
    obtain ⟨hl, s₀, I, W, hs, h₁⟩ := h₁
    exact ⟨hl, h₁ _ _ hs.ok.fresh (hs.put (tk := s₁.toks) (hs.ok.push rfl ⟨0, rfl⟩))⟩) fun _ _ q => q)
/-- xs + ys -/
theorem catL {Q : Value → Shared → Prop} (hs : St s₀ I W s) (hl : HasL I W a vs) (hl' : HasL I W b us) (hz : vs.length + us.length ≤ sizeLine) (h : ∀ c s', I c = none → St s₀ I ((c, LsO (vs ++ us)) :: W) s' → Q (.ref c) s') :
    wpAny (model prog w) A (binaryOp .Add (.ref a) (.ref b)) Q E s := by
  obtain ⟨n, e⟩ := hs.list hl
  obtain ⟨n', e'⟩ := hs.list hl'
  refine P.add_list (hsz := by simpa using hz) e e' (h _ _ hs.ok.fresh (hs.put (tk := s.toks) (hs.ok.push rfl ⟨0, ?_⟩)))
  simp [PySem.W.listOf]
/-- xs.append(v) -/
theorem appL {Q : Value → Shared → Prop} (hs : St s₀ I W s) (hm : (a, LsO vs) ∈ W) (U : Upd a (LsO (vs ++ [v])) W W') (hz : vs.length ≤ sizeLine) (h : ∀ s', St s₀ I W' s' → Q .none s') :
    wpAny (model prog w) A (call (.builtin "list.append") [.ref a, v]) Q E s := by
  obtain ⟨o, e, n, q⟩ := hs.ok.at' hm
  subst q
  refine append_at (hsz := by simpa using hz) e fun h' hb e' => h _ (hs.put (tk := s.toks) (hs.ok.updS U hb e' ⟨n + 1, ?_⟩))
  simp [PySem.W.listOf]
theorem mApp {pl : Sem Bool} {Q : Value × List Value → Shared → Prop} (hs : St s₀ I W s) (hl : HasL I W a vs) (h : Q (.builtin "list.append", [.ref a]) s) : wpAny (model prog w) A (getMethod (.ref a) "append" pl) Q E s :=
  let ⟨_, e⟩ := hs.list hl; getMethod_list_append e rfl rfl h
theorem mPop {pl : Sem Bool} {Q : Value × List Value → Shared → Prop} (hs : St s₀ I W s) (hl : HasL I W a vs) (h : Q (.builtin "list.pop", [.ref a]) s) : wpAny (model prog w) A (getMethod (.ref a) "pop" pl) Q E s :=
  let ⟨_, e⟩ := hs.list hl; kB (hs.isList hl).typeIs F.plainAttrs_list F.slot_list_pop F.type_list_pop ⟨_, e, rfl⟩ h
/-- == and != of data -/
theorem eqD {v w' : Value} {d e : PyData} {Q : Value → Shared → Prop} (hs : St s₀ I W s) (hr : Rm A 0) (ra : Rp I v d) (rb : Rp I w' e) (ha : PySem.SeqAt.shaped d = true) (hb : PySem.SeqAt.shaped e = true) (hm : PySem.SeqAt.noMix d e = true)
    (h : Q (.bool (Spec.same d e)) s) : wpAny (model prog w) A (compareOp .Eq v w') Q E s := by
  obtain ⟨as, qa⟩ := ra.reads hs.ok.keep
  obtain ⟨bs, qb⟩ := rb.reads hs.ok.keep
  exact eq_dataH_same qa qb ha hb (by have := hr.un; omega) hm h
theorem neD {v w' : Value} {d e : PyData} {Q : Value → Shared → Prop} (hs : St s₀ I W s) (hr : Rm A 0) (ra : Rp I v d) (rb : Rp I w' e) (ha : PySem.SeqAt.shaped d = true) (hb : PySem.SeqAt.shaped e = true) (hm : PySem.SeqAt.noMix d e = true)
    (h : Q (.bool (!(Spec.same d e))) s) : wpAny (model prog w) A (compareOp .NotEq v w') Q E s := by
  obtain ⟨as, qa⟩ := ra.reads hs.ok.keep
  obtain ⟨bs, qb⟩ := rb.reads hs.ok.keep
  exact ne_dataH_same qa qb ha hb (by have := hr.un; omega) hm h
end

/-! # part R2 -/

theorem Ok.front {I : Kn} {W W' : Own} {h : Heap} {a : Addr} {P : Obj → Prop} (k : Ok I W h) (u : Rem a P W W') : Ok I ((a, P) :: W') h := by
  refine ⟨k.keep, fun p hp => ?_, List.nodup_cons.mpr ⟨fun hm => ?_, k.nd.sublist (u.sub.map _)⟩⟩
  · rcases List.mem_cons.mp hp with e | hp
    · exact e ▸ k.own _ u.mem
    · exact k.own _ (u.sub.subset hp)
  · obtain ⟨p, hp, e⟩ := List.mem_map.mp hm
    exact u.off k.nd p hp e
theorem Ok.dropHead {I : Kn} {W : Own} {h h' : Heap} {a : Addr} {P : Obj → Prop} (k : Ok I ((a, P) :: W) h) (e : ∀ b o, b ≠ a → h.get? b = some o → h'.get? b = some o) : Ok I W h' := by
  have hn := List.nodup_cons.mp k.nd
  refine ⟨fun b o x => e b o (fun q => ?_) (k.keep b o x), fun p hp => ?_, hn.2⟩
  · rw [q, (k.own _ (.head _)).1] at x; cases x
  · obtain ⟨i, o, x, y⟩ := k.own p (List.mem_cons_of_mem _ hp)
    exact ⟨i, o, e _ _ (fun q => hn.1 (List.mem_map.mpr ⟨p, hp, q⟩)) x, y⟩
theorem St.front {s₀ s : Shared} {I : Kn} {W W' : Own} {a : Addr} {P : Obj → Prop} (x : St s₀ I W s) (u : Rem a P W W') : St s₀ I ((a, P) :: W') s := ⟨x.same, x.ok.front u⟩
theorem St.updHead {s₀ s : Shared} {I : Kn} {W : Own} {a : Addr} {P P' : Obj → Prop} (x : St s₀ I ((a, P) :: W) s) (h : ∀ o, s.heap.get? a = some o → P' o) : St s₀ I ((a, P') :: W) s :=
  ⟨x.same, x.ok.weak .head h⟩
def EqO (o : Obj) : Obj → Prop := fun x => x = o

section
variable {prog : Program} {w : World} {A : Around} {E : Value → Shared → Prop} {s s₀ : Shared} {I : Kn} {W W' : Own} {env : Env} {a b : Addr} {vs : List Value} {v v1 v2 v3 : Value} {pos tp px py : Pos} {rest : List Stmt}

/-! ### tuples as targets -/
theorem asgN {x : Str} {Q : Unit → Shared → Prop} (h : wpAny (model prog w) A (storeName env x v) Q E s) : wpAny (model prog w) A (assign (.Name x pos) env v) Q E s := wpAny_assign_Name h
theorem asg2 {e1 e2 : Expr} {k : Nat} {Q : Unit → Shared → Prop} (hs : St s₀ I W s) (r : Rm A 0) (ht : HasT I W a [v1, v2])
    (h : ∀ s', St s₀ I W s' → wpAny (model prog w) A (assign e1 env v1) (fun _ s₂ => wpAny (model prog w) A (assign e2 env v2) Q E s₂) E s')
    (hn : (assignEach [e1, e2] env).length = 2 := by rfl) (hstar : (assignEach [e1, e2] env).findIdx? (·.1) = none := by rfl)
    (hm : (assignEach [e1, e2] env).map (·.2) = [assign e1 env, assign e2 env] := by rfl) : wpAny (model prog w) A (assign (.Tuple [e1, e2] k pos) env (.ref a)) Q E s := by
  refine assign_Tuple_tuple r.hh (hs.isTup ht) (by rw [hn]; rfl) hstar fun h' he => ?_
  rw [hm]
  show wpAny _ A (do holding [v2] (assign e1 env v1); do holding [] (assign e2 env v2); pure ()) _ _ _
  exact wpAny_bind (wpAny_holding (wpAny_mono (h _ (hs.put (tk := s.toks) (hs.ok.extFresh he))) (fun _ s₂ h₂ => wpAny_bind (wpAny_holding (wpAny_mono h₂ (fun _ _ q => wpAny_pure q) fun _ _ q => q))) fun _ _ q => q))
theorem asg3 {e1 e2 e3 : Expr} {k : Nat} {Q : Unit → Shared → Prop} (hs : St s₀ I W s) (r : Rm A 0) (ht : HasT I W a [v1, v2, v3])
    (h : ∀ s', St s₀ I W s' → wpAny (model prog w) A (assign e1 env v1) (fun _ s₂ => wpAny (model prog w) A (assign e2 env v2) (fun _ s₃ => wpAny (model prog w) A (assign e3 env v3) Q E s₃) E s₂) E s')
    (hn : (assignEach [e1, e2, e3] env).length = 3 := by rfl) (hstar : (assignEach [e1, e2, e3] env).findIdx? (·.1) = none := by rfl)
    (hm : (assignEach [e1, e2, e3] env).map (·.2) = [assign e1 env, assign e2 env, assign e3 env] := by rfl) : wpAny (model prog w) A (assign (.Tuple [e1, e2, e3] k pos) env (.ref a)) Q E s := by
  refine assign_Tuple_tuple r.hh (hs.isTup ht) (by rw [hn]; rfl) hstar fun h' he => ?_
  rw [hm]
  show wpAny _ A (do holding [v2, v3] (assign e1 env v1); do holding [v3] (assign e2 env v2); do holding [] (assign e3 env v3); pure ()) _ _ _
  exact wpAny_bind (wpAny_holding (wpAny_mono (h _ (hs.put (tk := s.toks) (hs.ok.extFresh he))) (fun _ s₂ h₂ => wpAny_bind (wpAny_holding (wpAny_mono h₂ (fun _ _ h₃ => wpAny_bind (wpAny_holding (wpAny_mono h₃ (fun _ _ q => wpAny_pure q) fun _ _ q => q))) fun _ _ q => q))) fun _ _ q => q))
theorem xAssignT {elts k tpos value} {Q : Flow → Shared → Prop}
    (h : wpAny (model prog w) A (eval value env) (fun v s₁ => wpAny (model prog w) A (assign (.Tuple elts k tpos) env v) (fun _ s₂ => wpAny (model prog w) A (execs rest env) Q E s₂) E s₁) E s)
    (hs : swapsWithSole [.Tuple elts k tpos] value pos.line env = pure false := by rfl)
    (hw : swappedStores [.Tuple elts k tpos] value env = pure none := by rfl) :
    wpAny (model prog w) A (execs (.Assign [.Tuple elts k tpos] value pos :: rest) env) Q E s := wpAny_execs_cons (Assign_Tuple h hs hw)
/-- a, b = (x, y): the stores in the swapped order -/
theorem xAssignSw2 {elts k tpos value} {x y : Str} {Q : Flow → Shared → Prop} (r : Rm A 0)
    (h : wpAny (model prog w) A (eval value env) (fun v s₁ => Ex6 fun a v1 v2 s₀ I W => All4 (v = .ref a) (St s₀ I W s₁) (HasT I W a [v1, v2]) (∀ s', St s₀ I W s' →
      wpAny (model prog w) A (storeName env y v2) (fun _ s₂ => wpAny (model prog w) A (storeName env x v1) (fun _ s₃ => wpAny (model prog w) A (execs rest env) Q E s₃) E s₂) E s')) E s)
    (hs : swapsWithSole [.Tuple elts k tpos] value pos.line env = pure false := by rfl)
    (hw : swappedStores [.Tuple elts k tpos] value env = pure (some [x, y]) := by rfl) :
    wpAny (model prog w) A (execs (.Assign [.Tuple elts k tpos] value pos :: rest) env) Q E s := by
  refine wpAny_execs_cons ?_
  refine Assign_Tuple_swapped (names := [x, y]) ?_ hs hw
  refine wpAny_mono h (fun v s₁ h₁ => ?_) fun _ _ q => q
  obtain ⟨a, v1, v2, s₀, I, W, rfl, hs, ht, h₁⟩ := h₁
  rw [show ([x, y] : List Str).length = [v1, v2].toArray.size from rfl]
  refine unpackItems_tuple r.hh (hs.isTup ht) fun h' he => ?_
  have hs' := h₁ _ (hs.put (tk := s₁.toks) (hs.ok.extFresh he))
  have e : assignInOrder (([x, y] : List Str).reverse.map fun n => bindName env n) ([v1, v2].toArray.toList).reverse = (do holding [v1] (bindName env y v2); do holding [] (bindName env x v1); pure ()) := rfl
  rw [e]
  refine wpAny_bind (wpAny_holding (wpAny_bindName (wpAny_mono hs' (fun _ s₂ h₂ => ?_) fun _ _ q => q)))
  exact wpAny_bind (wpAny_holding (wpAny_bindName (wpAny_mono h₂ (fun _ _ q => wpAny_pure q) fun _ _ q => q)))
theorem xAssignSw3 {elts k tpos value} {x y z : Str} {Q : Flow → Shared → Prop} (r : Rm A 0)
    (h : wpAny (model prog w) A (eval value env) (fun v s₁ => Ex7 fun a v1 v2 v3 s₀ I W => All4 (v = .ref a) (St s₀ I W s₁) (HasT I W a [v1, v2, v3]) (∀ s', St s₀ I W s' →
      wpAny (model prog w) A (storeName env z v3) (fun _ s₂ => wpAny (model prog w) A (storeName env y v2) (fun _ s₃ => wpAny (model prog w) A (storeName env x v1) (fun _ s₄ => wpAny (model prog w) A (execs rest env) Q E s₄) E s₃) E s₂) E s')) E s)
    (hs : swapsWithSole [.Tuple elts k tpos] value pos.line env = pure false := by rfl)
    (hw : swappedStores [.Tuple elts k tpos] value env = pure (some [x, y, z]) := by rfl) :
    wpAny (model prog w) A (execs (.Assign [.Tuple elts k tpos] value pos :: rest) env) Q E s := by
  refine wpAny_execs_cons ?_
  refine Assign_Tuple_swapped (names := [x, y, z]) ?_ hs hw
  refine wpAny_mono h (fun v s₁ h₁ => ?_) fun _ _ q => q
  obtain ⟨a, v1, v2, v3, s₀, I, W, rfl, hs, ht, h₁⟩ := h₁
  rw [show ([x, y, z] : List Str).length = [v1, v2, v3].toArray.size from rfl]
  refine unpackItems_tuple r.hh (hs.isTup ht) fun h' he => ?_
  have hs' := h₁ _ (hs.put (tk := s₁.toks) (hs.ok.extFresh he))
  have e : assignInOrder (([x, y, z] : List Str).reverse.map fun n => bindName env n) ([v1, v2, v3].toArray.toList).reverse = (do holding [v2, v1] (bindName env z v3); do holding [v1] (bindName env y v2); do holding [] (bindName env x v1); pure ()) := rfl
  rw [e]
  refine wpAny_bind (wpAny_holding (wpAny_bindName (wpAny_mono hs' (fun _ s₂ h₂ => ?_) fun _ _ q => q)))
  refine wpAny_bind (wpAny_holding (wpAny_bindName (wpAny_mono h₂ (fun _ s₃ h₃ => ?_) fun _ _ q => q)))
  exact wpAny_bind (wpAny_holding (wpAny_bindName (wpAny_mono h₃ (fun _ _ q => wpAny_pure q) fun _ _ q => q)))

/-! ### for -/
theorem forCore {target : Expr} {body : List Stmt} {it : Addr} {fp : List Addr} {n : Nat} {P : Nat → Value → Prop} {Stt : Nat → Heap → Prop} {o : Obj} {I₀ : Kn} {QB : Shared → Prop} {Q : Flow → Shared → Prop}
    (Wk : Walks prog w A it fp [it] n P Stt) (hfp : ∀ b ∈ fp, b = it ∨ ∃ o, I₀ b = some o) (hob : ∀ i h, Stt i h → ∃ o, h.get? it = some o) (J : Nat → Kn → Own → Prop) (hle : ∀ i I W, J i I W → Kn.le I₀ I)
    (hs : St s₀ I ((it, EqO o) :: W) s) (hst : Stt 0 s.heap) (h0 : J 0 I W)
    (go : ∀ i v s (Q : Unit → Shared → Prop) E, P i v → Stt (i + 1) s.heap → Q () s → wpAny (model prog w) A (letOwnedTupleGo target (.ref it) v) Q E s)
    (turn : ∀ i v I W o s, i < n → P i v → J i I W → St s₀ I ((it, EqO o) :: W) s → wpAny (model prog w) A (assign target env v) (fun _ s₂ => wpAny (model prog w) A (execs body env) (fun f s₃ => match f with
        | .next | .cont => Ex3 fun I' W₃ W' => All3 (St s₀ I' W₃ s₃) (Rem it (EqO o) W₃ W') (J (i + 1) I' W')
        | .brk => QB s₃
        | .ret v => Q (.ret v) s₃) (fun _ _ => False) s₂) (fun _ _ => False) s)
    (done : ∀ I W s, J n I W → St s₀ I W s → QB s) (hQ : ∀ s, QB s → Q .next s) :
    codeAny (model prog w) A (.forLoop target (.ref it) body [] env) (fun r s' => match r with | .ok f => Q f s' | .error e => cameBackBy (model prog w) A env E e s') s := by
  refine codeAny_forLoop_any (fun k s => Ex4 fun i I W o => All5 (St s₀ I ((it, EqO o) :: W) s) (Stt i s.heap) (J i I W) (i ≤ n) (k = n + 1 - i)) ?_ (n + 1) ⟨0, I, W, o, hs, hst, h0, Nat.zero_le _, rfl⟩
  rintro k s ⟨i, I, W, o, hs, hst, hJ, hi, rfl⟩
  have off : ∀ b : Addr, b ≠ it → b ∉ [it] := fun b h e => h (List.mem_singleton.mp e)
  by_cases hlt : i < n
  · refine Wk.item i _ _ _ hlt hst fun v h' tk hP hst' hk => ?_
    obtain ⟨o', e'⟩ := hob _ _ hst'
    have hs' : St s₀ I ((it, EqO o') :: W) { s with heap := h', toks := tk } := hs.put (hs.ok.upd .head (fun b o hb x => hk b o (off b hb) x) e' rfl)
    refine go i v _ _ _ hP hst' ?_
    refine wpAny_mono (turn i v I W o' _ hlt hP hJ hs') (fun _ s₂ h₂ => ?_) fun _ _ q => q.elim
    refine wpAny_mono h₂ (fun f s₃ h₃ => ?_) fun _ _ q => q.elim
    have key : (Ex3 fun I' W₃ W' => All3 (St s₀ I' W₃ s₃) (Rem it (EqO o') W₃ W') (J (i + 1) I' W')) → ∃ m, m < n + 1 - i ∧ Ex4 fun i I W o => All5 (St s₀ I ((it, EqO o) :: W) s₃) (Stt i s₃.heap) (J i I W) (i ≤ n) (m = n + 1 - i) := by
      rintro ⟨I', W₃, W', hs₃, hr, hJ'⟩
      have hf := hs₃.front hr
      refine ⟨n + 1 - (i + 1), by omega, i + 1, I', W', o', hf, ?_, hJ', hlt, rfl⟩
      refine Wk.frame _ _ _ hst' fun b hb q hq => ?_
      rcases hfp b hb with rfl | ⟨ob, hob'⟩
      · obtain ⟨x, hx, ex⟩ := hf.ok.at' (.head _)
        rw [e'] at hq; cases hq; rw [show x = o' from ex] at hx; exact hx
      · have h1 := hs'.ok.keep _ _ (hle _ _ _ hJ _ _ hob')
        have h2 := hs₃.ok.keep _ _ (hle _ _ _ hJ' _ _ hob')
        have h1' : h'.get? b = some ob := h1
        rw [h1'] at hq; cases hq; exact h2
    cases f with
    | next => exact key h₃
    | cont => exact key h₃
    | brk => exact hQ _ h₃
    | ret v => exact h₃
  · have hin : i = n := by omega
    subst hin
    refine Wk.done _ _ _ hst fun h' tk hk => ?_
    refine wpAny_execs_nil (hQ _ (done I W _ hJ (hs.put (hs.ok.dropHead fun b o hb x => hk b o (off b hb) x))))

/-- what a turn over a list's items leaves -/
def Turn (it : Addr) (o : Obj) (s₀ : Shared) (J : Kn → Own → Prop) (QB : Shared → Prop) (Q : Flow → Shared → Prop) (f : Flow) (s : Shared) : Prop :=
  match f with
  | .next | .cont => Ex3 fun I' W₃ W' => All3 (St s₀ I' W₃ s) (Rem it (EqO o) W₃ W') (J I' W')
  | .brk => QB s
  | .ret v => Q (.ret v) s
theorem Turn.next {it : Addr} {o : Obj} {s₀ : Shared} {J : Kn → Own → Prop} {QB : Shared → Prop} {Q : Flow → Shared → Prop} {s : Shared} {I' : Kn} {W₃ W' : Own} (h : St s₀ I' W₃ s) (u : Rem it (EqO o) W₃ W') (j : J I' W') : Turn it o s₀ J QB Q .next s := ⟨_, _, _, h, u, j⟩
theorem Turn.ret {it : Addr} {o : Obj} {s₀ : Shared} {J : Kn → Own → Prop} {QB : Shared → Prop} {Q : Flow → Shared → Prop} {s : Shared} {v : Value} (h : Q (.ret v) s) : Turn it o s₀ J QB Q (.ret v) s := h

theorem forList {target : Expr} {body : List Stmt} {n : Nat} {QB : Shared → Prop} {Q : Flow → Shared → Prop} (r : Rm A 0) (J : Nat → Kn → Own → Prop)
    (hs : St s₀ I W s) (ha : I a = some (PySem.W.listOf vs.toArray n)) (h0 : J 0 I W) (hle : ∀ i I' W', J i I' W' → Kn.le I I')
    (go : ∀ it i v (s : Shared) (Q : Unit → Shared → Prop) E, vs[i]? = some v → s.heap.IsListIter it a (i + 1) → Q () s → wpAny (model prog w) A (letOwnedTupleGo target (.ref it) v) Q E s)
    (turn : ∀ i v I W it o s, vs[i]? = some v → J i I W → St s₀ I ((it, EqO o) :: W) s → wpAny (model prog w) A (assign target env v) (fun _ s₂ => wpAny (model prog w) A (execs body env) (Turn it o s₀ (J (i + 1)) QB Q) (fun _ _ => False) s₂) (fun _ _ => False) s)
    (done : ∀ I W s, J vs.length I W → St s₀ I W s → QB s) (hQ : ∀ s, QB s → Q .next s) :
    wpAny (model prog w) A (pyIter (.ref a)) (fun it s => codeAny (model prog w) A (.forLoop target it body [] env) (fun r s' => match r with | .ok f => Q f s' | .error e => cameBackBy (model prog w) A env E e s') s) E s := by
  have hl : HasL I W a vs := .inl ⟨n, ha⟩
  refine wpAny_pyIter_list (hs.isList hl) ?_
  have hne : a ≠ s.heap.objs.size := Nat.ne_of_lt (Heap.lt_size (hs.ok.keep _ _ ha))
  have Wk := Walks.list (prog := prog) (w := w) r.hh s.heap.objs.size a hne vs.toArray
  have hsz : vs.toArray.size = vs.length := by simp
  rw [hsz] at Wk
  refine forCore (W := W) (I₀ := I) (QB := QB) Wk (fun b hb => ?_) ?_ J hle (hs.put (tk := s.toks) (hs.ok.push rfl rfl)) ⟨⟨_, Heap.get?_push_size _ rfl, rfl, rfl⟩, (hs.isList hl).push _⟩ h0
    (fun i v s Q E hP hst hq => go _ i v s Q E (by simpa using hP) hst.1 hq)
    (fun i v I W o s hi hP hJ hs' => wpAny_mono (turn i v I W _ o s (by simpa using hP) hJ hs') (fun _ s₂ h₂ => wpAny_mono h₂ (fun f s₃ h₃ => by cases f <;> exact h₃) fun _ _ q => q) fun _ _ q => q) done hQ
  · rcases List.mem_cons.mp hb with e | hb
    · exact .inl e
    · exact .inr ⟨_, (List.mem_singleton.mp hb) ▸ ha⟩
  · rintro i h ⟨⟨o, ho, _⟩, _⟩; exact ⟨o, ho⟩

/-- for x in a list that is known: what the head must give -/
def ForL (prog : Program) (w : World) (A : Around) (env : Env) (target : Expr) (body : List Stmt) (QR : Value → Shared → Prop) (k : Shared → Prop) (xv : Value) (s : Shared) : Prop :=
  Ex8 fun a n (vs : List Value) s₀ I W (J : Nat → Kn → Own → Prop) (Post : Shared → Prop) => All9 (xv = .ref a) (St s₀ I W s) (I a = some (PySem.W.listOf vs.toArray n)) (J 0 I W) ((∀ i I' W', J i I' W' → Kn.le I I')) ((∀ i v I W it o s, vs[i]? = some v → J i I W → St s₀ I ((it, EqO o) :: W) s → wpAny (model prog w) A (assign target env v) (fun _ s₂ => wpAny (model prog w) A (execs body env) (Turn it o s₀ (J (i + 1)) Post (fun f s => match f with | .ret v => QR v s | _ => False)) (fun _ _ => False) s₂) (fun _ _ => False) s)) ((∀ I W s, J vs.length I W → St s₀ I W s → Post s)) ((∀ s, Post s → k s)) (((∀ (it v : Value), letOwnedTupleGo target it v = pure ()) ∨ (Ex3 fun elts k p => target = .Tuple elts k p) ∧ ∀ (i : Nat) (v : Value), vs[i]? = some v → ∃ T : Addr, v = Value.ref T))
theorem xForL {target iter : Expr} {body : List Stmt} {Q : Flow → Shared → Prop} (r : Rm A 0)
    (h : wpAny (model prog w) A (eval iter env) (ForL prog w A env target body (fun v => Q (.ret v)) (fun s => wpAny (model prog w) A (execs rest env) Q E s)) E s)
    (hs : ∀ x, foldedSetIterable iter env x = pure x := by intro _; rfl) :
    wpAny (model prog w) A (execs (.For target iter body [] pos :: rest) env) Q E s := by
  refine wpAny_execs_cons (wpAny_For (wpAny_mono h (fun xv s₁ h₁ => ?_) fun _ _ q => q) hs)
  obtain ⟨a, n, vs, s₀, I, W, J, Post, rfl, hst, ha, h0, hle, turn, done, hp, hg⟩ := h₁
  refine forList (Q := fun f s => match f with | .next => wpAny (model prog w) A (execs rest env) Q E s | f => Q f s) r J hst ha h0 hle ?_ (QB := Post) (fun i v I W it o s e hJ hs => wpAny_mono (turn i v I W it o s e hJ hs) (fun _ s₂ h₂ => wpAny_mono h₂ (fun f s₃ h₃ => ?_) fun _ _ q => q) fun _ _ q => q) done (fun s q => hp s q)
  · intro it i v s Q E e hit hq
    rcases hg with hg | ⟨⟨elts, k, p, rfl⟩, hr⟩
    · rw [hg]; exact wpAny_pure hq
    · obtain ⟨T, rfl⟩ := hr _ _ e
      exact wpAny_letOwnedTupleGo_listiter hit hq
  · cases f <;> exact h₃

/-- for x in range(a, b): what the head must give -/
def ForR (prog : Program) (w : World) (A : Around) (env : Env) (target : Expr) (body : List Stmt) (QR : Value → Shared → Prop) (k : Shared → Prop) (xv : Value) (s : Shared) : Prop :=
  Ex12 fun (l : Addr) (a b : Int) (t u v : Tok) (n : Nat) s₀ I W (J : Nat → Kn → Own → Prop) (Post : Shared → Prop) => All12 (xv = .ref l) (St s₀ I W s) (IsRange s.heap l a b 1 t u v) (-(2 ^ 62) ≤ a) (a < 2 ^ 62) (-(2 ^ 62) ≤ b) (b < 2 ^ 62) ((b - a).toNat = n) (J 0 I W) ((∀ i t I W it o s, i < n → J i I W → St s₀ I ((it, EqO o) :: W) s → wpAny (model prog w) A (assign target env (.int (a + i) t)) (fun _ s₂ => wpAny (model prog w) A (execs body env) (Turn it o s₀ (J (i + 1)) Post (fun f s => match f with | .ret v => QR v s | _ => False)) (fun _ _ => False) s₂) (fun _ _ => False) s)) ((∀ I W s, J n I W → St s₀ I W s → Post s)) ((∀ s, Post s → k s))
theorem xForR {target iter : Expr} {body : List Stmt} {Q : Flow → Shared → Prop} (r : Rm A 0)
    (h : wpAny (model prog w) A (eval iter env) (ForR prog w A env target body (fun v => Q (.ret v)) (fun s => wpAny (model prog w) A (execs rest env) Q E s)) E s)
    (hgo : ∀ it v, letOwnedTupleGo target it v = pure () := by intro _ _; rfl)
    (hs : ∀ x, foldedSetIterable iter env x = pure x := by intro _; rfl) :
    wpAny (model prog w) A (execs (.For target iter body [] pos :: rest) env) Q E s := by
  refine wpAny_execs_cons (wpAny_For (wpAny_mono h (fun xv s₁ h₁ => ?_) fun _ _ q => q) hs)
  obtain ⟨l, a, b, t, u, v, n, s₀, I, W, J, Post, rfl, hst, hr, ha, ha', hb, hb', hn, h0, turn, done, hp⟩ := h₁
  refine wpAny_pyIter_range hr (small_one ha ha' hb hb') ?_
  have Wk := Walks.range (prog := prog) (w := w) r.hh s₁.heap.objs.size a 1 n
  refine forCore (W := W) (I₀ := fun _ => none) (QB := Post) (Q := fun f s => match f with | .next => wpAny (model prog w) A (execs rest env) Q E s | f => Q f s) Wk (fun b hb => .inl (List.mem_singleton.mp hb)) (fun i h hs => ⟨_, hs⟩) J (fun _ _ _ _ _ _ e => nomatch e) (hst.put (tk := s₁.toks) (hst.ok.push rfl rfl)) ?_ h0
    (fun i v s Q E hP hst hq => by rw [hgo]; exact wpAny_pure hq)
    (fun i v I W o s hi hP hJ hs' => ?_) done (fun s q => hp s q)
  · show IsRangeIter _ _ _ _ _
    rw [rangeSize_nat, hn]
    have e1 : a + ((0 : Nat) : Int) * 1 = a := by omega
    have e2 : (n : Int) - ((0 : Nat) : Int) = n := by omega
    rw [e1, e2]
    exact Heap.get?_push_size _ rfl
  · obtain ⟨t', rfl⟩ := hP
    rw [Int.mul_one]
    refine wpAny_mono (turn i t' I W _ o s hi hJ hs') (fun _ s₂ h₂ => wpAny_mono h₂ (fun f s₃ h₃ => ?_) fun _ _ q => q) fun _ _ q => q
    cases f <;> exact h₃

/-! ### slices -/
def pick (vs : List Value) (lo hi : Option Int) : List Value := (slicePick vs.toArray lo hi none).toList
theorem xSlice {value : Expr} {lower upper : Option Expr} {p : Pos} {Q : Value → Shared → Prop}
    (h : wpAny (model prog w) A (eval value env) (fun o s₁ => wpAny (model prog w) A (evalPart lower env) (fun vl s₂ => wpAny (model prog w) A (evalPart upper env) (fun vu s₃ =>
      Ex7 fun a (vs : List Value) lo hi s₀ I W => All7 (o = .ref a) (St s₀ I W s₃) (HasL I W a vs) (vs.length ≤ sizeLine) (IsPart vl lo) (IsPart vu hi) (∀ c s', I c = none → St s₀ I ((c, LsO (pick vs lo hi)) :: W) s' → Q (.ref c) s')) E s₂) E s₁) E s)
    (ht : ∀ o r, letTemporaryGo value o r = pure () := by intro _ _; rfl) :
    wpAny (model prog w) A (eval (.Subscript value (.Slice lower upper none p) pos) env) Q E s := by
  refine wpAny_Subscript_list_slice (wpAny_mono h (fun o s₁ h₁ => wpAny_mono h₁ (fun vl s₂ h₂ => wpAny_mono h₂ (fun vu s₃ h₃ => ?_) fun _ _ q => q) fun _ _ q => q) fun _ _ q => q) ht
  obtain ⟨a, vs, lo, hi, s₀, I, W, rfl, hs, hl, hz, pl, pu, hq⟩ := h₃
  refine ⟨a, vs.toArray, lo, hi, rfl, hs.isList hl, by simpa using hz, pl, pu, ?_⟩
  have k1 : Ok I W (s₃.heap.push { cls := .type "slice", data := .fields #[vl, vu, .none] }) := hs.ok.ext fun b o e => Heap.get?_push_of_some _ e
  have k2 := k1.push (o := { cls := .type "list", data := .seq (slicePick vs.toArray lo hi none) }) (P := LsO (pick vs lo hi)) rfl ⟨0, by simp [pick, PySem.W.listOf]⟩
  rw [Heap.size_push] at k2
  exact hq _ _ (by have := k1.fresh; rwa [Heap.size_push] at this) (hs.put (tk := s₃.toks) k2)
theorem part_none {Q : Value → Shared → Prop} (h : Q .none s) : wpAny (model prog w) A (evalPart none env) Q E s := wpAny_pure h
theorem part_some {e : Expr} {Q : Value → Shared → Prop} (h : wpAny (model prog w) A (eval e env) Q E s) : wpAny (model prog w) A (evalPart (some e) env) Q E s := h
theorem pick_run {vs : List Value} {x y : Int} (h0 : 0 ≤ x) (h1 : x ≤ y) (h2 : y ≤ vs.length) : pick vs (some x) (some y) = (vs.drop x.toNat).take (y.toNat - x.toNat) := by
  obtain ⟨p, rfl⟩ := Int.eq_ofNat_of_zero_le h0
  obtain ⟨q, rfl⟩ := Int.eq_ofNat_of_zero_le (Int.le_trans h0 h1)
  unfold pick
  rw [slicePick_run vs.toArray p q (by simp; omega) (by omega)]
  simp
end

/-! # part R3 -/
section
variable {prog : Program} {w : World} {A : Around} {E : Value → Shared → Prop} {s s₀ : Shared} {I : Kn} {W W' : Own} {env : Env} {a b : Addr} {vs : List Value} {v v1 v2 v3 : Value} {pos tp px py : Pos} {rest : List Stmt}
/-- xs[x:y] of a known list of data: a new known list -/
theorem xSliceR {value : Expr} {lower upper : Option Expr} {p : Pos} {Q : Value → Shared → Prop}
    (h : wpAny (model prog w) A (eval value env) (fun o s₁ => wpAny (model prog w) A (evalPart lower env) (fun vl s₂ => wpAny (model prog w) A (evalPart upper env) (fun vu s₃ =>
      Ex8 fun ds x y tx ty s₀ I W => All9 (St s₀ I W s₃) (Rp I o (.list ds)) (ds.length ≤ sizeLine) (vl = .int x tx) (vu = .int y ty) (0 ≤ x) (x ≤ y) (y ≤ ds.length) (∀ J c s', Kn.le I J → Rp J (.ref c) (.list ((ds.drop x.toNat).take (y.toNat - x.toNat))) → St s₀ J W s' → Q (.ref c) s')) E s₂) E s₁) E s)
    (ht : ∀ o r, letTemporaryGo value o r = pure () := by intro _ _; rfl) :
    wpAny (model prog w) A (eval (.Subscript value (.Slice lower upper none p) pos) env) Q E s := by
  refine xSlice (wpAny_mono h (fun o s₁ h₁ => wpAny_mono h₁ (fun vl s₂ h₂ => wpAny_mono h₂ (fun vu s₃ h₃ => ?_) fun _ _ q => q) fun _ _ q => q) fun _ _ q => q) ht
  obtain ⟨ds, x, y, tx, ty, s₀, I, W, hs, hr, hz, rfl, rfl, h0, h1, h2, hq⟩ := h₃
  obtain ⟨a, vs, n, rfl, ea, ra⟩ := hr.listInv
  have hl : vs.length = ds.length := ra.length
  refine ⟨a, vs, _, _, _, _, _, rfl, hs, .inl ⟨_, ea⟩, by omega, .int _ _, .int _ _, fun c s' hc hs' => ?_⟩
  obtain ⟨oc, ⟨nc, rfl⟩, hJc, hs'⟩ := hs'.freeze .head
  rw [pick_run h0 h1 (by omega)] at hs'
  have hle := Kn.set_le (o := PySem.W.listOf ((vs.drop x.toNat).take (y.toNat - x.toNat)).toArray nc) hJc
  exact hq _ _ _ hle (.list Kn.set_self (((ra.mono hle).drop _).take _)) hs'
/-- a display whose parts are known: a new known tuple -/
theorem mkTR {Q : Value → Shared → Prop} {elts : List Expr} {k : Nat}
    (h : wpAny (model prog w) A (spliced (backTo pos (starEach elts env))) (fun vs s₁ => vs.length ≤ sizeLine ∧ Ex4 fun s₀ I W ds => All3 (St s₀ I W s₁) (RpA I vs ds) (∀ J a s', Kn.le I J → Rp J (.ref a) (.tuple ds) → St s₀ J W s' → Q (.ref a) s')) E s) :
    wpAny (model prog w) A (eval (.Tuple elts k pos) env) Q E s :=
  mkT (wpAny_mono h (fun vs s₁ h₁ => by
    obtain ⟨hl, s₀, I, W, ds, hs, ra, h₁⟩ := h₁
    refine ⟨hl, s₀, I, W, hs, fun a s' _ hs' => ?_⟩
    obtain ⟨oc, ⟨nc, rfl⟩, hJc, hs'⟩ := hs'.freeze .head
    have hle := Kn.set_le (o := ({ cls := .type "tuple", data := .seq vs.toArray nc } : Obj)) hJc
    exact h₁ _ _ _ hle (.tup Kn.set_self (ra.mono hle)) hs') fun _ _ q => q)
theorem mkLR {Q : Value → Shared → Prop} {elts : List Expr}
    (h : wpAny (model prog w) A (spliced (backTo pos (starEach elts env))) (fun vs s₁ => vs.length ≤ sizeLine ∧ Ex4 fun s₀ I W ds => All3 (St s₀ I W s₁) (RpA I vs ds) (∀ J a s', Kn.le I J → Rp J (.ref a) (.list ds) → St s₀ J W s' → Q (.ref a) s')) E s) :
    wpAny (model prog w) A (eval (.List elts pos) env) Q E s :=
  mkL (wpAny_mono h (fun vs s₁ h₁ => by
    obtain ⟨hl, s₀, I, W, ds, hs, ra, h₁⟩ := h₁
    refine ⟨hl, s₀, I, W, hs, fun a s' _ hs' => ?_⟩
    obtain ⟨oc, ⟨nc, rfl⟩, hJc, hs'⟩ := hs'.freeze .head
    have hle := Kn.set_le (o := PySem.W.listOf vs.toArray nc) hJc
    exact h₁ _ _ _ hle (.list Kn.set_self (ra.mono hle)) hs') fun _ _ q => q)
/-- + of two known lists: a new known list -/
theorem catR {ds es : List PyData} {Q : Value → Shared → Prop} (hs : St s₀ I W s) (hl : Rp I v1 (.list ds)) (hl' : Rp I v2 (.list es)) (hz : ds.length + es.length ≤ sizeLine) (h : ∀ J c s', Kn.le I J → Rp J (.ref c) (.list (ds ++ es)) → St s₀ J W s' → Q (.ref c) s') :
    wpAny (model prog w) A (binaryOp .Add v1 v2) Q E s := by
  obtain ⟨a, vs, n, rfl, ea, ra⟩ := hl.listInv
  obtain ⟨b, us, m, rfl, eb, rb⟩ := hl'.listInv
  refine catL hs (.inl ⟨_, ea⟩) (.inl ⟨_, eb⟩) (by rw [ra.length, rb.length]; exact hz) fun c s' _ hs' => ?_
  obtain ⟨oc, ⟨nc, rfl⟩, hJc, hs'⟩ := hs'.freeze .head
  have hle := Kn.set_le (o := PySem.W.listOf (vs ++ us).toArray nc) hJc
  exact h _ _ _ hle (.list Kn.set_self ((ra.mono hle).append (rb.mono hle))) hs'
end

/-! # part R4 -/

theorem Ok.sharp {I : Kn} {W : Own} {h : Heap} {a : Addr} {P : Obj → Prop} (k : Ok I ((a, P) :: W) h) : ∃ o, All3 (P o) (h.get? a = some o) (Ok I ((a, EqO o) :: W) h) := by
  obtain ⟨o, e, p⟩ := k.at' (.head _)
  exact ⟨o, p, e, k.weak .head fun o' e' => by rw [e] at e'; cases e'; rfl⟩
theorem St.sharp {s₀ s : Shared} {I : Kn} {W : Own} {a : Addr} {P : Obj → Prop} (x : St s₀ I ((a, P) :: W) s) : ∃ o, P o ∧ St s₀ I ((a, EqO o) :: W) s :=
  let ⟨o, p, _, k⟩ := x.ok.sharp; ⟨o, p, x.same, k⟩
/-- a weaker word of one that is owned -/
theorem St.imp {s₀ s : Shared} {I : Kn} {W W' : Own} {a : Addr} {P P' : Obj → Prop} (x : St s₀ I W s) (m : (a, P) ∈ W) (u : Upd a P' W W') (h : ∀ o, P o → P' o) : St s₀ I W' s := by
  obtain ⟨o, e, p⟩ := x.ok.at' m
  exact ⟨x.same, x.ok.weak u fun o' e' => by rw [e] at e'; cases e'; exact h o p⟩

section
variable {prog : Program} {w : World} {A : Around} {E : Value → Shared → Prop} {s s₀ : Shared} {I : Kn} {W W' : Own} {env : Env} {a b l : Addr} {vs us : List Value} {xs ns : List Int} {v v1 v2 v3 : Value} {pos tp px py : Pos} {rest : List Stmt} {t u : Tok} {k n : Int} {K : Frag} {p : Program} {loose : List Str}

/-! ### owned lists -/
theorem St.readsL {ds : List PyData} (x : St s₀ I W s) (h : HasL I W a vs) (r : RpA I vs ds) : ∃ as, Reads s.heap (.ref a) (.list ds) as := by
  obtain ⟨n, e⟩ := x.list h
  obtain ⟨as, q⟩ := r.reads x.ok.keep
  exact ⟨_, .list e rfl rfl q⟩
theorem eqLL {ds es : List PyData} {Q : Value → Shared → Prop} (hs : St s₀ I W s) (hr : Rm A 0) (ha : HasL I W a vs) (ra : RpA I vs ds) (hb : HasL I W b us) (rb : RpA I us es) (h1 : PySem.SeqAt.shaped (.list ds) = true) (h2 : PySem.SeqAt.shaped (.list es) = true) (hm : PySem.SeqAt.noMix (.list ds) (.list es) = true)
    (h : Q (.bool (Spec.same (.list ds) (.list es))) s) : wpAny (model prog w) A (compareOp .Eq (.ref a) (.ref b)) Q E s := by
  obtain ⟨as, qa⟩ := hs.readsL ha ra
  obtain ⟨bs, qb⟩ := hs.readsL hb rb
  exact eq_dataH_same qa qb h1 h2 (by have := hr.un; omega) hm h
theorem neLL {ds es : List PyData} {Q : Value → Shared → Prop} (hs : St s₀ I W s) (hr : Rm A 0) (ha : HasL I W a vs) (ra : RpA I vs ds) (hb : HasL I W b us) (rb : RpA I us es) (h1 : PySem.SeqAt.shaped (.list ds) = true) (h2 : PySem.SeqAt.shaped (.list es) = true) (hm : PySem.SeqAt.noMix (.list ds) (.list es) = true)
    (h : Q (.bool (!(Spec.same (.list ds) (.list es)))) s) : wpAny (model prog w) A (compareOp .NotEq (.ref a) (.ref b)) Q E s := by
  obtain ⟨as, qa⟩ := hs.readsL ha ra
  obtain ⟨bs, qb⟩ := hs.readsL hb rb
  exact ne_dataH_same qa qb h1 h2 (by have := hr.un; omega) hm h
theorem canA_ints : ∀ xs : List Int, PyData.canLayAll0 (xs.map .int) = true
  | [] => rfl
  | _ :: r => by show (true && PyData.canLayAll0 (r.map .int)) = true; rw [canA_ints r]; rfl
theorem depA_ints : ∀ xs : List Int, PyData.depthAll (xs.map .int) = 0
  | [] => rfl
  | x :: r => by show max (PyData.depth (.int x)) (PyData.depthAll (r.map .int)) = 0; rw [depA_ints r]; rfl
theorem sh_ints (xs : List Int) : PySem.SeqAt.shaped (.list (xs.map .int)) = true := by
  show (PyData.canLayAll0 (xs.map .int) && decide (PyData.depthAll (xs.map .int) + 1 ≤ 64)) = true
  rw [canA_ints, depA_ints]; rfl
theorem nm_ints : ∀ xs ys : List Int, PySem.SeqAt.noMixAll (xs.map .int) (ys.map .int) = true
  | [], [] => rfl
  | [], _ :: _ => rfl
  | _ :: _, [] => rfl
  | _ :: r, _ :: q => by show (true && PySem.SeqAt.noMixAll (r.map .int) (q.map .int)) = true; rw [nm_ints r q]; rfl
theorem same_iffD {a b : PyData} : Spec.same a b = true ↔ a = b := ⟨PyProof.Rows.eq_of_same a b, fun e => e ▸ Spec.same_self a⟩
theorem same_dec {a b : PyData} {c : Prop} [Decidable c] (h : a = b ↔ c) : Spec.same a b = decide c := by
  by_cases q : c
  · rw [decide_eq_true q]; exact same_iffD.mpr (h.mpr q)
  · rw [decide_eq_false q]
    cases e : Spec.same a b with
    | false => rfl
    | true => exact absurd (h.mp (same_iffD.mp e)) q
theorem same_ints (xs ys : List Int) : Spec.same (.list (xs.map .int)) (.list (ys.map .int)) = decide (xs = ys) := by
  refine same_dec ⟨fun e => ?_, fun e => by rw [e]⟩
  have : xs.map PyData.int = ys.map PyData.int := by injection e
  exact List.map_inj_right (fun a b h => by injection h) |>.mp this
/-- an owned or known list of ints against a known or owned one -/
theorem eqII {Q : Value → Shared → Prop} (hs : St s₀ I W s) (hr : Rm A 0) (ha : HasL I W a vs) (ra : IntsAre vs xs) (hb : HasL I W b us) (rb : IntsAre us ns) (h : Q (.bool (decide (xs = ns))) s) : wpAny (model prog w) A (compareOp .Eq (.ref a) (.ref b)) Q E s :=
  eqLL hs hr ha (.ofInts ra) hb (.ofInts rb) (sh_ints _) (sh_ints _) (nm_ints _ _) (by rw [same_ints]; exact h)
theorem neII {Q : Value → Shared → Prop} (hs : St s₀ I W s) (hr : Rm A 0) (ha : HasL I W a vs) (ra : IntsAre vs xs) (hb : HasL I W b us) (rb : IntsAre us ns) (h : Q (.bool (decide (xs ≠ ns))) s) : wpAny (model prog w) A (compareOp .NotEq (.ref a) (.ref b)) Q E s :=
  neLL hs hr ha (.ofInts ra) hb (.ofInts rb) (sh_ints _) (sh_ints _) (nm_ints _ _) (by rw [same_ints]; rw [show (!decide (xs = ns)) = decide (xs ≠ ns) from by by_cases e : xs = ns <;> simp [e]]; exact h)

theorem lsO_map {f : Array Value → Array Value} {n : Nat} (h : f vs.toArray = us.toArray) : LsO us (Obj.mapSeq f (PySem.W.listOf vs.toArray n)) :=
  ⟨if (f vs.toArray).size == vs.toArray.size then n else n + 1, by simp only [Obj.mapSeq, PySem.W.listOf, h]⟩
/-- list(xs) -/
theorem copyL {Q : Value → Shared → Prop} (hs : St s₀ I W s) (hl : HasL I W a vs) (hz : vs.length ≤ sizeLine) (h : ∀ c s', I c = none → St s₀ I ((c, LsO vs) :: W) s' → Q (.ref c) s') :
    wpAny (model prog w) A (call (.type "list") [.ref a]) Q E s := by
  obtain ⟨n, e⟩ := hs.list hl
  have hnone : s.heap.get? s.heap.objs.size = none := by
    cases q : s.heap.get? s.heap.objs.size with
    | none => rfl
    | some o => exact absurd (Heap.lt_size q) (Nat.lt_irrefl _)
  exact call_list_seq (hsz := by simpa using hz) a (.inl rfl) e rfl rfl fun h' c' hk hD => h _ _ hs.ok.fresh (hs.put (tk := s.toks) (hs.ok.add hnone hD ⟨c', rfl⟩ hk))
/-- xs.pop() -/
theorem popE {Q : Value → Shared → Prop} (hs : St s₀ I W s) (hm : (a, LsO (vs ++ [v])) ∈ W) (U : Upd a (LsO vs) W W') (hz : vs.length + 1 ≤ sizeLine) (h : ∀ s', St s₀ I W' s' → Q v s')
    (he : backTo pos (starEach [] env) = [] := by rfl) :
    wpAny (model prog w) A (callWith pos (.builtin "list.pop") [.ref a] (backTo pos (starEach [] env)) []) Q E s := by
  rw [he]
  obtain ⟨o, e, n, q⟩ := hs.ok.at' hm
  subst q
  refine P.pop_list (items := (vs ++ [v]).toArray) (n := n) (y := v) e (by simp) (h _ (hs.put (tk := s.toks) (hs.ok.updS U (Heap.SameBut.update ..) (Heap.get?_update_self _ e rfl) (lsO_map (by simp [List.eraseIdx_append_of_length_le]))))) (by simpa using hz)
/-- xs.pop(0) -/
theorem pop0 {e : Expr} {Q : Value → Shared → Prop}
    (h : wpAny (model prog w) A (eval e env) (fun i s₁ => Ex6 fun tk s₀ I W W' (vs : List Value) => All6 (i = .int 0 tk) (St s₀ I W s₁) ((a, LsO (v :: vs)) ∈ W) (Upd a (LsO vs) W W') (vs.length + 1 ≤ sizeLine) (∀ s', St s₀ I W' s' → Q v s')) E s)
    (he : backTo pos (starEach [e] env) = [(false, eval e env)] := by rfl) :
    wpAny (model prog w) A (callWith pos (.builtin "list.pop") [.ref a] (backTo pos (starEach [e] env)) []) Q E s := by
  rw [he]
  refine P.pop_at_list (wpAny_mono h (fun i s₁ h₁ => ?_) fun _ _ q => q)
  obtain ⟨tk, s₀, I, W, W', vs, rfl, hs, hm, U, hz, hq⟩ := h₁
  obtain ⟨o, eo, n, q⟩ := hs.ok.at' hm
  subst q
  refine ⟨(v :: vs).toArray, n, 0, tk, 0, v, by simpa using hz, rfl, eo, by decide, by simp [seqIndex?], by simp, hq _ (hs.put (tk := s₁.toks) (hs.ok.updS U (Heap.SameBut.update ..) (Heap.get?_update_self _ eo rfl) (lsO_map (by simp))))⟩
/-- xs[k] = v -/
theorem setL {Q : Unit → Shared → Prop} (hs : St s₀ I W s) (hm : (a, LsO vs) ∈ W) (h0 : 0 ≤ k) (h1 : k < vs.length) (hz : vs.length < 2 ^ 60) (U : Upd a (LsO (vs.set k.toNat v)) W W') (h : ∀ s', St s₀ I W' s' → Q () s') :
    wpAny (model prog w) A (setItem (.ref a) (.int k t) v) Q E s := by
  obtain ⟨o, e, n, q⟩ := hs.ok.at' hm
  subst q
  refine ki_setAt e h0 (by omega) (by simpa using h1) (h _ (hs.put (tk := s.toks) (hs.ok.updS U (Heap.SameBut.update ..) (Heap.get?_update_self _ e rfl) (lsO_map (by simp)))))
theorem xAssignS {o i : Expr} {pos' : Pos} {value : Expr} {Q : Flow → Shared → Prop}
    (h : wpAny (model prog w) A (eval value env) (fun v s₁ => wpAny (model prog w) A (eval o env) (fun ov s₂ => wpAny (model prog w) A (eval i env) (fun iv s₃ =>
      wpAny (model prog w) A (setItem ov iv v) (fun _ s₄ => wpAny (model prog w) A (execs rest env) Q E s₄) E s₃) E s₂) E s₁) E s)
    (hs : swapsWith value (some (.Subscript o i pos')) pos.line env = pure false := by rfl) :
    wpAny (model prog w) A (execs (.Assign [.Subscript o i pos'] value pos :: rest) env) Q E s := wpAny_execs_cons (wpAny_Assign_Subscript h hs)

/-! ### ints -/
theorem divI {x y : Int} {Q : Value → Shared → Prop} (hs : St s₀ I W s) (hb : y ≠ 0) (hy : y.natAbs < 1073741824) (h : ∀ t s', St s₀ I W s' → Q (.int (x.fdiv y) t) s') : wpAny (model prog w) A (binaryOp .FloorDiv (.int x t) (.int y u)) Q E s :=
  floordiv_int hb (h _ _ hs.toks) (.inl (PyProof.noPylong_small hy))
theorem negI {x : Int} {Q : Value → Shared → Prop} (hs : St s₀ I W s) (h : ∀ t s', St s₀ I W s' → Q (.int (-x) t) s') : wpAny (model prog w) A (unaryOp .USub (.int x t)) Q E s := neg_int (h _ _ hs.toks)
theorem absI {x : Int} {Q : Value → Shared → Prop} (hs : St s₀ I W s) (h : ∀ y t s', 0 ≤ y → St s₀ I W s' → Q (.int y t) s') : wpAny (model prog w) A (call (.builtin "abs") [.int x t]) Q E s :=
  call_abs_int fun u tk => h _ _ _ (by split <;> omega) hs.toks
theorem powI {x : Int} {Q : Value → Shared → Prop} (hs : St s₀ I W s) (h0 : 0 ≤ n) (h1 : n ≤ 1000000) (hx : x.natAbs < 2 ^ 64) (h : ∀ t s', St s₀ I W s' → Q (.int (x ^ n.toNat) t) s') : wpAny (model prog w) A (binaryOp .Pow (.int x t) (.int n u)) Q E s :=
  pow_int_small h0 h1 hx (h _ _ hs.toks)
theorem sumI {Q : Value → Shared → Prop} (hs : St s₀ I W s) (hr : Rm A 1) (hl : HasL I W a vs) (hi : IntsAre vs xs) (h : ∀ y t s', St s₀ I W s' → Q (.int y t) s') : wpAny (model prog w) A (call (.builtin "sum") [.ref a]) Q E s := by
  refine call_sum_walkG (wpAny_pyIter_list (hs.isList hl) ?_)
  have hne : a ≠ s.heap.objs.size := by obtain ⟨n, e⟩ := hs.list hl; exact Nat.ne_of_lt (Heap.lt_size e)
  have Wk := Walks.list (prog := prog) (w := w) (A := A.in1) hr.hh s.heap.objs.size a hne vs.toArray
  have hsz : vs.toArray.size = xs.length := by simp [hi.length]
  rw [hsz] at Wk
  refine ⟨_, _, _, _, _, _, fun i => xs.getD i 0, rfl, Wk, ⟨⟨_, Heap.get?_push_size _ rfl, rfl, rfl⟩, (hs.isList hl).push _⟩, fun b hb => ?_, fun i v hP => ?_, fun h' tk t' hk => h _ _ _ (hs.put ?_)⟩
  · rw [Heap.size_push]
    rcases List.mem_cons.mp hb with e | hb
    · rw [e]; exact Nat.lt_succ_self _
    · obtain ⟨n, e⟩ := hs.list hl
      exact Nat.lt_succ_of_lt ((List.mem_singleton.mp hb) ▸ Heap.lt_size e)
  · have hP' : vs[i]? = some v := by simpa using hP
    have hlt : i < xs.length := by rw [← hi.length]; exact (List.getElem?_eq_some_iff.mp hP').1
    obtain ⟨t, e⟩ := hi.get i _ (List.getElem?_eq_getElem hlt)
    rw [e] at hP'; cases hP'
    exact ⟨t, by show Value.int xs[i] t = Value.int (xs.getD i 0) t; rw [List.getD_eq_getElem?_getD, List.getElem?_eq_getElem hlt]; rfl⟩
  · exact hs.ok.ext fun b o e => hk b o (by simpa using Nat.ne_of_lt (Heap.lt_size e)) (Heap.get?_push_of_some _ e)

/-! ### a rule of the ledger's, used here -/
def allOf (h : Heap) (L : Addr) : List (Addr × Obj) := (List.range h.objs.size).filterMap fun a => if a = L then none else (h.get? a).map fun o => (a, o)
theorem mem_allOf {h : Heap} {L a : Addr} {o : Obj} (e : h.get? a = some o) (n : a ≠ L) : (a, o) ∈ allOf h L :=
  List.mem_filterMap.mpr ⟨a, List.mem_range.mpr (Heap.lt_size e), by rw [if_neg n, e]; rfl⟩
theorem news_allOf {h : Heap} {L : Addr} : News {} L h (allOf h L) := by
  intro p hp
  obtain ⟨a, ha, e⟩ := List.mem_filterMap.mp hp
  by_cases n : a = L
  · rw [if_pos n] at e; cases e
  · rw [if_neg n] at e
    cases q : h.get? a with
    | none => rw [q] at e; cases e
    | some o => rw [q] at e; cases e; exact ⟨q, n, rfl⟩
theorem fr_none {h : Heap} {L : Addr} {m : Str → Option Value} (n : h.Ns L m) : Fr {} L h m := by
  refine ⟨n, fun b o e => ?_, Nat.zero_le _⟩
  have q : (({} : Heap).get? b) = none := rfl
  rw [q] at e
  cases e
theorem St.viaN {L : Addr} {m : Str → Option Value} {h' : Heap} {tk : Nat} (x : St s₀ I W s) (hm : (L, NsO m) ∈ W) (F : Fr {} L h' m) (N : News {} L h' (allOf s.heap L)) : St s₀ I W { s with heap := h', toks := tk } := by
  refine x.put ⟨fun b o e => ?_, fun p hp => ⟨(x.ok.own p hp).1, ?_⟩, x.ok.nd⟩
  · have hb : b ≠ L := fun q => by rw [q, (x.ok.own _ hm).1] at e; cases e
    exact (N _ (mem_allOf (x.ok.keep _ _ e) hb)).1
  · by_cases q : p.1 = L
    · have : p = (L, NsO m) := by
        have nd := x.ok.nd
        obtain ⟨i, hi, e1⟩ := List.getElem_of_mem hp
        obtain ⟨j, hj, e2⟩ := List.getElem_of_mem hm
        have h1 : (W.map (·.1))[i]'(by simpa using hi) = (W.map (·.1))[j]'(by simpa using hj) := by simp [e1, e2, q]
        have h2 : i = j := by rw [← nd.idxOf_getElem i (by simpa using hi), ← nd.idxOf_getElem j (by simpa using hj), h1]
        subst h2
        rw [← e1, ← e2]
      rw [this]
      obtain ⟨o, es, ep, e, r⟩ := F.ns
      exact ⟨o, e, es, ep, r⟩
    · obtain ⟨_, o, e, r⟩ := x.ok.own p hp
      exact ⟨o, (N _ (mem_allOf e q)).1, r⟩
theorem maxI {L : Addr} {m : Str → Option Value} {x y : Int} {Q : Value → Shared → Prop} (hs : St s₀ I W s) (hr : Rm A 0) (hm : (L, NsO m) ∈ W) (h : ∀ t s', St s₀ I W s' → Q (.int (max x y) t) s') : wpAny (model prog w) A (call (.builtin "max") [.int x t, .int y u]) Q E s := by
  refine max_two_N hr.hh (fr_none (hs.ns hm)) news_allOf fun h' tk F N => ?_
  rw [show (if y > x then y else x) = max x y from by rw [Int.max_def]; split <;> split <;> omega]
  exact h _ _ (hs.viaN hm F N)
theorem minI {L : Addr} {m : Str → Option Value} {x y : Int} {Q : Value → Shared → Prop} (hs : St s₀ I W s) (hr : Rm A 0) (hm : (L, NsO m) ∈ W) (h : ∀ t s', St s₀ I W s' → Q (.int (min x y) t) s') : wpAny (model prog w) A (call (.builtin "min") [.int x t, .int y u]) Q E s := by
  refine min_two_N hr.hh (fr_none (hs.ns hm)) news_allOf fun h' tk F N => ?_
  rw [show (if y < x then y else x) = min x y from by rw [Int.min_def]; split <;> split <;> omega]
  exact h _ _ (hs.viaN hm F N)
end

/-! # part R5 -/

/-! ### list comprehensions -/
theorem Ok.addFresh {I : Kn} {W W' : Own} {h h' : Heap} {D : Addr} {P : Obj → Prop} {o : Obj} (k : Ok I W h) (hD : h.get? D = none) (k' : Ok I W' h') (ha : W'.map (·.1) = W.map (·.1)) (e : h'.get? D = some o) (p : P o) : Ok I ((D, P) :: W') h' := by
  refine ⟨k'.keep, fun q hq => ?_, ?_⟩
  · rcases List.mem_cons.mp hq with rfl | hq
    · exact ⟨k.free hD, o, e, p⟩
    · exact k'.own q hq
  · refine List.nodup_cons.mpr ⟨fun hm => ?_, k'.nd⟩
    have hm' : D ∈ W'.map (·.1) := hm
    rw [ha] at hm'
    obtain ⟨q, hq, rfl⟩ := List.mem_map.mp hm'
    obtain ⟨_, o, x, _⟩ := k.own q hq
    rw [hD] at x; cases x
def NsK (I : Kn) (C : Addr) (m : Str → Option Value) : Prop := ∃ o, I C = some o ∧ NsO m o
def CeK (I : Kn) (c : Addr) (v : Value) : Prop := ∃ o, I c = some o ∧ CeO (some v) o
section
variable {prog : Program} {w : World} {A : Around} {E : Value → Shared → Prop} {s s₀ : Shared} {I : Kn} {W W' : Own} {env : Env} {m : Str → Option Value} {x : Str} {pos : Pos} {v : Value} {K : Frag} {p : Program} {loose : List Str}
  {cn : Str} {cs sc : Scope} {L f C : Addr} {ccd : Value} {cl cl' : List (Str × Addr)}
theorem nK {Q : Value → Shared → Prop} (hs : St s₀ I W s) (hn : NsK I env.locals m) (hv : m x = some v) (h : Q v s)
    (hk : env.scope.kind = .function := by rfl) (hx : env.kindOf x = some .local := by rfl) (hd : (x == ("__debug__" : Str)) = false := by decide) :
    wpAny (model prog w) A (eval (.Name x pos) env) Q E s :=
  wpAny_Name (wpAny_loadName_local hk hx (let ⟨o, e, es, ep, r⟩ := hn; ⟨o, es, ep, hs.ok.keep _ _ e, r⟩) hv h) hd
theorem nKC {Q : Value → Shared → Prop} {c : Addr} (hs : St s₀ I W s) (hc : env.cells.lookup x = some c) (hn : CeK I c v) (h : Q v s)
    (hk : env.scope.kind = .function := by rfl) (hx : env.kindOf x = some .cell := by rfl) (hd : (x == ("__debug__" : Str)) = false := by decide) :
    wpAny (model prog w) A (eval (.Name x pos) env) Q E s :=
  wpAny_Name (wpAny_loadName_cell hk hx hc (let ⟨o, e, r⟩ := hn; ⟨o, hs.ok.keep _ _ e, r⟩) h) hd
theorem nKB {Q : Value → Shared → Prop} (hs : St s₀ I W s) (g : GE K p loose I) (e : nsIn K mainGlobals x = some none) (hv : bootBuiltins x = some v) (hn : x ≠ "__name__") (h : Q v s)
    (hk : sc.kind = .function := by rfl) (hx : (compEnv sc C (envX cn cs L f ccd cl)).kindOf x = some .globalImplicit := by rfl) (hd : (x == ("__debug__" : Str)) = false := by decide) :
    wpAny (model prog w) A (eval (.Name x pos) (compEnv sc C (envX cn cs L f ccd cl))) Q E s := by
  obtain ⟨G, mg, mb, X, T, k⟩ := g
  have kk : ∀ b o, G.get? b = some o → s.heap.get? b = some o := fun b o q => hs.ok.keep _ _ (k _ _ q)
  exact Name_function_global hk hx (loadGlobal_builtin (env := compEnv sc C (envX cn cs L f ccd cl)) (T.g.keeps kk) (mg_none_of X T.g e) (T.b.keeps kk) ((T.builtins x hn).trans hv) h) hd
theorem nKBC {Q : Value → Shared → Prop} (hs : St s₀ I W s) (g : GE K p loose I) (e : nsIn K mainGlobals x = some none) (hv : bootBuiltins x = some v) (hn : x ≠ "__name__") (h : Q v s)
    (hk : sc.kind = .function := by rfl) (hx : (compEnvC sc cl' C (envX cn cs L f ccd cl)).kindOf x = some .globalImplicit := by rfl) (hd : (x == ("__debug__" : Str)) = false := by decide) :
    wpAny (model prog w) A (eval (.Name x pos) (compEnvC sc cl' C (envX cn cs L f ccd cl))) Q E s := by
  obtain ⟨G, mg, mb, X, T, k⟩ := g
  have kk : ∀ b o, G.get? b = some o → s.heap.get? b = some o := fun b o q => hs.ok.keep _ _ (k _ _ q)
  exact Name_function_global hk hx (loadGlobal_builtin (env := compEnvC sc cl' C (envX cn cs L f ccd cl)) (T.g.keeps kk) (mg_none_of X T.g e) (T.b.keeps kk) ((T.builtins x hn).trans hv) h) hd
end

/-- all that stands, taken as known -/
def allK (s : Shared) : Kn := fun b => s.heap.get? b
theorem St.all (s : Shared) : St s (allK s) [] s := ⟨⟨_, _, rfl⟩, ⟨fun _ _ e => e, fun _ h => (nomatch h), List.nodup_nil⟩⟩
theorem St.keeps {s s' : Shared} (x : St s (allK s) [] s') : Keeps s s' := by
  obtain ⟨h, tk, rfl⟩ := x.same
  exact ⟨h, tk, rfl, x.ok.keep⟩
theorem allK_le {s : Shared} {I : Kn} (h : ∀ b o, I b = some o → s.heap.get? b = some o) : Kn.le I (allK s) := h
theorem allK_ns {s : Shared} {C : Addr} {m : Str → Option Value} (h : s.heap.Ns C m) : NsK (allK s) C m := let ⟨o, es, ep, e, r⟩ := h; ⟨o, e, es, ep, r⟩

section
variable {prog : Program} {w : World} {A : Around} {E : Value → Shared → Prop} {s s₀ : Shared} {I : Kn} {W W' : Own} {m : Str → Option Value} {v : Value} {cn : Str} {cs : Scope} {L f C : Addr} {ccd : Value} {cl : List (Str × Addr)} {rest : List Stmt} {env : Env}

theorem ext_of {α : Type} {xs ys : List α} (hl : ys.length = xs.length) (h : ∀ (j : Nat) (v : α), ys[j]? = some v → xs[j]? = some v) : ys = xs := by
  refine List.ext_getElem? fun j => ?_
  cases e : ys[j]? with
  | some v => exact (h j v e).symm
  | none => rw [List.getElem?_eq_none_iff] at e; exact (List.getElem?_eq_none (by omega)).symm

/-- ys = [elt for x in list] -/
theorem xAssignCompL {elt iter : Expr} {x y : Str} {px py : Pos} {scope : Scope} {pos spos : Pos} {Q : Flow → Shared → Prop} (F : Value → Value → Prop) (r : Rm A 0)
    (h : wpAny (model prog w) A (eval iter (envX cn cs L f ccd cl)) (fun xv s₁ => Ex7 fun a n s₀ I W m (vs : List Value) => All6 (xv = .ref a) (St s₀ I ((L, NsO m) :: W) s₁) (I a = some (PySem.W.listOf vs.toArray n)) (vs.length ≤ sizeLine) ((∀ C v m₃ J s₃ E', v ∈ vs → m₃ x = some v → NsK J C m₃ → Kn.le I J → St s₃ J [] s₃ → wpAny (model prog w) A (eval elt (compEnv scope C (envX cn cs L f ccd cl))) (fun y s₄ => F v y ∧ St s₃ J [] s₄) E' s₃)) ((∀ D ys s', Paired F vs ys → St s₀ I ((D, LsO ys) :: (L, NsO (upd m y (.ref D))) :: W) s' → wpAny (model prog w) A (execs rest (envX cn cs L f ccd cl)) Q E s'))) E s)
    (hsw : swapsWith (.ListComp elt [⟨.Name x px, iter, [], 0⟩] scope pos) (some (.Name y py)) spos.line (envX cn cs L f ccd cl) = pure true := by rfl)
    (hfree : ∀ z ∈ scope.names, z.2 ≠ .free := by decide) (hcell : ∀ z ∈ scope.names, z.2 ≠ .cell := by decide) (hkind : scope.kind = .function := by rfl)
    (hnames : ∀ z ∈ scope.names, z.2 = .local → scope.names.lookup z.1 = some .local := by decide) (hx : scope.names.lookup x = some .local := by rfl)
    (hy : (envX cn cs L f ccd cl).kindOf y = some .local := by rfl) (hp : cs.kind = .function := by rfl)
    (hs : ∀ x, foldedSetIterable iter (envX cn cs L f ccd cl) x = pure x := by intro _; rfl) :
    wpAny (model prog w) A (execs (.Assign [.Name y py] (.ListComp elt [⟨.Name x px, iter, [], 0⟩] scope pos) spos :: rest) (envX cn cs L f ccd cl)) Q E s := by
  refine wpAny_execs_cons (wpAny_Assign_ListComp_walk (fun _ => true) F hsw hfree hcell hkind hnames hx hy (by show (cs.kind == .class || (cs.kind == .module && L != mainGlobals)) = false; rw [hp]; rfl) ?_ hs)
  refine wpAny_mono h (fun xv s₁ h₁ => ?_) fun _ _ q => q
  obtain ⟨a, n, s₀, I, W, m, vs, rfl, hs₁, ha, hz, helt, hfin⟩ := h₁
  have hl : HasL I ((L, NsO m) :: W) a vs := .inl ⟨n, ha⟩
  have hne : a ≠ s₁.heap.objs.size := Nat.ne_of_lt (Heap.lt_size (hs₁.ok.keep _ _ ha))
  have hLne : L ≠ s₁.heap.objs.size := by obtain ⟨o, e, _⟩ := hs₁.ok.at' (.head _); exact Nat.ne_of_lt (Heap.lt_size e)
  refine wpAny_pyIter_list (hs₁.isList hl) ?_
  have Wk := Walks.list (prog := prog) (w := w) r.hh s₁.heap.objs.size a hne vs.toArray
  have keepI : ∀ (ito : Obj) (s₃ : Shared), (∀ b o, b ∉ [s₁.heap.objs.size] → (s₁.heap.push ito).get? b = some o → s₃.heap.get? b = some o) → ∀ b o, I b = some o → s₃.heap.get? b = some o := fun ito s₃ hk b o e =>
    hk b o (fun q => by have := Heap.lt_size (hs₁.ok.keep _ _ e); rw [List.mem_singleton.mp q] at this; exact Nat.lt_irrefl _ this) (Heap.get?_push_of_some _ (hs₁.ok.keep _ _ e))
  refine ⟨_, _, _, _, _, _, m, rfl, Wk, by simpa using hz, ⟨⟨_, Heap.get?_push_size _ rfl, rfl, rfl⟩, (hs₁.isList hl).push _⟩, fun b hb => ?_, fun q => hLne (List.mem_singleton.mp q), ?_, ⟨?_, ?_⟩, ?_⟩
  · rw [Heap.size_push]
    rcases List.mem_cons.mp hb with e | hb
    · rw [e]; exact Nat.lt_succ_self _
    · exact Nat.lt_succ_of_lt ((List.mem_singleton.mp hb) ▸ Heap.lt_size (hs₁.ok.keep _ _ ha))
  · obtain ⟨o, es, ep, e, q⟩ := hs₁.ns (.head _)
    exact ⟨o, es, ep, Heap.get?_push_of_some _ e, q⟩
  · intro C i v s₃ m₃ E' hP hn hm hk htk
    exact wpAny_pure ⟨rfl, _, _, rfl, fun _ _ e => e⟩
  · intro C i v s₃ m₃ E' hP _ hn hm hk htk
    exact wpAny_mono (helt C v m₃ (allK s₃) s₃ E' (List.mem_of_getElem? (by simpa using hP)) hm (allK_ns hn) (allK_le (keepI _ s₃ hk)) (St.all s₃)) (fun y s₄ q => ⟨q.1, q.2.keeps⟩) fun _ _ q => q
  · intro D h' tk ys vs' hD hDl hDp hlen hP hF hn hk
    have hvs : vs' = vs := ext_of (by simpa using hlen) fun j v e => by simpa using hP j v e
    subst hvs
    rw [show vs'.filter (fun _ => true) = vs' from by simp] at hF
    obtain ⟨nD, eD⟩ := hDp
    have hD0 : s₁.heap.get? D = none := by
      cases e : s₁.heap.get? D with
      | none => rfl
      | some o => exact absurd (hD.symm.trans (Heap.get?_push_of_some _ e)) (fun q => nomatch q)
    have hkk : ∀ b o, b ≠ L → s₁.heap.get? b = some o → h'.get? b = some o := fun b o hb e =>
      hk b o hb (fun q => by have := Heap.lt_size e; rw [List.mem_singleton.mp q] at this; exact Nat.lt_irrefl _ this) (Heap.get?_push_of_some _ e)
    obtain ⟨oL, es, ep, eL, qL⟩ := hn
    have k1 : Ok I ((L, NsO (upd m y (.ref D))) :: W) h' := hs₁.ok.upd .head hkk eL ⟨es, ep, qL⟩
    exact hfin D ys.toList _ hF (hs₁.put (hs₁.ok.addFresh hD0 k1 rfl eD ⟨nD, by simp⟩))
end

/-! # part R6 -/
section
variable {prog : Program} {w : World} {A : Around} {E : Value → Shared → Prop} {s s₀ : Shared} {I : Kn} {W W' : Own} {m : Str → Option Value} {v : Value} {cn : Str} {cs : Scope} {L f C : Addr} {ccd : Value} {cl : List (Str × Addr)} {rest : List Stmt} {env : Env}

theorem forIn1 {M : Model} {c : Expr} {Q : Bool → Shared → Prop} (h : wpAny M A (isTrue c env (eval c env)) Q E s) :
    wpAny M A (forIn [c] true fun c r => if r = true then do let ok ← isTrue c env (eval c env); pure (ForInStep.yield ok) else pure (ForInStep.yield r)) Q E s := by
  simp only [List.forIn_cons, List.forIn_nil]
  refine wpAny_bind (wpAny_mono (Q := fun r s' => ∃ ok, r = ForInStep.yield ok ∧ Q ok s') ?_ ?_ fun _ _ q => q)
  · rw [if_pos trivial]
    exact wpAny_bind (wpAny_mono h (fun ok s' q => wpAny_pure ⟨ok, rfl, q⟩) fun _ _ q => q)
  · rintro _ s' ⟨ok, rfl, q⟩
    exact wpAny_pure q
theorem Walks.lt {it : Addr} {fp wr : List Addr} {n : Nat} {P : Nat → Value → Prop} {Stt : Nat → Heap → Prop} (k : Walks prog w A it fp wr n P Stt) : Walks prog w A it fp wr n (fun i v => i < n ∧ P i v) Stt :=
  { k with item := fun i s Q E hi st hQ => k.item i s Q E hi st fun v h' tk hP => hQ v h' tk ⟨hi, hP⟩ }
/-- what is owned, as known -/
def WK (W : Own) (J : Kn) : Prop := ∀ q ∈ W, ∃ o, J q.1 = some o ∧ q.2 o

/-- [elt for x in list if c], with free names -/
theorem compLC {elt iter c : Expr} {x : Str} {px : Pos} {scope : Scope} {pos : Pos} {Q : Value → Shared → Prop} (p : Value → Bool) (F : Value → Value → Prop) (r : Rm A 0) (cl' : List (Str × Addr))
    (h : wpAny (model prog w) A (eval iter env) (fun xv s₁ => Ex6 fun a n s₀ I W (vs : List Value) => All7 (xv = .ref a) (St s₀ I W s₁) (I a = some (PySem.W.listOf vs.toArray n)) (vs.length ≤ sizeLine) ((∀ C v m₃ J s₃ E', v ∈ vs → m₃ x = some v → NsK J C m₃ → Kn.le I J → WK W J → St s₃ J [] s₃ → wpAny (model prog w) A (isTrue c (compEnvC scope cl' C env) (eval c (compEnvC scope cl' C env))) (fun ok s₄ => ok = p v ∧ St s₃ J [] s₄) E' s₃)) ((∀ C v m₃ J s₃ E', v ∈ vs → p v = true → m₃ x = some v → NsK J C m₃ → Kn.le I J → WK W J → St s₃ J [] s₃ → wpAny (model prog w) A (eval elt (compEnvC scope cl' C env)) (fun y s₄ => F v y ∧ St s₃ J [] s₄) E' s₃)) ((∀ D ys s', Paired F (vs.filter p) ys → St s₀ I ((D, LsO ys) :: W) s' → Q (.ref D) s'))) E s)
    (hclos : closureFor scope env = pure cl') (hcell : ∀ z ∈ scope.names, z.2 ≠ .cell := by decide) (hkind : scope.kind = .function := by rfl)
    (hnames : ∀ z ∈ scope.names, z.2 = .local → scope.names.lookup z.1 = some .local := by decide) (hx : scope.names.lookup x = some .local := by rfl)
    (hs : ∀ x, foldedSetIterable iter env x = pure x := by intro _; rfl) :
    wpAny (model prog w) A (eval (.ListComp elt [⟨.Name x px, iter, [c], 0⟩] scope pos) env) Q E s := by
  refine wpAny_ListComp_free p F hclos hcell hkind hnames hx ?_ hs
  refine wpAny_mono h (fun xv s₁ h₁ => ?_) fun _ _ q => q
  obtain ⟨a, n, s₀, I, W, vs, rfl, hs₁, ha, hz, htest, helt, hfin⟩ := h₁
  have hl : HasL I W a vs := .inl ⟨n, ha⟩
  have hne : a ≠ s₁.heap.objs.size := Nat.ne_of_lt (Heap.lt_size (hs₁.ok.keep _ _ ha))
  refine wpAny_pyIter_list (hs₁.isList hl) ?_
  have Wk := Walks.list (prog := prog) (w := w) r.hh s₁.heap.objs.size a hne vs.toArray
  have keep1 : ∀ (ito : Obj) (s₃ : Shared), (∀ b o, b ∉ [s₁.heap.objs.size] → (s₁.heap.push ito).get? b = some o → s₃.heap.get? b = some o) → ∀ b o, s₁.heap.get? b = some o → s₃.heap.get? b = some o := fun ito s₃ hk b o e =>
    hk b o (fun q => by have := Heap.lt_size e; rw [List.mem_singleton.mp q] at this; exact Nat.lt_irrefl _ this) (Heap.get?_push_of_some _ e)
  have wk : ∀ (s₃ : Shared), (∀ b o, s₁.heap.get? b = some o → s₃.heap.get? b = some o) → WK W (allK s₃) := fun s₃ hk q hq => by
    obtain ⟨_, o, e, po⟩ := hs₁.ok.own q hq
    exact ⟨o, hk _ _ e, po⟩
  refine ⟨_, _, _, _, _, _, rfl, Wk, by simpa using hz, ⟨⟨_, Heap.get?_push_size _ rfl, rfl, rfl⟩, (hs₁.isList hl).push _⟩, fun b hb => ?_, ⟨?_, ?_⟩, ?_⟩
  · rw [Heap.size_push]
    rcases List.mem_cons.mp hb with e | hb
    · rw [e]; exact Nat.lt_succ_self _
    · exact Nat.lt_succ_of_lt ((List.mem_singleton.mp hb) ▸ Heap.lt_size (hs₁.ok.keep _ _ ha))
  · intro C i v s₃ m₃ E' _ hP hn hm hk htk
    have k1 := keep1 _ s₃ hk
    exact forIn1 (wpAny_mono (htest C v m₃ (allK s₃) s₃ E' (List.mem_of_getElem? (by simpa using hP)) hm (allK_ns hn) (allK_le fun b o e => k1 _ _ (hs₁.ok.keep _ _ e)) (wk s₃ k1) (St.all s₃)) (fun y s₄ q => ⟨q.1, q.2.keeps⟩) fun _ _ q => q)
  · intro C i v s₃ m₃ E' _ hP hp hn hm hk htk
    have k1 := keep1 _ s₃ hk
    exact wpAny_mono (helt C v m₃ (allK s₃) s₃ E' (List.mem_of_getElem? (by simpa using hP)) hp hm (allK_ns hn) (allK_le fun b o e => k1 _ _ (hs₁.ok.keep _ _ e)) (wk s₃ k1) (St.all s₃)) (fun y s₄ q => ⟨q.1, q.2.keeps⟩) fun _ _ q => q
  · intro D h' tk ys vs' hD hDl hDp hlen hP hF hk
    have hvs : vs' = vs := ext_of (by simpa using hlen) fun j v e => by simpa using hP j v e
    subst hvs
    obtain ⟨nD, eD⟩ := hDp
    have hD0 : s₁.heap.get? D = none := by
      cases e : s₁.heap.get? D with
      | none => rfl
      | some o => exact absurd (hD.symm.trans (Heap.get?_push_of_some _ e)) (fun q => nomatch q)
    have hkk : ∀ b o, s₁.heap.get? b = some o → h'.get? b = some o := fun b o e =>
      hk b o (fun q => by have := Heap.lt_size e; rw [List.mem_singleton.mp q] at this; exact Nat.lt_irrefl _ this) (Heap.get?_push_of_some _ e)
    exact hfin D ys.toList _ hF (hs₁.put (hs₁.ok.addFresh hD0 (hs₁.ok.ext hkk) rfl eD ⟨nD, by simp⟩))

/-- ys = [elt for x in range if c], with free names -/
theorem xAssignCompRC {elt iter c : Expr} {x y : Str} {px py : Pos} {scope : Scope} {pos spos : Pos} {Q : Flow → Shared → Prop} (p : Value → Bool) (F : Value → Value → Prop) (r : Rm A 0) (cl' : List (Str × Addr))
    (h : wpAny (model prog w) A (eval iter (envX cn cs L f ccd cl)) (fun xv s₁ => Ex9 fun l s₀ I W m t u v n => All7 (xv = .ref l) (St s₀ I ((L, NsO m) :: W) s₁) (IsRange s₁.heap l 0 (n : Nat) 1 t u v) (n ≤ 1000) ((∀ C i t m₃ J s₃ E', i < n → m₃ x = some (.int (i : Nat) t) → NsK J C m₃ → Kn.le I J → WK ((L, NsO m) :: W) J → St s₃ J [] s₃ → wpAny (model prog w) A (isTrue c (compEnvC scope cl' C (envX cn cs L f ccd cl)) (eval c (compEnvC scope cl' C (envX cn cs L f ccd cl)))) (fun ok s₄ => ok = p (.int (i : Nat) t) ∧ St s₃ J [] s₄) E' s₃)) ((∀ C i t m₃ J s₃ E', i < n → p (.int (i : Nat) t) = true → m₃ x = some (.int (i : Nat) t) → NsK J C m₃ → Kn.le I J → WK ((L, NsO m) :: W) J → St s₃ J [] s₃ → wpAny (model prog w) A (eval elt (compEnvC scope cl' C (envX cn cs L f ccd cl))) (fun y s₄ => F (.int (i : Nat) t) y ∧ St s₃ J [] s₄) E' s₃)) ((∀ D ys vs s', List.length (α := Value) vs = n → (∀ (j : Nat) v, vs[j]? = some v → ∃ t, v = .int (j : Nat) t) → Paired F (vs.filter p) ys → St s₀ I ((D, LsO ys) :: (L, NsO (upd m y (.ref D))) :: W) s' → wpAny (model prog w) A (execs rest (envX cn cs L f ccd cl)) Q E s'))) E s)
    (hclos : closureFor scope (envX cn cs L f ccd cl) = pure cl')
    (hsw : swapsWith (.ListComp elt [⟨.Name x px, iter, [c], 0⟩] scope pos) (some (.Name y py)) spos.line (envX cn cs L f ccd cl) = pure true := by rfl)
    (hcell : ∀ z ∈ scope.names, z.2 ≠ .cell := by decide) (hkind : scope.kind = .function := by rfl)
    (hnames : ∀ z ∈ scope.names, z.2 = .local → scope.names.lookup z.1 = some .local := by decide) (hx : scope.names.lookup x = some .local := by rfl)
    (hy : (envX cn cs L f ccd cl).kindOf y = some .local := by rfl) (hp : cs.kind = .function := by rfl)
    (hs : ∀ x, foldedSetIterable iter (envX cn cs L f ccd cl) x = pure x := by intro _; rfl) :
    wpAny (model prog w) A (execs (.Assign [.Name y py] (.ListComp elt [⟨.Name x px, iter, [c], 0⟩] scope pos) spos :: rest) (envX cn cs L f ccd cl)) Q E s := by
  refine wpAny_execs_cons (wpAny_Assign_ListComp_free p F hsw hclos hcell hkind hnames hx hy (by show (cs.kind == .class || (cs.kind == .module && L != mainGlobals)) = false; rw [hp]; rfl) ?_ hs)
  refine wpAny_mono h (fun xv s₁ h₁ => ?_) fun _ _ q => q
  obtain ⟨l, s₀, I, W, m, t, u, v, n, rfl, hs₁, hr, hz, htest, helt, hfin⟩ := h₁
  have hLne : L ≠ s₁.heap.objs.size := by obtain ⟨o, e, _⟩ := hs₁.ok.at' (.head _); exact Nat.ne_of_lt (Heap.lt_size e)
  refine wpAny_pyIter_range hr (small_one (by decide) (by decide) (by omega) (by omega)) ?_
  have Wk := Walks.lt (Walks.range (prog := prog) (w := w) (A := A) r.hh s₁.heap.objs.size 0 1 n)
  have keep1 : ∀ (ito : Obj) (s₃ : Shared), (∀ b o, b ∉ [s₁.heap.objs.size] → (s₁.heap.push ito).get? b = some o → s₃.heap.get? b = some o) → ∀ b o, s₁.heap.get? b = some o → s₃.heap.get? b = some o := fun ito s₃ hk b o e =>
    hk b o (fun q => by have := Heap.lt_size e; rw [List.mem_singleton.mp q] at this; exact Nat.lt_irrefl _ this) (Heap.get?_push_of_some _ e)
  have wk : ∀ (s₃ : Shared), (∀ b o, s₁.heap.get? b = some o → s₃.heap.get? b = some o) → WK ((L, NsO m) :: W) (allK s₃) := fun s₃ hk q hq => by
    obtain ⟨_, o, e, po⟩ := hs₁.ok.own q hq
    exact ⟨o, hk _ _ e, po⟩
  have pe : ∀ (i : Nat) (v : Value), (∃ t, v = .int (0 + (i : Int) * 1) t) → ∃ t, v = .int (i : Nat) t := fun i v ⟨t, e⟩ => ⟨t, by rw [e]; congr 1; omega⟩
  refine ⟨_, _, _, _, _, _, m, rfl, Wk, by simp only [sizeLine]; omega, ?_, fun b hb => ?_, fun q => hLne (List.mem_singleton.mp q), ?_, ⟨?_, ?_⟩, ?_⟩
  · show IsRangeIter _ _ _ _ _
    rw [rangeSize_nat]
    have e1 : (0 : Int) + ((0 : Nat) : Int) * 1 = 0 := by omega
    have e2 : (n : Int) - ((0 : Nat) : Int) = (((n : Int) - 0).toNat : Nat) := by omega
    rw [e1, e2]
    exact Heap.get?_push_size _ rfl
  · rw [Heap.size_push, List.mem_singleton.mp hb]; exact Nat.lt_succ_self _
  · obtain ⟨o, es, ep, e, q⟩ := hs₁.ns (.head _)
    exact ⟨o, es, ep, Heap.get?_push_of_some _ e, q⟩
  · intro C i v s₃ m₃ E' _ hP hn hm hk htk
    have k1 := keep1 _ s₃ hk
    obtain ⟨hi, hP⟩ := hP
    obtain ⟨t', rfl⟩ := pe _ _ hP
    exact forIn1 (wpAny_mono (htest C i t' m₃ (allK s₃) s₃ E' hi hm (allK_ns hn) (allK_le fun b o e => k1 _ _ (hs₁.ok.keep _ _ e)) (wk s₃ k1) (St.all s₃)) (fun y s₄ q => ⟨q.1, q.2.keeps⟩) fun _ _ q => q)
  · intro C i v s₃ m₃ E' _ hP hpv hn hm hk htk
    have k1 := keep1 _ s₃ hk
    obtain ⟨hi, hP⟩ := hP
    obtain ⟨t', rfl⟩ := pe _ _ hP
    exact wpAny_mono (helt C i t' m₃ (allK s₃) s₃ E' hi hpv hm (allK_ns hn) (allK_le fun b o e => k1 _ _ (hs₁.ok.keep _ _ e)) (wk s₃ k1) (St.all s₃)) (fun y s₄ q => ⟨q.1, q.2.keeps⟩) fun _ _ q => q
  · intro D h' tk ys vs' hD hDl hDp hlen hP hF hn hk
    obtain ⟨nD, eD⟩ := hDp
    have hD0 : s₁.heap.get? D = none := by
      cases e : s₁.heap.get? D with
      | none => rfl
      | some o => exact absurd (hD.symm.trans (Heap.get?_push_of_some _ e)) (fun q => nomatch q)
    have hkk : ∀ b o, b ≠ L → s₁.heap.get? b = some o → h'.get? b = some o := fun b o hb e =>
      hk b o hb (fun q => by have := Heap.lt_size e; rw [List.mem_singleton.mp q] at this; exact Nat.lt_irrefl _ this) (Heap.get?_push_of_some _ e)
    obtain ⟨oL, es, ep, eL, qL⟩ := hn
    have k1 : Ok I ((L, NsO (upd m y (.ref D))) :: W) h' := hs₁.ok.upd .head hkk eL ⟨es, ep, qL⟩
    exact hfin D ys.toList vs' _ hlen (fun j v e => pe _ _ (hP j v e).2) hF (hs₁.put (hs₁.ok.addFresh hD0 k1 rfl eD ⟨nD, by simp⟩))
end

/-! # part R7 -/
theorem Ok.addAt {I : Kn} {W : Own} {h : Heap} {D : Addr} {P : Obj → Prop} {o : Obj} (k : Ok I W h) (hI : I D = none) (hW : D ∉ W.map (·.1)) (e : h.get? D = some o) (p : P o) : Ok I ((D, P) :: W) h := by
  refine ⟨k.keep, fun q hq => ?_, List.nodup_cons.mpr ⟨hW, k.nd⟩⟩
  rcases List.mem_cons.mp hq with rfl | hq
  · exact ⟨hI, o, e, p⟩
  · exact k.own q hq
theorem Ok.below {I : Kn} {W : Own} {h : Heap} {D : Addr} (k : Ok I W h) (hD : h.objs.size ≤ D) : I D = none ∧ D ∉ W.map (·.1) := by
  constructor
  · cases e : I D with
    | none => rfl
    | some o => exact absurd (Heap.lt_size (k.keep _ _ e)) (Nat.not_lt.mpr hD)
  · intro hm
    obtain ⟨q, hq, rfl⟩ := List.mem_map.mp hm
    obtain ⟨_, o, e, _⟩ := k.own q hq
    exact absurd (Heap.lt_size e) (Nat.not_lt.mpr hD)
theorem bindC_local {kindOf : Str → Option NameKind} {cm : Str → Option Value} : ∀ (binds : List (Str × Value)), (∀ y ∈ binds, kindOf y.1 = some .local) → bindC kindOf binds cm = cm
  | [], _ => rfl
  | (n, v) :: r, h => by
    show bindC kindOf r (if kindOf n = some .local then cm else fun y => if y = n then some v else cm y) = cm
    rw [if_pos (h (n, v) (.head _))]
    exact bindC_local r fun y hy => h y (.tail _ hy)
section
variable {prog : Program} {w : World} {A : Around} {E : Value → Shared → Prop} {s s₀ : Shared} {I : Kn} {W : Own} {K : Frag} {p : Program} {loose : List Str}
/-- a call of a def with two cells -/
theorem xCallC2 {Q : Value → Shared → Prop} {name qual : Str} {params : Arguments} {body : List Stmt} {scope : Scope} {dV kV doc pm cdv ct oc : Value} {an od : Option Addr} {osl : Array (Option Value)} {f : Addr} {args : List Value} {binds : List (Str × Value)} {n : Nat} {x1 x2 : Str}
    (g : GE K p loose I) (r : Rm A (n + 1)) (hs : St s₀ I W s)
    (ho : K.lookup f = some ⟨oc, od, .func (fnX name qual params body scope [] dV kV doc pm an cdv ct), osl⟩) (hcd : codeIn K cdv qual = true)
    (hbind : bindArgs (fnX name qual params body scope [] dV kV doc pm an cdv ct) ⟨args, []⟩ = pure binds) (hloc : ∀ y ∈ binds, scope.names.lookup y.1 = some .local)
    (hcf : ∀ n, cellsFrom n scope.names [] = [(x2, n + 1), (x1, n)]) (hne : (x1 == x2) = false)
    (h : ∀ A' L c1 c2 s' m, m = bindL (envX qual scope L f cdv [(x2, c2), (x1, c1)]).kindOf binds (fun _ => none) → St s₀ I ((L, NsO m) :: (c1, CeO none) :: (c2, CeO none) :: W) s' → Rm A' n →
      wpAny (model prog w) A' (execs body (envX qual scope L f cdv [(x2, c2), (x1, c1)])) (fun fl s'' => Q (retOf fl) s'') (fun _ _ => False) s')
    (hco : scope.isCoroutine = false := by rfl) (hgen : scope.isGenerator = false := by rfl) (hk : scope.kind = .function := by rfl) :
    wpAny (model prog w) A (call (.ref f) args) Q E s := by
  obtain ⟨G, mg, mb, X, T, k⟩ := g
  have kk : ∀ b o, G.get? b = some o → s.heap.get? b = some o := fun b o q => hs.ok.keep _ _ (k _ _ q)
  refine wpAny_call (codeAny_call_function (fd := fnX name qual params body scope [] dV kV doc pm an cdv ct) (body := body) (by have := r.dep; omega) (kk _ _ (X _ _ ho)) rfl hco hgen rfl (codeRec_of (X.keeps kk) hcd) (BindsTo.of_eq hbind _ _ _ _ ?_))
  refine wpAny_newFunctionEnv_cells hk (fun y hy => .inl (hloc y hy)) fun env' he s' x => ?_
  subst he
  refine ⟨(T.nolimit.keeps kk).keeps x.toInCall.keep, codeAny_func ?_⟩
  have e0 := hcf (s.heap.objs.size + 1)
  have hC : bindC (newEnv scope s.heap.objs.size mainGlobals (cellsFrom (s.heap.objs.size + 1) scope.names []) (qual ++ ".<locals>.") (some f) cdv none builtinsNs).kindOf binds (fun _ => none) = fun _ => none :=
    bindC_local binds fun y hy => hloc y hy
  have x' := x.cell
  have xa := x.above
  obtain ⟨⟨h₁, tk, rfl⟩, ⟨oL, es, ep, e, rr⟩, hk₁, hfr⟩ := x.toInCall
  have hnone : s.heap.get? s.heap.objs.size = none := by
    cases q : s.heap.get? s.heap.objs.size with
    | none => rfl
    | some o => exact absurd (Heap.lt_size q) (Nat.lt_irrefl _)
  have hc2 := x' x2 (s.heap.objs.size + 1 + 1) (by show List.lookup x2 (cellsFrom (s.heap.objs.size + 1) scope.names []) = _; rw [e0]; simp)
  have hc1 := x' x1 (s.heap.objs.size + 1) (by show List.lookup x1 (cellsFrom (s.heap.objs.size + 1) scope.names []) = _; rw [e0]; simp [List.lookup_cons, hne])
  rw [show bindC _ _ _ _ = none from congrFun hC _] at hc1 hc2
  obtain ⟨o1, e1, d1⟩ := hc1
  obtain ⟨o2, e2, d2⟩ := hc2
  obtain ⟨i1, w1⟩ := hs.ok.below (D := s.heap.objs.size + 1) (by omega)
  obtain ⟨i2, w2⟩ := hs.ok.below (D := s.heap.objs.size + 1 + 1) (by omega)
  obtain ⟨i0, w0⟩ := hs.ok.below (D := s.heap.objs.size) (Nat.le_refl _)
  have k0 : Ok I W h₁ := hs.ok.ext hk₁
  have k2 := k0.addAt i2 w2 e2 (P := CeO none) d2
  have k1 := k2.addAt i1 (D := s.heap.objs.size + 1) (by rw [List.map_cons]; exact fun q => (List.mem_cons.mp q).elim (fun q => by have q' : s.heap.objs.size + 1 = s.heap.objs.size + 1 + 1 := q; omega) w1) e1 (P := CeO none) d1
  have kL := k1.addAt i0 (D := s.heap.objs.size) (by
    rw [List.map_cons, List.map_cons]
    intro q
    rcases List.mem_cons.mp q with q | q
    · have q' : s.heap.objs.size = s.heap.objs.size + 1 := q; omega
    · rcases List.mem_cons.mp q with q | q
      · have q' : s.heap.objs.size = s.heap.objs.size + 1 + 1 := q; omega
      · exact w0 q) e (P := NsO _) ⟨es, ep, rr⟩
  have hE : newEnv scope s.heap.objs.size mainGlobals (cellsFrom (s.heap.objs.size + 1) scope.names []) (qual ++ ".<locals>.") (some f) cdv none builtinsNs = envX qual scope s.heap.objs.size f cdv [(x2, s.heap.objs.size + 1 + 1), (x1, s.heap.objs.size + 1)] := by rw [e0]; rfl
  have fin := h (A.deeper (envX qual scope s.heap.objs.size f cdv [(x2, s.heap.objs.size + 1 + 1), (x1, s.heap.objs.size + 1)])) s.heap.objs.size (s.heap.objs.size + 1) (s.heap.objs.size + 1 + 1) _ _ rfl (hs.put (tk := tk) (hE ▸ kL)) r.deeper
  show wpAny (model prog w) (A.deeper (newEnv scope s.heap.objs.size mainGlobals (cellsFrom (s.heap.objs.size + 1) scope.names []) (qual ++ ".<locals>.") (some f) cdv none builtinsNs)) (execs body (newEnv scope s.heap.objs.size mainGlobals (cellsFrom (s.heap.objs.size + 1) scope.names []) (qual ++ ".<locals>.") (some f) cdv none builtinsNs)) _ _ _
  rw [hE]
  exact wpAny_mono fin (fun fl s'' q => by cases fl <;> exact q) fun _ _ q => q.elim
end

/-! # part R8 -/
/-! ### dicts by ints -/
/-- a dict of n keys or fewer that answers as f -/
def DiO (f : Int → Option Value) (n : Nat) : Obj → Prop := fun o => Ex3 fun (prog : Program) (w : World) (kvs : List (Int × Value)) => All3 (o.IsDictOf (intKind prog w) kvs) ((∀ k, valueAt kvs k = f k)) (kvs.length ≤ n)
def HasD (I : Kn) (W : Own) (d : Addr) (f : Int → Option Value) (n : Nat) : Prop := (∃ o, I d = some o ∧ DiO f n o) ∨ (d, DiO f n) ∈ W
theorem HasD.mono {I J : Kn} {W : Own} {d : Addr} {f : Int → Option Value} {n : Nat} (h : HasD I W d f n) (l : Kn.le I J) : HasD J W d f n := h.imp (fun ⟨o, e, p⟩ => ⟨o, l _ _ e, p⟩) id
def updI (f : Int → Option Value) (k : Int) (v : Value) : Int → Option Value := fun x => if x = k then some v else f x
theorem updI_same {f : Int → Option Value} {k : Int} {v : Value} : updI f k v k = some v := if_pos rfl
theorem updI_ne {f : Int → Option Value} {k x : Int} {v : Value} (h : x ≠ k) : updI f k v x = f x := if_neg h
theorem va_cons {kv : Int × Value} {kvs : List (Int × Value)} {x : Int} : valueAt (kv :: kvs) x = if kv.1 = x then some kv.2 else valueAt kvs x := by
  unfold valueAt
  rw [List.find?_cons]
  by_cases h : kv.1 = x
  · rw [decide_eq_true h, if_pos h]; rfl
  · rw [decide_eq_false h, if_neg h]
theorem va_map {k x : Int} {v : Value} : ∀ kvs : List (Int × Value), valueAt (kvs.map fun kv => if kv.1 = k then (kv.1, v) else kv) x = if x = k then (valueAt kvs k).map (fun _ => v) else valueAt kvs x
  | [] => by simp [valueAt]
  | kv :: kvs => by
    rw [List.map_cons, va_cons, va_map kvs, va_cons, va_cons]
    by_cases h : kv.1 = k
    · by_cases hx : x = k
      · subst hx; simp [h]
      · have h2 : ¬ k = x := fun e => hx e.symm
        simp [h, hx, h2]
    · by_cases hx : x = k
      · subst hx; simp [h]
      · simp [h, hx]
theorem va_app {k x : Int} {v : Value} : ∀ kvs : List (Int × Value), valueAt (kvs ++ [(k, v)]) x = (valueAt kvs x).or (if k = x then some v else none)
  | [] => by rw [List.nil_append, va_cons]; simp [valueAt]
  | kv :: kvs => by
    rw [List.cons_append, va_cons, va_cons, va_app kvs]
    by_cases h : kv.1 = x <;> simp [h]
theorem va_any {k : Int} : ∀ kvs : List (Int × Value), (valueAt kvs k).isSome = kvs.any fun kv => decide (kv.1 = k)
  | [] => rfl
  | kv :: kvs => by
    rw [va_cons, List.any_cons, ← va_any kvs]
    by_cases h : kv.1 = k <;> simp [h]
theorem valueAt_stored' {kvs : List (Int × Value)} {k x : Int} {v : Value} : valueAt (stored kvs k v) x = updI (valueAt kvs) k v x := by
  unfold stored updI
  have ha := va_any (k := k) kvs
  by_cases h : (kvs.any fun kv => decide (kv.1 = k)) = true
  · rw [if_pos h, va_map]
    rw [h] at ha
    obtain ⟨y, hy⟩ := Option.isSome_iff_exists.mp ha
    rw [hy]; rfl
  · rw [if_neg h, va_app]
    have hn : valueAt kvs k = none := by
      cases e : valueAt kvs k with
      | none => rfl
      | some y => rw [e] at ha; exact absurd ha.symm h
    by_cases hx : x = k
    · subst hx; rw [hn]; simp
    · have h2 : ¬ k = x := fun e => hx e.symm
      rw [if_neg h2, if_neg hx]; simp
theorem stored_length {kvs : List (Int × Value)} {k : Int} {v : Value} : (stored kvs k v).length ≤ kvs.length + 1 := by
  unfold stored; split <;> simp
section
variable {prog : Program} {w : World} {A : Around} {E : Value → Shared → Prop} {s s₀ : Shared} {I : Kn} {W W' : Own} {env : Env} {pos : Pos} {d : Addr} {f : Int → Option Value} {n : Nat} {k : Int} {t : Tok} {v : Value} {rest : List Stmt}
/-- whatever the program, the words for ints are the same -/
theorem isDict_any {prog' : Program} {w' : World} {o : Obj} {kvs : List (Int × Value)} (h : o.IsDictOf (intKind prog' w') kvs) : o.IsDictOf (intKind prog w) kvs := by
  obtain ⟨es, ep, h1, h2, h3, h4, h5⟩ := h
  refine ⟨es, ep, h1, h2, h3, ?_, h5⟩
  clear h1 h2 h3 h5
  generalize es.toList = l at h4 ⊢
  induction h4 with
  | nil => exact .nil
  | cons a b _ ih => exact .cons a b ih
theorem St.dict (hs : St s₀ I W s) (h : HasD I W d f n) : ∃ kvs, All3 (s.heap.DictOf (intKind prog w) d kvs) ((∀ k, valueAt kvs k = f k)) (kvs.length ≤ n) := by
  obtain ⟨o, e, p', w', kvs, q, r1, r2⟩ : ∃ o, s.heap.get? d = some o ∧ DiO f n o := by
    rcases h with ⟨o, e, q⟩ | h
    · exact ⟨o, hs.ok.keep _ _ e, q⟩
    · exact hs.ok.at' h
  exact ⟨kvs, Heap.dictOf_iff.mpr ⟨o, e, isDict_any q⟩, r1, r2⟩
theorem mkD {Q : Value → Shared → Prop} (hs : St s₀ I W s) (hbx : Ex2 fun b o => I b = some o ∧ 1 ≤ b) (h : ∀ d s', I d = none → (d == sysModules) = false → St s₀ I ((d, DiO (fun _ => none) 0) :: W) s' → Q (.ref d) s') :
    wpAny (model prog w) A (eval (.Dict [] [] pos) env) Q E s := by
  obtain ⟨b, o, hb, hb1⟩ := hbx
  have hlt := Heap.lt_size (hs.ok.keep _ _ hb)
  refine wpAny_Dict_empty (h _ _ hs.ok.fresh ?_ (hs.put (tk := s.toks) (hs.ok.push rfl ⟨prog, w, [], ⟨#[], 0, ⟨rfl, rfl, rfl⟩, rfl, fun _ he => by simp at he, Pairs.nil, List.nodup_nil⟩, fun _ => rfl, Nat.le_refl _⟩)))
  have : s.heap.objs.size ≠ 1 := Nat.ne_of_gt (Nat.lt_of_le_of_lt hb1 hlt)
  exact beq_eq_false_iff_ne.mpr this
theorem setD {Q : Unit → Shared → Prop} (hs : St s₀ I W s) (hm : (d, DiO f n) ∈ W) (hn : n ≤ 1000) (U : Upd d (DiO (updI f k v) (n + 1)) W W') (h : ∀ s', St s₀ I W' s' → Q () s') :
    wpAny (model prog w) A (setItem (.ref d) (.int k t) v) Q E s := by
  obtain ⟨kvs, q, hv, hl⟩ := hs.dict (prog := prog) (w := w) (.inr hm)
  refine wpAny_setItem_pairs (knd := intKind prog w) (k := k) (hsz := by simp only [sizeLine]; omega) (by simp [intKind, Value.isInt]) q fun h' hq hsb => ?_
  obtain ⟨o', e', q'⟩ := Heap.dictOf_iff.mp hq
  exact h _ (hs.put (hs.ok.updS U hsb e' ⟨prog, w, _, q', fun x => by rw [valueAt_stored']; unfold updI; rw [hv], Nat.le_trans stored_length (by omega)⟩))
theorem getD' {value slice : Expr} {Q : Value → Shared → Prop} (hs : St s₀ I W s) (hd : HasD I W d f n) (hv : f k = some v) (h : ∀ s', St s₀ I W s' → Q v s')
    (hb : subscripted slice false (.ref d) (.int k t) = operate [.ref d, .int k t] (getItem (.ref d) (.int k t)) := by with_unfolding_all rfl) :
    wpAny (model prog w) A (subscriptTail value slice (.ref d) (.int k t)) Q E s := by
  obtain ⟨kvs, q, hv', hl⟩ := hs.dict (prog := prog) (w := w) hd
  exact tail_any q.typeIs slot_dict_getitem.lookup (wpAny_getItem_of (knd := intKind prog w) (k := k) (by simp [intKind, Value.isInt]) q.mapOf ((hv' k).trans hv) (h _ hs.toks)) hb
theorem mGet {pl : Sem Bool} {Q : Value × List Value → Shared → Prop} (hs : St s₀ I W s) (hd : HasD I W d f n) (h : Q (.builtin "dict.get", [.ref d]) s) : wpAny (model prog w) A (getMethod (.ref d) "get" pl) Q E s := by
  obtain ⟨kvs, q, hv', hl⟩ := hs.dict (prog := prog) (w := w) hd
  exact getMethod_builtin q.typeIs PySem.F.plainAttrs_dict PySem.F.slot_dict_get PySem.F.type_dict_get q.mapOf.noDict h
theorem dget2 {x y : Expr} {Q : Value → Shared → Prop} (hd : (d == sysModules) = false)
    (h : wpAny (model prog w) A (eval x env) (fun key s₁ => wpAny (model prog w) A (eval y env) (fun dflt s₂ => Ex7 fun k t s₀ I W f n => All4 (key = .int k t) (St s₀ I W s₂) (HasD I W d f n) (∀ s', St s₀ I W s' → Q ((f k).getD dflt) s')) E s₁) E s)
    (he : backTo pos (starEach [x, y] env) = [(false, eval x env), (false, eval y env)] := by rfl) :
    wpAny (model prog w) A (callWith pos (.builtin "dict.get") [.ref d] (backTo pos (starEach [x, y] env)) []) Q E s := by
  rw [he]
  refine wpAny_dict_get2 (knd := intKind prog w) hd (wpAny_mono h (fun key s₁ h₁ => wpAny_mono h₁ (fun dflt s₂ h₂ => ?_) fun _ _ q => q) fun _ _ q => q)
  obtain ⟨k, t, s₀, I, W, f, n, rfl, hs, hD, hq⟩ := h₂
  obtain ⟨kvs, q, hv', hl⟩ := hs.dict (prog := prog) (w := w) hD
  exact ⟨k, _, by simp [intKind, Value.isInt], q.mapOf, (hv' k).symm ▸ hq _ hs.toks⟩
theorem dget1 {x : Expr} {Q : Value → Shared → Prop} (hd : (d == sysModules) = false)
    (h : wpAny (model prog w) A (eval x env) (fun key s₁ => Ex7 fun k t s₀ I W f n => All4 (key = .int k t) (St s₀ I W s₁) (HasD I W d f n) (∀ s', St s₀ I W s' → Q ((f k).getD .none) s')) E s)
    (he : backTo pos (starEach [x] env) = [(false, eval x env)] := by rfl) :
    wpAny (model prog w) A (callWith pos (.builtin "dict.get") [.ref d] (backTo pos (starEach [x] env)) []) Q E s := by
  rw [he]
  refine wpAny_dict_get1 (knd := intKind prog w) hd (wpAny_mono h (fun key s₁ h₁ => ?_) fun _ _ q => q)
  obtain ⟨k, t, s₀, I, W, f, n, rfl, hs, hD, hq⟩ := h₁
  obtain ⟨kvs, q, hv', hl⟩ := hs.dict (prog := prog) (w := w) hD
  exact ⟨k, _, by simp [intKind, Value.isInt], q.mapOf, (hv' k).symm ▸ hq _ hs.toks⟩
end

/-! # part R9 -/
theorem Ok.upd2 {I : Kn} {W : Own} {h h' : Heap} {a b : Addr} {P1 P2 : Obj → Prop} {o1 o2 : Obj} (k : Ok I ((a, P1) :: (b, P2) :: W) h) (e : ∀ c o, c ≠ a → c ≠ b → h.get? c = some o → h'.get? c = some o) (h1 : h'.get? a = some o1) (h2 : h'.get? b = some o2) : Ok I ((a, EqO o1) :: (b, EqO o2) :: W) h' := by
  have na := (k.own (a, P1) (.head _)).1
  have nb := (k.own (b, P2) (.tail _ (.head _))).1
  have nd := k.nd
  rw [List.map_cons, List.map_cons] at nd
  obtain ⟨d1, d2⟩ := List.nodup_cons.mp nd
  obtain ⟨d3, _⟩ := List.nodup_cons.mp d2
  refine ⟨fun c o x => e c o (fun q => by rw [q, na] at x; cases x) (fun q => by rw [q, nb] at x; cases x) (k.keep _ _ x), fun p hp => ?_, k.nd⟩
  rcases List.mem_cons.mp hp with rfl | hp
  · exact ⟨na, o1, h1, rfl⟩
  · rcases List.mem_cons.mp hp with rfl | hp
    · exact ⟨nb, o2, h2, rfl⟩
    · obtain ⟨i, o, x, y⟩ := k.own p (.tail _ (.tail _ hp))
      have hm : p.1 ∈ W.map (·.1) := List.mem_map.mpr ⟨p, hp, rfl⟩
      exact ⟨i, o, e _ _ (fun q => d1 (.tail _ (q ▸ hm))) (fun q => d3 (q ▸ hm)) x, y⟩
theorem Ok.drop2 {I : Kn} {W : Own} {h h' : Heap} {a b : Addr} {P1 P2 : Obj → Prop} (k : Ok I ((a, P1) :: (b, P2) :: W) h) (e : ∀ c o, c ≠ a → c ≠ b → h.get? c = some o → h'.get? c = some o) : Ok I W h' := by
  have na := (k.own (a, P1) (.head _)).1
  have nb := (k.own (b, P2) (.tail _ (.head _))).1
  have nd := k.nd
  rw [List.map_cons, List.map_cons] at nd
  obtain ⟨d1, d2⟩ := List.nodup_cons.mp nd
  obtain ⟨d3, d4⟩ := List.nodup_cons.mp d2
  refine ⟨fun c o x => e c o (fun q => by rw [q, na] at x; cases x) (fun q => by rw [q, nb] at x; cases x) (k.keep _ _ x), fun p hp => ?_, d4⟩
  obtain ⟨i, o, x, y⟩ := k.own p (.tail _ (.tail _ hp))
  have hm : p.1 ∈ W.map (·.1) := List.mem_map.mpr ⟨p, hp, rfl⟩
  exact ⟨i, o, e _ _ (fun q => d1 (.tail _ (q ▸ hm))) (fun q => d3 (q ▸ hm)) x, y⟩
section
variable {prog : Program} {w : World} {A : Around} {E : Value → Shared → Prop} {s s₀ : Shared} {I : Kn} {W : Own} {env : Env} {l : Addr} {vs : List Value} {pos : Pos} {rest : List Stmt}
/-- what a turn over enumerate leaves -/
def TurnE (e it : Addr) (oe oi : Obj) (s₀ : Shared) (J : Kn → Own → Prop) (QB : Shared → Prop) (Q : Flow → Shared → Prop) (f : Flow) (s : Shared) : Prop :=
  match f with
  | .next | .cont => Ex4 fun I' W₃ W₄ W' => All4 (St s₀ I' W₃ s) (Rem e (EqO oe) W₃ W₄) (Rem it (EqO oi) W₄ W') (J I' W')
  | .brk => QB s
  | .ret v => Q (.ret v) s
theorem asg2' {e1 e2 : Expr} {k : Nat} {T : Addr} {v1 v2 : Value} {Q : Unit → Shared → Prop} (hs : St s₀ I W s) (r : Rm A 0) (ht : s.heap.IsTuple T #[v1, v2])
    (h : ∀ s', St s₀ I W s' → wpAny (model prog w) A (assign e1 env v1) (fun _ s₂ => wpAny (model prog w) A (assign e2 env v2) Q E s₂) E s')
    (hn : (assignEach [e1, e2] env).length = 2 := by rfl) (hstar : (assignEach [e1, e2] env).findIdx? (·.1) = none := by rfl)
    (hm : (assignEach [e1, e2] env).map (·.2) = [assign e1 env, assign e2 env] := by rfl) : wpAny (model prog w) A (assign (.Tuple [e1, e2] k pos) env (.ref T)) Q E s := by
  refine wpAny_assign_Tuple r.hh ht (by rw [hn]; rfl) hstar fun h' he => ?_
  rw [hm]
  show wpAny _ _ (do holding [v2] (assign e1 env v1); do holding [] (assign e2 env v2); pure ()) _ _ _
  exact wpAny_bind (wpAny_holding (wpAny_mono (h _ (hs.put (tk := s.toks) (hs.ok.extFresh he))) (fun _ s₂ h₂ => wpAny_bind (wpAny_holding (wpAny_mono h₂ (fun _ _ q => wpAny_pure q) fun _ _ q => q))) fun _ _ q => q))
/-- for i, x in enumerate(list) -/
theorem xForE {elts : List Expr} {k : Nat} {tp : Pos} {iter : Expr} {body : List Stmt} {Q : Flow → Shared → Prop} (r : Rm A 0)
    (h : wpAny (model prog w) A (eval iter env) (fun xv s₁ => Ex12 fun e it l n (vs : List Value) oe oi s₀ I W (J : Nat → Kn → Own → Prop) (Post : Shared → Prop) => All10 (xv = .ref e) (St s₀ I ((e, EqO oe) :: (it, EqO oi) :: W) s₁) (I l = some (PySem.W.listOf vs.toArray n)) ((∃ old, IsEnum s₁.heap e it 0 old)) (s₁.heap.IsListIter it l 0) (J 0 I W) ((∀ i I' W', J i I' W' → Kn.le I I')) ((∀ i t v I W oe oi T s, vs[i]? = some v → J i I W → St s₀ I ((e, EqO oe) :: (it, EqO oi) :: W) s → s.heap.IsTuple T #[.int (i : Nat) t, v] →
          wpAny (model prog w) A (assign (.Tuple elts k tp) env (.ref T)) (fun _ s₂ => wpAny (model prog w) A (execs body env) (TurnE e it oe oi s₀ (J (i + 1)) Post (fun f s => match f with | .ret v => Q (.ret v) s | _ => False)) (fun _ _ => False) s₂) (fun _ _ => False) s)) ((∀ I W s, J vs.length I W → St s₀ I W s → Post s)) ((∀ s, Post s → wpAny (model prog w) A (execs rest env) Q E s))) E s)
    (hs : ∀ x, foldedSetIterable iter env x = pure x := by intro _; rfl) :
    wpAny (model prog w) A (execs (.For (.Tuple elts k tp) iter body [] pos :: rest) env) Q E s := by
  refine wpAny_execs_cons (wpAny_For (wpAny_mono h (fun xv s₁ h₁ => ?_) fun _ _ q => q) hs)
  obtain ⟨e, it, l, n, vs, oe, oi, s₀, I₀, W, J, Post, rfl, hst, hl, hen, hli, h0, hle, turn, done, hp⟩ := h₁
  have ie := (hst.ok.own (e, EqO oe) (.head _)).1
  have ii := (hst.ok.own (it, EqO oi) (.tail _ (.head _))).1
  have hei : e ≠ it := fun q => by
    have nd := hst.ok.nd
    rw [List.map_cons, List.map_cons] at nd
    exact (List.nodup_cons.mp nd).1 (q ▸ .head _)
  have hle' : l ≠ e := fun q => by rw [q, ie] at hl; cases hl
  have hli' : l ≠ it := fun q => by rw [q, ii] at hl; cases hl
  have Wk := WalksT.enumerate (prog := prog) (w := w) r.hh e it l hei hle' hli' vs.toArray
  have hsz : vs.toArray.size = vs.length := by simp
  rw [hsz] at Wk
  have hL : s₁.heap.IsList l vs.toArray := hst.isList (.inl ⟨n, hl⟩)
  refine Wk.self 0 _ _ _ ⟨hen, hli, hL⟩ ?_
  refine codeAny_forLoop_any (fun k s => Ex5 fun i I W oe oi => All5 (St s₀ I ((e, EqO oe) :: (it, EqO oi) :: W) s) ((∃ old, IsEnum s.heap e it (i : Nat) old) ∧ s.heap.IsListIter it l i ∧ s.heap.IsList l vs.toArray) (J i I W) (i ≤ vs.length) (k = vs.length + 1 - i)) ?_ (vs.length + 1) ⟨0, I₀, W, oe, oi, hst, ⟨hen, hli, hL⟩, h0, Nat.zero_le _, rfl⟩
  rintro k s ⟨i, I, W, oe, oi, hs, hst', hJ, hi, rfl⟩
  by_cases hlt : i < vs.length
  · refine Wk.item i _ _ _ hlt hst' fun T vals h' tk hP hT hTup hMid hk => ?_
    obtain ⟨t, x, hx, rfl⟩ := hP
    have hTw := Wk.apart i T h' hMid
    refine Wk.go _ _ _ i T _ _ _ hMid fun h'' hst2 hk2 => ?_
    have off : ∀ b : Addr, b ≠ e → b ≠ it → b ∉ [e, it] := fun b h1 h2 h => by
      rcases List.mem_cons.mp h with q | h
      · exact h1 q
      · exact h2 (List.mem_singleton.mp h)
    obtain ⟨oe2, he2⟩ : ∃ o, h''.get? e = some o := by obtain ⟨old2, he2⟩ := hst2.1; exact ⟨_, he2⟩
    obtain ⟨oi2, hi2, _⟩ := id hst2.2.1
    have hs2 : St s₀ I ((e, EqO oe2) :: (it, EqO oi2) :: W) { s with heap := h'', toks := tk } :=
      hs.put (tk := tk) (hs.ok.upd2 (fun c o h1 h2 x => hk2 c o (off c h1 h2) (hk c o (off c h1 h2) x)) he2 hi2)
    have hTup2 : h''.IsTuple T #[.int (i : Nat) t, x] := let ⟨o, a, b⟩ := hTup; ⟨o, hk2 _ _ hTw a, b⟩
    refine wpAny_mono (turn i t x I W _ _ T _ (by simpa using hx) hJ hs2 hTup2) (fun _ s₂ h₂ => ?_) fun _ _ q => q.elim
    refine wpAny_mono h₂ (fun f s₃ h₃ => ?_) fun _ _ q => q.elim
    have key : (Ex4 fun I' W₃ W₄ W' => All4 (St s₀ I' W₃ s₃) (Rem e (EqO oe2) W₃ W₄) (Rem it (EqO oi2) W₄ W') (J (i + 1) I' W')) → ∃ m, m < vs.length + 1 - i ∧ Ex5 fun i I W oe oi => All5 (St s₀ I ((e, EqO oe) :: (it, EqO oi) :: W) s₃) ((∃ old, IsEnum s₃.heap e it (i : Nat) old) ∧ s₃.heap.IsListIter it l i ∧ s₃.heap.IsList l vs.toArray) (J i I W) (i ≤ vs.length) (m = vs.length + 1 - i) := by
      rintro ⟨I', W₃, W₄, W', hs₃, hr1, hr2, hJ'⟩
      have hf : St s₀ I' ((e, EqO oe2) :: (it, EqO oi2) :: W') s₃ := ((hs₃.front hr1).front (.tail hr2)).front (.tail .head)
      refine ⟨vs.length + 1 - (i + 1), by omega, i + 1, I', W', oe2, oi2, hf, ?_, hJ', hlt, rfl⟩
      refine Wk.frame (i + 1) _ _ hst2 fun b hb q hq => ?_
      rcases List.mem_cons.mp hb with rfl | hb
      · obtain ⟨x, hx, ex⟩ := hf.ok.at' (.head _)
        rw [he2] at hq; cases hq; rw [show x = oe2 from ex] at hx; exact hx
      · rcases List.mem_cons.mp hb with rfl | hb
        · obtain ⟨x, hx, ex⟩ := hf.ok.at' (.tail _ (.head _))
          rw [hi2] at hq; cases hq; rw [show x = oi2 from ex] at hx; exact hx
        · cases List.mem_singleton.mp hb
          have h1 := hs2.ok.keep _ _ (hle _ _ _ hJ _ _ hl)
          have h2 := hs₃.ok.keep _ _ (hle _ _ _ hJ' _ _ hl)
          have h1' : h''.get? l = some _ := h1
          rw [h1'] at hq; cases hq; exact h2
    cases f with
    | next => exact key h₃
    | cont => exact key h₃
    | brk => exact hp _ h₃
    | ret v => exact h₃
  · have hin : i = vs.length := by omega
    subst hin
    refine Wk.done _ _ _ hst' fun h' tk hk => ?_
    refine wpAny_execs_nil (hp _ (done I W _ hJ (hs.put (hs.ok.drop2 fun b o h1 h2 x => hk b o (fun h => ?_) x))))
    rcases List.mem_cons.mp h with q | h
    · exact h1 q
    · exact h2 (List.mem_singleton.mp h)
/-- enumerate(list) -/
theorem enumL {Q : Value → Shared → Prop} (hs : St s₀ I W s) (hl : HasL I W l vs) (h : ∀ e it oe oi s', St s₀ I ((e, EqO oe) :: (it, EqO oi) :: W) s' → (∃ old, IsEnum s'.heap e it 0 old) → s'.heap.IsListIter it l 0 → Q (.ref e) s') :
    wpAny (model prog w) A (call (.type "enumerate") [.ref l]) Q E s := by
  refine call_enumerate_list (hs.isList hl) fun h' he hit hsz hk => ?_
  obtain ⟨oi, eoi, _⟩ := id hit
  obtain ⟨i1, w1⟩ := hs.ok.below (D := s.heap.objs.size) (Nat.le_refl _)
  obtain ⟨i2, w2⟩ := hs.ok.below (D := s.heap.objs.size + 1) (Nat.le_succ _)
  have k1 := (hs.ok.ext hk).addAt i1 w1 eoi (P := EqO oi) rfl
  have k2 := k1.addAt (D := s.heap.objs.size + 1) i2 (by
    rw [List.map_cons]
    intro q
    rcases List.mem_cons.mp q with q | q
    · exact Nat.succ_ne_self _ q
    · exact w2 q) he (P := EqO _) rfl
  exact h _ _ _ oi _ (hs.put (tk := s.toks) k2) ⟨_, he⟩ hit
end

/-! # part P0 -/

/-! ## the plain law: breaking rows -/
abbrev Piece := List Int × Int
def mayB (p : Piece) : Bool := decide (1 < p.2) || decide (p.1.getD (p.1.length - 1) 0 ≠ 46)
def ln (ps : List Piece) (k : Nat) : Int := ((ps.getD k ([], 0)).1.length : Nat)
def gp (ps : List Piece) (k : Nat) : Int := (ps.getD k ([], 0)).2
def sm (ps : List Piece) : Nat → Int
  | 0 => 0
  | k + 1 => sm ps k + ln ps k + gp ps k
def wd (ps : List Piece) (b e : Nat) : Int := sm ps (e - 1) - sm ps b + ln ps (e - 1)
def stopB (ps : List Piece) (e : Nat) : Bool := decide (e = ps.length) || mayB (ps.getD (e - 1) ([], 0))
def can (ps : List Piece) (W : Int) (b e : Nat) : Prop := b < e ∧ e ≤ ps.length ∧ stopB ps e = true ∧ (wd ps b e ≤ W ∨ ∀ o, b < o → o < e → stopB ps o = false)
def best (ps : List Piece) (W : Int) (b e : Nat) : Prop := can ps W b e ∧ ∀ e', can ps W b e' → e' ≤ e
/-- words are not empty, gaps are one or more -/
def fine (ps : List Piece) : Prop := ∀ p ∈ ps, p.1 ≠ [] ∧ p.1.length < 1000 ∧ 1 ≤ p.2 ∧ p.2 ≤ 2

section
variable {ps : List Piece}
theorem ln_pos (f : fine ps) {k : Nat} (h : k < ps.length) : 1 ≤ ln ps k := by
  have h1 := (f ps[k] (List.getElem_mem h)).1
  have h2 : 0 < ps[k].1.length := List.length_pos_iff.mpr h1
  unfold ln
  rw [List.getD_eq_getElem?_getD, List.getElem?_eq_getElem h]
  simp only [Option.getD_some]
  omega
theorem gp_pos (f : fine ps) {k : Nat} (h : k < ps.length) : 1 ≤ gp ps k := by
  have h1 := (f ps[k] (List.getElem_mem h)).2.2.1
  unfold gp
  rw [List.getD_eq_getElem?_getD, List.getElem?_eq_getElem h]
  exact h1
theorem sm_mono (f : fine ps) {a b : Nat} (h : a ≤ b) (hb : b ≤ ps.length) : sm ps a + ((b - a : Nat) : Int) ≤ sm ps b := by
  induction b with
  | zero => have : a = 0 := by omega
            subst this; simp
  | succ b ih =>
    by_cases e : a = b + 1
    · subst e; simp
    · have h1 := ih (by omega) (by omega)
      have h2 := ln_pos f (show b < ps.length by omega)
      have h3 := gp_pos f (show b < ps.length by omega)
      show sm ps a + ((b + 1 - a : Nat) : Int) ≤ sm ps b + ln ps b + gp ps b
      omega
theorem wd_mono (f : fine ps) {b e e' : Nat} (h0 : b < e) (h : e ≤ e') (he : e' ≤ ps.length) : wd ps b e + ((e' - e : Nat) : Int) ≤ wd ps b e' := by
  unfold wd
  by_cases q : e = e'
  · subst q; simp
  · have h1 := sm_mono f (show e ≤ e' - 1 by omega) (by omega)
    have h2 := ln_pos f (show e' - 1 < ps.length by omega)
    have h3 := gp_pos f (show e - 1 < ps.length by omega)
    have e1 : sm ps e = sm ps (e - 1) + ln ps (e - 1) + gp ps (e - 1) := by
      obtain ⟨k, rfl⟩ : ∃ k, e = k + 1 := ⟨e - 1, by omega⟩
      rfl
    omega
theorem wd_left (f : fine ps) {b b' e : Nat} (h : b ≤ b') (h0 : b' < e) (he : e ≤ ps.length) : wd ps b' e ≤ wd ps b e := by
  unfold wd
  have := sm_mono f h (by omega)
  omega
theorem stop_n : stopB ps ps.length = true := by simp [stopB]
theorem best_uniq {W : Int} {b e e' : Nat} (h : best ps W b e) (h' : best ps W b e') : e = e' := Nat.le_antisymm (h'.2 _ h.1) (h.2 _ h'.1)

/-! ### the way of row_end -/
structure REI (ps : List Piece) (wth : Int) (b k bs : Nat) : Prop where
  ia : b ≤ k
  ib : k ≤ ps.length
  ic : b ≤ bs
  id : bs ≤ k
  ie : b < bs → stopB ps bs = true ∧ wd ps b bs ≤ wth
  if' : ∀ o, bs < o → o ≤ k → stopB ps o = false
theorem wd_at {b k : Nat} : wd ps b (k + 1) = sm ps k - sm ps b + ln ps k := rfl
theorem stop_len {e : Nat} (h : e = ps.length) : stopB ps e = true := by subst h; exact stop_n
theorem stop_may {k : Nat} (h : mayB (ps.getD k ([], 0)) = true) : stopB ps (k + 1) = true := by
  unfold stopB; rw [Nat.add_sub_cancel, h, Bool.or_true]
theorem stop_no {k : Nat} (h : k + 1 ≠ ps.length) (h' : mayB (ps.getD k ([], 0)) = false) : stopB ps (k + 1) = false := by
  unfold stopB; rw [Nat.add_sub_cancel, h', decide_eq_false h]; rfl
theorem re_ret1 (f : fine ps) {wth : Int} {b k bs : Nat} (I : REI ps wth b k bs) (hk : k < ps.length) (hw : wth < sm ps k - sm ps b + ln ps k) (hb : b < bs) : best ps wth b bs := by
  obtain ⟨h1, h2⟩ := I.ie hb
  have hd := I.id
  refine ⟨⟨hb, by omega, h1, .inl h2⟩, fun e' c => ?_⟩
  obtain ⟨c1, c2, c3, c4⟩ := c
  apply Nat.le_of_not_lt
  intro hlt
  by_cases hek : e' ≤ k
  · rw [I.if' e' hlt hek] at c3; cases c3
  · rcases c4 with c4 | c4
    · have := wd_mono f (show b < k + 1 by have := I.ia; omega) (show k + 1 ≤ e' by omega) c2
      rw [wd_at] at this; omega
    · rw [c4 bs hb hlt] at h1; cases h1
theorem re_ret2 (f : fine ps) {wth : Int} {b k bs : Nat} (I : REI ps wth b k bs) (hk : k < ps.length) (hw : wth < sm ps k - sm ps b + ln ps k) (hb : ¬ b < bs) (hst : stopB ps (k + 1) = true) : best ps wth b (k + 1) := by
  have ha := I.ia
  have hc := I.ic
  refine ⟨⟨by omega, by omega, hst, .inr fun o h1 h2 => I.if' o (by omega) (by omega)⟩, fun e' c => ?_⟩
  obtain ⟨c1, c2, c3, c4⟩ := c
  apply Nat.le_of_not_lt
  intro hlt
  rcases c4 with c4 | c4
  · have := wd_mono f (show b < k + 1 by omega) (show k + 1 ≤ e' by omega) c2
    rw [wd_at] at this; omega
  · rw [c4 (k + 1) (by omega) hlt] at hst; cases hst
theorem re_stop {wth : Int} {b k bs : Nat} (I : REI ps wth b k bs) (hk : k < ps.length) (hw : ¬ wth < sm ps k - sm ps b + ln ps k) (hst : stopB ps (k + 1) = true) : REI ps wth b (k + 1) (k + 1) :=
  ⟨by have := I.ia; omega, by omega, by have := I.ia; omega, by omega, fun _ => ⟨hst, by rw [wd_at]; omega⟩, fun o h1 h2 => by omega⟩
theorem re_no {wth : Int} {b k bs : Nat} (I : REI ps wth b k bs) (hk : k < ps.length) (hst : stopB ps (k + 1) = false) : REI ps wth b (k + 1) bs :=
  ⟨by have := I.ia; omega, by omega, I.ic, by have := I.id; omega, I.ie, fun o h1 h2 => by
    by_cases h : o = k + 1
    · subst h; exact hst
    · exact I.if' o h1 (by omega)⟩
theorem re_end {wth : Int} {b bs : Nat} (I : REI ps wth b ps.length bs) (hb : b < ps.length) : best ps wth b ps.length := by
  have e : bs = ps.length := by
    have hd := I.id
    apply Classical.byContradiction
    intro h
    have := I.if' ps.length (by omega) (Nat.le_refl _)
    rw [stop_n] at this; cases this
  subst e
  exact ⟨⟨hb, Nat.le_refl _, stop_n, .inl (I.ie hb).2⟩, fun e' c => c.2.1⟩
theorem re_start {wth : Int} {b : Nat} (hb : b ≤ ps.length) : REI ps wth b b b := ⟨by omega, hb, by omega, by omega, fun h => absurd h (Nat.lt_irrefl _), fun o h1 h2 => by omega⟩

/-! ### chains -/
/-- a road from b by the ends es -/
def Road (C : Nat → Nat → Prop) : Nat → List Nat → Nat → Prop
  | b, [], e => b = e
  | b, x :: r, e => C b x ∧ Road C x r e
theorem Road.snoc {C : Nat → Nat → Prop} : ∀ {es : List Nat} {b m e : Nat}, Road C b es m → C m e → Road C b (es ++ [e]) e
  | [], _, _, _, h, c => by cases h; exact ⟨c, rfl⟩
  | _ :: _, _, _, _, ⟨h, r⟩, c => ⟨h, Road.snoc r c⟩
def cuts {α : Type} (ps : List α) : Nat → List Nat → List (List α)
  | _, [] => []
  | b, e :: r => (ps.drop b).take (e - b) :: cuts ps e r
def lastE (b : Nat) (es : List Nat) : Nat := es.getLastD b
theorem Road.last {C : Nat → Nat → Prop} : ∀ {es : List Nat} {b e : Nat}, Road C b es e → lastE b es = e
  | [], _, _, h => h
  | [x], _, _, ⟨_, h⟩ => h
  | x :: y :: r, b, e, ⟨_, h⟩ => by
    have := Road.last h
    unfold lastE at this ⊢
    simpa [List.getLastD] using this
theorem cuts_snoc {α : Type} {ps : List α} {C : Nat → Nat → Prop} : ∀ {es : List Nat} {b m e : Nat}, Road C b es m → cuts ps b (es ++ [e]) = cuts ps b es ++ [(ps.drop m).take (e - m)]
  | [], _, _, _, h => by cases h; rfl
  | x :: r, b, m, e, ⟨_, h⟩ => by
    show _ :: cuts ps x (r ++ [e]) = _ :: cuts ps x r ++ _
    rw [cuts_snoc h]; rfl
/-- the room of a row that begins at b -/
def roomAt (W0 W1 : Int) (b : Nat) : Int := if b = 0 then W0 else W1
def Greedy (ps : List Piece) (W0 W1 : Int) (es : List Nat) : Prop := Road (fun b e => best ps (roomAt W0 W1 b) b e) 0 es ps.length
end

/-! # part P1 -/

/-! ## the plain law: the roads -/
def stopsL (ps : List Piece) : List Nat := ((List.range ps.length).filter fun i => stopB ps (i + 1)).map (· + 1)
theorem mem_stopsL {ps : List Piece} {e : Nat} : e ∈ stopsL ps ↔ 1 ≤ e ∧ e ≤ ps.length ∧ stopB ps e = true := by
  unfold stopsL
  rw [List.mem_map]
  constructor
  · rintro ⟨i, hi, rfl⟩
    rw [List.mem_filter, List.mem_range] at hi
    exact ⟨by omega, by omega, hi.2⟩
  · rintro ⟨h1, h2, h3⟩
    obtain ⟨i, rfl⟩ : ∃ i, e = i + 1 := ⟨e - 1, by omega⟩
    exact ⟨i, List.mem_filter.mpr ⟨List.mem_range.mpr (by omega), h3⟩, rfl⟩
def begins (ps : List Piece) : List Nat := 0 :: (stopsL ps).dropLast
def between (ps : List Piece) (b e : Nat) : List Nat := (stopsL ps).filter fun o => decide (b < o) && decide (o < e)
def canB (ps : List Piece) (W : Int) (b e : Nat) : Bool := stopB ps e && (decide (wd ps b e ≤ W) || decide (between ps b e = []))
def succs (ps : List Piece) (W : Int) (b : Nat) : List Nat := (List.range' (b + 1) (ps.length - b)).filter (canB ps W b)
theorem between_nil {ps : List Piece} {b e : Nat} (he : e ≤ ps.length) : between ps b e = [] ↔ ∀ o, b < o → o < e → stopB ps o = false := by
  unfold between
  rw [List.filter_eq_nil_iff]
  constructor
  · intro h o h1 h2
    cases q : stopB ps o with
    | false => rfl
    | true => exact absurd (by simp [h1, h2]) (h o (mem_stopsL.mpr ⟨by omega, by omega, q⟩))
  · intro h o ho
    obtain ⟨_, _, h3⟩ := mem_stopsL.mp ho
    intro q
    simp only [Bool.and_eq_true, decide_eq_true_eq] at q
    rw [h o q.1 q.2] at h3; cases h3
theorem mem_succs {ps : List Piece} {W : Int} {b e : Nat} : e ∈ succs ps W b ↔ can ps W b e := by
  unfold succs can canB
  rw [List.mem_filter, List.mem_range'_1]
  constructor
  · rintro ⟨⟨h1, h2⟩, h3⟩
    have he : e ≤ ps.length := by omega
    rw [Bool.and_eq_true, Bool.or_eq_true, decide_eq_true_eq, decide_eq_true_eq, between_nil he] at h3
    exact ⟨by omega, he, h3.1, h3.2⟩
  · rintro ⟨h1, h2, h3, h4⟩
    refine ⟨⟨by omega, by omega⟩, ?_⟩
    rw [Bool.and_eq_true, Bool.or_eq_true, decide_eq_true_eq, decide_eq_true_eq, between_nil h2]
    exact ⟨h3, h4⟩
theorem stopsL_split {ps : List Piece} (h : 0 < ps.length) : ∃ l, stopsL ps = l ++ [ps.length] ∧ ∀ x ∈ l, x < ps.length := by
  obtain ⟨n, hn⟩ : ∃ n, ps.length = n + 1 := ⟨ps.length - 1, by omega⟩
  refine ⟨((List.range n).filter fun i => stopB ps (i + 1)).map (· + 1), ?_, ?_⟩
  · unfold stopsL
    rw [hn, List.range_succ, List.filter_append, List.map_append]
    have : stopB ps (n + 1) = true := by rw [← hn]; exact stop_n
    simp [this]
  · intro x hx
    obtain ⟨i, hi, rfl⟩ := List.mem_map.mp hx
    rw [List.mem_filter, List.mem_range] at hi
    omega
theorem begins_lt {ps : List Piece} (h : 0 < ps.length) {b : Nat} (hb : b ∈ begins ps) : b < ps.length := by
  obtain ⟨l, e, hl⟩ := stopsL_split h
  rcases List.mem_cons.mp hb with rfl | hb
  · exact h
  · rw [e, List.dropLast_concat] at hb
    exact hl _ hb
theorem mem_begins {ps : List Piece} {e : Nat} (h : stopB ps e = true) (he : e < ps.length) (h0 : 0 < e) : e ∈ begins ps := by
  have hm := mem_stopsL.mpr ⟨h0, Nat.le_of_lt he, h⟩
  obtain ⟨l, e', hl⟩ := stopsL_split (ps := ps) (by omega)
  unfold begins
  rw [e', List.dropLast_concat]
  rw [e'] at hm
  rcases List.mem_append.mp hm with q | q
  · exact .tail _ q
  · rw [List.mem_singleton.mp q] at he; omega
theorem stopsL_len {ps : List Piece} : (stopsL ps).length ≤ ps.length := by
  unfold stopsL
  rw [List.length_map]
  have := List.length_filter_le (fun i => stopB ps (i + 1)) (List.range ps.length)
  rwa [List.length_range] at this
theorem begins_len {ps : List Piece} (h : 0 < ps.length) : (begins ps).length ≤ ps.length := by
  have : (stopsL ps).length ≤ ps.length := by
    unfold stopsL
    rw [List.length_map]
    have := List.length_filter_le (fun i => stopB ps (i + 1)) (List.range ps.length)
    rwa [List.length_range] at this
  show (stopsL ps).dropLast.length + 1 ≤ _
  rw [List.length_dropLast]
  omega
abbrev nI (xs : List Nat) : List Int := xs.map fun o : Nat => (o : Int)
theorem any_stops {ps : List Piece} {e : Nat} (h1 : 1 ≤ e) (h2 : e ≤ ps.length) : (nI (stopsL ps)).any (· == (e : Int)) = stopB ps e := by
  cases q : stopB ps e with
  | true =>
    rw [List.any_eq_true]
    exact ⟨(e : Int), List.mem_map.mpr ⟨e, mem_stopsL.mpr ⟨h1, h2, q⟩, rfl⟩, by simp⟩
  | false =>
    rw [List.any_eq_false]
    intro x hx
    obtain ⟨o, ho, rfl⟩ := List.mem_map.mp hx
    intro hh
    have : (o : Int) = (e : Int) := by simpa using hh
    have : o = e := by omega
    subst this
    rw [(mem_stopsL.mp ho).2.2] at q; cases q
/-- numbers as data -/
def iN (xs : List Nat) : List PyData := xs.map fun o : Nat => .int (o : Int)
theorem iN_eq (xs : List Nat) : iN xs = (xs.map fun o : Nat => (o : Int)).map .int := by unfold iN; rw [List.map_map]; rfl

/-! # part P2 -/

/-! ## the plain law: all roads -/
def rm (W0 W1 : Int) (k : Nat) : Int := if k = 0 then W0 else W1
/-- from (a, k) one can come to (e, j) -/
inductive Desc (ps : List Piece) (W0 W1 : Int) : Nat → Nat → Nat → Nat → Prop
  | refl (a k : Nat) : Desc ps W0 W1 a k a k
  | step {a k b e j : Nat} : can ps (rm W0 W1 k) a b → Desc ps W0 W1 b (k + 1) e j → Desc ps W0 W1 a k e j
theorem Desc.snoc {ps : List Piece} {W0 W1 : Int} {a k e j x : Nat} (h : Desc ps W0 W1 a k e j) (c : can ps (rm W0 W1 j) e x) : Desc ps W0 W1 a k x (j + 1) := by
  induction h with
  | refl a k => exact .step c (.refl _ _)
  | step c' _ ih => exact .step c' (ih c)
abbrev Rch (ps : List Piece) (W0 W1 : Int) (k a : Nat) : Prop := Desc ps W0 W1 0 0 a k
/-- every state is the first one or follows on one -/
theorem Desc.last {ps : List Piece} {W0 W1 : Int} {a k e j : Nat} (h : Desc ps W0 W1 a k e j) : (e = a ∧ j = k) ∨ ∃ b i, j = i + 1 ∧ Desc ps W0 W1 a k b i ∧ can ps (rm W0 W1 i) b e := by
  induction h with
  | refl a k => exact .inl ⟨rfl, rfl⟩
  | @step a k b e j c d ih =>
    rcases ih with ⟨rfl, rfl⟩ | ⟨x, i, rfl, d', c'⟩
    · exact .inr ⟨a, k, rfl, .refl _ _, c⟩
    · exact .inr ⟨x, i, rfl, .step c d', c'⟩
theorem Rch.zero {ps : List Piece} {W0 W1 : Int} {a : Nat} (h : Rch ps W0 W1 0 a) : a = 0 := by
  rcases Desc.last h with ⟨rfl, _⟩ | ⟨b, i, e, _⟩
  · rfl
  · omega
theorem Rch.succ {ps : List Piece} {W0 W1 : Int} {k a : Nat} (h : Rch ps W0 W1 (k + 1) a) : ∃ b, Rch ps W0 W1 k b ∧ can ps (rm W0 W1 k) b a := by
  rcases Desc.last h with ⟨_, e⟩ | ⟨b, i, e, d, c⟩
  · omega
  · have : i = k := by omega
    subst this
    exact ⟨b, d, c⟩
theorem Rch.le {ps : List Piece} {W0 W1 : Int} {k a : Nat} (h : Rch ps W0 W1 k a) : a ≤ ps.length := by
  cases k with
  | zero => rw [h.zero]; omega
  | succ k => obtain ⟨b, _, c⟩ := h.succ; exact c.2.1

/-- the weight of what waits -/
def wt (n : Nat) (st : List (Nat × Nat)) : Nat := (st.map fun p => 2 ^ (n - p.1)).sum
theorem wt_app (n : Nat) (a b : List (Nat × Nat)) : wt n (a ++ b) = wt n a + wt n b := by unfold wt; simp
theorem wt_len (n : Nat) : ∀ st : List (Nat × Nat), st.length ≤ wt n st
  | [] => Nat.le_refl _
  | p :: r => by
    have := wt_len n r
    have h2 : 1 ≤ 2 ^ (n - p.1) := Nat.one_le_two_pow
    show r.length + 1 ≤ 2 ^ (n - p.1) + wt n r
    omega
theorem wt_range (k : Nat) : ∀ (d b n : Nat), b + d = n → wt n ((List.range' (b + 1) d).map fun e => (e, k)) + 1 = 2 ^ (n - b)
  | 0, b, n, h => by
    have : n - b = 0 := by omega
    rw [this]; rfl
  | d + 1, b, n, h => by
    have ih := wt_range k d (b + 1) n (by omega)
    rw [List.range'_succ, List.map_cons]
    show 2 ^ (n - (b + 1)) + wt n _ + 1 = 2 ^ (n - b)
    rw [show n - b = (n - (b + 1)) + 1 by omega, Nat.pow_succ]
    omega
theorem wt_filter {n k : Nat} {p : Nat → Bool} : ∀ l : List Nat, wt n ((l.filter p).map fun e => (e, k)) ≤ wt n (l.map fun e => (e, k))
  | [] => Nat.le_refl _
  | x :: r => by
    have ih := wt_filter (n := n) (k := k) (p := p) r
    rw [List.filter_cons]
    split
    · exact Nat.add_le_add_left ih _
    · exact Nat.le_trans ih (Nat.le_add_left _ _)
theorem wt_succs {ps : List Piece} {W : Int} {b k : Nat} (hb : b < ps.length) : wt ps.length ((succs ps W b).map fun e => (e, k)) + 1 ≤ 2 ^ (ps.length - b) := by
  have h1 := wt_filter (n := ps.length) (k := k) (p := canB ps W b) (List.range' (b + 1) (ps.length - b))
  have h2 := wt_range k (ps.length - b) b ps.length (by omega)
  unfold succs
  omega

theorem road_le {C : Nat → Nat → Prop} {n : Nat} (hC : ∀ b e, C b e → b < e ∧ e ≤ n) : ∀ {es : List Nat} {b e : Nat}, Road C b es e → b ≤ e
  | [], _, _, h => by cases h; exact Nat.le_refl _
  | _ :: _, _, _, ⟨hc, hr⟩ => Nat.le_trans (Nat.le_of_lt (hC _ _ hc).1) (road_le hC hr)

/-! ### greedy is furthest, and least -/
section
variable {ps : List Piece} {W0 W1 : Int}
theorem can_wider (f : fine ps) {W W' : Int} {b b' e : Nat} (hW : W ≤ W') (hb : b ≤ b') (he : b' < e) (c : can ps W b e) : can ps W' b' e := by
  obtain ⟨c1, c2, c3, c4⟩ := c
  refine ⟨he, c2, c3, ?_⟩
  rcases c4 with c4 | c4
  · have := wd_left f hb he c2
    exact .inl (by omega)
  · exact .inr fun o h1 h2 => c4 o (by omega) h2
abbrev GRoad (ps : List Piece) (W0 W1 : Int) : Nat → List Nat → Nat → Prop := Road (fun b e => best ps (roomAt W0 W1 b) b e)
theorem furthest_all (f : fine ps) : ∀ (es : List Nat) (b k : Nat), GRoad ps W0 W1 b es ps.length → (b = 0 ↔ k = 0) → Rch ps W0 W1 k b → (∀ a, Rch ps W0 W1 k a → a ≤ b) →
    ∀ i e, es[i]? = some e → Rch ps W0 W1 (k + i + 1) e ∧ ∀ a, Rch ps W0 W1 (k + i + 1) a → a ≤ e
  | [], _, _, _, _, _, _, _, _, h => by simp at h
  | x :: r, b, k, ⟨hc, hr⟩, hb, h1, h2, i, e, he => by
    have hroom : roomAt W0 W1 b = rm W0 W1 k := by
      unfold roomAt rm
      by_cases q : b = 0
      · rw [if_pos q, if_pos (hb.mp q)]
      · rw [if_neg q, if_neg (fun h => q (hb.mpr h))]
    replace hc : best ps (roomAt W0 W1 b) b x := hc
    rw [hroom] at hc
    have g1 : Rch ps W0 W1 (k + 1) x := Desc.snoc h1 hc.1
    have g2 : ∀ a, Rch ps W0 W1 (k + 1) a → a ≤ x := fun a ha => by
      obtain ⟨b', hb', c⟩ := ha.succ
      have hle := h2 _ hb'
      have hbx := hc.1.1
      by_cases q : a ≤ b
      · omega
      · exact hc.2 _ (can_wider f (Int.le_refl _) hle (by omega) c)
    cases i with
    | zero => cases he; exact ⟨g1, g2⟩
    | succ i =>
      have := furthest_all f r x (k + 1) hr (by have := hc.1.1; omega) g1 g2 i e he
      rw [show k + (i + 1) + 1 = k + 1 + i + 1 by omega]
      exact this
theorem least_all (f : fine ps) : ∀ (es : List Nat) (b k : Nat), GRoad ps W0 W1 b es ps.length → (b = 0 ↔ k = 0) → Rch ps W0 W1 k b → (∀ a, Rch ps W0 W1 k a → a ≤ b) → (∀ j, j < k → ¬ Rch ps W0 W1 j ps.length) →
    Rch ps W0 W1 (k + es.length) ps.length ∧ ∀ j, Rch ps W0 W1 j ps.length → k + es.length ≤ j
  | [], b, k, h, _, h1, _, h3 => by
    cases h
    exact ⟨h1, fun j hj => Nat.le_of_not_lt fun q => h3 j q hj⟩
  | x :: r, b, k, ⟨hc, hr⟩, hb, h1, h2, h3 => by
    have hroom : roomAt W0 W1 b = rm W0 W1 k := by
      unfold roomAt rm
      by_cases q : b = 0
      · rw [if_pos q, if_pos (hb.mp q)]
      · rw [if_neg q, if_neg (fun h => q (hb.mpr h))]
    have g := furthest_all f (x :: r) b k ⟨hc, hr⟩ hb h1 h2 0 x rfl
    replace hc : best ps (roomAt W0 W1 b) b x := hc
    rw [hroom] at hc
    have := least_all f r x (k + 1) hr (by have := hc.1.1; omega) g.1 g.2 (fun j hj q => by
      by_cases hjk : j = k
      · subst hjk
        have := h2 _ q
        have h4 := hc.1.1
        have h5 := hc.1.2.1
        omega
      · exact h3 j (by omega) q)
    rw [List.length_cons, show k + (r.length + 1) = k + 1 + r.length by omega]
    exact this
theorem greedy_furthest (f : fine ps) {es : List Nat} (h : Greedy ps W0 W1 es) {i e : Nat} (he : es[i]? = some e) : Rch ps W0 W1 (i + 1) e ∧ ∀ a, Rch ps W0 W1 (i + 1) a → a ≤ e := by
  have := furthest_all f es 0 0 h (by simp) (.refl _ _) (fun a ha => by rw [Rch.zero ha]; omega) i e he
  rwa [Nat.zero_add] at this
theorem greedy_least (f : fine ps) {es : List Nat} (h : Greedy ps W0 W1 es) : Rch ps W0 W1 es.length ps.length ∧ ∀ j, Rch ps W0 W1 j ps.length → es.length ≤ j := by
  have := least_all f es 0 0 h (by simp) (.refl _ _) (fun a ha => by rw [Rch.zero ha]; omega) (fun j hj => by omega)
  rwa [Nat.zero_add] at this
theorem groad_wider (f : fine ps) {V0 V1 : Int} (hV : W1 ≤ V1) : ∀ (es es' : List Nat) (b b' : Nat), GRoad ps W0 W1 b es ps.length → GRoad ps V0 V1 b' es' ps.length → b ≤ b' → roomAt W0 W1 b ≤ roomAt V0 V1 b' → es'.length ≤ es.length
  | _, [], _, _, _, _, _, _ => Nat.zero_le _
  | [], y :: r', b, b', h, ⟨hc', _⟩, hb, _ => by
    cases h
    have h1 := hc'.1.1
    have h2 := hc'.1.2.1
    omega
  | x :: r, y :: r', b, b', ⟨hc, hr⟩, ⟨hc', hr'⟩, hb, hW => by
    have h1 := hc.1.1
    have h1' := hc'.1.1
    have hxy : x ≤ y := by
      by_cases q : x ≤ b'
      · omega
      · exact hc'.2 _ (can_wider f hW hb (by omega) hc.1)
    have := groad_wider f hV r r' x y hr hr' hxy (by
      unfold roomAt
      rw [if_neg (by omega), if_neg (by omega)]; exact hV)
    rw [List.length_cons, List.length_cons]; omega
theorem greedy_wider (f : fine ps) {V0 V1 : Int} {es es' : List Nat} (h : Greedy ps W0 W1 es) (h' : Greedy ps V0 V1 es') (h0 : W0 ≤ V0) (h1 : W1 ≤ V1) : es'.length ≤ es.length :=
  groad_wider f h1 es es' 0 0 h h' (Nat.le_refl _) h0
/-- the rows of a greedy road, one behind the other -/
theorem cuts_flat {α : Type} (ps : List α) {C : Nat → Nat → Prop} (hC : ∀ b e, C b e → b < e ∧ e ≤ ps.length) : ∀ (es : List Nat) (b e : Nat), Road C b es e → e ≤ ps.length → (cuts ps b es).flatten = (ps.drop b).take (e - b)
  | [], b, e, h, _ => by cases h; simp [cuts]
  | x :: r, b, e, ⟨hc, hr⟩, he => by
    obtain ⟨h1, h2⟩ := hC _ _ hc
    have hle : x ≤ e := road_le hC hr
    show (ps.drop b).take (x - b) ++ (cuts ps x r).flatten = _
    rw [cuts_flat ps hC r x e hr he]
    rw [show e - b = (x - b) + (e - x) by omega, List.take_add, List.drop_drop, show b + (x - b) = x by omega]
end

/-! # the lines of the walk -/
local macro_rules | `(tactic| walk_at "mem") => `(tactic| first | exact List.Mem.head _ | (apply List.Mem.tail; walk_at "mem"))
local macro_rules | `(tactic| walk_at "up") => `(tactic| first | exact Upd.head | (apply Upd.tail; walk_at "up"))
local macro_rules | `(tactic| walk_at "lk") => `(tactic| first | with_reducible assumption | with_reducible exact upd_same | ((with_reducible refine Eq.trans (upd_ne ?_) ?_); decide; walk_at "lk"))
local macro_rules | `(tactic| walk_at "le") => `(tactic| first | exact Kn.le.rfl' | with_reducible assumption | (apply Kn.le.tr'; (with_reducible assumption); walk_at "le"))
local macro_rules | `(tactic| walk_at "gE") => `(tactic| first | with_reducible assumption | (apply GE.mono'; (with_reducible assumption); walk_at "gE"))
local macro_rules | `(tactic| walk_at "rpa") => `(tactic| first | exact RpA.nil | with_reducible assumption | exact Rp.int _ _ | ((with_reducible show RpA _ _ _); apply RpA.cons <;> walk_at "rpa") | ((with_reducible show Rp _ _ _); apply Rp.mono; (with_reducible assumption); walk_at "rpa"))
local macro_rules | `(tactic| walk_at "name") => `(tactic| first | refine' nL (by assumption) (by walk_at "mem") (by walk_at "lk") ?_ | refine' nC (by assumption) (by rfl) (by walk_at "mem") ?_ | refine' nG (by assumption) (by walk_at "gE") (by ((show nsIn (hd.heap_39 _) _ _ = _; k_is))) ?_ | refine' nB (by assumption) (by walk_at "gE") (by ((show nsIn (hd.heap_39 _) _ _ = _; k_is))) (by boot_fast) (by decide) ?_)
local macro_rules | `(tactic| walk_at "store") => `(tactic| first | ((rename St _ _ _ _ => hsX); refine' sL hsX ⟨_, (by walk_at "mem"), (by walk_at "up")⟩ ?_; clear hsX; intro _ _) | ((rename St _ _ _ _ => hsX); refine' sC hsX (by rfl) (by walk_at "mem") (by walk_at "up") ?_; clear hsX; intro _ _))
local macro_rules | `(tactic| walk_at "true1") => `(tactic| first | ((with_reducible show wpAny _ _ (isTrue (Expr.Compare _ _ _ _) _ _) _ _ _); refine wpAny_isTrue_Compare1 ?_) | ((with_reducible show wpAny _ _ (isTrue (Expr.BoolOp _ _ _) _ _) _ _ _); first | with_reducible refine isTrue_or ?_ | with_reducible refine isTrue_and ?_ | with_reducible refine isTrue_or_nil ?_ | with_reducible refine isTrue_and_nil ?_) | ((with_reducible show wpAny _ _ (isTrue (Expr.UnaryOp _ _ _) _ _) _ _ _); refine isTrue_not ?_) | refine isTrue_plain ?_)
local macro_rules | `(tactic| walk_at "if1") => `(tactic| first | with_reducible refine if_t ?_ | with_reducible refine if_f ?_ | ((with_reducible refine if_dec ?_ ?_) <;> intro _) | ((with_reducible refine if_b ?_ ?_) <;> intro _))
local macro_rules | `(tactic| walk_at "rem") => `(tactic| first | exact Rem.head | (apply Rem.tail; walk_at "rem"))
local macro_rules | `(tactic| walk_at "call1") => `(tactic| first | with_reducible refine wpAny_items_nil ?_ | ((with_reducible show wpAny _ _ (spliced _) _ _ _); refine wpAny_items_cons ?_) | ((with_reducible show wpAny _ _ (callWith _ (Value.builtin _) _ _ _) _ _ _); first | refine cwB ?_ | refine callWith_method1 ?_ | refine callWith_method0 ?_) | ((with_reducible show wpAny _ _ (callWith _ (Value.type _) _ _ _) _ _ _); refine cwT ?_) | ((with_reducible show wpAny _ _ (callWith _ (Value.ref _) _ _ _) _ _ _); refine' cwF (by assumption) (by k_is) ?_) | ((rename St _ _ _ _ => hsX); (with_reducible show wpAny _ _ (call (Value.builtin "len") _) _ _ _); refine' lenL hsX (by (first | exact Or.inl ⟨_, by assumption⟩ | exact Or.inr (by walk_at "mem"))) (by (first | assumption | omega)) ?_; clear hsX; intro _ _ _))
local macro_rules | `(tactic| walk_at "S") => `(tactic| first | ((with_reducible show wpAny _ _ (execs _ _) _ _ _); walk_at "exec1") | ((with_reducible show wpAny _ _ (eval _ _) _ _ _); walk_at "eval1") | ((with_reducible show wpAny _ _ (storeName _ _ _) _ _ _); walk_at "store") | ((with_reducible show wpAny _ _ (isTrue _ _ _) _ _ _); walk_at "true1") | ((with_reducible show wpAny _ _ (spliced _) _ _ _); walk_at "call1") | ((with_reducible show wpAny _ _ (callWith _ _ _ _ _) _ _ _); walk_at "call1") | ((with_reducible show wpAny _ _ (call _ _) _ _ _); walk_at "call1") | walk_at "op1" | walk_at "if1" | (first | (refine And.intro ⟨_, _, _, _, _, by assumption, by assumption⟩ ?_)) | with_reducible refine thn_next ?_ | with_reducible refine thn_ret ?_)
local macro_rules | `(tactic| walk_at "op1") => `(tactic| first | with_reducible refine ltI ?_ | with_reducible refine gtI ?_ | with_reducible refine leI ?_ | with_reducible refine geI ?_ | with_reducible refine eqI ?_ | with_reducible refine neI ?_ | ((rename St _ _ _ _ => hsX); (first | with_reducible refine addI hsX ?_ | with_reducible refine subI hsX ?_); clear hsX; intro _ _ _) | with_reducible refine wpAny_truthy_bool ?_ | ((with_reducible show wpAny _ _ (compareOp CmpOp.In _ _) _ _ _); first | refine' inK (by assumption) (by assumption) (by k_is) (by repeat constructor) ?_ | refine' inL (by assumption) (by (first | exact Or.inl ⟨_, by assumption⟩ | exact Or.inr (by walk_at "mem"))) (by assumption) ?_) | ((with_reducible show wpAny _ _ (subscriptTail _ _ _ _) _ _ _); refine' idxI (by assumption) (by (first | exact Or.inl ⟨_, by assumption⟩ | exact Or.inr (by walk_at "mem"))) (by assumption) (by omega) (by omega) (by omega) ?_; intro _) | ((with_reducible show wpAny _ _ (assign (Expr.Name _ _) _ _) _ _ _); refine asgN ?_) | ((with_reducible show wpAny _ _ (assign (Expr.Tuple [_, _] _ _) _ _) _ _ _); (rename St _ _ _ _ => hsX); refine' asg2 hsX (by (first | assumption | exact Rm.le (by assumption) (by omega))) (by (first | exact Or.inl ⟨_, by assumption⟩ | exact Or.inr (by walk_at "mem"))) ?_; clear hsX; intro _ _))
local macro_rules | `(tactic| walk_at "exec1") => `(tactic| first | with_reducible refine xRet ?_ | with_reducible refine xIf ?_ | ((with_reducible show wpAny _ _ (execs (Stmt.Assign [Expr.Name _ _] _ _ :: _) _) _ _ _); refine xAssign ?_) | ((with_reducible show wpAny _ _ (execs (Stmt.Assign [Expr.Tuple _ _ _] _ _ :: _) _) _ _ _); refine xAssignT ?_) | with_reducible refine xNil ?_ | ((with_reducible show wpAny _ _ (execs (Stmt.Expr _ _ :: _) _) _ _ _); refine xExpr ?_))
local macro_rules | `(tactic| walk_at "eval1") => `(tactic| first | ((with_reducible show wpAny _ _ (eval (Expr.Name _ _) _) _ _ _); walk_at "name") | ((with_reducible show wpAny _ _ (eval (Expr.Constant _ _ _) _) _ _ _); first | ((rename St _ _ _ _ => hsX); refine cI hsX ?_; clear hsX; intro _ _ _) | refine Constant_bool ?_ | refine Constant_none ?_) | ((with_reducible show wpAny _ _ (eval (Expr.BinOp _ _ _ _) _) _ _ _); refine wpAny_BinOp ?_) | ((with_reducible show wpAny _ _ (eval (Expr.Compare _ _ _ _) _) _ _ _); refine wpAny_Compare1 ?_) | ((with_reducible show wpAny _ _ (eval (Expr.UnaryOp _ _ _) _) _ _ _); refine UnaryOp_ ?_) | ((with_reducible show wpAny _ _ (eval (Expr.BoolOp _ _ _) _) _ _ _); first | with_reducible refine BoolOp_or ?_ | with_reducible refine BoolOp_and ?_ | with_reducible refine BoolOp_one ?_) | ((with_reducible show wpAny _ _ (eval (Expr.IfExp _ _ _ _) _) _ _ _); refine IfExp_ ?_) | ((with_reducible show wpAny _ _ (eval (Expr.Subscript _ (Expr.Slice _ _ _ _) _) _) _ _ _); refine xSlice ?_) | ((with_reducible show wpAny _ _ (eval (Expr.Subscript _ _ _) _) _ _ _); refine Subscript_ ?_) | ((with_reducible show wpAny _ _ (eval (Expr.List _ _) _) _ _ _); refine mkL ?_) | ((with_reducible show wpAny _ _ (eval (Expr.Tuple _ _ _) _) _ _ _); refine mkT ?_) | ((with_reducible show wpAny _ _ (eval (Expr.Call (Expr.Attribute _ _ _) _ _ _) _) _ _ _); refine MethodCall_ ?_) | ((with_reducible show wpAny _ _ (eval (Expr.Call _ _ _ _) _) _ _ _); refine Call_ ?_))

/-! # part C1 -/
abbrev PROG : Program := PySem.Challenge.rw_rg0131_01.row.prog
abbrev G0 (w : World) (I : Kn) : Prop := GE (hd.heap_39 w.params) hd.view_39 (looseW hd.view_39 []) I
section
variable {w : World} {A : Around} {E : Value → Shared → Prop} {s s₀ : Shared} {I : Kn} {W : Own} {Q : Value → Shared → Prop} {t : Tok}

def isBlk (c : Int) : Bool := decide (c = 32) || (decide (c = 9) || decide (c = 10))
theorem c_is_blank {c : Int} (g : G0 w I) (r : Rm A 1) (hs : St s₀ I W s) (h : ∀ s', St s₀ I W s' → Q (.bool (isBlk c)) s') : wpAny (model PROG w) A (call (.ref 23) [.int c t]) Q E s := by
  refine xCall (n := 0) g r hs (by k_is) (by k_is) rfl (locs rfl) (by decide) ?_
  clear hs r
  intro A' L s' m hm hs r'
  have h1 : m "code" = some (.int c t) := by rw [hm]; rfl
  clear hm
  repeat' walk_at "S"
  all_goals (have q := h _ (hs.rem .head); simpa [isBlk, retOf, *] using q)

def isCl (c : Int) : Bool := [34, 39, 41, 93, 125].any (· == c)
def isEnd (c : Int) : Bool := [33, 46, 63].any (· == c)
def endsS (xs : List Int) : Bool := match xs.reverse.dropWhile isCl with
  | [] => false
  | c :: _ => isEnd c
theorem endsS_snoc (xs : List Int) (c : Int) : endsS (xs ++ [c]) = if isCl c then endsS xs else isEnd c := by
  unfold endsS
  have e : (xs ++ [c]).reverse = c :: xs.reverse := by simp
  rw [e, List.dropWhile_cons]
  by_cases h : isCl c = true
  · rw [if_pos h, if_pos h]
  · rw [if_neg h, if_neg h]
theorem endsS_nil : endsS [] = false := rfl
theorem take_snoc (xs : List Int) (k : Nat) (h : k < xs.length) : xs.take (k + 1) = xs.take k ++ [xs.getD k 0] := by
  rw [List.take_add_one, List.getD_eq_getElem?_getD, List.getElem?_eq_getElem h]; rfl

theorem c_ends {v : Value} {xs : List Int} (g : G0 w I) (r : Rm A 1) (hs : St s₀ I W s) (hv : Rp I v (.list (xs.map .int))) (hx : xs.length < 1000) (h : ∀ s', St s₀ I W s' → Q (.bool (endsS xs)) s') :
    wpAny (model PROG w) A (call (.ref 30) [v]) Q E s := by
  obtain ⟨a, vs, n, rfl, ea, ra⟩ := hv.listInv
  have hi := ra.ints
  have hlen : vs.length = xs.length := hi.length
  refine xCall (n := 0) g r hs (by k_is) (by k_is) rfl (locs rfl) (by decide) ?_
  clear hs r
  intro A' L s' m hm hs r'
  have h1 : m "word" = some (.ref a) := by rw [hm]; rfl
  clear hm
  repeat' walk_at "S"
  rename_i hs
  refine xWhileP (fun n s => Ex3 fun m k t => All7 (St s₀ I ((L, NsO m) :: W) s) (m "word" = some (.ref a)) (m "at" = some (.int k t)) (-1 ≤ k) (k < xs.length) (endsS xs = endsS (xs.take (k + 1).toNat)) (n = (k + 1).toNat))
    (fun s => Ex3 fun m k t => All6 (St s₀ I ((L, NsO m) :: W) s) (m "word" = some (.ref a)) (m "at" = some (.int k t)) (-1 ≤ k) (k < xs.length) (endsS xs = (decide (0 ≤ k) && isEnd (xs.getD k.toNat 0))))
    _ ⟨_, _, _, hs, by walk_at "lk", by walk_at "lk", ?_, ?_, ?_, rfl⟩ ?_ ?_
  · omega
  · omega
  · rw [List.take_of_length_le (by omega)]
  · clear hs h1
    rintro n s ⟨m, k, t, hs, h1, h2, hk0, hk1, he, rfl⟩
    have tk : 0 ≤ k → xs.take (k + 1).toNat = xs.take k.toNat ++ [xs.getD k.toNat 0] := fun h0 => by
      rw [show (k + 1).toNat = k.toNat + 1 by omega]; exact take_snoc _ _ (by omega)
    repeat' walk_at "S"
    · rename_i h0 _ hc _ _ _ _ _ hs
      rw [tk h0, endsS_snoc, if_pos (show isCl _ = true from hc)] at he
      refine ⟨_, ?_, _, _, _, hs, by walk_at "lk", by walk_at "lk", ?_, ?_, ?_, rfl⟩
      · omega
      · omega
      · omega
      · rw [he, show (k - 1 + 1).toNat = k.toNat by omega]
    · rename_i h0 _ hc
      rw [tk h0, endsS_snoc, if_neg (by rw [show isCl _ = _ from hc]; decide)] at he
      exact ⟨_, _, _, by assumption, h1, h2, hk0, hk1, by rw [he]; simp [h0]⟩
    · rename_i h0
      have : (k + 1).toNat = 0 := by omega
      rw [this] at he
      exact ⟨_, _, _, by assumption, h1, h2, hk0, hk1, by rw [he]; simp [h0, endsS_nil]⟩
  · clear hs h1
    rintro s ⟨m, k, t, hs, h1, h2, hk0, hk1, he⟩
    repeat' walk_at "S"
    · rename_i h0 _
      have q := h _ (St.rem (by assumption) .head)
      rw [he, decide_eq_true h0] at q; exact q
    · rename_i h0
      have q := h _ (St.rem (by assumption) .head)
      rw [he, decide_eq_false h0] at q
      rw [decide_eq_false h0]; exact q
end

/-! # part C2 -/
section
variable {w : World} {A : Around} {E : Value → Shared → Prop} {s s₀ : Shared} {I : Kn} {W : Own} {Q : Value → Shared → Prop} {t : Tok}

def gapS (xs bs : List Int) : Int := if endsS xs = true then (if (bs.any (· == 10) || decide (1 < bs.length)) = true then 2 else 1) else 1
theorem c_gap {v b : Value} {xs bs : List Int} (g : G0 w I) (r : Rm A 2) (hs : St s₀ I W s) (hv : Rp I v (.list (xs.map .int))) (hx : xs.length < 1000) (hb : Rp I b (.list (bs.map .int))) (hy : bs.length < 1000)
    (h : ∀ t s', St s₀ I W s' → Q (.int (gapS xs bs) t) s') : wpAny (model PROG w) A (call (.ref 37) [v, b]) Q E s := by
  refine xCall (n := 1) g r hs (by k_is) (by k_is) rfl (locs rfl) (by decide) ?_
  obtain ⟨a, vs, n, rfl, ea, ra⟩ := hb.listInv
  have hi := ra.ints
  have hlen : vs.length = bs.length := hi.length
  clear hs r
  intro A' L s' m hm hs r'
  have h1 : m "word" = some v := by rw [hm]; rfl
  have h2 : m "between" = some (.ref a) := by rw [hm]; rfl
  clear hm
  repeat' first | walk_at "S" | (first | ((with_reducible show wpAny _ _ (call (Value.ref 30) _) _ _ _); (rename St _ _ _ _ => hsX); refine' c_ends (by assumption) (by (first | assumption | exact Rm.le (by assumption) (by omega))) hsX (by assumption) (by (first | assumption | omega)) ?_; clear hsX; intro _ _) | ((with_reducible show wpAny _ _ (call (Value.ref 23) _) _ _ _); (rename St _ _ _ _ => hsX); refine' c_is_blank (by assumption) (by (first | assumption | exact Rm.le (by assumption) (by omega))) hsX ?_; clear hsX; intro _ _))
  · rename_i e _ _ _
    have q := fun t => h t _ (St.rem (by assumption) .head)
    rw [gapS, if_neg (by simpa using e)] at q; exact q _
  · rename_i e e2 _ _ _
    have q := fun t => h t _ (St.rem (by assumption) .head)
    rw [gapS, if_pos (by simpa using e), if_pos (by rw [e2]; rfl)] at q; exact q _
  · rename_i e e2 _ _ _ _ e3 _ _ _
    have q := fun t => h t _ (St.rem (by assumption) .head)
    rw [gapS, if_pos (by simpa using e), if_pos (by rw [decide_eq_true (by omega)]; simp)] at q; exact q _
  · rename_i e e2 _ _ _ _ e3 _ _ _
    have q := fun t => h t _ (St.rem (by assumption) .head)
    rw [gapS, if_pos (by simpa using e), if_neg (by rw [e2, decide_eq_false (by omega)]; decide)] at q; exact q _

/-- a piece as data -/
def pcD (p : Piece) : PyData := .tuple [.list (p.1.map .int), .int p.2]
theorem pcInv {I : Kn} {v : Value} {p : Piece} (h : Rp I v (pcD p)) : Ex4 fun a v1 n t => All3 (v = .ref a) (I a = some { cls := .type "tuple", data := .seq [v1, .int p.2 t].toArray n }) (Rp I v1 (.list (p.1.map .int))) := by
  obtain ⟨a, vs, n, rfl, e, r⟩ := h.tupInv
  cases r with | cons r1 r => cases r with | cons r2 r => cases r with | nil =>
    obtain ⟨t, rfl⟩ := r2.intInv
    exact ⟨a, _, n, t, rfl, e, r1⟩
theorem idxP {prog : Program} {A : Around} {a : Addr} {vs : List Value} {ps : List Piece} {k : Int} {u : Tok} {value slice : Expr} {Q : Value → Shared → Prop} (hs : St s₀ I W s) (hl : HasL I W a vs) (ra : RpA I vs (ps.map pcD)) (h0 : 0 ≤ k) (h1 : k < ps.length) (hhi : k < 2 ^ 63)
    (h : ∀ v, Rp I v (pcD (ps.getD k.toNat ([], 0))) → Q v s)
    (hb : subscripted slice false (.ref a) (.int k u) = operate [.ref a, .int k u] (getItem (.ref a) (.int k u)) := by with_unfolding_all rfl) :
    wpAny (model prog w) A (subscriptTail value slice (.ref a) (.int k u)) Q E s := by
  have hk : k.toNat < ps.length := by omega
  have e : (ps.map pcD)[k.toNat]? = some (pcD (ps.getD k.toNat ([], 0))) := by
    rw [List.getElem?_map, List.getD_eq_getElem?_getD, List.getElem?_eq_getElem hk]; rfl
  obtain ⟨v, ev, rv⟩ := ra.get e
  exact idxL hs hl h0 hhi ev (h v rv) hb
theorem fine_at {ps : List Piece} (f : fine ps) {k : Nat} (h : k < ps.length) : (ps.getD k ([], 0)).1 ≠ [] ∧ (ps.getD k ([], 0)).1.length < 1000 ∧ 1 ≤ (ps.getD k ([], 0)).2 ∧ (ps.getD k ([], 0)).2 ≤ 2 := by
  rw [List.getD_eq_getElem?_getD, List.getElem?_eq_getElem h]
  exact f _ (List.getElem_mem h)
theorem c_may {v : Value} {p : Piece} (g : G0 w I) (r : Rm A 1) (hs : St s₀ I W s) (hv : Rp I v (pcD p)) (hx : p.1.length < 1000) (hne : p.1 ≠ [])
    (h : ∀ s', St s₀ I W s' → Q (.bool (mayB p)) s') : wpAny (model PROG w) A (call (.ref 51) [v]) Q E s := by
  refine xCall (n := 0) g r hs (by k_is) (by k_is) rfl (locs rfl) (by decide) ?_
  obtain ⟨a, v1, n, t, rfl, ea, r1⟩ := pcInv hv
  obtain ⟨l, vs, n', rfl, el, ra⟩ := r1.listInv
  have hi := ra.ints
  have hlen : vs.length = p.1.length := hi.length
  have hpos : 0 < p.1.length := List.length_pos_iff.mpr hne
  clear hs r
  intro A' L s' m hm hs r'
  have h1 : m "piece" = some (.ref a) := by rw [hm]; rfl
  clear hm
  repeat' first | walk_at "S" | (first | ((with_reducible show wpAny _ _ (call (Value.ref 30) _) _ _ _); (rename St _ _ _ _ => hsX); refine' c_ends (by assumption) (by (first | assumption | exact Rm.le (by assumption) (by omega))) hsX (by assumption) (by (first | assumption | omega)) ?_; clear hsX; intro _ _) | ((with_reducible show wpAny _ _ (call (Value.ref 23) _) _ _ _); (rename St _ _ _ _ => hsX); refine' c_is_blank (by assumption) (by (first | assumption | exact Rm.le (by assumption) (by omega))) hsX ?_; clear hsX; intro _ _))
  · rename_i e
    have q := h _ (St.rem (by assumption) .head)
    rw [mayB, decide_eq_true e] at q
    rw [decide_eq_true e]; exact q
  · rename_i e _ _ _ _ _ _ _ _ _
    have q := h _ (St.rem (by assumption) .head)
    rw [mayB, decide_eq_false (by assumption), Bool.false_or] at q
    rw [show ((vs.length : Int) - 1).toNat = p.1.length - 1 by omega]; exact q

theorem c_row_end {v : Value} {ps : List Piece} {b : Nat} {wth : Int} {t t2 : Tok} (g : G0 w I) (r : Rm A 2) (hs : St s₀ I W s) (hv : Rp I v (.list (ps.map pcD))) (hf : fine ps) (hn : ps.length < 1000) (hb : b < ps.length)
    (h : ∀ e t s', best ps wth b e → St s₀ I W s' → Q (.int (e : Nat) t) s') : wpAny (model PROG w) A (call (.ref 58) [v, .int b t, .int wth t2]) Q E s := by
  refine xCall (n := 1) g r hs (by k_is) (by k_is) rfl (locs rfl) (by decide) ?_
  obtain ⟨a, vs, n, rfl, ea, ra⟩ := hv.listInv
  have hlen : vs.length = ps.length := by rw [ra.length, List.length_map]
  clear hs r
  intro A' L s' m hm hs r'
  have h1 : m "pieces" = some (.ref a) := by rw [hm]; rfl
  have h2 : m "first" = some (.int b t) := by rw [hm]; rfl
  have h3 : m "width" = some (.int wth t2) := by rw [hm]; rfl
  clear hm
  repeat' walk_at "S"
  rename_i hs
  refine xWhileP (fun n s => Ex9 fun m (k bs : Nat) zk zb u t3 t4 t5 => All12 (St s₀ I ((L, NsO m) :: W) s) (m "pieces" = some (.ref a)) (m "first" = some (.int b t)) (m "width" = some (.int wth t2)) (m "at" = some (.int zk t3)) (m "best" = some (.int zb t4)) (m "used" = some (.int u t5)) (zk = (k : Int)) (zb = (bs : Int)) (u = sm ps k - sm ps b) (REI ps wth b k bs) (n = ps.length - k))
    (fun s => ∃ m, All3 (St s₀ I ((L, NsO m) :: W) s) (m "pieces" = some (.ref a)) (best ps wth b ps.length)) _
    ⟨_, b, b, b, b, 0, _, _, _, hs, by walk_at "lk", by walk_at "lk", by walk_at "lk", by walk_at "lk", by walk_at "lk", by walk_at "lk", rfl, rfl, by omega, re_start (by omega), rfl⟩ ?_ ?_
  · clear hs h1 h2 h3
    rintro n s ⟨m, k, bs, _, _, u, t3, t4, t5, hs, h1, h2, h3, h4, h5, h6, rfl, rfl, hu, I0, rfl⟩
    repeat' first | walk_at "S" | (first | ((with_reducible show wpAny _ _ (call (Value.ref 30) _) _ _ _); (rename St _ _ _ _ => hsX); refine' c_ends (by assumption) (by (first | assumption | exact Rm.le (by assumption) (by omega))) hsX (by assumption) (by (first | assumption | omega)) ?_; clear hsX; intro _ _) | ((with_reducible show wpAny _ _ (call (Value.ref 23) _) _ _ _); (rename St _ _ _ _ => hsX); refine' c_is_blank (by assumption) (by (first | assumption | exact Rm.le (by assumption) (by omega))) hsX ?_; clear hsX; intro _ _))
    · rename_i hs hlt
      have hkn : k < ps.length := by omega
      refine idxP hs (.inl ⟨_, ea⟩) ra (by omega) (by omega) (by omega) fun v rv => ?_
      rw [show ((k : Nat) : Int).toNat = k by omega] at rv
      have hfk := fine_at hf hkn
      have hln : ln ps k = ((ps.getD k ([], 0)).1.length : Nat) := rfl
      have hgp : gp ps k = (ps.getD k ([], 0)).2 := rfl
      have hsm : sm ps (k + 1) = sm ps k + ln ps k + gp ps k := rfl
      have e1 : ((k : Nat) + 1 - 1 : Int).toNat = k := by omega
      obtain ⟨a2, v1, n2, t6, rfl, e2, r1⟩ := pcInv rv
      obtain ⟨a3, vs3, n3, rfl, e3, r3⟩ := r1.listInv
      have hl3 : vs3.length = (ps.getD k ([], 0)).1.length := by rw [r3.length, List.length_map]
      obtain ⟨hf1, hf2, hf3, hf4⟩ := hfk
      repeat' first | walk_at "S" | (first | ((with_reducible show wpAny _ _ (call (Value.ref 51) _) _ _ _); (rename St _ _ _ _ => hsX); refine' c_may (by assumption) (by (first | assumption | exact Rm.le (by assumption) (by omega))) hsX (by assumption) (by (exact (fine_at (by assumption) (by omega)).2.1)) (by (exact (fine_at (by assumption) (by omega)).1)) ?_; clear hsX; intro _ _) | ((with_reducible show wpAny _ _ (subscriptTail _ _ _ _) _ _ _); refine' idxP (by assumption) (by (first | exact Or.inl ⟨_, by assumption⟩ | exact Or.inr (by walk_at "mem"))) (by assumption) (by omega) (by omega) (by omega) ?_; intro _ _))
      all_goals (try simp only [e1] at *)
      all_goals first
        | exact h bs _ _ (re_ret1 hf I0 hkn (by omega) (by omega)) (St.rem (by assumption) .head)
        | exact h (k + 1) _ _ (re_ret2 hf I0 hkn (by omega) (by omega) (by first | exact stop_len (by omega) | exact stop_may (by assumption))) (St.rem (by assumption) .head)
        | (refine ⟨ps.length - (k + 1), by omega, _, k + 1, k + 1, _, _, _, _, _, _, by assumption, by walk_at "lk", by walk_at "lk", by walk_at "lk", by walk_at "lk", by walk_at "lk", by walk_at "lk", by omega, by omega, ?_, re_stop I0 hkn (by omega) (by first | exact stop_len (by omega) | exact stop_may (by assumption)), rfl⟩; omega)
        | (refine ⟨ps.length - (k + 1), by omega, _, k + 1, bs, _, _, _, _, _, _, by assumption, by walk_at "lk", by walk_at "lk", by walk_at "lk", by walk_at "lk", by walk_at "lk", by walk_at "lk", by omega, by omega, ?_, re_no I0 hkn (stop_no (by omega) (by assumption)), rfl⟩; omega)
    · have hk := I0.ib
      have : k = ps.length := by omega
      subst this
      exact ⟨_, by assumption, h1, re_end I0 hb⟩
  · rintro s ⟨m, hs, h1, hbest⟩
    repeat' walk_at "S"
    have q := fun t => h _ t _ hbest (St.rem (by assumption) .head)
    rw [← hlen] at q; exact q _
end

/-! # part C3 -/
section
variable {w : World} {A : Around} {E : Value → Shared → Prop} {s s₀ : Shared} {I : Kn} {W : Own} {Q : Value → Shared → Prop} {t : Tok}
def rowD (r : List Piece) : PyData := .list (r.map pcD)
theorem cuts_len {α : Type} {ps : List α} : ∀ {es : List Nat} {b : Nat}, (cuts ps b es).length = es.length
  | [], _ => rfl
  | _ :: r, _ => by show (cuts ps _ r).length + 1 = _; rw [cuts_len]; rfl
theorem c_rows_of {v : Value} {ps : List Piece} {W0 W1 : Int} {t t2 : Tok} (g : G0 w I) (r : Rm A 3) (hs : St s₀ I W s) (hv : Rp I v (.list (ps.map pcD))) (hf : fine ps) (hn : ps.length < 1000)
    (h : ∀ J v' es s', Kn.le I J → Greedy ps W0 W1 es → Rp J v' (.list ((cuts ps 0 es).map rowD)) → St s₀ J W s' → Q v' s') : wpAny (model PROG w) A (call (.ref 65) [v, .int W0 t, .int W1 t2]) Q E s := by
  refine xCall (n := 2) g r hs (by k_is) (by k_is) rfl (locs rfl) (by decide) ?_
  obtain ⟨a, vs, n, rfl, ea, ra⟩ := hv.listInv
  have hlen : vs.length = ps.length := by rw [ra.length, List.length_map]
  clear hs r
  intro A' L s' m hm hs r'
  have h1 : m "pieces" = some (.ref a) := by rw [hm]; rfl
  have h2 : m "first_width" = some (.int W0 t) := by rw [hm]; rfl
  have h3 : m "width" = some (.int W1 t2) := by rw [hm]; rfl
  clear hm
  repeat' first | walk_at "S" | (first | ((with_reducible show wpAny _ _ (evalPart _ _) _ _ _); first | with_reducible refine part_none ?_ | with_reducible refine part_some ?_) | ((with_reducible show _ ∧ _); (rename St _ _ _ _ => hsX); (refine And.intro (by (try simp only [List.length_cons, List.length_nil]); decide) ⟨_, _, _, hsX, ?_⟩); clear hsX; intro _ _ _ _) | ((with_reducible show wpAny _ _ (getMethod (Value.ref _) (Str.ofString "append") _) _ _ _); refine' mApp (by assumption) (by (first | exact Or.inl ⟨_, by assumption⟩ | exact Or.inr (by walk_at "mem"))) ?_) | ((with_reducible show wpAny _ _ (getMethod (Value.ref _) (Str.ofString "pop") _) _ _ _); refine' mPop (by assumption) (by (first | exact Or.inl ⟨_, by assumption⟩ | exact Or.inr (by walk_at "mem"))) ?_))
  rename_i R _ _ _ _ _ _ hs
  refine xWhileP (fun n s => Ex7 fun J m (k : Nat) es rvs zk t3 => All13 (Kn.le I J) (St s₀ J ((R, LsO rvs) :: (L, NsO m) :: W) s) (m "pieces" = some (.ref a)) (m "first_width" = some (.int W0 t)) (m "width" = some (.int W1 t2)) (m "rows" = some (.ref R)) (m "at" = some (.int zk t3)) (zk = (k : Int)) (Road (fun b e => best ps (roomAt W0 W1 b) b e) 0 es k) (RpA J rvs ((cuts ps 0 es).map rowD)) (es.length ≤ k) (k ≤ ps.length) (n = ps.length - k))
    (fun s => Ex4 fun J m es rvs => All5 (Kn.le I J) (St s₀ J ((R, LsO rvs) :: (L, NsO m) :: W) s) (m "rows" = some (.ref R)) (Greedy ps W0 W1 es) (RpA J rvs ((cuts ps 0 es).map rowD))) _
    ⟨I, _, 0, [], [], 0, _, Kn.le.rfl', hs, by walk_at "lk", by walk_at "lk", by walk_at "lk", by walk_at "lk", by walk_at "lk", rfl, rfl, .nil, by simp, by omega, rfl⟩ ?_ ?_
  · clear hs h1 h2 h3
    rintro n s ⟨J, m, k, es, rvs, _, t3, hle, hs, h1, h2, h3, h4, h5, rfl, hroad, hrv, hel, hk, rfl⟩
    have g' : G0 w J := g.mono hle
    have ea' := hle _ _ ea
    have ra' := ra.mono hle
    have hv' := hv.mono hle
    clear g
    have hfin : k ≤ ps.length → ¬ (k : Int) < vs.length → k = ps.length := by omega
    repeat' ((fail_if_success (with_reducible show wpAny _ _ (eval (Expr.IfExp _ _ _ _) _) _ _ _)); walk_at "S")
    · rename St _ _ _ _ => hs
      rename (k : Int) < vs.length => hlt
      refine eP (fun v s => ∃ t, v = .int (roomAt W0 W1 k) t ∧ St s₀ J ((R, LsO rvs) :: (L, NsO m) :: W) s) ?_ ?_
      · repeat' walk_at "S"
        · rename (k : Int) = 0 => h0
          exact ⟨_, by rw [roomAt, if_pos (by omega)], by assumption⟩
        · rename ¬ (k : Int) = 0 => h0
          exact ⟨_, by rw [roomAt, if_neg (by omega)], by assumption⟩
      · clear hs
        rintro v s ⟨t4, rfl, hs⟩
        repeat' walk_at "S"
        refine c_row_end g' (Rm.le r' (by omega)) hs hv' hf hn (by omega) fun e te s' hb hs' => ?_
        clear hs
        repeat' first | walk_at "S" | (first | ((with_reducible show wpAny _ _ (evalPart _ _) _ _ _); first | with_reducible refine part_none ?_ | with_reducible refine part_some ?_) | ((with_reducible show _ ∧ _); (rename St _ _ _ _ => hsX); (refine And.intro (by (try simp only [List.length_cons, List.length_nil]); decide) ⟨_, _, _, hsX, ?_⟩); clear hsX; intro _ _ _ _) | ((with_reducible show wpAny _ _ (getMethod (Value.ref _) (Str.ofString "append") _) _ _ _); refine' mApp (by assumption) (by (first | exact Or.inl ⟨_, by assumption⟩ | exact Or.inr (by walk_at "mem"))) ?_) | ((with_reducible show wpAny _ _ (getMethod (Value.ref _) (Str.ofString "pop") _) _ _ _); refine' mPop (by assumption) (by (first | exact Or.inl ⟨_, by assumption⟩ | exact Or.inr (by walk_at "mem"))) ?_))
        rename St _ _ _ _ => hs
        have hb1 := hb.1.1
        have hb2 := hb.1.2.1
        refine ⟨_, vs, _, _, _, _, _, rfl, hs, .inl ⟨_, ea'⟩, by rw [sizeLine_eq]; omega, .int _ _, .int _ _, ?_⟩
        clear hs
        intro c s' hc hs
        have hpk : pick vs (some (k : Int)) (some (e : Int)) = (vs.drop k).take (e - k) := by
          rw [pick_run (by omega) (by omega) (by omega)]; simp
        rw [hpk] at hs
        obtain ⟨oc, ⟨nc, rfl⟩, hJc, hs⟩ := hs.freeze .head
        have hle2 := Kn.set_le (o := PySem.W.listOf ((vs.drop k).take (e - k)).toArray nc) hJc
        have hrc : Rp (J.set c (PySem.W.listOf ((vs.drop k).take (e - k)).toArray nc)) (.ref c) (rowD ((ps.drop k).take (e - k))) := by
          refine .list Kn.set_self ?_
          rw [List.map_take, List.map_drop]
          exact ((ra'.mono hle2).drop _).take _
        repeat' walk_at "S"
        refine appL hs (.head _) .head (by rw [sizeLine_eq, hrv.length, List.length_map, cuts_len]; omega) fun s' hs' => ⟨rfl, ?_⟩
        clear hs
        repeat' walk_at "S"
        refine ⟨ps.length - e, by omega, _, _, e, es ++ [e], _, _, _, hle.tr hle2, by assumption, by walk_at "lk", by walk_at "lk", by walk_at "lk", by walk_at "lk", by walk_at "lk", rfl, hroad.snoc hb, ?_, ?_, hb2, rfl⟩
        · rw [cuts_snoc hroad, List.map_append]
          exact (hrv.mono hle2).append (.one hrc)
        · simp; omega
    · rename ¬ (k : Int) < vs.length => hlt
      have := hfin hk hlt
      subst this
      exact ⟨_, _, _, _, hle, by assumption, h4, hroad, hrv⟩
  · rintro s ⟨J, m, es, rvs, hle, hs, h1, hg, hrv⟩
    obtain ⟨oc, ⟨nc, rfl⟩, hJc, hs⟩ := hs.freeze .head
    repeat' walk_at "S"
    exact h _ _ es _ (hle.tr (Kn.set_le hJc)) hg (.list Kn.set_self (hrv.mono (Kn.set_le hJc))) (hs.rem .head)
end

/-! # part C4 -/

/-! ### a text and its parts -/
abbrev Part := List Int × List Int
def flat (ps : List Part) : List Int := ps.flatMap fun p => p.1 ++ p.2
def goodP (p : Part) : Prop := p.1 ≠ [] ∧ p.2 ≠ [] ∧ (∀ c ∈ p.1, isBlk c = false) ∧ (∀ c ∈ p.2, isBlk c = true)
def dueOf (p : Part) : Piece := (p.1, gapS p.1 p.2)
theorem getD_app (X Y : List Int) (j : Nat) : (X ++ Y).getD (X.length + j) 0 = Y.getD j 0 := by
  rw [List.getD_eq_getElem?_getD, List.getElem?_append_right (by omega), List.getD_eq_getElem?_getD, Nat.add_sub_cancel_left]
theorem getD_mem {X : List Int} {j : Nat} (h : j < X.length) : X.getD j 0 ∈ X := by
  rw [List.getD_eq_getElem?_getD, List.getElem?_eq_getElem h]; exact List.getElem_mem h
theorem getD_lt {X Y : List Int} {j : Nat} (h : j < X.length) : (X ++ Y).getD j 0 = X.getD j 0 := by
  rw [List.getD_eq_getElem?_getD, List.getElem?_append_left h, List.getD_eq_getElem?_getD]
theorem flat_cons (p : Part) (r : List Part) : flat (p :: r) = p.1 ++ (p.2 ++ flat r) := by simp [flat]
theorem flat_app (a b : List Part) : flat (a ++ b) = flat a ++ flat b := by simp [flat]
theorem flat_first {ps : List Part} (h : ∀ p ∈ ps, goodP p) (hn : 0 < (flat ps).length) : isBlk ((flat ps).getD 0 0) = false := by
  cases ps with
  | nil => simp [flat] at hn
  | cons p r =>
    obtain ⟨h1, _, h3, _⟩ := h p (.head _)
    have h0 : 0 < p.1.length := List.length_pos_iff.mpr h1
    rw [flat_cons, getD_lt h0]
    exact h3 _ (getD_mem h0)
section
variable {X R : List Int} {p : Part}
theorem at_word (g : goodP p) {j : Nat} (h : j < p.1.length) : isBlk ((X ++ (p.1 ++ (p.2 ++ R))).getD (X.length + j) 0) = false := by
  rw [getD_app, getD_lt h]; exact g.2.2.1 _ (getD_mem h)
theorem at_gap (g : goodP p) {j : Nat} (h : j < p.2.length) : isBlk ((X ++ (p.1 ++ (p.2 ++ R))).getD (X.length + p.1.length + j) 0) = true := by
  rw [Nat.add_assoc, getD_app, getD_app, getD_lt h]; exact g.2.2.2 _ (getD_mem h)
theorem at_rest : (X ++ (p.1 ++ (p.2 ++ R))).getD (X.length + p.1.length + p.2.length) 0 = R.getD 0 0 := by
  rw [Nat.add_assoc, getD_app, getD_app]
  have := getD_app p.2 R 0
  rwa [Nat.add_zero] at this
theorem cut_word : ((X ++ (p.1 ++ (p.2 ++ R))).drop X.length).take p.1.length = p.1 := by simp
theorem cut_gap : ((X ++ (p.1 ++ (p.2 ++ R))).drop (X.length + p.1.length)).take p.2.length = p.2 := by
  rw [← List.drop_drop]; simp
end

section
variable {w : World} {A : Around} {E : Value → Shared → Prop} {s s₀ : Shared} {I : Kn} {W : Own} {Q : Value → Shared → Prop} {t : Tok}
theorem c_pieces_of {v : Value} {ps : List Part} (g : G0 w I) (r : Rm A 4) (hs : St s₀ I W s) (hv : Rp I v (.list ((flat ps).map .int))) (hg : ∀ p ∈ ps, goodP p) (hn : (flat ps).length < 1000) (hk : ps.length < 1000)
    (h : ∀ J v' s', Kn.le I J → Rp J v' (.list ((ps.map dueOf).map pcD)) → St s₀ J W s' → Q v' s') : wpAny (model PROG w) A (call (.ref 44) [v]) Q E s := by
  refine xCall (n := 3) g r hs (by k_is) (by k_is) rfl (locs rfl) (by decide) ?_
  obtain ⟨a, vs, n, rfl, ea, ra⟩ := hv.listInv
  have hi := ra.ints
  have hlen : vs.length = (flat ps).length := hi.length
  clear hs r
  intro A' L s' m hm hs r'
  have h1 : m "codes" = some (.ref a) := by rw [hm]; rfl
  clear hm
  repeat' first | walk_at "S" | (first | ((with_reducible show wpAny _ _ (evalPart _ _) _ _ _); first | with_reducible refine part_none ?_ | with_reducible refine part_some ?_) | ((with_reducible show _ ∧ _); (rename St _ _ _ _ => hsX); (refine And.intro (by (try simp only [List.length_cons, List.length_nil]); decide) ⟨_, _, _, hsX, ?_⟩); clear hsX; intro _ _ _ _) | ((with_reducible show wpAny _ _ (getMethod (Value.ref _) (Str.ofString "append") _) _ _ _); refine' mApp (by assumption) (by (first | exact Or.inl ⟨_, by assumption⟩ | exact Or.inr (by walk_at "mem"))) ?_) | ((with_reducible show wpAny _ _ (getMethod (Value.ref _) (Str.ofString "pop") _) _ _ _); refine' mPop (by assumption) (by (first | exact Or.inl ⟨_, by assumption⟩ | exact Or.inr (by walk_at "mem"))) ?_))
  rename_i R _ _ _ _ _ _ hs
  -- the blanks ahead: none
  refine xWhileP (fun n s => Ex2 fun m t => All4 (St s₀ I ((R, LsO []) :: (L, NsO m) :: W) s) (m "codes" = some (.ref a)) (m "pieces" = some (.ref R)) (m "at" = some (.int 0 t)))
    (fun s => Ex2 fun m t => All4 (St s₀ I ((R, LsO []) :: (L, NsO m) :: W) s) (m "codes" = some (.ref a)) (m "pieces" = some (.ref R)) (m "at" = some (.int 0 t)))
    0 ⟨_, _, hs, by walk_at "lk", by walk_at "lk", by walk_at "lk"⟩ ?_ ?_
  · clear hs h1
    rintro n s ⟨m, t, hs, h1, h2, h3⟩
    repeat' first | walk_at "S" | (first | ((with_reducible show wpAny _ _ (call (Value.ref 23) _) _ _ _); (rename St _ _ _ _ => hsX); refine' c_is_blank (by assumption) (by (first | assumption | exact Rm.le (by assumption) (by omega))) hsX ?_; clear hsX; intro _ _))
    · rename 0 < (vs.length : Int) => hlt
      rename isBlk _ = true => hb
      have := flat_first hg (by omega)
      rw [show (0 : Int).toNat = 0 from rfl, this] at hb; cases hb
    all_goals exact ⟨_, _, by assumption, h1, h2, h3⟩
  · clear hs h1
    rintro s ⟨m, t, hs, h1, h2, h3⟩
    refine xWhileP (fun n s => Ex7 fun J m xs ys rvs zk t => All9 (Kn.le I J) (St s₀ J ((R, LsO rvs) :: (L, NsO m) :: W) s) (m "codes" = some (.ref a)) (m "pieces" = some (.ref R)) (m "at" = some (.int zk t)) (zk = ((flat xs).length : Int)) (ps = xs ++ ys) (RpA J rvs ((xs.map dueOf).map pcD)) (n = ys.length))
      (fun s => Ex3 fun J m rvs => All4 (Kn.le I J) (St s₀ J ((R, LsO rvs) :: (L, NsO m) :: W) s) (m "pieces" = some (.ref R)) (RpA J rvs ((ps.map dueOf).map pcD)))
      _ ⟨I, _, [], ps, [], _, _, Kn.le.rfl', hs, h1, h2, h3, rfl, rfl, .nil, rfl⟩ ?_ ?_
    · clear hs h1 h2 h3
      rintro n s ⟨J, m, xs, ys, rvs, _, t, hle, hs, h1, h2, h3, rfl, rfl, hrv, rfl⟩
      replace g : G0 w J := g.mono hle
      replace ea := hle _ _ ea
      replace hv := hv.mono hle
      clear ra
      have hfl : (flat (xs ++ ys)).length = (flat xs).length + (flat ys).length := by rw [flat_app, List.length_append]
      repeat' walk_at "S"
      · rename ((flat xs).length : Int) < vs.length => hlt
        rename St _ _ _ _ => hs
        cases ys with
        | nil => have e0 : (flat ([] : List Part)).length = 0 := rfl
                 omega
        | cons p r =>
        have gp := hg p (by simp)
        have hp1 : 0 < p.1.length := List.length_pos_iff.mpr gp.1
        have hp2 : 0 < p.2.length := List.length_pos_iff.mpr gp.2.1
        have hcs : flat (xs ++ p :: r) = flat xs ++ (p.1 ++ (p.2 ++ flat r)) := by rw [flat_app, flat_cons]
        have hl2 : (flat (xs ++ p :: r)).length = (flat xs).length + p.1.length + p.2.length + (flat r).length := by rw [hcs]; simp; omega
        have f1 : ∀ j, j < p.1.length → isBlk ((flat (xs ++ p :: r)).getD ((flat xs).length + j) 0) = false := fun j hj => by rw [hcs]; exact at_word gp hj
        have f2 : ∀ j, j < p.2.length → isBlk ((flat (xs ++ p :: r)).getD ((flat xs).length + p.1.length + j) 0) = true := fun j hj => by rw [hcs]; exact at_gap gp hj
        have f3 : 0 < (flat r).length → isBlk ((flat (xs ++ p :: r)).getD ((flat xs).length + p.1.length + p.2.length) 0) = false := fun h0 => by
          rw [hcs, at_rest]; exact flat_first (fun q hq => hg q (by simp [hq])) h0
        refine xWhileP (fun n s => Ex4 fun m (j : Nat) ze te => All8 (St s₀ J ((R, LsO rvs) :: (L, NsO m) :: W) s) (m "codes" = some (.ref a)) (m "pieces" = some (.ref R)) (m "at" = some (.int ((flat xs).length : Nat) t)) (m "end" = some (.int ze te)) (ze = (((flat xs).length + j : Nat) : Int)) (j ≤ p.1.length) (n = p.1.length - j))
          (fun s => Ex3 fun m ze te => All6 (St s₀ J ((R, LsO rvs) :: (L, NsO m) :: W) s) (m "codes" = some (.ref a)) (m "pieces" = some (.ref R)) (m "at" = some (.int ((flat xs).length : Nat) t)) (m "end" = some (.int ze te)) (ze = (((flat xs).length + p.1.length : Nat) : Int)))
          _ ⟨_, 0, _, _, hs, by walk_at "lk", by walk_at "lk", by walk_at "lk", by walk_at "lk", by omega, by omega, rfl⟩ ?_ ?_
        · clear hs h1 h2 h3
          rintro n s ⟨m, j, ze, te, hs, h1, h2, h3, h4, rfl, hj, rfl⟩
          repeat' first | walk_at "S" | (first | ((with_reducible show wpAny _ _ (call (Value.ref 23) _) _ _ _); (rename St _ _ _ _ => hsX); refine' c_is_blank (by assumption) (by (first | assumption | exact Rm.le (by assumption) (by omega))) hsX ?_; clear hsX; intro _ _))
          · rename (!isBlk _) = true => hb
            have hj' : j ≠ p.1.length := fun e => by
              subst e
              have := f2 0 hp2
              rw [Nat.add_zero] at this
              rw [Int.toNat_natCast, this] at hb; cases hb
            exact ⟨p.1.length - (j + 1), by omega, _, j + 1, _, _, by assumption, by walk_at "lk", by walk_at "lk", by walk_at "lk", by walk_at "lk", by omega, by omega, rfl⟩
          · rename (!isBlk _) = false => hb
            have hj' : j = p.1.length := Classical.byContradiction fun e => by
              rw [Int.toNat_natCast, f1 j (by omega)] at hb; cases hb
            exact ⟨_, _, _, by assumption, h1, h2, h3, h4, by rw [hj']⟩
          · rename ¬ ((_ : Int) < vs.length) => hb
            exfalso; omega
        · clear hs h1 h2 h3
          rintro s ⟨m, _, te, hs, h1, h2, h3, h4, rfl⟩
          repeat' walk_at "S"
          rename St _ _ _ _ => hs
          refine xWhileP (fun n s => Ex4 fun m (j : Nat) ze te' => All9 (St s₀ J ((R, LsO rvs) :: (L, NsO m) :: W) s) (m "codes" = some (.ref a)) (m "pieces" = some (.ref R)) (m "at" = some (.int ((flat xs).length : Nat) t)) (m "end" = some (.int (((flat xs).length + p.1.length : Nat) : Int) te)) (m "after" = some (.int ze te')) (ze = (((flat xs).length + p.1.length + j : Nat) : Int)) (j ≤ p.2.length) (n = p.2.length - j))
            (fun s => Ex3 fun m ze te' => All7 (St s₀ J ((R, LsO rvs) :: (L, NsO m) :: W) s) (m "codes" = some (.ref a)) (m "pieces" = some (.ref R)) (m "at" = some (.int ((flat xs).length : Nat) t)) (m "end" = some (.int (((flat xs).length + p.1.length : Nat) : Int) te)) (m "after" = some (.int ze te')) (ze = (((flat xs).length + p.1.length + p.2.length : Nat) : Int)))
            _ ⟨_, 0, _, _, hs, by walk_at "lk", by walk_at "lk", by walk_at "lk", by walk_at "lk", by walk_at "lk", by omega, by omega, rfl⟩ ?_ ?_
          · clear hs h1 h2 h3 h4
            rintro n s ⟨m, j, ze, te', hs, h1, h2, h3, h4, h5, rfl, hj, rfl⟩
            repeat' first | walk_at "S" | (first | ((with_reducible show wpAny _ _ (call (Value.ref 23) _) _ _ _); (rename St _ _ _ _ => hsX); refine' c_is_blank (by assumption) (by (first | assumption | exact Rm.le (by assumption) (by omega))) hsX ?_; clear hsX; intro _ _))
            · rename isBlk _ = true => hb
              rename ((_ : Int) < vs.length) => hb2
              have hj' : j ≠ p.2.length := fun e => by
                subst e
                rw [Int.toNat_natCast, f3 (by omega)] at hb; cases hb
              exact ⟨p.2.length - (j + 1), by omega, _, j + 1, _, _, by assumption, by walk_at "lk", by walk_at "lk", by walk_at "lk", by walk_at "lk", by walk_at "lk", by omega, by omega, rfl⟩
            · rename isBlk _ = false => hb
              have hj' : j = p.2.length := Classical.byContradiction fun e => by
                rw [Int.toNat_natCast, f2 j (by omega)] at hb; cases hb
              exact ⟨_, _, _, by assumption, h1, h2, h3, h4, h5, by rw [hj']⟩
            · rename ¬ ((_ : Int) < vs.length) => hb
              have hj' : j = p.2.length := by omega
              exact ⟨_, _, _, by assumption, h1, h2, h3, h4, h5, by rw [hj']⟩
          · clear hs h1 h2 h3 h4
            rintro s ⟨m, _, te', hs, h1, h2, h3, h4, h5, rfl⟩
            have hll : ((flat (xs ++ p :: r)).map PyData.int).length = (flat (xs ++ p :: r)).length := List.length_map ..
            have hz := sizeLine_eq
            repeat' (first | ((with_reducible show wpAny _ _ (eval (Expr.Subscript _ (Expr.Slice _ _ _ _) _) _) _ _ _); refine xSliceR ?_) | ((with_reducible show wpAny _ _ (eval (Expr.Tuple _ _ _) _) _ _ _); refine mkTR ?_) | walk_at "S" | ((with_reducible show wpAny _ _ (evalPart _ _) _ _ _); first | with_reducible refine part_none ?_ | with_reducible refine part_some ?_) | ((with_reducible show wpAny _ _ (getMethod (Value.ref _) (Str.ofString "append") _) _ _ _); refine' mApp (by assumption) (by (first | exact Or.inl ⟨_, by assumption⟩ | exact Or.inr (by walk_at "mem"))) ?_) | ((with_reducible show wpAny _ _ (getMethod (Value.ref _) (Str.ofString "pop") _) _ _ _); refine' mPop (by assumption) (by (first | exact Or.inl ⟨_, by assumption⟩ | exact Or.inr (by walk_at "mem"))) ?_))
            refine ⟨_, _, _, _, _, _, _, _, hs, hv, by omega, rfl, rfl, by omega, by omega, by omega, fun J2 c s' hle2 hc hs' => ?_⟩
            rw [show (((flat xs).length + p.1.length : Nat) : Int).toNat - ((flat xs).length : Int).toNat = p.1.length by omega, Int.toNat_natCast, ← List.map_drop, ← List.map_take, hcs, cut_word] at hc
            clear hs
            replace g : G0 w J2 := g.mono hle2
            replace hv := hv.mono hle2
            replace hle := hle.tr hle2
            replace hrv := hrv.mono hle2
            clear hle2
            repeat' (first | ((with_reducible show wpAny _ _ (eval (Expr.Subscript _ (Expr.Slice _ _ _ _) _) _) _ _ _); refine xSliceR ?_) | ((with_reducible show wpAny _ _ (eval (Expr.Tuple _ _ _) _) _ _ _); refine mkTR ?_) | walk_at "S" | ((with_reducible show wpAny _ _ (evalPart _ _) _ _ _); first | with_reducible refine part_none ?_ | with_reducible refine part_some ?_) | ((with_reducible show wpAny _ _ (getMethod (Value.ref _) (Str.ofString "append") _) _ _ _); refine' mApp (by assumption) (by (first | exact Or.inl ⟨_, by assumption⟩ | exact Or.inr (by walk_at "mem"))) ?_) | ((with_reducible show wpAny _ _ (getMethod (Value.ref _) (Str.ofString "pop") _) _ _ _); refine' mPop (by assumption) (by (first | exact Or.inl ⟨_, by assumption⟩ | exact Or.inr (by walk_at "mem"))) ?_))
            refine ⟨_, _, _, _, _, _, _, _, hs', hv, by omega, rfl, rfl, by omega, by omega, by omega, fun J3 c2 s' hle2 hc2 hs => ?_⟩
            rw [show (((flat xs).length + p.1.length : Nat) : Int).toNat - ((flat xs).length : Int).toNat = p.1.length by omega, Int.toNat_natCast, ← List.map_drop, ← List.map_take, hcs, cut_word] at hc2
            clear hs'
            replace g : G0 w J3 := g.mono hle2
            replace hv := hv.mono hle2
            replace hle := hle.tr hle2
            replace hrv := hrv.mono hle2
            replace hc := hc.mono hle2
            clear hle2
            repeat' (first | ((with_reducible show wpAny _ _ (eval (Expr.Subscript _ (Expr.Slice _ _ _ _) _) _) _ _ _); refine xSliceR ?_) | ((with_reducible show wpAny _ _ (eval (Expr.Tuple _ _ _) _) _ _ _); refine mkTR ?_) | walk_at "S" | ((with_reducible show wpAny _ _ (evalPart _ _) _ _ _); first | with_reducible refine part_none ?_ | with_reducible refine part_some ?_) | ((with_reducible show wpAny _ _ (getMethod (Value.ref _) (Str.ofString "append") _) _ _ _); refine' mApp (by assumption) (by (first | exact Or.inl ⟨_, by assumption⟩ | exact Or.inr (by walk_at "mem"))) ?_) | ((with_reducible show wpAny _ _ (getMethod (Value.ref _) (Str.ofString "pop") _) _ _ _); refine' mPop (by assumption) (by (first | exact Or.inl ⟨_, by assumption⟩ | exact Or.inr (by walk_at "mem"))) ?_))
            refine ⟨_, _, _, _, _, _, _, _, hs, hv, by omega, rfl, rfl, by omega, by omega, by omega, fun J4 c3 s' hle2 hc3 hs' => ?_⟩
            rw [show (((flat xs).length + p.1.length + p.2.length : Nat) : Int).toNat - (((flat xs).length + p.1.length : Nat) : Int).toNat = p.2.length by omega, Int.toNat_natCast, ← List.map_drop, ← List.map_take, hcs, cut_gap] at hc3
            clear hs
            replace g : G0 w J4 := g.mono hle2
            replace hv := hv.mono hle2
            replace hle := hle.tr hle2
            replace hrv := hrv.mono hle2
            replace hc := hc.mono hle2
            replace hc2 := hc2.mono hle2
            clear hle2
            repeat' (first | ((with_reducible show wpAny _ _ (eval (Expr.Subscript _ (Expr.Slice _ _ _ _) _) _) _ _ _); refine xSliceR ?_) | ((with_reducible show wpAny _ _ (eval (Expr.Tuple _ _ _) _) _ _ _); refine mkTR ?_) | walk_at "S" | ((with_reducible show wpAny _ _ (evalPart _ _) _ _ _); first | with_reducible refine part_none ?_ | with_reducible refine part_some ?_) | ((with_reducible show wpAny _ _ (getMethod (Value.ref _) (Str.ofString "append") _) _ _ _); refine' mApp (by assumption) (by (first | exact Or.inl ⟨_, by assumption⟩ | exact Or.inr (by walk_at "mem"))) ?_) | ((with_reducible show wpAny _ _ (getMethod (Value.ref _) (Str.ofString "pop") _) _ _ _); refine' mPop (by assumption) (by (first | exact Or.inl ⟨_, by assumption⟩ | exact Or.inr (by walk_at "mem"))) ?_))
            refine c_gap g (Rm.le r' (by omega)) hs' hc2 (by omega) hc3 (by omega) fun t5 s' hs => ?_
            clear hs'
            repeat' (first | ((with_reducible show wpAny _ _ (eval (Expr.Subscript _ (Expr.Slice _ _ _ _) _) _) _ _ _); refine xSliceR ?_) | ((with_reducible show wpAny _ _ (eval (Expr.Tuple _ _ _) _) _ _ _); refine mkTR ?_) | walk_at "S" | ((with_reducible show wpAny _ _ (evalPart _ _) _ _ _); first | with_reducible refine part_none ?_ | with_reducible refine part_some ?_) | ((with_reducible show wpAny _ _ (getMethod (Value.ref _) (Str.ofString "append") _) _ _ _); refine' mApp (by assumption) (by (first | exact Or.inl ⟨_, by assumption⟩ | exact Or.inr (by walk_at "mem"))) ?_) | ((with_reducible show wpAny _ _ (getMethod (Value.ref _) (Str.ofString "pop") _) _ _ _); refine' mPop (by assumption) (by (first | exact Or.inl ⟨_, by assumption⟩ | exact Or.inr (by walk_at "mem"))) ?_))
            refine ⟨by (try simp only [List.length_cons, List.length_nil]); omega, _, _, _, _, hs, .cons hc (.cons (.int _ _) .nil), fun J5 T s' hle2 hT hs' => ?_⟩
            clear hs
            repeat' (first | ((with_reducible show wpAny _ _ (eval (Expr.Subscript _ (Expr.Slice _ _ _ _) _) _) _ _ _); refine xSliceR ?_) | ((with_reducible show wpAny _ _ (eval (Expr.Tuple _ _ _) _) _ _ _); refine mkTR ?_) | walk_at "S" | ((with_reducible show wpAny _ _ (evalPart _ _) _ _ _); first | with_reducible refine part_none ?_ | with_reducible refine part_some ?_) | ((with_reducible show wpAny _ _ (getMethod (Value.ref _) (Str.ofString "append") _) _ _ _); refine' mApp (by assumption) (by (first | exact Or.inl ⟨_, by assumption⟩ | exact Or.inr (by walk_at "mem"))) ?_) | ((with_reducible show wpAny _ _ (getMethod (Value.ref _) (Str.ofString "pop") _) _ _ _); refine' mPop (by assumption) (by (first | exact Or.inl ⟨_, by assumption⟩ | exact Or.inr (by walk_at "mem"))) ?_))
            refine appL hs' (.head _) .head (by rw [hrv.length]; simp only [List.length_map, List.length_append, List.length_cons] at hk ⊢; omega) fun s' hs => ⟨rfl, ?_⟩
            clear hs'
            repeat' (first | ((with_reducible show wpAny _ _ (eval (Expr.Subscript _ (Expr.Slice _ _ _ _) _) _) _ _ _); refine xSliceR ?_) | ((with_reducible show wpAny _ _ (eval (Expr.Tuple _ _ _) _) _ _ _); refine mkTR ?_) | walk_at "S" | ((with_reducible show wpAny _ _ (evalPart _ _) _ _ _); first | with_reducible refine part_none ?_ | with_reducible refine part_some ?_) | ((with_reducible show wpAny _ _ (getMethod (Value.ref _) (Str.ofString "append") _) _ _ _); refine' mApp (by assumption) (by (first | exact Or.inl ⟨_, by assumption⟩ | exact Or.inr (by walk_at "mem"))) ?_) | ((with_reducible show wpAny _ _ (getMethod (Value.ref _) (Str.ofString "pop") _) _ _ _); refine' mPop (by assumption) (by (first | exact Or.inl ⟨_, by assumption⟩ | exact Or.inr (by walk_at "mem"))) ?_))
            refine ⟨r.length, by simp, J5, _, xs ++ [p], r, _, _, _, hle.tr hle2, by assumption, by walk_at "lk", by walk_at "lk", by walk_at "lk", ?_, by simp, ?_, rfl⟩
            · rw [flat_app, flat_cons]; simp [flat]; omega
            · rw [List.map_append, List.map_append]
              exact (hrv.mono hle2).append (.one hT)
      · rename ¬ (((flat xs).length : Int) < vs.length) => hlt
        cases ys with
        | cons p r =>
          exfalso
          have gp := hg p (by simp)
          have hp1 : 0 < p.1.length := List.length_pos_iff.mpr gp.1
          have e0 : (flat (p :: r)).length = p.1.length + (p.2.length + (flat r).length) := by rw [flat_cons]; simp
          omega
        | nil => exact ⟨_, _, _, hle, by assumption, h2, by rw [List.append_nil]; exact hrv⟩
    · rintro s ⟨J, m, rvs, hle, hs, h1, hrv⟩
      obtain ⟨oc, ⟨nc, rfl⟩, hJc, hs⟩ := hs.freeze .head
      repeat' walk_at "S"
      exact h _ _ _ (hle.tr (Kn.set_le hJc)) (.list Kn.set_self (hrv.mono (Kn.set_le hJc))) (hs.rem .head)
end

/-! # part D1 -/

/-! ### the law's own helpers -/
theorem St.back {s₀ s : Shared} {I J : Kn} {W : Own} (l : Kn.le I J) (x : St s₀ J W s) : St s₀ I W s := by
  refine ⟨x.same, fun b o e => x.ok.keep b o (l _ _ e), fun p hp => ⟨?_, (x.ok.own p hp).2⟩, x.ok.nd⟩
  cases e : I p.1 with
  | none => rfl
  | some o => have := (x.ok.own p hp).1; rw [l _ _ e] at this; cases this
section
variable {prog : Program} {w : World} {A : Around} {E : Value → Shared → Prop} {s s₀ : Shared} {I : Kn} {W W' : Own} {env : Env} {a b l : Addr} {vs us : List Value} {xs ns : List Int} {v : Value} {pos : Pos} {t u : Tok} {k n : Int}
theorem neNil {Q : Value → Shared → Prop} (hs : St s₀ I W s) (hr : Rm A 0) (ha : HasL I W a vs) (ra : IntsAre vs xs) (h : ∀ s', St s₀ I W s' → Q (.bool (decide (xs ≠ []))) s') :
    wpAny (model prog w) A (eval (.List [] pos) env) (fun y s₁ => wpAny (model prog w) A (compareOp .NotEq (.ref a) y) Q E s₁) E s := by
  refine mkL (wpAny_items_nil ⟨by decide, _, _, _, hs, fun c s' _ hs' => ?_⟩)
  exact neII hs' hr (ha.imp id (.tail _)) ra (.inr (.head _)) .nil (h _ (hs'.rem .head))
theorem eqNil {ds : List PyData} {Q : Value → Shared → Prop} (hs : St s₀ I W s) (hr : Rm A 0) (ha : HasL I W a vs) (ra : RpA I vs ds) (h1 : PySem.SeqAt.shaped (.list ds) = true) (h : ∀ s', St s₀ I W s' → Q (.bool (decide (ds = []))) s') :
    wpAny (model prog w) A (eval (.List [] pos) env) (fun y s₁ => wpAny (model prog w) A (compareOp .Eq (.ref a) y) Q E s₁) E s := by
  refine mkL (wpAny_items_nil ⟨by decide, _, _, _, hs, fun c s' _ hs' => ?_⟩)
  refine eqLL (es := []) hs' hr (ha.imp id (.tail _)) ra (.inr (.head _)) .nil h1 rfl (by cases ds <;> rfl) ?_
  rw [show Spec.same (.list ds) (.list []) = decide (ds = []) from same_dec ⟨fun e => by injection e, fun e => by rw [e]⟩]
  exact h _ (hs'.rem .head)
end
section
variable {prog : Program} {w : World} {A : Around} {E : Value → Shared → Prop} {s s₀ : Shared} {I : Kn} {W W' : Own} {env : Env} {a b l : Addr} {vs us : List Value} {xs ns : List Int} {v : Value} {pos : Pos} {t u : Tok} {k n : Int} {rest : List Stmt} {e : Expr}
theorem xExprI {Q : Flow → Shared → Prop} (h : wpAny (model prog w) A (eval e env) (fun v s' => (∃ i t, v = .int i t) ∧ wpAny (model prog w) A (execs rest env) Q E s') E s)
    (hi : interactive env = false := by rfl) (hs : swapsWith e none pos.line env = pure false := by rfl) :
    wpAny (model prog w) A (execs (.Expr e pos :: rest) env) Q E s :=
  wpAny_execs_cons (wpAny_Expr (wpAny_mono h (fun v s' h' => by obtain ⟨⟨i, t, rfl⟩, h'⟩ := h'; exact h') fun _ _ q => q) hi hs)
theorem ints_snoc (hi : IntsAre vs xs) (hn : xs ≠ []) : Ex2 fun us t => vs = us ++ [.int (xs.getLast hn) t] ∧ IntsAre us xs.dropLast := by
  induction hi with
  | nil => exact absurd rfl hn
  | cons i t hi ih =>
    cases hi with
    | nil => exact ⟨[], t, rfl, .nil⟩
    | cons j u hi =>
      obtain ⟨us, t', e, q⟩ := ih (by simp)
      exact ⟨.int i t :: us, t', by rw [e]; rfl, .cons _ _ q⟩
theorem idxLast {value slice : Expr} {Q : Value → Shared → Prop} (hs : St s₀ I W s) (hl : HasL I W a vs) (hi : IntsAre vs xs) (hn : xs ≠ []) (h : ∀ t, Q (.int (xs.getLast hn) t) s)
    (hb : subscripted slice false (.ref a) (.int (-1) u) = operate [.ref a, .int (-1) u] (getItem (.ref a) (.int (-1) u)) := by with_unfolding_all rfl) :
    wpAny (model prog w) A (subscriptTail value slice (.ref a) (.int (-1) u)) Q E s := by
  obtain ⟨us, t, e, _⟩ := ints_snoc hi hn
  have hL : vs.length = us.length + 1 := by rw [e]; simp
  refine idxN hs hl (by decide) (by omega) (by decide) ?_ (h t) hb
  rw [e, show ((-1 : Int) + ((us ++ [Value.int (xs.getLast hn) t]).length : Nat)).toNat = us.length by simp; omega]
  simp
theorem ends_open {xs : List Int} (hn : xs ≠ []) (h : isCl (xs.getLast hn) = false) : endsS xs = isEnd (xs.getLast hn) := by
  conv => lhs; rw [← List.dropLast_concat_getLast hn]
  rw [endsS_snoc, h]; rfl
theorem endsS_last {xs : List Int} (hn : xs ≠ []) : endsS xs = if isCl (xs.getLast hn) then endsS xs.dropLast else isEnd (xs.getLast hn) := by
  conv => lhs; rw [← List.dropLast_concat_getLast hn]
  exact endsS_snoc ..
end
section
variable {w : World} {A : Around} {E : Value → Shared → Prop} {s s₀ : Shared} {I : Kn} {W : Own} {Q : Value → Shared → Prop} {t : Tok}

def gapL (xs bs : List Int) : Int := if bs ≠ [32] ∧ endsS xs = true then 2 else 1
theorem c_law_gap {v b : Value} {xs bs : List Int} (g : G0 w I) (r : Rm A 1) (hs : St s₀ I W s) (hv : Rp I v (.list (xs.map .int))) (hx : xs.length < 1000) (hb : Rp I b (.list (bs.map .int)))
    (h : ∀ t s', St s₀ I W s' → Q (.int (gapL xs bs) t) s') : wpAny (model PROG w) A (call (.ref 91) [v, b]) Q E s := by
  refine xCall (n := 0) g r hs (by k_is) (by k_is) rfl (locs rfl) (by decide) ?_
  obtain ⟨a, vs, n, rfl, ea, ra⟩ := hv.listInv
  obtain ⟨b', us, n', rfl, eb, rb⟩ := hb.listInv
  have hi := ra.ints
  have hj := rb.ints
  have hlen : vs.length = xs.length := hi.length
  clear hs r
  intro A' L s' m hm hs r'
  have h1 : m "word" = some (.ref a) := by rw [hm]; rfl
  have h2 : m "between" = some (.ref b') := by rw [hm]; rfl
  clear hm
  repeat' first | walk_at "S" | (first | ((with_reducible show wpAny _ _ (compareOp CmpOp.NotEq (Value.ref _) (Value.ref _)) _ _ _); refine' neII (by assumption) (by (first | assumption | exact Rm.le (by assumption) (by omega))) (by (first | exact Or.inl ⟨_, by assumption⟩ | exact Or.inr (by walk_at "mem"))) (by (first | assumption | repeat constructor)) (by (first | exact Or.inl ⟨_, by assumption⟩ | exact Or.inr (by walk_at "mem"))) (by (first | assumption | repeat constructor)) ?_) | ((with_reducible show wpAny _ _ (callWith _ (Value.builtin "list.pop") _ _ _) _ _ _); (rename St _ _ _ _ => hsX); refine' popE hsX (by walk_at "mem") (by walk_at "up") (by (simp only [sizeLine]; omega)) ?_; clear hsX; intro _ _) | ((with_reducible show wpAny _ _ (call (Value.type "list") _) _ _ _); (rename St _ _ _ _ => hsX); refine' copyL hsX (by (first | exact Or.inl ⟨_, by assumption⟩ | exact Or.inr (by walk_at "mem"))) (by (simp only [sizeLine]; omega)) ?_; clear hsX; intro _ _ _ _) | ((with_reducible show wpAny _ _ (subscriptTail _ _ _ _) _ _ _); refine' idxLast (by assumption) (by (first | exact Or.inl ⟨_, by assumption⟩ | exact Or.inr (by walk_at "mem"))) (by assumption) (by assumption) ?_; intro _) | ((with_reducible show wpAny _ _ (eval (Expr.List [] _) _) _ _ _); (rename St _ _ _ _ => hsX); refine' neNil hsX (by (first | assumption | exact Rm.le (by assumption) (by omega))) (by (first | exact Or.inl ⟨_, by assumption⟩ | exact Or.inr (by walk_at "mem"))) (by assumption) ?_; clear hsX; intro _ _) | ((with_reducible show wpAny _ _ (unaryOp UnaryOp.USub _) _ _ _); (rename St _ _ _ _ => hsX); refine negI hsX ?_; clear hsX; intro _ _ _) | ((with_reducible show wpAny _ _ (compareOp CmpOp.In _ _) _ _ _); refine' inT (by assumption) (by (first | exact Or.inl ⟨_, by assumption⟩ | exact Or.inr (by walk_at "mem"))) (by repeat constructor) ?_))
  rename_i C _ _ _ hs
  refine xWhileP (fun n s => Ex3 fun m us ys => All7 (St s₀ I ((C, LsO us) :: (L, NsO m) :: W) s) (m "between" = some (.ref b')) (m "inner" = some (.ref C)) (IntsAre us ys) (ys.length < 1000) (endsS xs = endsS ys) (n = ys.length))
    (fun s => Ex3 fun m us ys => All7 (St s₀ I ((C, LsO us) :: (L, NsO m) :: W) s) (m "between" = some (.ref b')) (m "inner" = some (.ref C)) (IntsAre us ys) (ys.length < 1000) (endsS xs = endsS ys) (((hn : ys ≠ []) → isCl (ys.getLast hn) = false)))
    _ ⟨_, _, _, hs, by walk_at "lk", by walk_at "lk", hi, hx, rfl, rfl⟩ ?_ ?_
  · clear hs h1 h2
    rintro n s ⟨m, us, ys, hs, h1, h2, hi, hz, he, rfl⟩
    repeat' ((fail_if_success (with_reducible show wpAny _ _ (execs (Stmt.Expr (Expr.Call (Expr.Attribute _ (Str.ofString "pop") _) _ _ _) _ :: _) _) _ _ _)); first | (first | ((with_reducible show wpAny _ _ (compareOp CmpOp.NotEq (Value.ref _) (Value.ref _)) _ _ _); refine' neII (by assumption) (by (first | assumption | exact Rm.le (by assumption) (by omega))) (by (first | exact Or.inl ⟨_, by assumption⟩ | exact Or.inr (by walk_at "mem"))) (by (first | assumption | repeat constructor)) (by (first | exact Or.inl ⟨_, by assumption⟩ | exact Or.inr (by walk_at "mem"))) (by (first | assumption | repeat constructor)) ?_) | ((with_reducible show wpAny _ _ (callWith _ (Value.builtin "list.pop") _ _ _) _ _ _); (rename St _ _ _ _ => hsX); refine' popE hsX (by walk_at "mem") (by walk_at "up") (by (simp only [sizeLine]; omega)) ?_; clear hsX; intro _ _) | ((with_reducible show wpAny _ _ (call (Value.type "list") _) _ _ _); (rename St _ _ _ _ => hsX); refine' copyL hsX (by (first | exact Or.inl ⟨_, by assumption⟩ | exact Or.inr (by walk_at "mem"))) (by (simp only [sizeLine]; omega)) ?_; clear hsX; intro _ _ _ _) | ((with_reducible show wpAny _ _ (subscriptTail _ _ _ _) _ _ _); refine' idxLast (by assumption) (by (first | exact Or.inl ⟨_, by assumption⟩ | exact Or.inr (by walk_at "mem"))) (by assumption) (by assumption) ?_; intro _) | ((with_reducible show wpAny _ _ (eval (Expr.List [] _) _) _ _ _); (rename St _ _ _ _ => hsX); refine' neNil hsX (by (first | assumption | exact Rm.le (by assumption) (by omega))) (by (first | exact Or.inl ⟨_, by assumption⟩ | exact Or.inr (by walk_at "mem"))) (by assumption) ?_; clear hsX; intro _ _) | ((with_reducible show wpAny _ _ (unaryOp UnaryOp.USub _) _ _ _); (rename St _ _ _ _ => hsX); refine negI hsX ?_; clear hsX; intro _ _ _) | ((with_reducible show wpAny _ _ (compareOp CmpOp.In _ _) _ _ _); refine' inT (by assumption) (by (first | exact Or.inl ⟨_, by assumption⟩ | exact Or.inr (by walk_at "mem"))) (by repeat constructor) ?_)) | walk_at "S" | (first | ((with_reducible show wpAny _ _ (evalPart _ _) _ _ _); first | with_reducible refine part_none ?_ | with_reducible refine part_some ?_) | ((with_reducible show _ ∧ _); (rename St _ _ _ _ => hsX); (refine And.intro (by (try simp only [List.length_cons, List.length_nil]); decide) ⟨_, _, _, hsX, ?_⟩); clear hsX; intro _ _ _ _) | ((with_reducible show wpAny _ _ (getMethod (Value.ref _) (Str.ofString "append") _) _ _ _); refine' mApp (by assumption) (by (first | exact Or.inl ⟨_, by assumption⟩ | exact Or.inr (by walk_at "mem"))) ?_) | ((with_reducible show wpAny _ _ (getMethod (Value.ref _) (Str.ofString "pop") _) _ _ _); refine' mPop (by assumption) (by (first | exact Or.inl ⟨_, by assumption⟩ | exact Or.inr (by walk_at "mem"))) ?_)))
    · rename ys ≠ [] => hn
      rename (([34, 39, 41, 93, 125] : List Int).any _) = true => hc
      rename St _ _ _ _ => hs
      obtain ⟨us', t', rfl, hi'⟩ := ints_snoc hi hn
      have hl' := hi'.length
      have hl2 : ys.dropLast.length = ys.length - 1 := by simp
      have hl3 := List.length_pos_iff.mpr hn
      refine xExprI ?_
      repeat' ((fail_if_success (with_reducible show wpAny _ _ (execs (Stmt.Expr (Expr.Call (Expr.Attribute _ (Str.ofString "pop") _) _ _ _) _ :: _) _) _ _ _)); first | (first | ((with_reducible show wpAny _ _ (compareOp CmpOp.NotEq (Value.ref _) (Value.ref _)) _ _ _); refine' neII (by assumption) (by (first | assumption | exact Rm.le (by assumption) (by omega))) (by (first | exact Or.inl ⟨_, by assumption⟩ | exact Or.inr (by walk_at "mem"))) (by (first | assumption | repeat constructor)) (by (first | exact Or.inl ⟨_, by assumption⟩ | exact Or.inr (by walk_at "mem"))) (by (first | assumption | repeat constructor)) ?_) | ((with_reducible show wpAny _ _ (callWith _ (Value.builtin "list.pop") _ _ _) _ _ _); (rename St _ _ _ _ => hsX); refine' popE hsX (by walk_at "mem") (by walk_at "up") (by (simp only [sizeLine]; omega)) ?_; clear hsX; intro _ _) | ((with_reducible show wpAny _ _ (call (Value.type "list") _) _ _ _); (rename St _ _ _ _ => hsX); refine' copyL hsX (by (first | exact Or.inl ⟨_, by assumption⟩ | exact Or.inr (by walk_at "mem"))) (by (simp only [sizeLine]; omega)) ?_; clear hsX; intro _ _ _ _) | ((with_reducible show wpAny _ _ (subscriptTail _ _ _ _) _ _ _); refine' idxLast (by assumption) (by (first | exact Or.inl ⟨_, by assumption⟩ | exact Or.inr (by walk_at "mem"))) (by assumption) (by assumption) ?_; intro _) | ((with_reducible show wpAny _ _ (eval (Expr.List [] _) _) _ _ _); (rename St _ _ _ _ => hsX); refine' neNil hsX (by (first | assumption | exact Rm.le (by assumption) (by omega))) (by (first | exact Or.inl ⟨_, by assumption⟩ | exact Or.inr (by walk_at "mem"))) (by assumption) ?_; clear hsX; intro _ _) | ((with_reducible show wpAny _ _ (unaryOp UnaryOp.USub _) _ _ _); (rename St _ _ _ _ => hsX); refine negI hsX ?_; clear hsX; intro _ _ _) | ((with_reducible show wpAny _ _ (compareOp CmpOp.In _ _) _ _ _); refine' inT (by assumption) (by (first | exact Or.inl ⟨_, by assumption⟩ | exact Or.inr (by walk_at "mem"))) (by repeat constructor) ?_)) | walk_at "S" | (first | ((with_reducible show wpAny _ _ (evalPart _ _) _ _ _); first | with_reducible refine part_none ?_ | with_reducible refine part_some ?_) | ((with_reducible show _ ∧ _); (rename St _ _ _ _ => hsX); (refine And.intro (by (try simp only [List.length_cons, List.length_nil]); decide) ⟨_, _, _, hsX, ?_⟩); clear hsX; intro _ _ _ _) | ((with_reducible show wpAny _ _ (getMethod (Value.ref _) (Str.ofString "append") _) _ _ _); refine' mApp (by assumption) (by (first | exact Or.inl ⟨_, by assumption⟩ | exact Or.inr (by walk_at "mem"))) ?_) | ((with_reducible show wpAny _ _ (getMethod (Value.ref _) (Str.ofString "pop") _) _ _ _); refine' mPop (by assumption) (by (first | exact Or.inl ⟨_, by assumption⟩ | exact Or.inr (by walk_at "mem"))) ?_)))
      rename St _ _ _ _ => hs
      refine ⟨⟨_, _, rfl⟩, ?_⟩
      repeat' ((fail_if_success (with_reducible show wpAny _ _ (execs (Stmt.Expr (Expr.Call (Expr.Attribute _ (Str.ofString "pop") _) _ _ _) _ :: _) _) _ _ _)); first | (first | ((with_reducible show wpAny _ _ (compareOp CmpOp.NotEq (Value.ref _) (Value.ref _)) _ _ _); refine' neII (by assumption) (by (first | assumption | exact Rm.le (by assumption) (by omega))) (by (first | exact Or.inl ⟨_, by assumption⟩ | exact Or.inr (by walk_at "mem"))) (by (first | assumption | repeat constructor)) (by (first | exact Or.inl ⟨_, by assumption⟩ | exact Or.inr (by walk_at "mem"))) (by (first | assumption | repeat constructor)) ?_) | ((with_reducible show wpAny _ _ (callWith _ (Value.builtin "list.pop") _ _ _) _ _ _); (rename St _ _ _ _ => hsX); refine' popE hsX (by walk_at "mem") (by walk_at "up") (by (simp only [sizeLine]; omega)) ?_; clear hsX; intro _ _) | ((with_reducible show wpAny _ _ (call (Value.type "list") _) _ _ _); (rename St _ _ _ _ => hsX); refine' copyL hsX (by (first | exact Or.inl ⟨_, by assumption⟩ | exact Or.inr (by walk_at "mem"))) (by (simp only [sizeLine]; omega)) ?_; clear hsX; intro _ _ _ _) | ((with_reducible show wpAny _ _ (subscriptTail _ _ _ _) _ _ _); refine' idxLast (by assumption) (by (first | exact Or.inl ⟨_, by assumption⟩ | exact Or.inr (by walk_at "mem"))) (by assumption) (by assumption) ?_; intro _) | ((with_reducible show wpAny _ _ (eval (Expr.List [] _) _) _ _ _); (rename St _ _ _ _ => hsX); refine' neNil hsX (by (first | assumption | exact Rm.le (by assumption) (by omega))) (by (first | exact Or.inl ⟨_, by assumption⟩ | exact Or.inr (by walk_at "mem"))) (by assumption) ?_; clear hsX; intro _ _) | ((with_reducible show wpAny _ _ (unaryOp UnaryOp.USub _) _ _ _); (rename St _ _ _ _ => hsX); refine negI hsX ?_; clear hsX; intro _ _ _) | ((with_reducible show wpAny _ _ (compareOp CmpOp.In _ _) _ _ _); refine' inT (by assumption) (by (first | exact Or.inl ⟨_, by assumption⟩ | exact Or.inr (by walk_at "mem"))) (by repeat constructor) ?_)) | walk_at "S" | (first | ((with_reducible show wpAny _ _ (evalPart _ _) _ _ _); first | with_reducible refine part_none ?_ | with_reducible refine part_some ?_) | ((with_reducible show _ ∧ _); (rename St _ _ _ _ => hsX); (refine And.intro (by (try simp only [List.length_cons, List.length_nil]); decide) ⟨_, _, _, hsX, ?_⟩); clear hsX; intro _ _ _ _) | ((with_reducible show wpAny _ _ (getMethod (Value.ref _) (Str.ofString "append") _) _ _ _); refine' mApp (by assumption) (by (first | exact Or.inl ⟨_, by assumption⟩ | exact Or.inr (by walk_at "mem"))) ?_) | ((with_reducible show wpAny _ _ (getMethod (Value.ref _) (Str.ofString "pop") _) _ _ _); refine' mPop (by assumption) (by (first | exact Or.inl ⟨_, by assumption⟩ | exact Or.inr (by walk_at "mem"))) ?_)))
      exact ⟨_, by omega, _, us', _, hs.rem .head, h1, h2, hi', by omega, by rw [he, endsS_last hn, if_pos (show isCl _ = true from hc)], rfl⟩
    · rename ys ≠ [] => hn
      rename (([34, 39, 41, 93, 125] : List Int).any _) = false => hc
      exact ⟨_, _, _, St.rem (by assumption) .head, h1, h2, hi, hz, he, fun _ => hc⟩
    · rename ¬ (ys ≠ []) => hn
      exact ⟨_, _, _, by assumption, h1, h2, hi, hz, he, fun q => absurd q hn⟩
  · clear hs h1 h2
    rintro s ⟨m, us, ys, hs, h1, h2, hi, hz, he, hl⟩
    repeat' ((fail_if_success (with_reducible show wpAny _ _ (execs (Stmt.Expr (Expr.Call (Expr.Attribute _ (Str.ofString "pop") _) _ _ _) _ :: _) _) _ _ _)); first | (first | ((with_reducible show wpAny _ _ (compareOp CmpOp.NotEq (Value.ref _) (Value.ref _)) _ _ _); refine' neII (by assumption) (by (first | assumption | exact Rm.le (by assumption) (by omega))) (by (first | exact Or.inl ⟨_, by assumption⟩ | exact Or.inr (by walk_at "mem"))) (by (first | assumption | repeat constructor)) (by (first | exact Or.inl ⟨_, by assumption⟩ | exact Or.inr (by walk_at "mem"))) (by (first | assumption | repeat constructor)) ?_) | ((with_reducible show wpAny _ _ (callWith _ (Value.builtin "list.pop") _ _ _) _ _ _); (rename St _ _ _ _ => hsX); refine' popE hsX (by walk_at "mem") (by walk_at "up") (by (simp only [sizeLine]; omega)) ?_; clear hsX; intro _ _) | ((with_reducible show wpAny _ _ (call (Value.type "list") _) _ _ _); (rename St _ _ _ _ => hsX); refine' copyL hsX (by (first | exact Or.inl ⟨_, by assumption⟩ | exact Or.inr (by walk_at "mem"))) (by (simp only [sizeLine]; omega)) ?_; clear hsX; intro _ _ _ _) | ((with_reducible show wpAny _ _ (subscriptTail _ _ _ _) _ _ _); refine' idxLast (by assumption) (by (first | exact Or.inl ⟨_, by assumption⟩ | exact Or.inr (by walk_at "mem"))) (by assumption) (by assumption) ?_; intro _) | ((with_reducible show wpAny _ _ (eval (Expr.List [] _) _) _ _ _); (rename St _ _ _ _ => hsX); refine' neNil hsX (by (first | assumption | exact Rm.le (by assumption) (by omega))) (by (first | exact Or.inl ⟨_, by assumption⟩ | exact Or.inr (by walk_at "mem"))) (by assumption) ?_; clear hsX; intro _ _) | ((with_reducible show wpAny _ _ (unaryOp UnaryOp.USub _) _ _ _); (rename St _ _ _ _ => hsX); refine negI hsX ?_; clear hsX; intro _ _ _) | ((with_reducible show wpAny _ _ (compareOp CmpOp.In _ _) _ _ _); refine' inT (by assumption) (by (first | exact Or.inl ⟨_, by assumption⟩ | exact Or.inr (by walk_at "mem"))) (by repeat constructor) ?_)) | walk_at "S" | (first | ((with_reducible show wpAny _ _ (evalPart _ _) _ _ _); first | with_reducible refine part_none ?_ | with_reducible refine part_some ?_) | ((with_reducible show _ ∧ _); (rename St _ _ _ _ => hsX); (refine And.intro (by (try simp only [List.length_cons, List.length_nil]); decide) ⟨_, _, _, hsX, ?_⟩); clear hsX; intro _ _ _ _) | ((with_reducible show wpAny _ _ (getMethod (Value.ref _) (Str.ofString "append") _) _ _ _); refine' mApp (by assumption) (by (first | exact Or.inl ⟨_, by assumption⟩ | exact Or.inr (by walk_at "mem"))) ?_) | ((with_reducible show wpAny _ _ (getMethod (Value.ref _) (Str.ofString "pop") _) _ _ _); refine' mPop (by assumption) (by (first | exact Or.inl ⟨_, by assumption⟩ | exact Or.inr (by walk_at "mem"))) ?_)))
    · rename (([33, 46, 63] : List Int).any _) = true => hc
      rename ys ≠ [] => hn
      rename bs ≠ [32] => hb
      have q := fun t => h t _ ((((St.rem (by assumption) .head).rem .head).rem .head).rem .head)
      rw [gapL, he, ends_open hn (hl hn), if_pos ⟨hb, hc⟩] at q; exact q _
    · rename (([33, 46, 63] : List Int).any _) = false => hc
      rename ys ≠ [] => hn
      have q := fun t => h t _ ((((St.rem (by assumption) .head).rem .head).rem .head).rem .head)
      rw [gapL, he, ends_open hn (hl hn), if_neg fun q => by rw [show isEnd _ = false from hc] at q; cases q.2] at q; exact q _
    · rename ¬ (ys ≠ []) => hn
      have q := fun t => h t _ (((St.rem (by assumption) .head).rem .head).rem .head)
      rw [gapL, he, if_neg fun q => by rw [Classical.not_not.mp hn] at q; cases q.2] at q; exact q _
    · rename ¬ (bs ≠ [32]) => hb
      have q := fun t => h t _ (((St.rem (by assumption) .head).rem .head).rem .head)
      rw [gapL, if_neg fun q => hb q.1] at q; exact q _
theorem gapL_gapS {xs bs : List Int} (h : bs = [32] ∨ bs = [32, 32] ∨ bs = [10]) : gapL xs bs = gapS xs bs := by
  unfold gapL gapS
  rcases h with rfl | rfl | rfl <;> cases endsS xs <;> rfl
end

/-! # part D2 -/

def PotO (C : Addr) (n : Int) : Obj → Prop := fun o => Ex4 fun k t sv t' => LsO [.ref C, .int k t, .int sv t'] o ∧ 0 ≤ k ∧ k ≤ n ∧ 0 ≤ sv ∧ sv < 11
def CelO : Obj → Prop := fun o => Ex2 fun vs xs => LsO vs o ∧ IntsAre vs xs ∧ xs.length ≤ 24
section
variable {w : World} {A : Around} {E : Value → Shared → Prop} {s s₀ : Shared} {I : Kn} {W W' : Own} {env : Env} {a b l P C : Addr} {vs us : List Value} {xs ns : List Int} {v : Value} {pos : Pos} {t u : Tok} {k n : Int} {rest : List Stmt} {e : Expr} {prog : Program}
theorem St.openPot (x : St s₀ I ((P, PotO C n) :: W) s) : Ex4 fun k t sv t' => St s₀ I ((P, LsO [.ref C, .int k t, .int sv t']) :: W) s ∧ 0 ≤ k ∧ k ≤ n ∧ 0 ≤ sv ∧ sv < 11 := by
  obtain ⟨o, ⟨k, t, sv, t', hL, h⟩, hs⟩ := x.sharp
  exact ⟨k, t, sv, t', hs.imp (.head _) .head (fun o' e => e ▸ hL), h⟩
theorem St.openCel (x : St s₀ I ((C, CelO) :: W) s) : Ex2 fun vs xs => St s₀ I ((C, LsO vs) :: W) s ∧ IntsAre vs xs ∧ xs.length ≤ 24 := by
  obtain ⟨o, ⟨vs, xs, hL, h⟩, hs⟩ := x.sharp
  exact ⟨vs, xs, hs.imp (.head _) .head (fun o' e => e ▸ hL), h⟩
theorem St.pack {k sv : Int} {t t' : Tok} (x : St s₀ I ((P, LsO [.ref C, .int k t, .int sv t']) :: (C, LsO vs) :: W) s) (h : 0 ≤ k ∧ k ≤ n ∧ 0 ≤ sv ∧ sv < 11) (hi : IntsAre vs xs) (hx : xs.length ≤ 24) : St s₀ I ((P, PotO C n) :: (C, CelO) :: W) s :=
  (x.imp (.head _) .head fun _ e => ⟨k, t, sv, t', e, h⟩).imp (.tail _ (.head _)) (.tail .head) fun _ e => ⟨vs, xs, e, hi, hx⟩
theorem ints_set0 {y : Int} (hi : IntsAre vs xs) : IntsAre (vs.set (0 : Int).toNat (.int y t)) (xs.set 0 y) := by
  cases hi with
  | nil => exact .nil
  | cons i t' hi => exact .cons _ _ hi
theorem cells_cons (hn : xs ≠ []) (hi : IntsAre vs xs) : Ex2 fun t us => vs = .int (xs.getD 0 0) t :: us ∧ IntsAre us xs.tail := by
  cases hi with
  | nil => exact absurd rfl hn
  | cons i t hi => exact ⟨t, _, rfl, hi⟩
theorem idxFirst {value slice : Expr} {Q : Value → Shared → Prop} (hs : St s₀ I W s) (hl : HasL I W a vs) (hi : IntsAre vs xs) (hn : xs ≠ []) (h : ∀ t, Q (.int (xs.getD 0 0) t) s)
    (hb : subscripted slice false (.ref a) (.int 0 u) = operate [.ref a, .int 0 u] (getItem (.ref a) (.int 0 u)) := by with_unfolding_all rfl) :
    wpAny (model prog w) A (subscriptTail value slice (.ref a) (.int 0 u)) Q E s :=
  idxI hs hl hi (by decide) (by have := List.length_pos_iff.mpr hn; omega) (by decide) h hb
theorem setMid {x y z : Value} {Q : Unit → Shared → Prop} (hs : St s₀ I W s) (hm : (a, LsO [x, y, z]) ∈ W) (U : Upd a (LsO [x, v, z]) W W') (h : ∀ s', St s₀ I W' s' → Q () s') :
    wpAny (model prog w) A (setItem (.ref a) (.int 1 t) v) Q E s :=
  setL (k := 1) hs hm (by decide) (by simp) (by simp) U h
end
section
variable {w : World} {A : Around} {E : Value → Shared → Prop} {s s₀ : Shared} {I : Kn} {W : Own} {Q : Value → Shared → Prop} {t : Tok} {P C : Addr}
theorem c_law_draw {many n : Int} (g : G0 w I) (r : Rm A 1) (hs : St s₀ I ((P, PotO C n) :: (C, CelO) :: W) s) (h0 : 0 < many) (h1 : many ≤ 100) (hn : n ≤ 100)
    (h : ∀ d t s', 0 ≤ d → d < many → St s₀ I ((P, PotO C (n + 1)) :: (C, CelO) :: W) s' → Q (.int d t) s') : wpAny (model PROG w) A (call (.ref 77) [.ref P, .int many t]) Q E s := by
  obtain ⟨k, tk, sv, tv, hs, hp⟩ := hs.openPot
  obtain ⟨vs, xs, hs, hi, hx⟩ := (hs.front (.tail .head)).openCel
  replace hs := hs.front (.tail .head)
  refine xCall (n := 0) g r hs (by k_is) (by k_is) rfl (locs rfl) (by decide) ?_
  clear hs r
  intro A' L s' m hm hs r'
  have h2 : m "pot" = some (.ref P) := by rw [hm]; rfl
  have h3 : m "many" = some (.int many t) := by rw [hm]; rfl
  clear hm
  refine xWhileP (fun k' s => Ex2 fun vs xs => All4 (St s₀ I ((L, NsO m) :: (P, LsO [.ref C, .int k tk, .int sv tv]) :: (C, LsO vs) :: W) s) (IntsAre vs xs) (xs.length ≤ 24) (k' = xs.length))
    (fun s => Ex2 fun vs xs => All3 (St s₀ I ((L, NsO m) :: (P, LsO [.ref C, .int k tk, .int sv tv]) :: (C, LsO vs) :: W) s) (IntsAre vs xs) (xs.length ≤ 24))
    _ ⟨_, _, hs, hi, hx, rfl⟩ ?_ ?_
  · clear hs hi hx vs xs
    rintro n s ⟨vs, xs, hs, hi, hx, rfl⟩
    repeat' ((fail_if_success (with_reducible show wpAny _ _ (execs (Stmt.Expr (Expr.Call (Expr.Attribute _ (Str.ofString "pop") _) _ _ _) _ :: _) _) _ _ _)); first | (first | ((with_reducible show wpAny _ _ (setItem (Value.ref _) (Value.int 1 _) _) _ _ _); (rename St _ _ _ _ => hsX); refine' setMid hsX (by walk_at "mem") (by walk_at "up") ?_; clear hsX; intro _ _) | ((with_reducible show wpAny _ _ (subscriptTail _ _ _ (Value.int 0 _)) _ _ _); refine' idxFirst (by assumption) (by (first | exact Or.inl ⟨_, by assumption⟩ | exact Or.inr (by walk_at "mem"))) (by assumption) (by assumption) ?_; intro _) | ((with_reducible show wpAny _ _ (eval (Expr.List [] _) _) _ _ _); (rename St _ _ _ _ => hsX); refine' neNil hsX (by (first | assumption | exact Rm.le (by assumption) (by omega))) (by (first | exact Or.inl ⟨_, by assumption⟩ | exact Or.inr (by walk_at "mem"))) (by assumption) ?_; clear hsX; intro _ _) | ((with_reducible show wpAny _ _ (subscriptTail _ _ _ _) _ _ _); refine' idxL (by assumption) (by (first | exact Or.inl ⟨_, by assumption⟩ | exact Or.inr (by walk_at "mem"))) (by omega) (by omega) (by rfl) ?_) | ((with_reducible show wpAny _ _ (execs (Stmt.Assign [Expr.Subscript _ _ _] _ _ :: _) _) _ _ _); refine xAssignS ?_) | ((with_reducible show wpAny _ _ (setItem (Value.ref _) (Value.int _ _) _) _ _ _); (rename St _ _ _ _ => hsX); refine' setL hsX (by walk_at "mem") (by omega) (by ((try simp only [List.length_cons, List.length_nil]); omega)) (by ((try simp only [List.length_cons, List.length_nil]); omega)) (by walk_at "up") ?_; clear hsX; intro _ _) | ((with_reducible show wpAny _ _ (binaryOp Operator.Mult _ _) _ _ _); (rename St _ _ _ _ => hsX); refine' mulI hsX (by assumption) ?_; clear hsX; intro _ _ _) | ((with_reducible show wpAny _ _ (binaryOp Operator.Mod _ _) _ _ _); (rename St _ _ _ _ => hsX); refine' modI hsX (by omega) ?_; clear hsX; intro _ _ _) | ((with_reducible show wpAny _ _ (binaryOp Operator.FloorDiv _ _) _ _ _); (rename St _ _ _ _ => hsX); refine' divI hsX (by omega) (by omega) ?_; clear hsX; intro _ _ _)) | walk_at "S" | (first | ((with_reducible show wpAny _ _ (evalPart _ _) _ _ _); first | with_reducible refine part_none ?_ | with_reducible refine part_some ?_) | ((with_reducible show _ ∧ _); (rename St _ _ _ _ => hsX); (refine And.intro (by (try simp only [List.length_cons, List.length_nil]); decide) ⟨_, _, _, hsX, ?_⟩); clear hsX; intro _ _ _ _) | ((with_reducible show wpAny _ _ (getMethod (Value.ref _) (Str.ofString "append") _) _ _ _); refine' mApp (by assumption) (by (first | exact Or.inl ⟨_, by assumption⟩ | exact Or.inr (by walk_at "mem"))) ?_) | ((with_reducible show wpAny _ _ (getMethod (Value.ref _) (Str.ofString "pop") _) _ _ _); refine' mPop (by assumption) (by (first | exact Or.inl ⟨_, by assumption⟩ | exact Or.inr (by walk_at "mem"))) ?_)))
    · rename xs ≠ [] => hn
      rename St _ _ _ _ => hs
      obtain ⟨t', us, rfl, hi'⟩ := cells_cons hn hi
      have hl3 := List.length_pos_iff.mpr hn
      have hl := hi'.length
      have hl2 : xs.tail.length = xs.length - 1 := by simp
      refine xExprI ?_
      repeat' ((fail_if_success (with_reducible show wpAny _ _ (callWith _ (Value.builtin "list.pop") _ _ _) _ _ _)); first | (first | ((with_reducible show wpAny _ _ (setItem (Value.ref _) (Value.int 1 _) _) _ _ _); (rename St _ _ _ _ => hsX); refine' setMid hsX (by walk_at "mem") (by walk_at "up") ?_; clear hsX; intro _ _) | ((with_reducible show wpAny _ _ (subscriptTail _ _ _ (Value.int 0 _)) _ _ _); refine' idxFirst (by assumption) (by (first | exact Or.inl ⟨_, by assumption⟩ | exact Or.inr (by walk_at "mem"))) (by assumption) (by assumption) ?_; intro _) | ((with_reducible show wpAny _ _ (eval (Expr.List [] _) _) _ _ _); (rename St _ _ _ _ => hsX); refine' neNil hsX (by (first | assumption | exact Rm.le (by assumption) (by omega))) (by (first | exact Or.inl ⟨_, by assumption⟩ | exact Or.inr (by walk_at "mem"))) (by assumption) ?_; clear hsX; intro _ _) | ((with_reducible show wpAny _ _ (subscriptTail _ _ _ _) _ _ _); refine' idxL (by assumption) (by (first | exact Or.inl ⟨_, by assumption⟩ | exact Or.inr (by walk_at "mem"))) (by omega) (by omega) (by rfl) ?_) | ((with_reducible show wpAny _ _ (execs (Stmt.Assign [Expr.Subscript _ _ _] _ _ :: _) _) _ _ _); refine xAssignS ?_) | ((with_reducible show wpAny _ _ (setItem (Value.ref _) (Value.int _ _) _) _ _ _); (rename St _ _ _ _ => hsX); refine' setL hsX (by walk_at "mem") (by omega) (by ((try simp only [List.length_cons, List.length_nil]); omega)) (by ((try simp only [List.length_cons, List.length_nil]); omega)) (by walk_at "up") ?_; clear hsX; intro _ _) | ((with_reducible show wpAny _ _ (binaryOp Operator.Mult _ _) _ _ _); (rename St _ _ _ _ => hsX); refine' mulI hsX (by assumption) ?_; clear hsX; intro _ _ _) | ((with_reducible show wpAny _ _ (binaryOp Operator.Mod _ _) _ _ _); (rename St _ _ _ _ => hsX); refine' modI hsX (by omega) ?_; clear hsX; intro _ _ _) | ((with_reducible show wpAny _ _ (binaryOp Operator.FloorDiv _ _) _ _ _); (rename St _ _ _ _ => hsX); refine' divI hsX (by omega) (by omega) ?_; clear hsX; intro _ _ _)) | walk_at "S" | (first | ((with_reducible show wpAny _ _ (evalPart _ _) _ _ _); first | with_reducible refine part_none ?_ | with_reducible refine part_some ?_) | ((with_reducible show _ ∧ _); (rename St _ _ _ _ => hsX); (refine And.intro (by (try simp only [List.length_cons, List.length_nil]); decide) ⟨_, _, _, hsX, ?_⟩); clear hsX; intro _ _ _ _) | ((with_reducible show wpAny _ _ (getMethod (Value.ref _) (Str.ofString "append") _) _ _ _); refine' mApp (by assumption) (by (first | exact Or.inl ⟨_, by assumption⟩ | exact Or.inr (by walk_at "mem"))) ?_) | ((with_reducible show wpAny _ _ (getMethod (Value.ref _) (Str.ofString "pop") _) _ _ _); refine' mPop (by assumption) (by (first | exact Or.inl ⟨_, by assumption⟩ | exact Or.inr (by walk_at "mem"))) ?_)))
      refine pop0 (v := Value.int (xs.getD 0 0) t') ?_
      repeat' ((fail_if_success (with_reducible show wpAny _ _ (callWith _ (Value.builtin "list.pop") _ _ _) _ _ _)); first | (first | ((with_reducible show wpAny _ _ (setItem (Value.ref _) (Value.int 1 _) _) _ _ _); (rename St _ _ _ _ => hsX); refine' setMid hsX (by walk_at "mem") (by walk_at "up") ?_; clear hsX; intro _ _) | ((with_reducible show wpAny _ _ (subscriptTail _ _ _ (Value.int 0 _)) _ _ _); refine' idxFirst (by assumption) (by (first | exact Or.inl ⟨_, by assumption⟩ | exact Or.inr (by walk_at "mem"))) (by assumption) (by assumption) ?_; intro _) | ((with_reducible show wpAny _ _ (eval (Expr.List [] _) _) _ _ _); (rename St _ _ _ _ => hsX); refine' neNil hsX (by (first | assumption | exact Rm.le (by assumption) (by omega))) (by (first | exact Or.inl ⟨_, by assumption⟩ | exact Or.inr (by walk_at "mem"))) (by assumption) ?_; clear hsX; intro _ _) | ((with_reducible show wpAny _ _ (subscriptTail _ _ _ _) _ _ _); refine' idxL (by assumption) (by (first | exact Or.inl ⟨_, by assumption⟩ | exact Or.inr (by walk_at "mem"))) (by omega) (by omega) (by rfl) ?_) | ((with_reducible show wpAny _ _ (execs (Stmt.Assign [Expr.Subscript _ _ _] _ _ :: _) _) _ _ _); refine xAssignS ?_) | ((with_reducible show wpAny _ _ (setItem (Value.ref _) (Value.int _ _) _) _ _ _); (rename St _ _ _ _ => hsX); refine' setL hsX (by walk_at "mem") (by omega) (by ((try simp only [List.length_cons, List.length_nil]); omega)) (by ((try simp only [List.length_cons, List.length_nil]); omega)) (by walk_at "up") ?_; clear hsX; intro _ _) | ((with_reducible show wpAny _ _ (binaryOp Operator.Mult _ _) _ _ _); (rename St _ _ _ _ => hsX); refine' mulI hsX (by assumption) ?_; clear hsX; intro _ _ _) | ((with_reducible show wpAny _ _ (binaryOp Operator.Mod _ _) _ _ _); (rename St _ _ _ _ => hsX); refine' modI hsX (by omega) ?_; clear hsX; intro _ _ _) | ((with_reducible show wpAny _ _ (binaryOp Operator.FloorDiv _ _) _ _ _); (rename St _ _ _ _ => hsX); refine' divI hsX (by omega) (by omega) ?_; clear hsX; intro _ _ _)) | walk_at "S" | (first | ((with_reducible show wpAny _ _ (evalPart _ _) _ _ _); first | with_reducible refine part_none ?_ | with_reducible refine part_some ?_) | ((with_reducible show _ ∧ _); (rename St _ _ _ _ => hsX); (refine And.intro (by (try simp only [List.length_cons, List.length_nil]); decide) ⟨_, _, _, hsX, ?_⟩); clear hsX; intro _ _ _ _) | ((with_reducible show wpAny _ _ (getMethod (Value.ref _) (Str.ofString "append") _) _ _ _); refine' mApp (by assumption) (by (first | exact Or.inl ⟨_, by assumption⟩ | exact Or.inr (by walk_at "mem"))) ?_) | ((with_reducible show wpAny _ _ (getMethod (Value.ref _) (Str.ofString "pop") _) _ _ _); refine' mPop (by assumption) (by (first | exact Or.inl ⟨_, by assumption⟩ | exact Or.inr (by walk_at "mem"))) ?_)))
      refine ⟨_, _, _, _, _, _, rfl, by assumption, by walk_at "mem", by walk_at "up", by simp only [sizeLine]; omega, fun s' hs => ⟨⟨_, _, rfl⟩, ?_⟩⟩
      repeat' ((fail_if_success (with_reducible show wpAny _ _ (callWith _ (Value.builtin "list.pop") _ _ _) _ _ _)); first | (first | ((with_reducible show wpAny _ _ (setItem (Value.ref _) (Value.int 1 _) _) _ _ _); (rename St _ _ _ _ => hsX); refine' setMid hsX (by walk_at "mem") (by walk_at "up") ?_; clear hsX; intro _ _) | ((with_reducible show wpAny _ _ (subscriptTail _ _ _ (Value.int 0 _)) _ _ _); refine' idxFirst (by assumption) (by (first | exact Or.inl ⟨_, by assumption⟩ | exact Or.inr (by walk_at "mem"))) (by assumption) (by assumption) ?_; intro _) | ((with_reducible show wpAny _ _ (eval (Expr.List [] _) _) _ _ _); (rename St _ _ _ _ => hsX); refine' neNil hsX (by (first | assumption | exact Rm.le (by assumption) (by omega))) (by (first | exact Or.inl ⟨_, by assumption⟩ | exact Or.inr (by walk_at "mem"))) (by assumption) ?_; clear hsX; intro _ _) | ((with_reducible show wpAny _ _ (subscriptTail _ _ _ _) _ _ _); refine' idxL (by assumption) (by (first | exact Or.inl ⟨_, by assumption⟩ | exact Or.inr (by walk_at "mem"))) (by omega) (by omega) (by rfl) ?_) | ((with_reducible show wpAny _ _ (execs (Stmt.Assign [Expr.Subscript _ _ _] _ _ :: _) _) _ _ _); refine xAssignS ?_) | ((with_reducible show wpAny _ _ (setItem (Value.ref _) (Value.int _ _) _) _ _ _); (rename St _ _ _ _ => hsX); refine' setL hsX (by walk_at "mem") (by omega) (by ((try simp only [List.length_cons, List.length_nil]); omega)) (by ((try simp only [List.length_cons, List.length_nil]); omega)) (by walk_at "up") ?_; clear hsX; intro _ _) | ((with_reducible show wpAny _ _ (binaryOp Operator.Mult _ _) _ _ _); (rename St _ _ _ _ => hsX); refine' mulI hsX (by assumption) ?_; clear hsX; intro _ _ _) | ((with_reducible show wpAny _ _ (binaryOp Operator.Mod _ _) _ _ _); (rename St _ _ _ _ => hsX); refine' modI hsX (by omega) ?_; clear hsX; intro _ _ _) | ((with_reducible show wpAny _ _ (binaryOp Operator.FloorDiv _ _) _ _ _); (rename St _ _ _ _ => hsX); refine' divI hsX (by omega) (by omega) ?_; clear hsX; intro _ _ _)) | walk_at "S" | (first | ((with_reducible show wpAny _ _ (evalPart _ _) _ _ _); first | with_reducible refine part_none ?_ | with_reducible refine part_some ?_) | ((with_reducible show _ ∧ _); (rename St _ _ _ _ => hsX); (refine And.intro (by (try simp only [List.length_cons, List.length_nil]); decide) ⟨_, _, _, hsX, ?_⟩); clear hsX; intro _ _ _ _) | ((with_reducible show wpAny _ _ (getMethod (Value.ref _) (Str.ofString "append") _) _ _ _); refine' mApp (by assumption) (by (first | exact Or.inl ⟨_, by assumption⟩ | exact Or.inr (by walk_at "mem"))) ?_) | ((with_reducible show wpAny _ _ (getMethod (Value.ref _) (Str.ofString "pop") _) _ _ _); refine' mPop (by assumption) (by (first | exact Or.inl ⟨_, by assumption⟩ | exact Or.inr (by walk_at "mem"))) ?_)))
      exact ⟨_, by omega, _, _, hs, hi', by omega, rfl⟩
    · exact ⟨_, _, by assumption, hi, hx⟩
    · exact ⟨_, _, by assumption, hi, hx⟩
  · clear hs hi hx vs xs
    rintro s ⟨vs, xs, hs, hi, hx⟩
    have hm1 : IntMulOk (k + 1) (k + 1) := .of_left (intBits_le_64 (by omega) (by omega))
    have hm2 : IntMulOk 3 (k + 1) := .of_left (intBits_le_64 (by omega) (by omega))
    have hmz : many ≠ 0 := by omega
    have hlen := hi.length
    refine xIf ?_
    refine tP (fun b s => b = decide (xs ≠ []) ∧ St s₀ I ((L, NsO m) :: (P, LsO [.ref C, .int k tk, .int sv tv]) :: (C, LsO vs) :: W) s) ?_ ?_
    · repeat' ((fail_if_success (with_reducible show wpAny _ _ (execs (Stmt.Expr (Expr.Call (Expr.Attribute _ (Str.ofString "pop") _) _ _ _) _ :: _) _) _ _ _)); first | (first | ((with_reducible show wpAny _ _ (setItem (Value.ref _) (Value.int 1 _) _) _ _ _); (rename St _ _ _ _ => hsX); refine' setMid hsX (by walk_at "mem") (by walk_at "up") ?_; clear hsX; intro _ _) | ((with_reducible show wpAny _ _ (subscriptTail _ _ _ (Value.int 0 _)) _ _ _); refine' idxFirst (by assumption) (by (first | exact Or.inl ⟨_, by assumption⟩ | exact Or.inr (by walk_at "mem"))) (by assumption) (by assumption) ?_; intro _) | ((with_reducible show wpAny _ _ (eval (Expr.List [] _) _) _ _ _); (rename St _ _ _ _ => hsX); refine' neNil hsX (by (first | assumption | exact Rm.le (by assumption) (by omega))) (by (first | exact Or.inl ⟨_, by assumption⟩ | exact Or.inr (by walk_at "mem"))) (by assumption) ?_; clear hsX; intro _ _) | ((with_reducible show wpAny _ _ (subscriptTail _ _ _ _) _ _ _); refine' idxL (by assumption) (by (first | exact Or.inl ⟨_, by assumption⟩ | exact Or.inr (by walk_at "mem"))) (by omega) (by omega) (by rfl) ?_) | ((with_reducible show wpAny _ _ (execs (Stmt.Assign [Expr.Subscript _ _ _] _ _ :: _) _) _ _ _); refine xAssignS ?_) | ((with_reducible show wpAny _ _ (setItem (Value.ref _) (Value.int _ _) _) _ _ _); (rename St _ _ _ _ => hsX); refine' setL hsX (by walk_at "mem") (by omega) (by ((try simp only [List.length_cons, List.length_nil]); omega)) (by ((try simp only [List.length_cons, List.length_nil]); omega)) (by walk_at "up") ?_; clear hsX; intro _ _) | ((with_reducible show wpAny _ _ (binaryOp Operator.Mult _ _) _ _ _); (rename St _ _ _ _ => hsX); refine' mulI hsX (by assumption) ?_; clear hsX; intro _ _ _) | ((with_reducible show wpAny _ _ (binaryOp Operator.Mod _ _) _ _ _); (rename St _ _ _ _ => hsX); refine' modI hsX (by omega) ?_; clear hsX; intro _ _ _) | ((with_reducible show wpAny _ _ (binaryOp Operator.FloorDiv _ _) _ _ _); (rename St _ _ _ _ => hsX); refine' divI hsX (by omega) (by omega) ?_; clear hsX; intro _ _ _)) | walk_at "S" | (first | ((with_reducible show wpAny _ _ (evalPart _ _) _ _ _); first | with_reducible refine part_none ?_ | with_reducible refine part_some ?_) | ((with_reducible show _ ∧ _); (rename St _ _ _ _ => hsX); (refine And.intro (by (try simp only [List.length_cons, List.length_nil]); decide) ⟨_, _, _, hsX, ?_⟩); clear hsX; intro _ _ _ _) | ((with_reducible show wpAny _ _ (getMethod (Value.ref _) (Str.ofString "append") _) _ _ _); refine' mApp (by assumption) (by (first | exact Or.inl ⟨_, by assumption⟩ | exact Or.inr (by walk_at "mem"))) ?_) | ((with_reducible show wpAny _ _ (getMethod (Value.ref _) (Str.ofString "pop") _) _ _ _); refine' mPop (by assumption) (by (first | exact Or.inl ⟨_, by assumption⟩ | exact Or.inr (by walk_at "mem"))) ?_)))
      all_goals exact ⟨by simp [*], by assumption⟩
    clear hs
    rintro _ s ⟨rfl, hs⟩
    refine if_dec (fun hn => ?_) (fun hn => ?_)
    · have hpos := List.length_pos_iff.mpr hn
      repeat' ((fail_if_success (with_reducible show wpAny _ _ (execs (Stmt.Expr (Expr.Call (Expr.Attribute _ (Str.ofString "pop") _) _ _ _) _ :: _) _) _ _ _)); first | (first | ((with_reducible show wpAny _ _ (setItem (Value.ref _) (Value.int 1 _) _) _ _ _); (rename St _ _ _ _ => hsX); refine' setMid hsX (by walk_at "mem") (by walk_at "up") ?_; clear hsX; intro _ _) | ((with_reducible show wpAny _ _ (subscriptTail _ _ _ (Value.int 0 _)) _ _ _); refine' idxFirst (by assumption) (by (first | exact Or.inl ⟨_, by assumption⟩ | exact Or.inr (by walk_at "mem"))) (by assumption) (by assumption) ?_; intro _) | ((with_reducible show wpAny _ _ (eval (Expr.List [] _) _) _ _ _); (rename St _ _ _ _ => hsX); refine' neNil hsX (by (first | assumption | exact Rm.le (by assumption) (by omega))) (by (first | exact Or.inl ⟨_, by assumption⟩ | exact Or.inr (by walk_at "mem"))) (by assumption) ?_; clear hsX; intro _ _) | ((with_reducible show wpAny _ _ (subscriptTail _ _ _ _) _ _ _); refine' idxL (by assumption) (by (first | exact Or.inl ⟨_, by assumption⟩ | exact Or.inr (by walk_at "mem"))) (by omega) (by omega) (by rfl) ?_) | ((with_reducible show wpAny _ _ (execs (Stmt.Assign [Expr.Subscript _ _ _] _ _ :: _) _) _ _ _); refine xAssignS ?_) | ((with_reducible show wpAny _ _ (setItem (Value.ref _) (Value.int _ _) _) _ _ _); (rename St _ _ _ _ => hsX); refine' setL hsX (by walk_at "mem") (by omega) (by ((try simp only [List.length_cons, List.length_nil]); omega)) (by ((try simp only [List.length_cons, List.length_nil]); omega)) (by walk_at "up") ?_; clear hsX; intro _ _) | ((with_reducible show wpAny _ _ (binaryOp Operator.Mult _ _) _ _ _); (rename St _ _ _ _ => hsX); refine' mulI hsX (by assumption) ?_; clear hsX; intro _ _ _) | ((with_reducible show wpAny _ _ (binaryOp Operator.Mod _ _) _ _ _); (rename St _ _ _ _ => hsX); refine' modI hsX (by omega) ?_; clear hsX; intro _ _ _) | ((with_reducible show wpAny _ _ (binaryOp Operator.FloorDiv _ _) _ _ _); (rename St _ _ _ _ => hsX); refine' divI hsX (by omega) (by omega) ?_; clear hsX; intro _ _ _)) | walk_at "S" | (first | ((with_reducible show wpAny _ _ (evalPart _ _) _ _ _); first | with_reducible refine part_none ?_ | with_reducible refine part_some ?_) | ((with_reducible show _ ∧ _); (rename St _ _ _ _ => hsX); (refine And.intro (by (try simp only [List.length_cons, List.length_nil]); decide) ⟨_, _, _, hsX, ?_⟩); clear hsX; intro _ _ _ _) | ((with_reducible show wpAny _ _ (getMethod (Value.ref _) (Str.ofString "append") _) _ _ _); refine' mApp (by assumption) (by (first | exact Or.inl ⟨_, by assumption⟩ | exact Or.inr (by walk_at "mem"))) ?_) | ((with_reducible show wpAny _ _ (getMethod (Value.ref _) (Str.ofString "pop") _) _ _ _); refine' mPop (by assumption) (by (first | exact Or.inl ⟨_, by assumption⟩ | exact Or.inr (by walk_at "mem"))) ?_)))
      rename St _ _ _ _ => hs
      exact h _ _ _ (fmod_lo _ h0) (fmod_hi _ h0) (((hs.rem .head).pack ⟨hp.1, by omega, hp.2.2⟩ (ints_set0 hi) (by simpa using hx)))
    · repeat' ((fail_if_success (with_reducible show wpAny _ _ (execs (Stmt.Expr (Expr.Call (Expr.Attribute _ (Str.ofString "pop") _) _ _ _) _ :: _) _) _ _ _)); first | (first | ((with_reducible show wpAny _ _ (setItem (Value.ref _) (Value.int 1 _) _) _ _ _); (rename St _ _ _ _ => hsX); refine' setMid hsX (by walk_at "mem") (by walk_at "up") ?_; clear hsX; intro _ _) | ((with_reducible show wpAny _ _ (subscriptTail _ _ _ (Value.int 0 _)) _ _ _); refine' idxFirst (by assumption) (by (first | exact Or.inl ⟨_, by assumption⟩ | exact Or.inr (by walk_at "mem"))) (by assumption) (by assumption) ?_; intro _) | ((with_reducible show wpAny _ _ (eval (Expr.List [] _) _) _ _ _); (rename St _ _ _ _ => hsX); refine' neNil hsX (by (first | assumption | exact Rm.le (by assumption) (by omega))) (by (first | exact Or.inl ⟨_, by assumption⟩ | exact Or.inr (by walk_at "mem"))) (by assumption) ?_; clear hsX; intro _ _) | ((with_reducible show wpAny _ _ (subscriptTail _ _ _ _) _ _ _); refine' idxL (by assumption) (by (first | exact Or.inl ⟨_, by assumption⟩ | exact Or.inr (by walk_at "mem"))) (by omega) (by omega) (by rfl) ?_) | ((with_reducible show wpAny _ _ (execs (Stmt.Assign [Expr.Subscript _ _ _] _ _ :: _) _) _ _ _); refine xAssignS ?_) | ((with_reducible show wpAny _ _ (setItem (Value.ref _) (Value.int _ _) _) _ _ _); (rename St _ _ _ _ => hsX); refine' setL hsX (by walk_at "mem") (by omega) (by ((try simp only [List.length_cons, List.length_nil]); omega)) (by ((try simp only [List.length_cons, List.length_nil]); omega)) (by walk_at "up") ?_; clear hsX; intro _ _) | ((with_reducible show wpAny _ _ (binaryOp Operator.Mult _ _) _ _ _); (rename St _ _ _ _ => hsX); refine' mulI hsX (by assumption) ?_; clear hsX; intro _ _ _) | ((with_reducible show wpAny _ _ (binaryOp Operator.Mod _ _) _ _ _); (rename St _ _ _ _ => hsX); refine' modI hsX (by omega) ?_; clear hsX; intro _ _ _) | ((with_reducible show wpAny _ _ (binaryOp Operator.FloorDiv _ _) _ _ _); (rename St _ _ _ _ => hsX); refine' divI hsX (by omega) (by omega) ?_; clear hsX; intro _ _ _)) | walk_at "S" | (first | ((with_reducible show wpAny _ _ (evalPart _ _) _ _ _); first | with_reducible refine part_none ?_ | with_reducible refine part_some ?_) | ((with_reducible show _ ∧ _); (rename St _ _ _ _ => hsX); (refine And.intro (by (try simp only [List.length_cons, List.length_nil]); decide) ⟨_, _, _, hsX, ?_⟩); clear hsX; intro _ _ _ _) | ((with_reducible show wpAny _ _ (getMethod (Value.ref _) (Str.ofString "append") _) _ _ _); refine' mApp (by assumption) (by (first | exact Or.inl ⟨_, by assumption⟩ | exact Or.inr (by walk_at "mem"))) ?_) | ((with_reducible show wpAny _ _ (getMethod (Value.ref _) (Str.ofString "pop") _) _ _ _); refine' mPop (by assumption) (by (first | exact Or.inl ⟨_, by assumption⟩ | exact Or.inr (by walk_at "mem"))) ?_)))
      rename St _ _ _ _ => hs
      exact h _ _ _ (fmod_lo _ h0) (fmod_hi _ h0) ((hs.rem .head).pack ⟨by omega, by omega, hp.2.2⟩ hi hx)
theorem c_draw {many n : Int} {W1 W2 : Own} (g : G0 w I) (r : Rm A 1) (hs : St s₀ I W s) (u1 : Rem P (PotO C n) W W1) (u2 : Rem C CelO W1 W2) (h0 : 0 < many) (h1 : many ≤ 100) (hn : n ≤ 100)
    (h : ∀ d t s', 0 ≤ d → d < many → St s₀ I ((P, PotO C (n + 1)) :: (C, CelO) :: W2) s' → Q (.int d t) s') : wpAny (model PROG w) A (call (.ref 77) [.ref P, .int many t]) Q E s :=
  c_law_draw g r (((hs.front u1).front (.tail u2)).front (.tail .head)) h0 h1 hn h
end

/-! # part D3 -/

section
variable {prog : Program} {w : World} {A : Around} {E : Value → Shared → Prop} {s s₀ : Shared} {I : Kn} {W W' : Own} {env : Env} {a b l P C : Addr} {vs us : List Value} {xs ns : List Int} {v o : Value} {pos : Pos} {t u : Tok} {k n : Int} {rest : List Stmt} {e : Expr} {ds : List PyData}
theorem idxR {value slice : Expr} {Q : Value → Shared → Prop} (hs : St s₀ I W s) (hv : Rp I o (.list ds)) (h0 : 0 ≤ k) (h1 : k < ds.length) (hhi : k < 2 ^ 63) (h : ∀ v d, ds[k.toNat]? = some d → Rp I v d → Q v s)
    (hb : ∀ a, o = .ref a → subscripted slice false (.ref a) (.int k u) = operate [.ref a, .int k u] (getItem (.ref a) (.int k u)) := by intro _ _; with_unfolding_all rfl) :
    wpAny (model prog w) A (subscriptTail value slice o (.int k u)) Q E s := by
  obtain ⟨a, vs, n, rfl, ea, ra⟩ := hv.listInv
  have hk : k.toNat < ds.length := by omega
  obtain ⟨v, e, rv⟩ := ra.get (List.getElem?_eq_getElem hk)
  exact idxL hs (.inl ⟨_, ea⟩) h0 hhi e (h _ _ (List.getElem?_eq_getElem hk) rv) (hb _ rfl)
theorem ForR.mk' {body : List Stmt} {target : Expr} {QR : Value → Shared → Prop} {kk : Shared → Prop} {l : Addr} {lo hi : Int} {v : Tok} (J : Nat → Kn → Own → Prop) (Post : Shared → Prop) (hs : St s₀ I W s) (hr : IsRange s.heap l lo hi 1 t u v) (b1 : -(2 ^ 62) ≤ lo) (b2 : lo < 2 ^ 62) (b3 : -(2 ^ 62) ≤ hi) (b4 : hi < 2 ^ 62) (h0 : J 0 I W)
    (turn : ∀ i t I W it o s, i < (hi - lo).toNat → J i I W → St s₀ I ((it, EqO o) :: W) s → wpAny (model prog w) A (assign target env (.int (lo + i) t)) (fun _ s₂ => wpAny (model prog w) A (execs body env) (Turn it o s₀ (J (i + 1)) Post (fun f s => match f with | .ret v => QR v s | _ => False)) (fun _ _ => False) s₂) (fun _ _ => False) s)
    (done : ∀ I W s, J (hi - lo).toNat I W → St s₀ I W s → Post s) (hp : ∀ s, Post s → kk s) : ForR prog w A env target body QR kk (.ref l) s :=
  ⟨l, lo, hi, t, u, v, _, s₀, I, W, J, Post, rfl, hs, hr, b1, b2, b3, b4, rfl, h0, turn, done, hp⟩
theorem fin_disp {s₁ : Shared} {K : Shared → Kn → Own → List PyData → Prop} (hz : vs.length ≤ sizeLine) (hs : St s₀ I W s₁) (rp : RpA I vs ds) (h : K s₀ I W ds) : vs.length ≤ sizeLine ∧ Ex4 fun s₀ I W ds => All3 (St s₀ I W s₁) (RpA I vs ds) (K s₀ I W ds) :=
  ⟨hz, _, _, _, _, hs, rp, h⟩
theorem and_g {K : Frag} {p : Program} {loose : List Str} {X : Prop} (hs : St s₀ I W s) (g : GE K p loose I) (h : X) : (Ex5 fun s₀ I W p loose => GE K p loose I ∧ St s₀ I W s) ∧ X := ⟨⟨_, _, _, _, _, g, hs⟩, h⟩
theorem rng1 {Q : Value → Shared → Prop} (hs : St s₀ I W s) (h : ∀ l t' v s', St s₀ I W s' → IsRange s'.heap l 0 n 1 t' t v → Q (.ref l) s') : wpAny (model prog w) A (call (.type "range") [.int n t]) Q E s :=
  call_range_1 (h _ _ _ _ (hs.put (hs.ok.ext fun _ _ e => Heap.get?_push_of_some _ e)) (Heap.get?_push_size _ rfl))
theorem rng2 {Q : Value → Shared → Prop} (hs : St s₀ I W s) (h : ∀ l v s', St s₀ I W s' → IsRange s'.heap l k n 1 t u v → Q (.ref l) s') : wpAny (model prog w) A (call (.type "range") [.int k t, .int n u]) Q E s :=
  call_range_2 (h _ _ _ (hs.put (hs.ok.ext fun _ _ e => Heap.get?_push_of_some _ e)) (Heap.get?_push_size _ rfl))
end
def WORDS : List (List Int) := [[97], [98, 99], [100, 101, 102], [97, 46], [98, 63], [99, 46, 41], [100, 100, 100, 100, 100], [101, 46]]
def BETW : List (List Int) := [[32], [32, 32], [10]]
def iL (xs : List Int) : PyData := .list (xs.map .int)
def partD (p : Part) : PyData := .tuple [iL p.1, iL p.2]
def okP (p : Part) : Prop := p.1 ∈ WORDS ∧ p.2 ∈ BETW
theorem bet_get {k : Nat} {d : PyData} (h : [PyData.list [PyData.int 32], PyData.list [PyData.int 32, PyData.int 32], PyData.list [PyData.int 10]][k]? = some d) : ∃ y, y ∈ BETW ∧ d = iL y := by
  have e : [PyData.list [PyData.int 32], PyData.list [PyData.int 32, PyData.int 32], PyData.list [PyData.int 10]] = BETW.map iL := rfl
  rw [e, List.getElem?_map] at h
  obtain ⟨x, hx, rfl⟩ := Option.map_eq_some_iff.mp h
  exact ⟨x, List.mem_of_getElem? hx, rfl⟩
section
variable {w : World} {A : Around} {E : Value → Shared → Prop} {s s₀ : Shared} {I : Kn} {W : Own} {Q : Value → Shared → Prop} {t : Tok} {P C : Addr}
theorem c_parts {n : Int} (g : G0 w I) (r : Rm A 2) (hs : St s₀ I ((P, PotO C n) :: (C, CelO) :: W) s) (hn : n ≤ 50)
    (h : ∀ J v' (ps : List Part) s', Kn.le I J → Rp J v' (.list (ps.map partD)) → (∀ p ∈ ps, okP p) → 1 ≤ ps.length → ps.length ≤ 8 → St s₀ J ((P, PotO C (n + 17)) :: (C, CelO) :: W) s' → Q v' s') : wpAny (model PROG w) A (call (.ref 84) [.ref P]) Q E s := by
  refine xCall (n := 1) g r hs (by k_is) (by k_is) rfl (locs rfl) (by decide) ?_
  clear hs r
  intro A' L s' m hm hs r'
  have h2 : m "pot" = some (.ref P) := by rw [hm]; rfl
  clear hm
  refine xAssign ?_
  refine eP ?P ?h ?k
  case P => exact (fun v s => ∃ J, All3 (Kn.le I J) (Rp J v (.list (WORDS.map iL))) (St s₀ J ((L, NsO m) :: (P, PotO C n) :: (C, CelO) :: W) s))
  · repeat' (first | (first | ((with_reducible show wpAny _ _ (eval (Expr.List (_ :: _) _) _) _ _ _); refine mkLR ?_) | ((with_reducible show wpAny _ _ (callWith _ (Value.ref _) _ _ _) _ _ _); refine' cwF (by walk_at "gE") (by ((show keepIn (hd.heap_39 _) _ = _; k_is))) ?_) | ((with_reducible show _ ∧ _); refine' and_g (by assumption) (by walk_at "gE") ?_) | ((with_reducible show wpAny _ _ (eval (Expr.Tuple _ _ _) _) _ _ _); refine mkTR ?_) | ((with_reducible show _ ∧ _); (rename St _ _ _ _ => hsX); refine' fin_disp (by (((try simp only [List.length_cons, List.length_nil]); decide))) hsX (by walk_at "rpa") ?_; clear hsX; intro _ _ _ _ _ _) | ((with_reducible show wpAny _ _ (call (Value.ref 77) _) _ _ _); (rename St _ _ _ _ => hsX); refine' c_draw (by walk_at "gE") (by (first | assumption | exact Rm.le (by assumption) (by omega))) hsX (by walk_at "rem") (by walk_at "rem") (by omega) (by omega) (by omega) ?_; clear hsX; intro _ _ _ _ _ _) | ((with_reducible show wpAny _ _ (call (Value.type "range") [_]) _ _ _); (rename St _ _ _ _ => hsX); (refine rng1 hsX ?_); clear hsX; intro _ _ _ _ _ _) | ((with_reducible show wpAny _ _ (call (Value.type "range") [_, _]) _ _ _); (rename St _ _ _ _ => hsX); (refine rng2 hsX ?_); clear hsX; intro _ _ _ _ _) | ((with_reducible show wpAny _ _ (subscriptTail _ _ _ _) _ _ _); refine' idxR (by assumption) (by walk_at "rpa") (by omega) (by ((try simp only [List.length_cons, List.length_nil]); omega)) (by omega) ?_; intro _ _ _ _)) | walk_at "S" | (first | ((with_reducible show wpAny _ _ (evalPart _ _) _ _ _); first | with_reducible refine part_none ?_ | with_reducible refine part_some ?_) | ((with_reducible show _ ∧ _); (rename St _ _ _ _ => hsX); (refine And.intro (by (try simp only [List.length_cons, List.length_nil]); decide) ⟨_, _, _, hsX, ?_⟩); clear hsX; intro _ _ _ _) | ((with_reducible show wpAny _ _ (getMethod (Value.ref _) (Str.ofString "append") _) _ _ _); refine' mApp (by assumption) (by (first | exact Or.inl ⟨_, by assumption⟩ | exact Or.inr (by walk_at "mem"))) ?_) | ((with_reducible show wpAny _ _ (getMethod (Value.ref _) (Str.ofString "pop") _) _ _ _); refine' mPop (by assumption) (by (first | exact Or.inl ⟨_, by assumption⟩ | exact Or.inr (by walk_at "mem"))) ?_)))
    rename Rp _ _ (.list (.list _ :: _)) => hR
    exact ⟨_, by walk_at "le", hR, by assumption⟩
  rintro S s ⟨J, hle, hR, hs⟩
  replace g := g.mono hle
  (first | (first | ((with_reducible show wpAny _ _ (eval (Expr.List (_ :: _) _) _) _ _ _); refine mkLR ?_) | ((with_reducible show wpAny _ _ (callWith _ (Value.ref _) _ _ _) _ _ _); refine' cwF (by walk_at "gE") (by ((show keepIn (hd.heap_39 _) _ = _; k_is))) ?_) | ((with_reducible show _ ∧ _); refine' and_g (by assumption) (by walk_at "gE") ?_) | ((with_reducible show wpAny _ _ (eval (Expr.Tuple _ _ _) _) _ _ _); refine mkTR ?_) | ((with_reducible show _ ∧ _); (rename St _ _ _ _ => hsX); refine' fin_disp (by (((try simp only [List.length_cons, List.length_nil]); decide))) hsX (by walk_at "rpa") ?_; clear hsX; intro _ _ _ _ _ _) | ((with_reducible show wpAny _ _ (call (Value.ref 77) _) _ _ _); (rename St _ _ _ _ => hsX); refine' c_draw (by walk_at "gE") (by (first | assumption | exact Rm.le (by assumption) (by omega))) hsX (by walk_at "rem") (by walk_at "rem") (by omega) (by omega) (by omega) ?_; clear hsX; intro _ _ _ _ _ _) | ((with_reducible show wpAny _ _ (call (Value.type "range") [_]) _ _ _); (rename St _ _ _ _ => hsX); (refine rng1 hsX ?_); clear hsX; intro _ _ _ _ _ _) | ((with_reducible show wpAny _ _ (call (Value.type "range") [_, _]) _ _ _); (rename St _ _ _ _ => hsX); (refine rng2 hsX ?_); clear hsX; intro _ _ _ _ _) | ((with_reducible show wpAny _ _ (subscriptTail _ _ _ _) _ _ _); refine' idxR (by assumption) (by walk_at "rpa") (by omega) (by ((try simp only [List.length_cons, List.length_nil]); omega)) (by omega) ?_; intro _ _ _ _)) | walk_at "S" | (first | ((with_reducible show wpAny _ _ (evalPart _ _) _ _ _); first | with_reducible refine part_none ?_ | with_reducible refine part_some ?_) | ((with_reducible show _ ∧ _); (rename St _ _ _ _ => hsX); (refine And.intro (by (try simp only [List.length_cons, List.length_nil]); decide) ⟨_, _, _, hsX, ?_⟩); clear hsX; intro _ _ _ _) | ((with_reducible show wpAny _ _ (getMethod (Value.ref _) (Str.ofString "append") _) _ _ _); refine' mApp (by assumption) (by (first | exact Or.inl ⟨_, by assumption⟩ | exact Or.inr (by walk_at "mem"))) ?_) | ((with_reducible show wpAny _ _ (getMethod (Value.ref _) (Str.ofString "pop") _) _ _ _); refine' mPop (by assumption) (by (first | exact Or.inl ⟨_, by assumption⟩ | exact Or.inr (by walk_at "mem"))) ?_)))
  (first | (first | ((with_reducible show wpAny _ _ (eval (Expr.List (_ :: _) _) _) _ _ _); refine mkLR ?_) | ((with_reducible show wpAny _ _ (callWith _ (Value.ref _) _ _ _) _ _ _); refine' cwF (by walk_at "gE") (by ((show keepIn (hd.heap_39 _) _ = _; k_is))) ?_) | ((with_reducible show _ ∧ _); refine' and_g (by assumption) (by walk_at "gE") ?_) | ((with_reducible show wpAny _ _ (eval (Expr.Tuple _ _ _) _) _ _ _); refine mkTR ?_) | ((with_reducible show _ ∧ _); (rename St _ _ _ _ => hsX); refine' fin_disp (by (((try simp only [List.length_cons, List.length_nil]); decide))) hsX (by walk_at "rpa") ?_; clear hsX; intro _ _ _ _ _ _) | ((with_reducible show wpAny _ _ (call (Value.ref 77) _) _ _ _); (rename St _ _ _ _ => hsX); refine' c_draw (by walk_at "gE") (by (first | assumption | exact Rm.le (by assumption) (by omega))) hsX (by walk_at "rem") (by walk_at "rem") (by omega) (by omega) (by omega) ?_; clear hsX; intro _ _ _ _ _ _) | ((with_reducible show wpAny _ _ (call (Value.type "range") [_]) _ _ _); (rename St _ _ _ _ => hsX); (refine rng1 hsX ?_); clear hsX; intro _ _ _ _ _ _) | ((with_reducible show wpAny _ _ (call (Value.type "range") [_, _]) _ _ _); (rename St _ _ _ _ => hsX); (refine rng2 hsX ?_); clear hsX; intro _ _ _ _ _) | ((with_reducible show wpAny _ _ (subscriptTail _ _ _ _) _ _ _); refine' idxR (by assumption) (by walk_at "rpa") (by omega) (by ((try simp only [List.length_cons, List.length_nil]); omega)) (by omega) ?_; intro _ _ _ _)) | walk_at "S" | (first | ((with_reducible show wpAny _ _ (evalPart _ _) _ _ _); first | with_reducible refine part_none ?_ | with_reducible refine part_some ?_) | ((with_reducible show _ ∧ _); (rename St _ _ _ _ => hsX); (refine And.intro (by (try simp only [List.length_cons, List.length_nil]); decide) ⟨_, _, _, hsX, ?_⟩); clear hsX; intro _ _ _ _) | ((with_reducible show wpAny _ _ (getMethod (Value.ref _) (Str.ofString "append") _) _ _ _); refine' mApp (by assumption) (by (first | exact Or.inl ⟨_, by assumption⟩ | exact Or.inr (by walk_at "mem"))) ?_) | ((with_reducible show wpAny _ _ (getMethod (Value.ref _) (Str.ofString "pop") _) _ _ _); refine' mPop (by assumption) (by (first | exact Or.inl ⟨_, by assumption⟩ | exact Or.inr (by walk_at "mem"))) ?_)))
  refine eP ?P2 ?h2 ?k2
  case P2 => exact (fun v s => ∃ F, v = .ref F ∧ St s₀ J ((F, LsO []) :: (L, NsO (upd m (Str.ofString "some") S)) :: (P, PotO C n) :: (C, CelO) :: W) s)
  · repeat' (first | (first | ((with_reducible show wpAny _ _ (eval (Expr.List (_ :: _) _) _) _ _ _); refine mkLR ?_) | ((with_reducible show wpAny _ _ (callWith _ (Value.ref _) _ _ _) _ _ _); refine' cwF (by walk_at "gE") (by ((show keepIn (hd.heap_39 _) _ = _; k_is))) ?_) | ((with_reducible show _ ∧ _); refine' and_g (by assumption) (by walk_at "gE") ?_) | ((with_reducible show wpAny _ _ (eval (Expr.Tuple _ _ _) _) _ _ _); refine mkTR ?_) | ((with_reducible show _ ∧ _); (rename St _ _ _ _ => hsX); refine' fin_disp (by (((try simp only [List.length_cons, List.length_nil]); decide))) hsX (by walk_at "rpa") ?_; clear hsX; intro _ _ _ _ _ _) | ((with_reducible show wpAny _ _ (call (Value.ref 77) _) _ _ _); (rename St _ _ _ _ => hsX); refine' c_draw (by walk_at "gE") (by (first | assumption | exact Rm.le (by assumption) (by omega))) hsX (by walk_at "rem") (by walk_at "rem") (by omega) (by omega) (by omega) ?_; clear hsX; intro _ _ _ _ _ _) | ((with_reducible show wpAny _ _ (call (Value.type "range") [_]) _ _ _); (rename St _ _ _ _ => hsX); (refine rng1 hsX ?_); clear hsX; intro _ _ _ _ _ _) | ((with_reducible show wpAny _ _ (call (Value.type "range") [_, _]) _ _ _); (rename St _ _ _ _ => hsX); (refine rng2 hsX ?_); clear hsX; intro _ _ _ _ _) | ((with_reducible show wpAny _ _ (subscriptTail _ _ _ _) _ _ _); refine' idxR (by assumption) (by walk_at "rpa") (by omega) (by ((try simp only [List.length_cons, List.length_nil]); omega)) (by omega) ?_; intro _ _ _ _)) | walk_at "S" | (first | ((with_reducible show wpAny _ _ (evalPart _ _) _ _ _); first | with_reducible refine part_none ?_ | with_reducible refine part_some ?_) | ((with_reducible show _ ∧ _); (rename St _ _ _ _ => hsX); (refine And.intro (by (try simp only [List.length_cons, List.length_nil]); decide) ⟨_, _, _, hsX, ?_⟩); clear hsX; intro _ _ _ _) | ((with_reducible show wpAny _ _ (getMethod (Value.ref _) (Str.ofString "append") _) _ _ _); refine' mApp (by assumption) (by (first | exact Or.inl ⟨_, by assumption⟩ | exact Or.inr (by walk_at "mem"))) ?_) | ((with_reducible show wpAny _ _ (getMethod (Value.ref _) (Str.ofString "pop") _) _ _ _); refine' mPop (by assumption) (by (first | exact Or.inl ⟨_, by assumption⟩ | exact Or.inr (by walk_at "mem"))) ?_)))
    exact ⟨_, rfl, by assumption⟩
  clear hs
  rintro _ s ⟨F, rfl, hs⟩
  repeat' (first | (first | ((with_reducible show wpAny _ _ (eval (Expr.List (_ :: _) _) _) _ _ _); refine mkLR ?_) | ((with_reducible show wpAny _ _ (callWith _ (Value.ref _) _ _ _) _ _ _); refine' cwF (by walk_at "gE") (by ((show keepIn (hd.heap_39 _) _ = _; k_is))) ?_) | ((with_reducible show _ ∧ _); refine' and_g (by assumption) (by walk_at "gE") ?_) | ((with_reducible show wpAny _ _ (eval (Expr.Tuple _ _ _) _) _ _ _); refine mkTR ?_) | ((with_reducible show _ ∧ _); (rename St _ _ _ _ => hsX); refine' fin_disp (by (((try simp only [List.length_cons, List.length_nil]); decide))) hsX (by walk_at "rpa") ?_; clear hsX; intro _ _ _ _ _ _) | ((with_reducible show wpAny _ _ (call (Value.ref 77) _) _ _ _); (rename St _ _ _ _ => hsX); refine' c_draw (by walk_at "gE") (by (first | assumption | exact Rm.le (by assumption) (by omega))) hsX (by walk_at "rem") (by walk_at "rem") (by omega) (by omega) (by omega) ?_; clear hsX; intro _ _ _ _ _ _) | ((with_reducible show wpAny _ _ (call (Value.type "range") [_]) _ _ _); (rename St _ _ _ _ => hsX); (refine rng1 hsX ?_); clear hsX; intro _ _ _ _ _ _) | ((with_reducible show wpAny _ _ (call (Value.type "range") [_, _]) _ _ _); (rename St _ _ _ _ => hsX); (refine rng2 hsX ?_); clear hsX; intro _ _ _ _ _) | ((with_reducible show wpAny _ _ (subscriptTail _ _ _ _) _ _ _); refine' idxR (by assumption) (by walk_at "rpa") (by omega) (by ((try simp only [List.length_cons, List.length_nil]); omega)) (by omega) ?_; intro _ _ _ _)) | walk_at "S" | (first | ((with_reducible show wpAny _ _ (evalPart _ _) _ _ _); first | with_reducible refine part_none ?_ | with_reducible refine part_some ?_) | ((with_reducible show _ ∧ _); (rename St _ _ _ _ => hsX); (refine And.intro (by (try simp only [List.length_cons, List.length_nil]); decide) ⟨_, _, _, hsX, ?_⟩); clear hsX; intro _ _ _ _) | ((with_reducible show wpAny _ _ (getMethod (Value.ref _) (Str.ofString "append") _) _ _ _); refine' mApp (by assumption) (by (first | exact Or.inl ⟨_, by assumption⟩ | exact Or.inr (by walk_at "mem"))) ?_) | ((with_reducible show wpAny _ _ (getMethod (Value.ref _) (Str.ofString "pop") _) _ _ _); refine' mPop (by assumption) (by (first | exact Or.inl ⟨_, by assumption⟩ | exact Or.inr (by walk_at "mem"))) ?_)))
  refine xForR (r'.le (by omega)) ?_
  repeat' (first | (first | ((with_reducible show wpAny _ _ (eval (Expr.List (_ :: _) _) _) _ _ _); refine mkLR ?_) | ((with_reducible show wpAny _ _ (callWith _ (Value.ref _) _ _ _) _ _ _); refine' cwF (by walk_at "gE") (by ((show keepIn (hd.heap_39 _) _ = _; k_is))) ?_) | ((with_reducible show _ ∧ _); refine' and_g (by assumption) (by walk_at "gE") ?_) | ((with_reducible show wpAny _ _ (eval (Expr.Tuple _ _ _) _) _ _ _); refine mkTR ?_) | ((with_reducible show _ ∧ _); (rename St _ _ _ _ => hsX); refine' fin_disp (by (((try simp only [List.length_cons, List.length_nil]); decide))) hsX (by walk_at "rpa") ?_; clear hsX; intro _ _ _ _ _ _) | ((with_reducible show wpAny _ _ (call (Value.ref 77) _) _ _ _); (rename St _ _ _ _ => hsX); refine' c_draw (by walk_at "gE") (by (first | assumption | exact Rm.le (by assumption) (by omega))) hsX (by walk_at "rem") (by walk_at "rem") (by omega) (by omega) (by omega) ?_; clear hsX; intro _ _ _ _ _ _) | ((with_reducible show wpAny _ _ (call (Value.type "range") [_]) _ _ _); (rename St _ _ _ _ => hsX); (refine rng1 hsX ?_); clear hsX; intro _ _ _ _ _ _) | ((with_reducible show wpAny _ _ (call (Value.type "range") [_, _]) _ _ _); (rename St _ _ _ _ => hsX); (refine rng2 hsX ?_); clear hsX; intro _ _ _ _ _) | ((with_reducible show wpAny _ _ (subscriptTail _ _ _ _) _ _ _); refine' idxR (by assumption) (by walk_at "rpa") (by omega) (by ((try simp only [List.length_cons, List.length_nil]); omega)) (by omega) ?_; intro _ _ _ _)) | walk_at "S" | (first | ((with_reducible show wpAny _ _ (evalPart _ _) _ _ _); first | with_reducible refine part_none ?_ | with_reducible refine part_some ?_) | ((with_reducible show _ ∧ _); (rename St _ _ _ _ => hsX); (refine And.intro (by (try simp only [List.length_cons, List.length_nil]); decide) ⟨_, _, _, hsX, ?_⟩); clear hsX; intro _ _ _ _) | ((with_reducible show wpAny _ _ (getMethod (Value.ref _) (Str.ofString "append") _) _ _ _); refine' mApp (by assumption) (by (first | exact Or.inl ⟨_, by assumption⟩ | exact Or.inr (by walk_at "mem"))) ?_) | ((with_reducible show wpAny _ _ (getMethod (Value.ref _) (Str.ofString "pop") _) _ _ _); refine' mPop (by assumption) (by (first | exact Or.inl ⟨_, by assumption⟩ | exact Or.inr (by walk_at "mem"))) ?_)))
  rename St _ _ _ _ => hs
  rename IsRange _ _ _ _ _ _ _ _ => hr
  rename (_ : Int) < 8 => hd8
  rename 0 ≤ (_ : Int) => hd0
  refine ForR.mk' ?Jv ?Post hs hr (by omega) (by omega) (by omega) (by omega) ?h0 ?turn ?done ?hp
  case Jv => exact fun k I' W' => Ex3 fun m (rvs : List Value) (ps : List Part) => All8 (Kn.le J I') (W' = (P, PotO C (n + 1 + 2 * k)) :: (C, CelO) :: (F, LsO rvs) :: (L, NsO m) :: W) (m "pot" = some (.ref P)) (m "some" = some S) (m "found" = some (.ref F)) (RpA I' rvs (ps.map partD)) (ps.length = k) (∀ p ∈ ps, okP p)
  case Post => exact fun s => Ex4 fun I' m (rvs : List Value) (ps : List Part) => All7 (Kn.le J I') (St s₀ I' ((P, PotO C (n + 17)) :: (C, CelO) :: (F, LsO rvs) :: (L, NsO m) :: W) s) (m "found" = some (.ref F)) (RpA I' rvs (ps.map partD)) (1 ≤ ps.length) (ps.length ≤ 8) (∀ p ∈ ps, okP p)
  case h0 => exact ⟨_, [], [], Kn.le.rfl', by rw [show n + 1 + 2 * ((0 : Nat) : Int) = n + 1 by omega], by walk_at "lk", by walk_at "lk", by walk_at "lk", .nil, rfl, by simp⟩
  case done =>
    rintro I' _ s ⟨m, rvs, ps, hle', rfl, h1, h2, h3, hrv, hl, hok⟩ hs
    refine ⟨_, _, _, _, hle', hs.imp (.head _) .head ?_, h3, hrv, by omega, by omega, hok⟩
    rintro o ⟨k, t, sv, t', hL, q1, q2, q3⟩
    exact ⟨k, t, sv, t', hL, q1, by omega, q3⟩
  case hp =>
    rintro s ⟨I', m, rvs, ps, hle', hs, h3, hrv, hl1, hl8, hok⟩
    replace g := g.mono hle'
    repeat' (first | (first | ((with_reducible show wpAny _ _ (eval (Expr.List (_ :: _) _) _) _ _ _); refine mkLR ?_) | ((with_reducible show wpAny _ _ (callWith _ (Value.ref _) _ _ _) _ _ _); refine' cwF (by walk_at "gE") (by ((show keepIn (hd.heap_39 _) _ = _; k_is))) ?_) | ((with_reducible show _ ∧ _); refine' and_g (by assumption) (by walk_at "gE") ?_) | ((with_reducible show wpAny _ _ (eval (Expr.Tuple _ _ _) _) _ _ _); refine mkTR ?_) | ((with_reducible show _ ∧ _); (rename St _ _ _ _ => hsX); refine' fin_disp (by (((try simp only [List.length_cons, List.length_nil]); decide))) hsX (by walk_at "rpa") ?_; clear hsX; intro _ _ _ _ _ _) | ((with_reducible show wpAny _ _ (call (Value.ref 77) _) _ _ _); (rename St _ _ _ _ => hsX); refine' c_draw (by walk_at "gE") (by (first | assumption | exact Rm.le (by assumption) (by omega))) hsX (by walk_at "rem") (by walk_at "rem") (by omega) (by omega) (by omega) ?_; clear hsX; intro _ _ _ _ _ _) | ((with_reducible show wpAny _ _ (call (Value.type "range") [_]) _ _ _); (rename St _ _ _ _ => hsX); (refine rng1 hsX ?_); clear hsX; intro _ _ _ _ _ _) | ((with_reducible show wpAny _ _ (call (Value.type "range") [_, _]) _ _ _); (rename St _ _ _ _ => hsX); (refine rng2 hsX ?_); clear hsX; intro _ _ _ _ _) | ((with_reducible show wpAny _ _ (subscriptTail _ _ _ _) _ _ _); refine' idxR (by assumption) (by walk_at "rpa") (by omega) (by ((try simp only [List.length_cons, List.length_nil]); omega)) (by omega) ?_; intro _ _ _ _)) | walk_at "S" | (first | ((with_reducible show wpAny _ _ (evalPart _ _) _ _ _); first | with_reducible refine part_none ?_ | with_reducible refine part_some ?_) | ((with_reducible show _ ∧ _); (rename St _ _ _ _ => hsX); (refine And.intro (by (try simp only [List.length_cons, List.length_nil]); decide) ⟨_, _, _, hsX, ?_⟩); clear hsX; intro _ _ _ _) | ((with_reducible show wpAny _ _ (getMethod (Value.ref _) (Str.ofString "append") _) _ _ _); refine' mApp (by assumption) (by (first | exact Or.inl ⟨_, by assumption⟩ | exact Or.inr (by walk_at "mem"))) ?_) | ((with_reducible show wpAny _ _ (getMethod (Value.ref _) (Str.ofString "pop") _) _ _ _); refine' mPop (by assumption) (by (first | exact Or.inl ⟨_, by assumption⟩ | exact Or.inr (by walk_at "mem"))) ?_)))
    rename St _ _ _ _ => hs
    obtain ⟨oc, ⟨nc, rfl⟩, hJc, hs⟩ := (hs.rem (.tail (.tail (.tail .head)))).freeze (.tail (.tail .head))
    have hle2 := Kn.set_le (o := PySem.W.listOf rvs.toArray nc) hJc
    exact h _ _ ps _ (hle.tr (hle'.tr hle2)) (.list Kn.set_self (hrv.mono hle2)) hok hl1 hl8 hs
  case turn =>
    rintro i t I' _ it o s hi ⟨m, rvs, ps, hle', rfl, h1, h2, h3, hrv, hl, hok⟩ hs
    replace g := g.mono hle'
    replace hR := hR.mono hle'
    repeat' (first | (first | ((with_reducible show wpAny _ _ (eval (Expr.List (_ :: _) _) _) _ _ _); refine mkLR ?_) | ((with_reducible show wpAny _ _ (callWith _ (Value.ref _) _ _ _) _ _ _); refine' cwF (by walk_at "gE") (by ((show keepIn (hd.heap_39 _) _ = _; k_is))) ?_) | ((with_reducible show _ ∧ _); refine' and_g (by assumption) (by walk_at "gE") ?_) | ((with_reducible show wpAny _ _ (eval (Expr.Tuple _ _ _) _) _ _ _); refine mkTR ?_) | ((with_reducible show _ ∧ _); (rename St _ _ _ _ => hsX); refine' fin_disp (by (((try simp only [List.length_cons, List.length_nil]); decide))) hsX (by walk_at "rpa") ?_; clear hsX; intro _ _ _ _ _ _) | ((with_reducible show wpAny _ _ (call (Value.ref 77) _) _ _ _); (rename St _ _ _ _ => hsX); refine' c_draw (by walk_at "gE") (by (first | assumption | exact Rm.le (by assumption) (by omega))) hsX (by walk_at "rem") (by walk_at "rem") (by omega) (by omega) (by omega) ?_; clear hsX; intro _ _ _ _ _ _) | ((with_reducible show wpAny _ _ (call (Value.type "range") [_]) _ _ _); (rename St _ _ _ _ => hsX); (refine rng1 hsX ?_); clear hsX; intro _ _ _ _ _ _) | ((with_reducible show wpAny _ _ (call (Value.type "range") [_, _]) _ _ _); (rename St _ _ _ _ => hsX); (refine rng2 hsX ?_); clear hsX; intro _ _ _ _ _) | ((with_reducible show wpAny _ _ (subscriptTail _ _ _ _) _ _ _); refine' idxR (by assumption) (by walk_at "rpa") (by omega) (by ((try simp only [List.length_cons, List.length_nil]); omega)) (by omega) ?_; intro _ _ _ _)) | walk_at "S" | (first | ((with_reducible show wpAny _ _ (evalPart _ _) _ _ _); first | with_reducible refine part_none ?_ | with_reducible refine part_some ?_) | ((with_reducible show _ ∧ _); (rename St _ _ _ _ => hsX); (refine And.intro (by (try simp only [List.length_cons, List.length_nil]); decide) ⟨_, _, _, hsX, ?_⟩); clear hsX; intro _ _ _ _) | ((with_reducible show wpAny _ _ (getMethod (Value.ref _) (Str.ofString "append") _) _ _ _); refine' mApp (by assumption) (by (first | exact Or.inl ⟨_, by assumption⟩ | exact Or.inr (by walk_at "mem"))) ?_) | ((with_reducible show wpAny _ _ (getMethod (Value.ref _) (Str.ofString "pop") _) _ _ _); refine' mPop (by assumption) (by (first | exact Or.inl ⟨_, by assumption⟩ | exact Or.inr (by walk_at "mem"))) ?_)))
    refine idxR (by assumption) hR (by omega) (by show (_ : Int) < ((8 : Nat) : Int); omega) (by omega) ?_
    intro wv wd hwd hwR
    rw [List.getElem?_map] at hwd
    obtain ⟨x, hx, rfl⟩ := Option.map_eq_some_iff.mp hwd
    replace hx := List.mem_of_getElem? hx
    clear hwd
    repeat' (first | (first | ((with_reducible show wpAny _ _ (eval (Expr.List (_ :: _) _) _) _ _ _); refine mkLR ?_) | ((with_reducible show wpAny _ _ (callWith _ (Value.ref _) _ _ _) _ _ _); refine' cwF (by walk_at "gE") (by ((show keepIn (hd.heap_39 _) _ = _; k_is))) ?_) | ((with_reducible show _ ∧ _); refine' and_g (by assumption) (by walk_at "gE") ?_) | ((with_reducible show wpAny _ _ (eval (Expr.Tuple _ _ _) _) _ _ _); refine mkTR ?_) | ((with_reducible show _ ∧ _); (rename St _ _ _ _ => hsX); refine' fin_disp (by (((try simp only [List.length_cons, List.length_nil]); decide))) hsX (by walk_at "rpa") ?_; clear hsX; intro _ _ _ _ _ _) | ((with_reducible show wpAny _ _ (call (Value.ref 77) _) _ _ _); (rename St _ _ _ _ => hsX); refine' c_draw (by walk_at "gE") (by (first | assumption | exact Rm.le (by assumption) (by omega))) hsX (by walk_at "rem") (by walk_at "rem") (by omega) (by omega) (by omega) ?_; clear hsX; intro _ _ _ _ _ _) | ((with_reducible show wpAny _ _ (call (Value.type "range") [_]) _ _ _); (rename St _ _ _ _ => hsX); (refine rng1 hsX ?_); clear hsX; intro _ _ _ _ _ _) | ((with_reducible show wpAny _ _ (call (Value.type "range") [_, _]) _ _ _); (rename St _ _ _ _ => hsX); (refine rng2 hsX ?_); clear hsX; intro _ _ _ _ _) | ((with_reducible show wpAny _ _ (subscriptTail _ _ _ _) _ _ _); refine' idxR (by assumption) (by walk_at "rpa") (by omega) (by ((try simp only [List.length_cons, List.length_nil]); omega)) (by omega) ?_; intro _ _ _ _)) | walk_at "S" | (first | ((with_reducible show wpAny _ _ (evalPart _ _) _ _ _); first | with_reducible refine part_none ?_ | with_reducible refine part_some ?_) | ((with_reducible show _ ∧ _); (rename St _ _ _ _ => hsX); (refine And.intro (by (try simp only [List.length_cons, List.length_nil]); decide) ⟨_, _, _, hsX, ?_⟩); clear hsX; intro _ _ _ _) | ((with_reducible show wpAny _ _ (getMethod (Value.ref _) (Str.ofString "append") _) _ _ _); refine' mApp (by assumption) (by (first | exact Or.inl ⟨_, by assumption⟩ | exact Or.inr (by walk_at "mem"))) ?_) | ((with_reducible show wpAny _ _ (getMethod (Value.ref _) (Str.ofString "pop") _) _ _ _); refine' mPop (by assumption) (by (first | exact Or.inl ⟨_, by assumption⟩ | exact Or.inr (by walk_at "mem"))) ?_)))
    rename (_ : List PyData)[_]? = some _ => hbt
    rename Rp _ _ (.tuple _) => hT
    rename St _ _ _ _ => hs
    have hz : rvs.length = i := by have := hrv.length; rw [List.length_map] at this; omega
    obtain ⟨y, hy, rfl⟩ := bet_get hbt
    refine appL hs (by walk_at "mem") (by walk_at "up") (by simp only [sizeLine]; omega) fun s' hs => ⟨rfl, ?_⟩
    repeat' (first | (first | ((with_reducible show wpAny _ _ (eval (Expr.List (_ :: _) _) _) _ _ _); refine mkLR ?_) | ((with_reducible show wpAny _ _ (callWith _ (Value.ref _) _ _ _) _ _ _); refine' cwF (by walk_at "gE") (by ((show keepIn (hd.heap_39 _) _ = _; k_is))) ?_) | ((with_reducible show _ ∧ _); refine' and_g (by assumption) (by walk_at "gE") ?_) | ((with_reducible show wpAny _ _ (eval (Expr.Tuple _ _ _) _) _ _ _); refine mkTR ?_) | ((with_reducible show _ ∧ _); (rename St _ _ _ _ => hsX); refine' fin_disp (by (((try simp only [List.length_cons, List.length_nil]); decide))) hsX (by walk_at "rpa") ?_; clear hsX; intro _ _ _ _ _ _) | ((with_reducible show wpAny _ _ (call (Value.ref 77) _) _ _ _); (rename St _ _ _ _ => hsX); refine' c_draw (by walk_at "gE") (by (first | assumption | exact Rm.le (by assumption) (by omega))) hsX (by walk_at "rem") (by walk_at "rem") (by omega) (by omega) (by omega) ?_; clear hsX; intro _ _ _ _ _ _) | ((with_reducible show wpAny _ _ (call (Value.type "range") [_]) _ _ _); (rename St _ _ _ _ => hsX); (refine rng1 hsX ?_); clear hsX; intro _ _ _ _ _ _) | ((with_reducible show wpAny _ _ (call (Value.type "range") [_, _]) _ _ _); (rename St _ _ _ _ => hsX); (refine rng2 hsX ?_); clear hsX; intro _ _ _ _ _) | ((with_reducible show wpAny _ _ (subscriptTail _ _ _ _) _ _ _); refine' idxR (by assumption) (by walk_at "rpa") (by omega) (by ((try simp only [List.length_cons, List.length_nil]); omega)) (by omega) ?_; intro _ _ _ _)) | walk_at "S" | (first | ((with_reducible show wpAny _ _ (evalPart _ _) _ _ _); first | with_reducible refine part_none ?_ | with_reducible refine part_some ?_) | ((with_reducible show _ ∧ _); (rename St _ _ _ _ => hsX); (refine And.intro (by (try simp only [List.length_cons, List.length_nil]); decide) ⟨_, _, _, hsX, ?_⟩); clear hsX; intro _ _ _ _) | ((with_reducible show wpAny _ _ (getMethod (Value.ref _) (Str.ofString "append") _) _ _ _); refine' mApp (by assumption) (by (first | exact Or.inl ⟨_, by assumption⟩ | exact Or.inr (by walk_at "mem"))) ?_) | ((with_reducible show wpAny _ _ (getMethod (Value.ref _) (Str.ofString "pop") _) _ _ _); refine' mPop (by assumption) (by (first | exact Or.inl ⟨_, by assumption⟩ | exact Or.inr (by walk_at "mem"))) ?_)))
    rw [show n + 1 + 2 * (i : Int) + 1 + 1 = n + 1 + 2 * ((i + 1 : Nat) : Int) by omega] at hs
    refine Turn.next hs (by walk_at "rem") ⟨_, _, ps ++ [(x, y)], hle'.tr (by walk_at "le"), rfl, by walk_at "lk", by walk_at "lk", by walk_at "lk", ?_, by simp [hl], fun p hp => ?_⟩
    · rw [List.map_append]
      exact (hrv.mono (by walk_at "le")).append (.one hT)
    · rcases List.mem_append.mp hp with q | q
      · exact hok _ q
      · rw [List.mem_singleton.mp q]; exact ⟨hx, hy⟩
end

/-! # part D4 -/
section
variable {prog : Program} {w : World} {A : Around} {E : Value → Shared → Prop} {s s₀ : Shared} {I : Kn} {W W' : Own} {env : Env} {pos : Pos}
theorem xSliceU {value : Expr} {upper : Option Expr} {p : Pos} {Q : Value → Shared → Prop}
    (h : wpAny (model prog w) A (eval value env) (fun o s₁ => wpAny (model prog w) A (evalPart none env) (fun vl s₂ => wpAny (model prog w) A (evalPart upper env) (fun vu s₃ =>
      Ex7 fun ds y ty k s₀ I W => All7 (St s₀ I W s₃) (Rp I o (.list ds)) (ds.length ≤ sizeLine) (vl = .none) (vu = .int y ty) (((0 ≤ y ∧ k = y.toNat) ∨ (y = -1 ∧ k = ds.length - 1))) (∀ J c s', Kn.le I J → Rp J (.ref c) (.list (ds.take k)) → St s₀ J W s' → Q (.ref c) s')) E s₂) E s₁) E s)
    (ht : ∀ o r, letTemporaryGo value o r = pure () := by intro _ _; rfl) :
    wpAny (model prog w) A (eval (.Subscript value (.Slice none upper none p) pos) env) Q E s := by
  refine xSlice (wpAny_mono h (fun o s₁ h₁ => wpAny_mono h₁ (fun vl s₂ h₂ => wpAny_mono h₂ (fun vu s₃ h₃ => ?_) fun _ _ q => q) fun _ _ q => q) fun _ _ q => q) ht
  obtain ⟨ds, y, ty, k, s₀, I, W, hs, hr, hz, rfl, rfl, hk, hq⟩ := h₃
  obtain ⟨a, vs, n, rfl, ea, ra⟩ := hr.listInv
  have hl : vs.length = ds.length := ra.length
  refine ⟨a, vs, _, _, _, _, _, rfl, hs, .inl ⟨_, ea⟩, by omega, .none, .int _ _, fun c s' hc hs' => ?_⟩
  obtain ⟨oc, ⟨nc, rfl⟩, hJc, hs'⟩ := hs'.freeze .head
  have e : pick vs none (some y) = vs.take k := by
    rcases hk with ⟨h0, rfl⟩ | ⟨rfl, rfl⟩
    · obtain ⟨q, rfl⟩ := Int.eq_ofNat_of_zero_le h0
      unfold pick; rw [slicePick_upto']; simp
    · unfold pick
      have := slicePick_butLast vs.toArray 1 (by decide)
      rw [show (-1 : Int) = -((1 : Nat) : Int) from rfl, this, ← hl]; simp
  rw [e] at hs'
  have hle := Kn.set_le (o := PySem.W.listOf (vs.take k).toArray nc) hJc
  exact hq _ _ _ hle (.list Kn.set_self ((ra.mono hle).take _)) hs'
theorem paired_ints {vs ys : List Value} (h : Paired (fun _ y => ∃ i t, y = Value.int i t) vs ys) : ∃ xs, IntsAre ys xs ∧ xs.length = vs.length := by
  induction h with
  | nil => exact ⟨[], .nil, rfl⟩
  | cons h _ ih =>
    obtain ⟨i, t, rfl⟩ := h
    obtain ⟨xs, q, e⟩ := ih
    exact ⟨i :: xs, .cons _ _ q, by simp [e]⟩
theorem ints_mem {vs : List Value} {xs : List Int} {v : Value} (h : IntsAre vs xs) (hv : v ∈ vs) : ∃ i t, v = Value.int i t := by
  induction h with
  | nil => cases hv
  | cons i t _ ih =>
    rcases List.mem_cons.mp hv with rfl | hv
    · exact ⟨i, t, rfl⟩
    · exact ih hv
end
section
variable {w : World} {A : Around} {E : Value → Shared → Prop} {s s₀ : Shared} {I : Kn} {W : Own} {Q : Value → Shared → Prop} {t : Tok}
theorem c_pot {ns : List Int} {sv : Value} (g : G0 w I) (r : Rm A 2) (hs : St s₀ I W s) (hv : Rp I sv (.list (ns.map .int))) (hn : ns.length ≤ 63)
    (h : ∀ P C s', St s₀ I ((P, PotO C 0) :: (C, CelO) :: W) s' → Q (.ref P) s') : wpAny (model PROG w) A (call (.ref 70) [sv]) Q E s := by
  refine xCall (n := 1) g r hs (by k_is) (by k_is) rfl (locs rfl) (by decide) ?_
  clear hs r
  intro A' L s' m hm hs r'
  have h2 : m "script" = some sv := by rw [hm]; rfl
  clear hm
  refine xAssignCompL (fun _ y => ∃ i t, y = Value.int i t) (r'.le (by omega)) ?_
  repeat' (first | (first | ((with_reducible show wpAny _ _ (call (Value.builtin "sum") _) _ _ _); (rename St _ _ _ _ => hsX); refine' sumI hsX (by (first | assumption | exact Rm.le (by assumption) (by omega))) (by (first | exact Or.inl ⟨_, by assumption⟩ | exact Or.inr (by walk_at "mem"))) (by assumption) ?_; clear hsX; intro _ _ _ _) | ((with_reducible show wpAny _ _ (eval (Expr.Subscript _ (Expr.Slice none _ _ _) _) _) _ _ _); refine xSliceU ?_) | ((with_reducible show wpAny _ _ (eval (Expr.Name _ _) (compEnv _ _ _)) _ _ _); first | refine' nK (by assumption) (by assumption) (by assumption) ?_ | refine' nKB (by assumption) (by assumption) (by k_is) (by boot_fast) (by decide) ?_) | ((with_reducible show wpAny _ _ (binaryOp Operator.Mod _ _) _ _ _); (rename St _ _ _ _ => hsX); refine' modI hsX (by (first | omega | decide)) ?_; clear hsX; intro _ _ _) | ((with_reducible show wpAny _ _ (binaryOp Operator.Pow _ _) _ _ _); (rename St _ _ _ _ => hsX); refine' powI hsX (by decide) (by decide) (by decide) ?_; clear hsX; intro _ _ _) | ((with_reducible show wpAny _ _ (call (Value.builtin "abs") _) _ _ _); (rename St _ _ _ _ => hsX); refine' absI hsX ?_; clear hsX; intro _ _ _ _ _)) | walk_at "S" | (first | ((with_reducible show wpAny _ _ (evalPart _ _) _ _ _); first | with_reducible refine part_none ?_ | with_reducible refine part_some ?_) | ((with_reducible show _ ∧ _); (rename St _ _ _ _ => hsX); (refine And.intro (by (try simp only [List.length_cons, List.length_nil]); decide) ⟨_, _, _, hsX, ?_⟩); clear hsX; intro _ _ _ _) | ((with_reducible show wpAny _ _ (getMethod (Value.ref _) (Str.ofString "append") _) _ _ _); refine' mApp (by assumption) (by (first | exact Or.inl ⟨_, by assumption⟩ | exact Or.inr (by walk_at "mem"))) ?_) | ((with_reducible show wpAny _ _ (getMethod (Value.ref _) (Str.ofString "pop") _) _ _ _); refine' mPop (by assumption) (by (first | exact Or.inl ⟨_, by assumption⟩ | exact Or.inr (by walk_at "mem"))) ?_)))
  rename St _ _ _ _ => hs
  refine ⟨_, _, _, 24, _, _, _, hs, hv, by simp only [List.length_map, sizeLine]; omega, rfl, rfl, .inl ⟨by decide, rfl⟩, fun J c s' hle hc hs => ?_⟩
  obtain ⟨a, vs, n, e, ea, ra⟩ := hc.listInv
  cases e
  rw [← List.map_take] at ra
  have hi := ra.ints
  have hlen : vs.length = (ns.take 24).length := hi.length
  rw [List.length_take] at hlen
  replace g := g.mono hle
  refine ⟨_, _, _, _, _, _, vs, rfl, hs, ea, by simp only [sizeLine]; omega, ?_, ?_⟩
  · clear hs
    intro C v m₃ J' s₃ E' hv hm hn hle' hs
    obtain ⟨i, t, rfl⟩ := ints_mem hi hv
    replace g := g.mono hle'
    repeat' (first | (first | ((with_reducible show wpAny _ _ (call (Value.builtin "sum") _) _ _ _); (rename St _ _ _ _ => hsX); refine' sumI hsX (by (first | assumption | exact Rm.le (by assumption) (by omega))) (by (first | exact Or.inl ⟨_, by assumption⟩ | exact Or.inr (by walk_at "mem"))) (by assumption) ?_; clear hsX; intro _ _ _ _) | ((with_reducible show wpAny _ _ (eval (Expr.Subscript _ (Expr.Slice none _ _ _) _) _) _ _ _); refine xSliceU ?_) | ((with_reducible show wpAny _ _ (eval (Expr.Name _ _) (compEnv _ _ _)) _ _ _); first | refine' nK (by assumption) (by assumption) (by assumption) ?_ | refine' nKB (by assumption) (by assumption) (by k_is) (by boot_fast) (by decide) ?_) | ((with_reducible show wpAny _ _ (binaryOp Operator.Mod _ _) _ _ _); (rename St _ _ _ _ => hsX); refine' modI hsX (by (first | omega | decide)) ?_; clear hsX; intro _ _ _) | ((with_reducible show wpAny _ _ (binaryOp Operator.Pow _ _) _ _ _); (rename St _ _ _ _ => hsX); refine' powI hsX (by decide) (by decide) (by decide) ?_; clear hsX; intro _ _ _) | ((with_reducible show wpAny _ _ (call (Value.builtin "abs") _) _ _ _); (rename St _ _ _ _ => hsX); refine' absI hsX ?_; clear hsX; intro _ _ _ _ _)) | walk_at "S" | (first | ((with_reducible show wpAny _ _ (evalPart _ _) _ _ _); first | with_reducible refine part_none ?_ | with_reducible refine part_some ?_) | ((with_reducible show _ ∧ _); (rename St _ _ _ _ => hsX); (refine And.intro (by (try simp only [List.length_cons, List.length_nil]); decide) ⟨_, _, _, hsX, ?_⟩); clear hsX; intro _ _ _ _) | ((with_reducible show wpAny _ _ (getMethod (Value.ref _) (Str.ofString "append") _) _ _ _); refine' mApp (by assumption) (by (first | exact Or.inl ⟨_, by assumption⟩ | exact Or.inr (by walk_at "mem"))) ?_) | ((with_reducible show wpAny _ _ (getMethod (Value.ref _) (Str.ofString "pop") _) _ _ _); refine' mPop (by assumption) (by (first | exact Or.inl ⟨_, by assumption⟩ | exact Or.inr (by walk_at "mem"))) ?_)))
    exact ⟨⟨_, _, rfl⟩, by assumption⟩
  · clear hs
    intro D ys s' hp hs
    obtain ⟨xs, hy, hxl⟩ := paired_ints hp
    repeat' (first | (first | ((with_reducible show wpAny _ _ (call (Value.builtin "sum") _) _ _ _); (rename St _ _ _ _ => hsX); refine' sumI hsX (by (first | assumption | exact Rm.le (by assumption) (by omega))) (by (first | exact Or.inl ⟨_, by assumption⟩ | exact Or.inr (by walk_at "mem"))) (by assumption) ?_; clear hsX; intro _ _ _ _) | ((with_reducible show wpAny _ _ (eval (Expr.Subscript _ (Expr.Slice none _ _ _) _) _) _ _ _); refine xSliceU ?_) | ((with_reducible show wpAny _ _ (eval (Expr.Name _ _) (compEnv _ _ _)) _ _ _); first | refine' nK (by assumption) (by assumption) (by assumption) ?_ | refine' nKB (by assumption) (by assumption) (by k_is) (by boot_fast) (by decide) ?_) | ((with_reducible show wpAny _ _ (binaryOp Operator.Mod _ _) _ _ _); (rename St _ _ _ _ => hsX); refine' modI hsX (by (first | omega | decide)) ?_; clear hsX; intro _ _ _) | ((with_reducible show wpAny _ _ (binaryOp Operator.Pow _ _) _ _ _); (rename St _ _ _ _ => hsX); refine' powI hsX (by decide) (by decide) (by decide) ?_; clear hsX; intro _ _ _) | ((with_reducible show wpAny _ _ (call (Value.builtin "abs") _) _ _ _); (rename St _ _ _ _ => hsX); refine' absI hsX ?_; clear hsX; intro _ _ _ _ _)) | walk_at "S" | (first | ((with_reducible show wpAny _ _ (evalPart _ _) _ _ _); first | with_reducible refine part_none ?_ | with_reducible refine part_some ?_) | ((with_reducible show _ ∧ _); (rename St _ _ _ _ => hsX); (refine And.intro (by (try simp only [List.length_cons, List.length_nil]); decide) ⟨_, _, _, hsX, ?_⟩); clear hsX; intro _ _ _ _) | ((with_reducible show wpAny _ _ (getMethod (Value.ref _) (Str.ofString "append") _) _ _ _); refine' mApp (by assumption) (by (first | exact Or.inl ⟨_, by assumption⟩ | exact Or.inr (by walk_at "mem"))) ?_) | ((with_reducible show wpAny _ _ (getMethod (Value.ref _) (Str.ofString "pop") _) _ _ _); refine' mPop (by assumption) (by (first | exact Or.inl ⟨_, by assumption⟩ | exact Or.inr (by walk_at "mem"))) ?_)))
    rename St _ _ _ _ => hs
    exact h _ D _ (((hs.rem (.tail (.tail .head))).pack ⟨by decide, by decide, fmod_lo _ (by decide), fmod_hi _ (by decide)⟩ hy (by omega)).back hle)
end

/-! # part D5 -/
theorem idxP' {prog : Program} {w : World} {A : Around} {E : Value → Shared → Prop} {s s₀ : Shared} {I : Kn} {W : Own} {a : Addr} {vs : List Value} {ps : List Piece} {k : Int} {u : Tok} {value slice : Expr} {Q : Value → Shared → Prop} (hs : St s₀ I W s) (f : fine ps) (ra : RpA I vs (ps.map pcD)) (hl : HasL I W a vs) (h0 : 0 ≤ k) (h1 : k < ps.length) (hhi : k < 2 ^ 63)
    (h : ∀ pa wa n wn t, ∀ wvs : List Value, I pa = some { cls := .type "tuple", data := .seq [Value.ref wa, .int (gp ps k.toNat) t].toArray n } → I wa = some (PySem.W.listOf wvs.toArray wn) → IntsAre wvs (ps.getD k.toNat ([], 0)).1 → (wvs.length : Int) = ln ps k.toNat → wvs.length < 1000 → Q (.ref pa) s)
    (hb : subscripted slice false (.ref a) (.int k u) = operate [.ref a, .int k u] (getItem (.ref a) (.int k u)) := by with_unfolding_all rfl) :
    wpAny (model prog w) A (subscriptTail value slice (.ref a) (.int k u)) Q E s := by
  refine idxP hs hl ra h0 h1 hhi (fun v hv => ?_) hb
  obtain ⟨pa, pv1, pn, pt, rfl, pea, pr1⟩ := pcInv hv
  obtain ⟨wa, wvs, wn, rfl, wea, wr⟩ := pr1.listInv
  have hi := wr.ints
  have hf := fine_at f (k := k.toNat) (by omega)
  have hl := hi.length
  exact h pa wa pn wn pt wvs pea wea hi (by unfold ln; rw [hl]) (by omega)
theorem asgS {prog : Program} {w : World} {A : Around} {E : Value → Shared → Prop} {s : Shared} {env : Env} {o i : Expr} {pos : Pos} {v : Value} {Q : Unit → Shared → Prop}
    (h : wpAny (model prog w) A (eval o env) (fun ov s₁ => wpAny (model prog w) A (eval i env) (fun iv s₂ => wpAny (model prog w) A (setItem ov iv v) Q E s₂) E s₁) E s) :
    wpAny (model prog w) A (assign (.Subscript o i pos) env v) Q E s := by
  rw [assign_Subscript]
  refine wpAny_bind (wpAny_holding (wpAny_mono h (fun ov s₁ h₁ => wpAny_bind (wpAny_holding (wpAny_mono h₁ (fun iv s₂ h₂ => wpAny_bind (wpAny_standAt (wpAny_bind (wpAny_holding (wpAny_mono h₂ (fun _ s₃ h₃ => wpAny_release' h₃) fun _ _ q => q))))) fun _ _ q => q))) fun _ _ q => q))
theorem GE.at' {K : Frag} {p : Program} {loose : List Str} {I : Kn} {f : Addr} {o : Obj} (g : GE K p loose I) (h : K.lookup f = some o) : I f = some o := by
  obtain ⟨G, mg, mb, X, T, k⟩ := g
  exact k _ _ (X _ _ h)
theorem DiO.mono {f : Int → Option Value} {n k : Nat} {o : Obj} (h : DiO f n o) (l : n ≤ k) : DiO f k o := let ⟨p, w, kvs, a, b, c⟩ := h; ⟨p, w, kvs, a, b, Nat.le_trans c l⟩
theorem ForL.mk' {prog : Program} {w : World} {A : Around} {env : Env} {body : List Stmt} {target : Expr} {QR : Value → Shared → Prop} {kk : Shared → Prop} {s s₀ : Shared} {I : Kn} {W : Own} {a : Addr} {n : Nat} {vs : List Value} (J : Nat → Kn → Own → Prop) (Post : Shared → Prop) (hs : St s₀ I W s) (ha : I a = some (PySem.W.listOf vs.toArray n)) (h0 : J 0 I W) (hle : ∀ i I' W', J i I' W' → Kn.le I I')
    (turn : ∀ i v I W it o s, vs[i]? = some v → J i I W → St s₀ I ((it, EqO o) :: W) s → wpAny (model prog w) A (assign target env v) (fun _ s₂ => wpAny (model prog w) A (execs body env) (Turn it o s₀ (J (i + 1)) Post (fun f s => match f with | .ret v => QR v s | _ => False)) (fun _ _ => False) s₂) (fun _ _ => False) s)
    (done : ∀ I W s, J vs.length I W → St s₀ I W s → Post s) (hp : ∀ s, Post s → kk s) (hg : (∀ (it v : Value), letOwnedTupleGo target it v = pure ()) ∨ (Ex3 fun elts k p => target = .Tuple elts k p) ∧ ∀ (i : Nat) (v : Value), vs[i]? = some v → ∃ T : Addr, v = Value.ref T) : ForL prog w A env target body QR kk (.ref a) s :=
  ⟨a, n, vs, s₀, I, W, J, Post, rfl, hs, ha, h0, hle, turn, done, hp, hg⟩
theorem iN_get {I : Kn} {vs : List Value} {xs : List Nat} (h : RpA I vs (iN xs)) {i : Nat} {v : Value} (e : vs[i]? = some v) : Ex2 fun b t => xs[i]? = some b ∧ v = .int (b : Nat) t := by
  rw [iN_eq] at h
  have hi := h.ints
  have hlt : i < vs.length := (List.getElem?_eq_some_iff.mp e).1
  have hl := hi.length
  rw [List.length_map] at hl
  have hx : i < xs.length := by omega
  obtain ⟨t, e'⟩ := hi.get i _ (List.getElem?_eq_getElem (by rw [List.length_map]; exact hx))
  rw [e] at e'
  refine ⟨xs[i], t, List.getElem?_eq_getElem hx, ?_⟩
  cases e'; simp
theorem iN_len {I : Kn} {vs : List Value} {xs : List Nat} (h : RpA I vs (iN xs)) : vs.length = xs.length := by rw [h.length]; simp [iN]
theorem paired_eq {xs ys : List Value} (h : Paired (fun v y => y = v) xs ys) : ys = xs := by
  induction h with
  | nil => rfl
  | cons h _ ih => rw [h, ih]
theorem ints_filter {vs : List Value} {xs : List Int} {p : Value → Bool} {p' : Int → Bool} (h : IntsAre vs xs) (hp : ∀ i t, p (.int i t) = p' i) : IntsAre (vs.filter p) (xs.filter p') := by
  induction h with
  | nil => exact .nil
  | cons i t _ ih =>
    rw [List.filter_cons, List.filter_cons, hp]
    split
    · exact .cons _ _ ih
    · exact ih
def inP (b e : Int) (v : Value) : Bool := match v with
  | .int j _ => decide (b < j) && decide (j < e)
  | _ => false
theorem nI_between {ps : List Piece} {b e : Nat} : (nI (stopsL ps)).filter (fun j => decide ((b : Int) < j) && decide (j < (e : Int))) = nI (between ps b e) := by
  unfold between nI
  rw [List.filter_map]
  congr 1
  refine List.filter_congr fun o _ => ?_
  show (decide ((b : Int) < (o : Int)) && decide ((o : Int) < (e : Int))) = _
  rw [show decide ((b : Int) < (o : Int)) = decide (b < o) from decide_eq_decide.mpr (by omega), show decide ((o : Int) < (e : Int)) = decide (o < e) from decide_eq_decide.mpr (by omega)]
theorem ints_app1 {vs : List Value} {xs : List Int} {i : Int} {t : Tok} (h : IntsAre vs xs) : IntsAre (vs ++ [.int i t]) (xs ++ [i]) := by
  induction h with
  | nil => exact .cons _ _ .nil
  | cons j u _ ih => exact .cons _ _ ih
theorem rng_snoc {p : Nat → Bool} {b k : Nat} : (List.range' (b + 1) (k + 1)).filter p = (List.range' (b + 1) k).filter p ++ (if p (b + 1 + k) then [b + 1 + k] else []) := by
  rw [List.range'_concat, List.filter_append, Nat.one_mul]
  congr 1
  rw [List.filter_cons, List.filter_nil]
theorem ints_more {us : List Value} {p : Nat → Bool} {b k : Nat} {t : Tok} {e : Int} (he : e = ((b + 1 + k : Nat) : Int)) (hc : p (b + 1 + k) = true) (h : IntsAre us (nI ((List.range' (b + 1) k).filter p))) : IntsAre (us ++ [.int e t]) (nI ((List.range' (b + 1) (k + 1)).filter p)) := by
  rw [rng_snoc, if_pos hc]
  unfold nI
  rw [List.map_append]
  subst he
  exact ints_app1 h
theorem ints_same {us : List Value} {p : Nat → Bool} {b k : Nat} (hc : p (b + 1 + k) = false) (h : IntsAre us (nI ((List.range' (b + 1) k).filter p))) : IntsAre us (nI ((List.range' (b + 1) (k + 1)).filter p)) := by
  rw [rng_snoc, hc, if_neg (by decide), List.append_nil]; exact h
theorem ints_small {us : List Value} {p : Nat → Bool} {b k : Nat} (h : IntsAre us (nI ((List.range' b k).filter p))) (hk : k < 1000) : us.length ≤ sizeLine := by
  have h1 := h.length
  rw [List.length_map] at h1
  have h2 := List.length_filter_le p (List.range' b k)
  rw [List.length_range'] at h2
  simp only [sizeLine]; omega
theorem wd_step {ps : List Piece} {b k : Nat} {x : Int} (h : x = ln ps (b + k)) : sm ps (b + k) - sm ps b + x = wd ps b (b + 1 + k) := by
  unfold wd
  rw [h, show b + 1 + k - 1 = b + k by omega]
theorem sm_step {ps : List Piece} {b k : Nat} : wd ps b (b + 1 + k) + gp ps (b + k) = sm ps (b + (k + 1)) - sm ps b := by
  unfold wd
  rw [show b + 1 + k - 1 = b + k by omega, show b + (k + 1) = (b + k) + 1 by omega]
  show _ = (sm ps (b + k) + ln ps (b + k) + gp ps (b + k)) - sm ps b
  omega
/-- a row of roads: at b the list xs -/
def Lk (I : Kn) (f : Int → Option Value) (b : Nat) (xs : List Nat) : Prop := ∃ a, f (b : Int) = some (.ref a) ∧ Rp I (.ref a) (.list (iN xs))
theorem Lk.mono {I J : Kn} {f : Int → Option Value} {b : Nat} {xs : List Nat} (h : Lk I f b xs) (l : Kn.le I J) : Lk J f b xs := let ⟨a, e, r⟩ := h; ⟨a, e, r.mono l⟩
section
variable {w : World} {A : Around} {E : Value → Shared → Prop} {s s₀ : Shared} {I : Kn} {W : Own} {Q : Value → Shared → Prop} {t u : Tok}
theorem c_roads {ps : List Piece} {due stops : Value} {W0 W1 : Int} (g : G0 w I) (r : Rm A 1) (hs : St s₀ I W s) (hd : Rp I due (.list (ps.map pcD))) (hst : Rp I stops (.list (iN (stopsL ps)))) (hf : fine ps) (hn : ps.length < 1000) (hn0 : 0 < ps.length)
    (h : ∀ J T F O f1 f2 s', Kn.le I J → (∃ n, J T = some { cls := .type "tuple", data := .seq [Value.ref F, Value.ref O].toArray n }) → (∃ o, J F = some o ∧ DiO f1 1000 o) → (∃ o, J O = some o ∧ DiO f2 1000 o) → (∀ b ∈ begins ps, Lk J f1 b (succs ps W0 b) ∧ Lk J f2 b (succs ps W1 b)) → St s₀ J W s' → Q (.ref T) s') :
    wpAny (model PROG w) A (call (.ref 96) [due, stops, .int W0 t, .int W1 u]) Q E s := by
  refine xCallC2 (n := 0) g r hs (by k_is) (by k_is) rfl (locs rfl) (fun _ => rfl) (by decide) ?_
  clear hs r
  intro A' L c1 c2 s' m hm hs r'
  have h1 : m "due" = some due := by rw [hm]; rfl
  have h2 : m "stops" = some stops := by rw [hm]; rfl
  have h3 : m "first_room" = some (.int W0 t) := by rw [hm]; rfl
  have h4 : m "room" = some (.int W1 u) := by rw [hm]; rfl
  clear hm
  refine xAssignSw2 (x := "firsts") (y := "others") r' ?_ rfl rfl
  have hI : Ex2 fun b o => I b = some o ∧ 1 ≤ b := ⟨96, _, g.at' (by k_is), by decide⟩
  repeat' (first | (first | ((with_reducible show wpAny _ _ (eval (Expr.Subscript _ (Expr.Slice none _ _ _) _) _) _ _ _); refine xSliceU ?_) | ((with_reducible show wpAny _ _ (callWith _ (Value.ref _) _ _ _) _ _ _); refine' cwF (by walk_at "gE") (by ((show keepIn (hd.heap_39 _) _ = _; k_is))) ?_) | ((with_reducible show wpAny _ _ (unaryOp UnaryOp.USub _) _ _ _); (rename St _ _ _ _ => hsX); refine negI hsX ?_; clear hsX; intro _ _ _) | ((with_reducible show wpAny _ _ (eval (Expr.Name _ _) (compEnvC _ _ _ _)) _ _ _); first | refine' nK (by assumption) (by assumption) (by assumption) ?_ | refine' nKC (by assumption) (by rfl) (by assumption) ?_) | ((with_reducible show wpAny _ _ (eval (Expr.Dict [] [] _) _) _ _ _); (rename St _ _ _ _ => hsX); refine' mkD hsX (by assumption) ?_; clear hsX; intro _ _ _ _ _) | ((with_reducible show wpAny _ _ (isTrue (Expr.Compare _ [_, _] [_, _] _) _ _) _ _ _); refine isTrue_chain ?_) | ((with_reducible show wpAny _ _ (testChain _ _ _ _) _ _ _); first | refine test_link ?_ | refine test_last ?_) | ((with_reducible show _ ∧ _); refine' and_g (by assumption) (by walk_at "gE") ?_) | ((with_reducible show wpAny _ _ (call (Value.type "range") [_]) _ _ _); (rename St _ _ _ _ => hsX); (refine rng1 hsX ?_); clear hsX; intro _ _ _ _ _ _) | ((with_reducible show wpAny _ _ (call (Value.type "range") [_, _]) _ _ _); (rename St _ _ _ _ => hsX); (refine rng2 hsX ?_); clear hsX; intro _ _ _ _ _)) | walk_at "S" | (first | ((with_reducible show wpAny _ _ (evalPart _ _) _ _ _); first | with_reducible refine part_none ?_ | with_reducible refine part_some ?_) | ((with_reducible show _ ∧ _); (rename St _ _ _ _ => hsX); (refine And.intro (by (try simp only [List.length_cons, List.length_nil]); decide) ⟨_, _, _, hsX, ?_⟩); clear hsX; intro _ _ _ _) | ((with_reducible show wpAny _ _ (getMethod (Value.ref _) (Str.ofString "append") _) _ _ _); refine' mApp (by assumption) (by (first | exact Or.inl ⟨_, by assumption⟩ | exact Or.inr (by walk_at "mem"))) ?_) | ((with_reducible show wpAny _ _ (getMethod (Value.ref _) (Str.ofString "pop") _) _ _ _); refine' mPop (by assumption) (by (first | exact Or.inl ⟨_, by assumption⟩ | exact Or.inr (by walk_at "mem"))) ?_)))
  rename_i F s1 nF sF O s2 nO sO T s3 nT hs'
  refine ⟨T, .ref F, .ref O, _, _, _, rfl, hs', .inr (.head _), fun s' hs => ?_⟩
  clear hs'
  replace hs := hs.rem .head
  repeat' (first | (first | ((with_reducible show wpAny _ _ (eval (Expr.Subscript _ (Expr.Slice none _ _ _) _) _) _ _ _); refine xSliceU ?_) | ((with_reducible show wpAny _ _ (callWith _ (Value.ref _) _ _ _) _ _ _); refine' cwF (by walk_at "gE") (by ((show keepIn (hd.heap_39 _) _ = _; k_is))) ?_) | ((with_reducible show wpAny _ _ (unaryOp UnaryOp.USub _) _ _ _); (rename St _ _ _ _ => hsX); refine negI hsX ?_; clear hsX; intro _ _ _) | ((with_reducible show wpAny _ _ (eval (Expr.Name _ _) (compEnvC _ _ _ _)) _ _ _); first | refine' nK (by assumption) (by assumption) (by assumption) ?_ | refine' nKC (by assumption) (by rfl) (by assumption) ?_) | ((with_reducible show wpAny _ _ (eval (Expr.Dict [] [] _) _) _ _ _); (rename St _ _ _ _ => hsX); refine' mkD hsX (by assumption) ?_; clear hsX; intro _ _ _ _ _) | ((with_reducible show wpAny _ _ (isTrue (Expr.Compare _ [_, _] [_, _] _) _ _) _ _ _); refine isTrue_chain ?_) | ((with_reducible show wpAny _ _ (testChain _ _ _ _) _ _ _); first | refine test_link ?_ | refine test_last ?_) | ((with_reducible show _ ∧ _); refine' and_g (by assumption) (by walk_at "gE") ?_) | ((with_reducible show wpAny _ _ (call (Value.type "range") [_]) _ _ _); (rename St _ _ _ _ => hsX); (refine rng1 hsX ?_); clear hsX; intro _ _ _ _ _ _) | ((with_reducible show wpAny _ _ (call (Value.type "range") [_, _]) _ _ _); (rename St _ _ _ _ => hsX); (refine rng2 hsX ?_); clear hsX; intro _ _ _ _ _)) | walk_at "S" | (first | ((with_reducible show wpAny _ _ (evalPart _ _) _ _ _); first | with_reducible refine part_none ?_ | with_reducible refine part_some ?_) | ((with_reducible show _ ∧ _); (rename St _ _ _ _ => hsX); (refine And.intro (by (try simp only [List.length_cons, List.length_nil]); decide) ⟨_, _, _, hsX, ?_⟩); clear hsX; intro _ _ _ _) | ((with_reducible show wpAny _ _ (getMethod (Value.ref _) (Str.ofString "append") _) _ _ _); refine' mApp (by assumption) (by (first | exact Or.inl ⟨_, by assumption⟩ | exact Or.inr (by walk_at "mem"))) ?_) | ((with_reducible show wpAny _ _ (getMethod (Value.ref _) (Str.ofString "pop") _) _ _ _); refine' mPop (by assumption) (by (first | exact Or.inl ⟨_, by assumption⟩ | exact Or.inr (by walk_at "mem"))) ?_)))
  refine xForL r' ?_
  rename St _ _ _ _ => hs
  refine eP ?Pb ?hb ?kb
  case Pb => exact fun v s => ∃ J, All3 (Kn.le I J) (Rp J v (.list (iN (begins ps)))) (St s₀ J ((O, DiO (fun _ => none) 0) :: (F, DiO (fun _ => none) 0) :: (L, NsO (upd (upd m "others" (.ref O)) "firsts" (.ref F))) :: (c1, CeO none) :: (c2, CeO none) :: W) s)
  · refine wpAny_BinOp ?_
    refine mkLR ?_
    repeat' (first | (first | ((with_reducible show wpAny _ _ (eval (Expr.Subscript _ (Expr.Slice none _ _ _) _) _) _ _ _); refine xSliceU ?_) | ((with_reducible show wpAny _ _ (callWith _ (Value.ref _) _ _ _) _ _ _); refine' cwF (by walk_at "gE") (by ((show keepIn (hd.heap_39 _) _ = _; k_is))) ?_) | ((with_reducible show wpAny _ _ (unaryOp UnaryOp.USub _) _ _ _); (rename St _ _ _ _ => hsX); refine negI hsX ?_; clear hsX; intro _ _ _) | ((with_reducible show wpAny _ _ (eval (Expr.Name _ _) (compEnvC _ _ _ _)) _ _ _); first | refine' nK (by assumption) (by assumption) (by assumption) ?_ | refine' nKC (by assumption) (by rfl) (by assumption) ?_) | ((with_reducible show wpAny _ _ (eval (Expr.Dict [] [] _) _) _ _ _); (rename St _ _ _ _ => hsX); refine' mkD hsX (by assumption) ?_; clear hsX; intro _ _ _ _ _) | ((with_reducible show wpAny _ _ (isTrue (Expr.Compare _ [_, _] [_, _] _) _ _) _ _ _); refine isTrue_chain ?_) | ((with_reducible show wpAny _ _ (testChain _ _ _ _) _ _ _); first | refine test_link ?_ | refine test_last ?_) | ((with_reducible show _ ∧ _); refine' and_g (by assumption) (by walk_at "gE") ?_) | ((with_reducible show wpAny _ _ (call (Value.type "range") [_]) _ _ _); (rename St _ _ _ _ => hsX); (refine rng1 hsX ?_); clear hsX; intro _ _ _ _ _ _) | ((with_reducible show wpAny _ _ (call (Value.type "range") [_, _]) _ _ _); (rename St _ _ _ _ => hsX); (refine rng2 hsX ?_); clear hsX; intro _ _ _ _ _)) | walk_at "S" | (first | ((with_reducible show wpAny _ _ (evalPart _ _) _ _ _); first | with_reducible refine part_none ?_ | with_reducible refine part_some ?_) | ((with_reducible show _ ∧ _); (rename St _ _ _ _ => hsX); (refine And.intro (by (try simp only [List.length_cons, List.length_nil]); decide) ⟨_, _, _, hsX, ?_⟩); clear hsX; intro _ _ _ _) | ((with_reducible show wpAny _ _ (getMethod (Value.ref _) (Str.ofString "append") _) _ _ _); refine' mApp (by assumption) (by (first | exact Or.inl ⟨_, by assumption⟩ | exact Or.inr (by walk_at "mem"))) ?_) | ((with_reducible show wpAny _ _ (getMethod (Value.ref _) (Str.ofString "pop") _) _ _ _); refine' mPop (by assumption) (by (first | exact Or.inl ⟨_, by assumption⟩ | exact Or.inr (by walk_at "mem"))) ?_)))
    rename St _ _ _ _ => hs
    refine fin_disp (by simp [sizeLine]) hs (.cons (.int _ _) .nil) fun J a s' hle1 hR1 hs => ?_
    repeat' (first | (first | ((with_reducible show wpAny _ _ (eval (Expr.Subscript _ (Expr.Slice none _ _ _) _) _) _ _ _); refine xSliceU ?_) | ((with_reducible show wpAny _ _ (callWith _ (Value.ref _) _ _ _) _ _ _); refine' cwF (by walk_at "gE") (by ((show keepIn (hd.heap_39 _) _ = _; k_is))) ?_) | ((with_reducible show wpAny _ _ (unaryOp UnaryOp.USub _) _ _ _); (rename St _ _ _ _ => hsX); refine negI hsX ?_; clear hsX; intro _ _ _) | ((with_reducible show wpAny _ _ (eval (Expr.Name _ _) (compEnvC _ _ _ _)) _ _ _); first | refine' nK (by assumption) (by assumption) (by assumption) ?_ | refine' nKC (by assumption) (by rfl) (by assumption) ?_) | ((with_reducible show wpAny _ _ (eval (Expr.Dict [] [] _) _) _ _ _); (rename St _ _ _ _ => hsX); refine' mkD hsX (by assumption) ?_; clear hsX; intro _ _ _ _ _) | ((with_reducible show wpAny _ _ (isTrue (Expr.Compare _ [_, _] [_, _] _) _ _) _ _ _); refine isTrue_chain ?_) | ((with_reducible show wpAny _ _ (testChain _ _ _ _) _ _ _); first | refine test_link ?_ | refine test_last ?_) | ((with_reducible show _ ∧ _); refine' and_g (by assumption) (by walk_at "gE") ?_) | ((with_reducible show wpAny _ _ (call (Value.type "range") [_]) _ _ _); (rename St _ _ _ _ => hsX); (refine rng1 hsX ?_); clear hsX; intro _ _ _ _ _ _) | ((with_reducible show wpAny _ _ (call (Value.type "range") [_, _]) _ _ _); (rename St _ _ _ _ => hsX); (refine rng2 hsX ?_); clear hsX; intro _ _ _ _ _)) | walk_at "S" | (first | ((with_reducible show wpAny _ _ (evalPart _ _) _ _ _); first | with_reducible refine part_none ?_ | with_reducible refine part_some ?_) | ((with_reducible show _ ∧ _); (rename St _ _ _ _ => hsX); (refine And.intro (by (try simp only [List.length_cons, List.length_nil]); decide) ⟨_, _, _, hsX, ?_⟩); clear hsX; intro _ _ _ _) | ((with_reducible show wpAny _ _ (getMethod (Value.ref _) (Str.ofString "append") _) _ _ _); refine' mApp (by assumption) (by (first | exact Or.inl ⟨_, by assumption⟩ | exact Or.inr (by walk_at "mem"))) ?_) | ((with_reducible show wpAny _ _ (getMethod (Value.ref _) (Str.ofString "pop") _) _ _ _); refine' mPop (by assumption) (by (first | exact Or.inl ⟨_, by assumption⟩ | exact Or.inr (by walk_at "mem"))) ?_)))
    rename St _ _ _ _ => hs
    refine ⟨_, _, _, _, _, _, _, hs, hst.mono hle1, ?_, rfl, rfl, .inr ⟨rfl, rfl⟩, fun J' c s' hle2 hR2 hs => ?_⟩
    · simp only [iN, List.length_map, sizeLine]
      have := stopsL_len (ps := ps)
      omega
    refine catR hs (hR1.mono hle2) hR2 ?_ fun J'' c s' hle3 hR3 hs => ?_
    · simp only [iN, List.length_map, List.length_take, List.length_cons, List.length_nil, sizeLine]
      have := stopsL_len (ps := ps)
      omega
    refine ⟨_, (hle1.tr hle2).tr hle3, ?_, hs⟩
    have e : iN (begins ps) = [PyData.int 0] ++ (iN (stopsL ps)).take ((iN (stopsL ps)).length - 1) := by
      unfold begins iN
      rw [← List.map_take, List.length_map, ← List.dropLast_eq_take]; rfl
    rw [e]; exact hR3
  clear hs
  rintro bv s ⟨J, hle, hR, hs⟩
  obtain ⟨ba, bvs, bn, rfl, eb, rb⟩ := hR.listInv
  have hbl := iN_len rb
  have hbn := begins_len hn0
  replace g := g.mono hle
  refine ForL.mk' ?Jv ?Post hs eb ?h0 ?hle ?turn ?done ?hp (.inl fun _ _ => rfl)
  case Jv => exact fun k I' W' => Ex5 fun m f1 f2 cv1 cv2 => All4 (Kn.le J I') (W' = (O, DiO f2 k) :: (F, DiO f1 k) :: (L, NsO m) :: (c1, CeO cv1) :: (c2, CeO cv2) :: W) ((All6 (m "due" = some due) (m "stops" = some stops) (m "first_room" = some (.int W0 t)) (m "room" = some (.int W1 u)) (m "firsts" = some (.ref F)) (m "others" = some (.ref O)))) (∀ b ∈ (begins ps).take k, Lk I' f1 b (succs ps W0 b) ∧ Lk I' f2 b (succs ps W1 b))
  case Post => exact fun s => Ex6 fun I' m f1 f2 cv1 cv2 => All5 (Kn.le J I') (St s₀ I' ((O, DiO f2 1000) :: (F, DiO f1 1000) :: (L, NsO m) :: (c1, CeO cv1) :: (c2, CeO cv2) :: W) s) (m "firsts" = some (.ref F)) (m "others" = some (.ref O)) (∀ b ∈ begins ps, Lk I' f1 b (succs ps W0 b) ∧ Lk I' f2 b (succs ps W1 b))
  case h0 => exact ⟨_, _, _, _, _, Kn.le.rfl', rfl, ⟨by walk_at "lk", by walk_at "lk", by walk_at "lk", by walk_at "lk", by walk_at "lk", by walk_at "lk"⟩, fun b hb => by simp at hb⟩
  case hle => rintro i I' W' ⟨_, _, _, _, _, h, _⟩; exact h
  case done =>
    rintro I' _ s ⟨m, f1, f2, cv1, cv2, hle', rfl, ⟨_, _, _, _, e5, e6⟩, hb⟩ hs
    rw [hbl, List.take_length] at hb
    exact ⟨_, _, f1, f2, _, _, hle', (hs.imp (.head _) .head fun o q => DiO.mono q (by omega)).imp (.tail _ (.head _)) (.tail .head) (fun o q => DiO.mono q (by omega)), e5, e6, hb⟩
  case hp =>
    rintro s ⟨I', m, f1, f2, cv1, cv2, hle', hs, e5, e6, hb⟩
    replace g := g.mono hle'
    refine xRet ?_
    refine mkT ?_
    repeat' (first | (first | ((with_reducible show wpAny _ _ (eval (Expr.Subscript _ (Expr.Slice none _ _ _) _) _) _ _ _); refine xSliceU ?_) | ((with_reducible show wpAny _ _ (callWith _ (Value.ref _) _ _ _) _ _ _); refine' cwF (by walk_at "gE") (by ((show keepIn (hd.heap_39 _) _ = _; k_is))) ?_) | ((with_reducible show wpAny _ _ (unaryOp UnaryOp.USub _) _ _ _); (rename St _ _ _ _ => hsX); refine negI hsX ?_; clear hsX; intro _ _ _) | ((with_reducible show wpAny _ _ (eval (Expr.Name _ _) (compEnvC _ _ _ _)) _ _ _); first | refine' nK (by assumption) (by assumption) (by assumption) ?_ | refine' nKC (by assumption) (by rfl) (by assumption) ?_) | ((with_reducible show wpAny _ _ (eval (Expr.Dict [] [] _) _) _ _ _); (rename St _ _ _ _ => hsX); refine' mkD hsX (by assumption) ?_; clear hsX; intro _ _ _ _ _) | ((with_reducible show wpAny _ _ (isTrue (Expr.Compare _ [_, _] [_, _] _) _ _) _ _ _); refine isTrue_chain ?_) | ((with_reducible show wpAny _ _ (testChain _ _ _ _) _ _ _); first | refine test_link ?_ | refine test_last ?_) | ((with_reducible show _ ∧ _); refine' and_g (by assumption) (by walk_at "gE") ?_) | ((with_reducible show wpAny _ _ (call (Value.type "range") [_]) _ _ _); (rename St _ _ _ _ => hsX); (refine rng1 hsX ?_); clear hsX; intro _ _ _ _ _ _) | ((with_reducible show wpAny _ _ (call (Value.type "range") [_, _]) _ _ _); (rename St _ _ _ _ => hsX); (refine rng2 hsX ?_); clear hsX; intro _ _ _ _ _)) | walk_at "S" | (first | ((with_reducible show wpAny _ _ (evalPart _ _) _ _ _); first | with_reducible refine part_none ?_ | with_reducible refine part_some ?_) | ((with_reducible show _ ∧ _); (rename St _ _ _ _ => hsX); (refine And.intro (by (try simp only [List.length_cons, List.length_nil]); decide) ⟨_, _, _, hsX, ?_⟩); clear hsX; intro _ _ _ _) | ((with_reducible show wpAny _ _ (getMethod (Value.ref _) (Str.ofString "append") _) _ _ _); refine' mApp (by assumption) (by (first | exact Or.inl ⟨_, by assumption⟩ | exact Or.inr (by walk_at "mem"))) ?_) | ((with_reducible show wpAny _ _ (getMethod (Value.ref _) (Str.ofString "pop") _) _ _ _); refine' mPop (by assumption) (by (first | exact Or.inl ⟨_, by assumption⟩ | exact Or.inr (by walk_at "mem"))) ?_)))
    rename St _ _ _ _ => hs
    obtain ⟨oT, ⟨nT, rfl⟩, hJ1, hs⟩ := hs.freeze .head
    obtain ⟨oO, qO, hJ2, hs⟩ := hs.freeze .head
    obtain ⟨oF, qF, hJ3, hs⟩ := hs.freeze .head
    have l1 := Kn.set_le (o := ({ cls := .type "tuple", data := .seq [Value.ref F, Value.ref O].toArray nT } : Obj)) hJ1
    have l2 := Kn.set_le (o := oO) hJ2
    have l3 := Kn.set_le (o := oF) hJ3
    exact h _ _ F O f1 f2 _ (hle.tr (hle'.tr (l1.tr (l2.tr l3)))) ⟨_, l3 _ _ (l2 _ _ Kn.set_self)⟩ ⟨_, Kn.set_self, qF⟩ ⟨_, l3 _ _ Kn.set_self, qO⟩
      (fun b hb' => ⟨(hb b hb').1.mono (l1.tr (l2.tr l3)), (hb b hb').2.mono (l1.tr (l2.tr l3))⟩) (((hs.rem .head).rem .head).rem .head)
  case turn =>
    rintro i bv I' _ it o s hbv ⟨m, f1, f2, cv1, cv2, hle', rfl, ⟨e1, e2, e3, e4, e5, e6⟩, hb⟩ hs
    obtain ⟨b, tb, hbi, rfl⟩ := iN_get rb hbv
    replace g := g.mono hle'
    replace hd := (hd.mono hle).mono hle'
    replace hst := (hst.mono hle).mono hle'
    repeat' ((fail_if_success (with_reducible show wpAny _ _ (execs (Stmt.Assign [Expr.Tuple _ _ _] _ _ :: _) _) _ _ _)); first | (first | ((with_reducible show wpAny _ _ (eval (Expr.Subscript _ (Expr.Slice none _ _ _) _) _) _ _ _); refine xSliceU ?_) | ((with_reducible show wpAny _ _ (callWith _ (Value.ref _) _ _ _) _ _ _); refine' cwF (by walk_at "gE") (by ((show keepIn (hd.heap_39 _) _ = _; k_is))) ?_) | ((with_reducible show wpAny _ _ (unaryOp UnaryOp.USub _) _ _ _); (rename St _ _ _ _ => hsX); refine negI hsX ?_; clear hsX; intro _ _ _) | ((with_reducible show wpAny _ _ (eval (Expr.Name _ _) (compEnvC _ _ _ _)) _ _ _); first | refine' nK (by assumption) (by assumption) (by assumption) ?_ | refine' nKC (by assumption) (by rfl) (by assumption) ?_) | ((with_reducible show wpAny _ _ (eval (Expr.Dict [] [] _) _) _ _ _); (rename St _ _ _ _ => hsX); refine' mkD hsX (by assumption) ?_; clear hsX; intro _ _ _ _ _) | ((with_reducible show wpAny _ _ (isTrue (Expr.Compare _ [_, _] [_, _] _) _ _) _ _ _); refine isTrue_chain ?_) | ((with_reducible show wpAny _ _ (testChain _ _ _ _) _ _ _); first | refine test_link ?_ | refine test_last ?_) | ((with_reducible show _ ∧ _); refine' and_g (by assumption) (by walk_at "gE") ?_) | ((with_reducible show wpAny _ _ (call (Value.type "range") [_]) _ _ _); (rename St _ _ _ _ => hsX); (refine rng1 hsX ?_); clear hsX; intro _ _ _ _ _ _) | ((with_reducible show wpAny _ _ (call (Value.type "range") [_, _]) _ _ _); (rename St _ _ _ _ => hsX); (refine rng2 hsX ?_); clear hsX; intro _ _ _ _ _)) | walk_at "S" | (first | ((with_reducible show wpAny _ _ (evalPart _ _) _ _ _); first | with_reducible refine part_none ?_ | with_reducible refine part_some ?_) | ((with_reducible show _ ∧ _); (rename St _ _ _ _ => hsX); (refine And.intro (by (try simp only [List.length_cons, List.length_nil]); decide) ⟨_, _, _, hsX, ?_⟩); clear hsX; intro _ _ _ _) | ((with_reducible show wpAny _ _ (getMethod (Value.ref _) (Str.ofString "append") _) _ _ _); refine' mApp (by assumption) (by (first | exact Or.inl ⟨_, by assumption⟩ | exact Or.inr (by walk_at "mem"))) ?_) | ((with_reducible show wpAny _ _ (getMethod (Value.ref _) (Str.ofString "pop") _) _ _ _); refine' mPop (by assumption) (by (first | exact Or.inl ⟨_, by assumption⟩ | exact Or.inr (by walk_at "mem"))) ?_)))
    refine xAssignT ?_
    refine eP ?Pt ?ht ?kt
    case Pt => exact fun v s => Ex4 fun T a1 a2 tz => v = .ref T ∧ St s₀ I' ((T, TuO [.ref a1, .ref a2, .int 0 tz]) :: (a2, LsO []) :: (a1, LsO []) :: (it, EqO o) :: (O, DiO f2 i) :: (F, DiO f1 i) :: (L, NsO m) :: (c1, CeO (some (.int b tb))) :: (c2, CeO cv2) :: W) s
    · repeat' (first | (first | ((with_reducible show wpAny _ _ (eval (Expr.Subscript _ (Expr.Slice none _ _ _) _) _) _ _ _); refine xSliceU ?_) | ((with_reducible show wpAny _ _ (callWith _ (Value.ref _) _ _ _) _ _ _); refine' cwF (by walk_at "gE") (by ((show keepIn (hd.heap_39 _) _ = _; k_is))) ?_) | ((with_reducible show wpAny _ _ (unaryOp UnaryOp.USub _) _ _ _); (rename St _ _ _ _ => hsX); refine negI hsX ?_; clear hsX; intro _ _ _) | ((with_reducible show wpAny _ _ (eval (Expr.Name _ _) (compEnvC _ _ _ _)) _ _ _); first | refine' nK (by assumption) (by assumption) (by assumption) ?_ | refine' nKC (by assumption) (by rfl) (by assumption) ?_) | ((with_reducible show wpAny _ _ (eval (Expr.Dict [] [] _) _) _ _ _); (rename St _ _ _ _ => hsX); refine' mkD hsX (by assumption) ?_; clear hsX; intro _ _ _ _ _) | ((with_reducible show wpAny _ _ (isTrue (Expr.Compare _ [_, _] [_, _] _) _ _) _ _ _); refine isTrue_chain ?_) | ((with_reducible show wpAny _ _ (testChain _ _ _ _) _ _ _); first | refine test_link ?_ | refine test_last ?_) | ((with_reducible show _ ∧ _); refine' and_g (by assumption) (by walk_at "gE") ?_) | ((with_reducible show wpAny _ _ (call (Value.type "range") [_]) _ _ _); (rename St _ _ _ _ => hsX); (refine rng1 hsX ?_); clear hsX; intro _ _ _ _ _ _) | ((with_reducible show wpAny _ _ (call (Value.type "range") [_, _]) _ _ _); (rename St _ _ _ _ => hsX); (refine rng2 hsX ?_); clear hsX; intro _ _ _ _ _)) | walk_at "S" | (first | ((with_reducible show wpAny _ _ (evalPart _ _) _ _ _); first | with_reducible refine part_none ?_ | with_reducible refine part_some ?_) | ((with_reducible show _ ∧ _); (rename St _ _ _ _ => hsX); (refine And.intro (by (try simp only [List.length_cons, List.length_nil]); decide) ⟨_, _, _, hsX, ?_⟩); clear hsX; intro _ _ _ _) | ((with_reducible show wpAny _ _ (getMethod (Value.ref _) (Str.ofString "append") _) _ _ _); refine' mApp (by assumption) (by (first | exact Or.inl ⟨_, by assumption⟩ | exact Or.inr (by walk_at "mem"))) ?_) | ((with_reducible show wpAny _ _ (getMethod (Value.ref _) (Str.ofString "pop") _) _ _ _); refine' mPop (by assumption) (by (first | exact Or.inl ⟨_, by assumption⟩ | exact Or.inr (by walk_at "mem"))) ?_)))
      exact ⟨_, _, _, _, rfl, by assumption⟩
    clear hs
    rintro _ s ⟨T, a1, a2, tz, rfl, hs⟩
    refine asg3 hs r' (.inr (.head _)) fun s' hs => ?_
    replace hs := hs.rem .head
    obtain ⟨da, dvs, dn, rfl, ed, rd⟩ := hd.listInv
    obtain ⟨sa, svs, sn, rfl, es, rs⟩ := hst.listInv
    have hdl : dvs.length = ps.length := by have := rd.length; rwa [List.length_map] at this
    rw [iN_eq] at rs
    have hsi : IntsAre svs (nI (stopsL ps)) := rs.ints
    have hbp : b < ps.length := begins_lt hn0 (List.mem_of_getElem? hbi)
    have hbn' : i < (begins ps).length := (List.getElem?_eq_some_iff.mp hbi).1
    clear hd hst
    repeat' first | (first | ((with_reducible show wpAny _ _ (assign (Expr.Subscript _ _ _) _ _) _ _ _); refine asgS ?_) | ((with_reducible show wpAny _ _ (setItem (Value.ref _) (Value.int _ _) _) _ _ _); (rename St _ _ _ _ => hsX); refine' setD hsX (by walk_at "mem") (by omega) (by walk_at "up") ?_; clear hsX; intro _ _) | ((with_reducible show wpAny _ _ (subscriptTail _ _ _ _) _ _ _); refine' idxP' (by assumption) (by assumption) (by assumption) (by (first | exact Or.inl ⟨_, by assumption⟩ | exact Or.inr (by walk_at "mem"))) (by omega) (by omega) (by omega) ?_; intro _ _ _ _ _ _ _ _ _ _ _) | ((with_reducible show wpAny _ _ (subscriptTail _ _ _ (Value.int 0 _)) _ _ _); refine' idxT (j := 0) (by assumption) (by (first | exact Or.inl ⟨_, by assumption⟩ | exact Or.inr (by walk_at "mem"))) (by decide) (by decide) (by rfl) (by rfl) ?_) | ((with_reducible show wpAny _ _ (subscriptTail _ _ _ (Value.int 1 _)) _ _ _); refine' idxT (j := 1) (by assumption) (by (first | exact Or.inl ⟨_, by assumption⟩ | exact Or.inr (by walk_at "mem"))) (by decide) (by decide) (by rfl) (by rfl) ?_) | ((with_reducible show wpAny _ _ (subscriptTail _ _ _ _) _ _ _); (rename St _ _ _ _ => hsX); refine' getD' hsX (by (exact Or.inr (by walk_at "mem"))) (by assumption) ?_; clear hsX; intro _ _)) | (first | (first | ((with_reducible show wpAny _ _ (eval (Expr.Subscript _ (Expr.Slice none _ _ _) _) _) _ _ _); refine xSliceU ?_) | ((with_reducible show wpAny _ _ (callWith _ (Value.ref _) _ _ _) _ _ _); refine' cwF (by walk_at "gE") (by ((show keepIn (hd.heap_39 _) _ = _; k_is))) ?_) | ((with_reducible show wpAny _ _ (unaryOp UnaryOp.USub _) _ _ _); (rename St _ _ _ _ => hsX); refine negI hsX ?_; clear hsX; intro _ _ _) | ((with_reducible show wpAny _ _ (eval (Expr.Name _ _) (compEnvC _ _ _ _)) _ _ _); first | refine' nK (by assumption) (by assumption) (by assumption) ?_ | refine' nKC (by assumption) (by rfl) (by assumption) ?_) | ((with_reducible show wpAny _ _ (eval (Expr.Dict [] [] _) _) _ _ _); (rename St _ _ _ _ => hsX); refine' mkD hsX (by assumption) ?_; clear hsX; intro _ _ _ _ _) | ((with_reducible show wpAny _ _ (isTrue (Expr.Compare _ [_, _] [_, _] _) _ _) _ _ _); refine isTrue_chain ?_) | ((with_reducible show wpAny _ _ (testChain _ _ _ _) _ _ _); first | refine test_link ?_ | refine test_last ?_) | ((with_reducible show _ ∧ _); refine' and_g (by assumption) (by walk_at "gE") ?_) | ((with_reducible show wpAny _ _ (call (Value.type "range") [_]) _ _ _); (rename St _ _ _ _ => hsX); (refine rng1 hsX ?_); clear hsX; intro _ _ _ _ _ _) | ((with_reducible show wpAny _ _ (call (Value.type "range") [_, _]) _ _ _); (rename St _ _ _ _ => hsX); (refine rng2 hsX ?_); clear hsX; intro _ _ _ _ _)) | walk_at "S" | (first | ((with_reducible show wpAny _ _ (evalPart _ _) _ _ _); first | with_reducible refine part_none ?_ | with_reducible refine part_some ?_) | ((with_reducible show _ ∧ _); (rename St _ _ _ _ => hsX); (refine And.intro (by (try simp only [List.length_cons, List.length_nil]); decide) ⟨_, _, _, hsX, ?_⟩); clear hsX; intro _ _ _ _) | ((with_reducible show wpAny _ _ (getMethod (Value.ref _) (Str.ofString "append") _) _ _ _); refine' mApp (by assumption) (by (first | exact Or.inl ⟨_, by assumption⟩ | exact Or.inr (by walk_at "mem"))) ?_) | ((with_reducible show wpAny _ _ (getMethod (Value.ref _) (Str.ofString "pop") _) _ _ _); refine' mPop (by assumption) (by (first | exact Or.inl ⟨_, by assumption⟩ | exact Or.inr (by walk_at "mem"))) ?_)))
    rename St _ _ _ _ => hs
    refine xForR r' ?_
    repeat' first | (first | ((with_reducible show wpAny _ _ (assign (Expr.Subscript _ _ _) _ _) _ _ _); refine asgS ?_) | ((with_reducible show wpAny _ _ (setItem (Value.ref _) (Value.int _ _) _) _ _ _); (rename St _ _ _ _ => hsX); refine' setD hsX (by walk_at "mem") (by omega) (by walk_at "up") ?_; clear hsX; intro _ _) | ((with_reducible show wpAny _ _ (subscriptTail _ _ _ _) _ _ _); refine' idxP' (by assumption) (by assumption) (by assumption) (by (first | exact Or.inl ⟨_, by assumption⟩ | exact Or.inr (by walk_at "mem"))) (by omega) (by omega) (by omega) ?_; intro _ _ _ _ _ _ _ _ _ _ _) | ((with_reducible show wpAny _ _ (subscriptTail _ _ _ (Value.int 0 _)) _ _ _); refine' idxT (j := 0) (by assumption) (by (first | exact Or.inl ⟨_, by assumption⟩ | exact Or.inr (by walk_at "mem"))) (by decide) (by decide) (by rfl) (by rfl) ?_) | ((with_reducible show wpAny _ _ (subscriptTail _ _ _ (Value.int 1 _)) _ _ _); refine' idxT (j := 1) (by assumption) (by (first | exact Or.inl ⟨_, by assumption⟩ | exact Or.inr (by walk_at "mem"))) (by decide) (by decide) (by rfl) (by rfl) ?_) | ((with_reducible show wpAny _ _ (subscriptTail _ _ _ _) _ _ _); (rename St _ _ _ _ => hsX); refine' getD' hsX (by (exact Or.inr (by walk_at "mem"))) (by assumption) ?_; clear hsX; intro _ _)) | (first | (first | ((with_reducible show wpAny _ _ (eval (Expr.Subscript _ (Expr.Slice none _ _ _) _) _) _ _ _); refine xSliceU ?_) | ((with_reducible show wpAny _ _ (callWith _ (Value.ref _) _ _ _) _ _ _); refine' cwF (by walk_at "gE") (by ((show keepIn (hd.heap_39 _) _ = _; k_is))) ?_) | ((with_reducible show wpAny _ _ (unaryOp UnaryOp.USub _) _ _ _); (rename St _ _ _ _ => hsX); refine negI hsX ?_; clear hsX; intro _ _ _) | ((with_reducible show wpAny _ _ (eval (Expr.Name _ _) (compEnvC _ _ _ _)) _ _ _); first | refine' nK (by assumption) (by assumption) (by assumption) ?_ | refine' nKC (by assumption) (by rfl) (by assumption) ?_) | ((with_reducible show wpAny _ _ (eval (Expr.Dict [] [] _) _) _ _ _); (rename St _ _ _ _ => hsX); refine' mkD hsX (by assumption) ?_; clear hsX; intro _ _ _ _ _) | ((with_reducible show wpAny _ _ (isTrue (Expr.Compare _ [_, _] [_, _] _) _ _) _ _ _); refine isTrue_chain ?_) | ((with_reducible show wpAny _ _ (testChain _ _ _ _) _ _ _); first | refine test_link ?_ | refine test_last ?_) | ((with_reducible show _ ∧ _); refine' and_g (by assumption) (by walk_at "gE") ?_) | ((with_reducible show wpAny _ _ (call (Value.type "range") [_]) _ _ _); (rename St _ _ _ _ => hsX); (refine rng1 hsX ?_); clear hsX; intro _ _ _ _ _ _) | ((with_reducible show wpAny _ _ (call (Value.type "range") [_, _]) _ _ _); (rename St _ _ _ _ => hsX); (refine rng2 hsX ?_); clear hsX; intro _ _ _ _ _)) | walk_at "S" | (first | ((with_reducible show wpAny _ _ (evalPart _ _) _ _ _); first | with_reducible refine part_none ?_ | with_reducible refine part_some ?_) | ((with_reducible show _ ∧ _); (rename St _ _ _ _ => hsX); (refine And.intro (by (try simp only [List.length_cons, List.length_nil]); decide) ⟨_, _, _, hsX, ?_⟩); clear hsX; intro _ _ _ _) | ((with_reducible show wpAny _ _ (getMethod (Value.ref _) (Str.ofString "append") _) _ _ _); refine' mApp (by assumption) (by (first | exact Or.inl ⟨_, by assumption⟩ | exact Or.inr (by walk_at "mem"))) ?_) | ((with_reducible show wpAny _ _ (getMethod (Value.ref _) (Str.ofString "pop") _) _ _ _); refine' mPop (by assumption) (by (first | exact Or.inl ⟨_, by assumption⟩ | exact Or.inr (by walk_at "mem"))) ?_)))
    rename St _ _ _ _ => hs
    rename IsRange _ _ _ _ _ _ _ _ => hr
    refine ForR.mk' ?Jw ?Pw hs hr (by omega) (by omega) (by omega) (by omega) ?h0' ?turn' ?done' ?hp'
    case Jw =>
     exact fun k I'' W'' => I'' = I' ∧ Ex6 fun m wz tw us1 us2 cv => All6 (W'' = (a2, LsO us2) :: (a1, LsO us1) :: (it, EqO o) :: (O, DiO (updI f2 b (.ref a2)) (i + 1)) :: (F, DiO (updI f1 b (.ref a1)) (i + 1)) :: (L, NsO m) :: (c1, CeO (some (.int b tb))) :: (c2, CeO cv) :: W) ((All6 (m "due" = some (.ref da)) (m "stops" = some (.ref sa)) (m "first_room" = some (.int W0 t)) (m "room" = some (.int W1 u)) (m "firsts" = some (.ref F)) (m "others" = some (.ref O)))) (m "wide" = some (.int wz tw)) (wz = sm ps (b + k) - sm ps b) (IntsAre us1 (nI ((List.range' (b + 1) k).filter (canB ps W0 b)))) (IntsAre us2 (nI ((List.range' (b + 1) k).filter (canB ps W1 b))))
    case Pw =>
     exact fun s => Ex4 fun m us1 us2 cv => All4 (St s₀ I' ((a2, LsO us2) :: (a1, LsO us1) :: (it, EqO o) :: (O, DiO (updI f2 b (.ref a2)) (i + 1)) :: (F, DiO (updI f1 b (.ref a1)) (i + 1)) :: (L, NsO m) :: (c1, CeO (some (.int b tb))) :: (c2, CeO cv) :: W) s) ((All6 (m "due" = some (.ref da)) (m "stops" = some (.ref sa)) (m "first_room" = some (.int W0 t)) (m "room" = some (.int W1 u)) (m "firsts" = some (.ref F)) (m "others" = some (.ref O)))) (IntsAre us1 (nI (succs ps W0 b))) (IntsAre us2 (nI (succs ps W1 b)))
    case h0' => exact ⟨rfl, _, _, _, [], [], _, rfl, ⟨by walk_at "lk", by walk_at "lk", by walk_at "lk", by walk_at "lk", by walk_at "lk", by walk_at "lk"⟩, by walk_at "lk", by rw [Nat.add_zero]; omega, .nil, .nil⟩
    case done' =>
      rintro _ _ s ⟨rfl, m, wz, tw, us1, us2, cv, rfl, he, _, _, hi1, hi2⟩ hs
      have e : ((dvs.length : Int) + 1 - ((b : Int) + 1)).toNat = ps.length - b := by omega
      rw [e] at hi1 hi2
      exact ⟨_, us1, us2, cv, hs, he, hi1, hi2⟩
    case hp' =>
      rintro s ⟨m, us1, us2, cv, hs, ⟨e1, e2, e3, e4, e5, e6⟩, hi1, hi2⟩
      refine xNil ?_
      obtain ⟨o2', ⟨n2', rfl⟩, hJ2, hs⟩ := hs.freeze .head
      obtain ⟨o1', ⟨n1', rfl⟩, hJ1, hs⟩ := hs.freeze .head
      have l2 := Kn.set_le (o := PySem.W.listOf us2.toArray n2') hJ2
      have l1 := Kn.set_le (o := PySem.W.listOf us1.toArray n1') hJ1
      refine Turn.next hs .head ⟨m, updI f1 b (.ref a1), updI f2 b (.ref a2), _, _, hle'.tr (l2.tr l1), rfl, ⟨e1, e2, e3, e4, e5, e6⟩, fun b' hb' => ?_⟩
      by_cases q : b' = b
      · subst q
        exact ⟨⟨a1, updI_same, .list Kn.set_self (by rw [iN_eq]; exact .ofInts hi1)⟩, ⟨a2, updI_same, .list (l1 _ _ Kn.set_self) (by rw [iN_eq]; exact .ofInts hi2)⟩⟩
      · have hq : b' ∈ (begins ps).take i := by
          rw [List.take_add_one, hbi] at hb'
          rcases List.mem_append.mp hb' with h | h
          · exact h
          · exact absurd (by simpa using h) q
        have hne : (b' : Int) ≠ (b : Int) := by omega
        obtain ⟨⟨x1, y1, z1⟩, ⟨x2, y2, z2⟩⟩ := hb b' hq
        exact ⟨⟨x1, (updI_ne hne).trans y1, z1.mono (l2.tr l1)⟩, ⟨x2, (updI_ne hne).trans y2, z2.mono (l2.tr l1)⟩⟩
    case turn' =>
      rintro k t' Ik _ it2 o2 s hk ⟨rfl, m, wz, tw, us1, us2, cv, rfl, ⟨e1, e2, e3, e4, e5, e6⟩, e7, rfl, hi1, hi2⟩ hs
      have hkb : b + k < ps.length := by omega
      repeat' first | (first | ((with_reducible show wpAny _ _ (assign (Expr.Subscript _ _ _) _ _) _ _ _); refine asgS ?_) | ((with_reducible show wpAny _ _ (setItem (Value.ref _) (Value.int _ _) _) _ _ _); (rename St _ _ _ _ => hsX); refine' setD hsX (by walk_at "mem") (by omega) (by walk_at "up") ?_; clear hsX; intro _ _) | ((with_reducible show wpAny _ _ (subscriptTail _ _ _ _) _ _ _); refine' idxP' (by assumption) (by assumption) (by assumption) (by (first | exact Or.inl ⟨_, by assumption⟩ | exact Or.inr (by walk_at "mem"))) (by omega) (by omega) (by omega) ?_; intro _ _ _ _ _ _ _ _ _ _ _) | ((with_reducible show wpAny _ _ (subscriptTail _ _ _ (Value.int 0 _)) _ _ _); refine' idxT (j := 0) (by assumption) (by (first | exact Or.inl ⟨_, by assumption⟩ | exact Or.inr (by walk_at "mem"))) (by decide) (by decide) (by rfl) (by rfl) ?_) | ((with_reducible show wpAny _ _ (subscriptTail _ _ _ (Value.int 1 _)) _ _ _); refine' idxT (j := 1) (by assumption) (by (first | exact Or.inl ⟨_, by assumption⟩ | exact Or.inr (by walk_at "mem"))) (by decide) (by decide) (by rfl) (by rfl) ?_) | ((with_reducible show wpAny _ _ (subscriptTail _ _ _ _) _ _ _); (rename St _ _ _ _ => hsX); refine' getD' hsX (by (exact Or.inr (by walk_at "mem"))) (by assumption) ?_; clear hsX; intro _ _)) | (first | (first | ((with_reducible show wpAny _ _ (eval (Expr.Subscript _ (Expr.Slice none _ _ _) _) _) _ _ _); refine xSliceU ?_) | ((with_reducible show wpAny _ _ (callWith _ (Value.ref _) _ _ _) _ _ _); refine' cwF (by walk_at "gE") (by ((show keepIn (hd.heap_39 _) _ = _; k_is))) ?_) | ((with_reducible show wpAny _ _ (unaryOp UnaryOp.USub _) _ _ _); (rename St _ _ _ _ => hsX); refine negI hsX ?_; clear hsX; intro _ _ _) | ((with_reducible show wpAny _ _ (eval (Expr.Name _ _) (compEnvC _ _ _ _)) _ _ _); first | refine' nK (by assumption) (by assumption) (by assumption) ?_ | refine' nKC (by assumption) (by rfl) (by assumption) ?_) | ((with_reducible show wpAny _ _ (eval (Expr.Dict [] [] _) _) _ _ _); (rename St _ _ _ _ => hsX); refine' mkD hsX (by assumption) ?_; clear hsX; intro _ _ _ _ _) | ((with_reducible show wpAny _ _ (isTrue (Expr.Compare _ [_, _] [_, _] _) _ _) _ _ _); refine isTrue_chain ?_) | ((with_reducible show wpAny _ _ (testChain _ _ _ _) _ _ _); first | refine test_link ?_ | refine test_last ?_) | ((with_reducible show _ ∧ _); refine' and_g (by assumption) (by walk_at "gE") ?_) | ((with_reducible show wpAny _ _ (call (Value.type "range") [_]) _ _ _); (rename St _ _ _ _ => hsX); (refine rng1 hsX ?_); clear hsX; intro _ _ _ _ _ _) | ((with_reducible show wpAny _ _ (call (Value.type "range") [_, _]) _ _ _); (rename St _ _ _ _ => hsX); (refine rng2 hsX ?_); clear hsX; intro _ _ _ _ _)) | walk_at "S" | (first | ((with_reducible show wpAny _ _ (evalPart _ _) _ _ _); first | with_reducible refine part_none ?_ | with_reducible refine part_some ?_) | ((with_reducible show _ ∧ _); (rename St _ _ _ _ => hsX); (refine And.intro (by (try simp only [List.length_cons, List.length_nil]); decide) ⟨_, _, _, hsX, ?_⟩); clear hsX; intro _ _ _ _) | ((with_reducible show wpAny _ _ (getMethod (Value.ref _) (Str.ofString "append") _) _ _ _); refine' mApp (by assumption) (by (first | exact Or.inl ⟨_, by assumption⟩ | exact Or.inr (by walk_at "mem"))) ?_) | ((with_reducible show wpAny _ _ (getMethod (Value.ref _) (Str.ofString "pop") _) _ _ _); refine' mPop (by assumption) (by (first | exact Or.inl ⟨_, by assumption⟩ | exact Or.inr (by walk_at "mem"))) ?_)))
      rename St _ _ _ _ => hs
      refine compLC (inP b ((b : Int) + 1 + k)) (fun v y => y = v) r' [("end", c2), ("begin", c1)] ?_ rfl
      repeat' first | (first | ((with_reducible show wpAny _ _ (assign (Expr.Subscript _ _ _) _ _) _ _ _); refine asgS ?_) | ((with_reducible show wpAny _ _ (setItem (Value.ref _) (Value.int _ _) _) _ _ _); (rename St _ _ _ _ => hsX); refine' setD hsX (by walk_at "mem") (by omega) (by walk_at "up") ?_; clear hsX; intro _ _) | ((with_reducible show wpAny _ _ (subscriptTail _ _ _ _) _ _ _); refine' idxP' (by assumption) (by assumption) (by assumption) (by (first | exact Or.inl ⟨_, by assumption⟩ | exact Or.inr (by walk_at "mem"))) (by omega) (by omega) (by omega) ?_; intro _ _ _ _ _ _ _ _ _ _ _) | ((with_reducible show wpAny _ _ (subscriptTail _ _ _ (Value.int 0 _)) _ _ _); refine' idxT (j := 0) (by assumption) (by (first | exact Or.inl ⟨_, by assumption⟩ | exact Or.inr (by walk_at "mem"))) (by decide) (by decide) (by rfl) (by rfl) ?_) | ((with_reducible show wpAny _ _ (subscriptTail _ _ _ (Value.int 1 _)) _ _ _); refine' idxT (j := 1) (by assumption) (by (first | exact Or.inl ⟨_, by assumption⟩ | exact Or.inr (by walk_at "mem"))) (by decide) (by decide) (by rfl) (by rfl) ?_) | ((with_reducible show wpAny _ _ (subscriptTail _ _ _ _) _ _ _); (rename St _ _ _ _ => hsX); refine' getD' hsX (by (exact Or.inr (by walk_at "mem"))) (by assumption) ?_; clear hsX; intro _ _)) | (first | (first | ((with_reducible show wpAny _ _ (eval (Expr.Subscript _ (Expr.Slice none _ _ _) _) _) _ _ _); refine xSliceU ?_) | ((with_reducible show wpAny _ _ (callWith _ (Value.ref _) _ _ _) _ _ _); refine' cwF (by walk_at "gE") (by ((show keepIn (hd.heap_39 _) _ = _; k_is))) ?_) | ((with_reducible show wpAny _ _ (unaryOp UnaryOp.USub _) _ _ _); (rename St _ _ _ _ => hsX); refine negI hsX ?_; clear hsX; intro _ _ _) | ((with_reducible show wpAny _ _ (eval (Expr.Name _ _) (compEnvC _ _ _ _)) _ _ _); first | refine' nK (by assumption) (by assumption) (by assumption) ?_ | refine' nKC (by assumption) (by rfl) (by assumption) ?_) | ((with_reducible show wpAny _ _ (eval (Expr.Dict [] [] _) _) _ _ _); (rename St _ _ _ _ => hsX); refine' mkD hsX (by assumption) ?_; clear hsX; intro _ _ _ _ _) | ((with_reducible show wpAny _ _ (isTrue (Expr.Compare _ [_, _] [_, _] _) _ _) _ _ _); refine isTrue_chain ?_) | ((with_reducible show wpAny _ _ (testChain _ _ _ _) _ _ _); first | refine test_link ?_ | refine test_last ?_) | ((with_reducible show _ ∧ _); refine' and_g (by assumption) (by walk_at "gE") ?_) | ((with_reducible show wpAny _ _ (call (Value.type "range") [_]) _ _ _); (rename St _ _ _ _ => hsX); (refine rng1 hsX ?_); clear hsX; intro _ _ _ _ _ _) | ((with_reducible show wpAny _ _ (call (Value.type "range") [_, _]) _ _ _); (rename St _ _ _ _ => hsX); (refine rng2 hsX ?_); clear hsX; intro _ _ _ _ _)) | walk_at "S" | (first | ((with_reducible show wpAny _ _ (evalPart _ _) _ _ _); first | with_reducible refine part_none ?_ | with_reducible refine part_some ?_) | ((with_reducible show _ ∧ _); (rename St _ _ _ _ => hsX); (refine And.intro (by (try simp only [List.length_cons, List.length_nil]); decide) ⟨_, _, _, hsX, ?_⟩); clear hsX; intro _ _ _ _) | ((with_reducible show wpAny _ _ (getMethod (Value.ref _) (Str.ofString "append") _) _ _ _); refine' mApp (by assumption) (by (first | exact Or.inl ⟨_, by assumption⟩ | exact Or.inr (by walk_at "mem"))) ?_) | ((with_reducible show wpAny _ _ (getMethod (Value.ref _) (Str.ofString "pop") _) _ _ _); refine' mPop (by assumption) (by (first | exact Or.inl ⟨_, by assumption⟩ | exact Or.inr (by walk_at "mem"))) ?_)))
      rename St _ _ _ _ => hs
      refine ⟨sa, sn, _, _, _, svs, rfl, hs, es, ?_, ?_, ?_, ?_⟩
      · have := stopsL_len (ps := ps)
        have h2 := hsi.length
        rw [List.length_map] at h2
        simp only [sizeLine]; omega
      · clear hs
        intro C v m₃ J' s₃ E' hv hm hn hle2 hwk hs
        obtain ⟨j, tj, rfl⟩ := ints_mem hsi hv
        have hc1 : CeK J' c1 _ := hwk (c1, CeO (some (.int b tb))) (by walk_at "mem")
        have hc2 : CeK J' c2 _ := hwk (c2, CeO (some (.int ((b : Int) + 1 + k) t'))) (by walk_at "mem")
        repeat' (first | (first | ((with_reducible show wpAny _ _ (eval (Expr.Subscript _ (Expr.Slice none _ _ _) _) _) _ _ _); refine xSliceU ?_) | ((with_reducible show wpAny _ _ (callWith _ (Value.ref _) _ _ _) _ _ _); refine' cwF (by walk_at "gE") (by ((show keepIn (hd.heap_39 _) _ = _; k_is))) ?_) | ((with_reducible show wpAny _ _ (unaryOp UnaryOp.USub _) _ _ _); (rename St _ _ _ _ => hsX); refine negI hsX ?_; clear hsX; intro _ _ _) | ((with_reducible show wpAny _ _ (eval (Expr.Name _ _) (compEnvC _ _ _ _)) _ _ _); first | refine' nK (by assumption) (by assumption) (by assumption) ?_ | refine' nKC (by assumption) (by rfl) (by assumption) ?_) | ((with_reducible show wpAny _ _ (eval (Expr.Dict [] [] _) _) _ _ _); (rename St _ _ _ _ => hsX); refine' mkD hsX (by assumption) ?_; clear hsX; intro _ _ _ _ _) | ((with_reducible show wpAny _ _ (isTrue (Expr.Compare _ [_, _] [_, _] _) _ _) _ _ _); refine isTrue_chain ?_) | ((with_reducible show wpAny _ _ (testChain _ _ _ _) _ _ _); first | refine test_link ?_ | refine test_last ?_) | ((with_reducible show _ ∧ _); refine' and_g (by assumption) (by walk_at "gE") ?_) | ((with_reducible show wpAny _ _ (call (Value.type "range") [_]) _ _ _); (rename St _ _ _ _ => hsX); (refine rng1 hsX ?_); clear hsX; intro _ _ _ _ _ _) | ((with_reducible show wpAny _ _ (call (Value.type "range") [_, _]) _ _ _); (rename St _ _ _ _ => hsX); (refine rng2 hsX ?_); clear hsX; intro _ _ _ _ _)) | walk_at "S" | (first | ((with_reducible show wpAny _ _ (evalPart _ _) _ _ _); first | with_reducible refine part_none ?_ | with_reducible refine part_some ?_) | ((with_reducible show _ ∧ _); (rename St _ _ _ _ => hsX); (refine And.intro (by (try simp only [List.length_cons, List.length_nil]); decide) ⟨_, _, _, hsX, ?_⟩); clear hsX; intro _ _ _ _) | ((with_reducible show wpAny _ _ (getMethod (Value.ref _) (Str.ofString "append") _) _ _ _); refine' mApp (by assumption) (by (first | exact Or.inl ⟨_, by assumption⟩ | exact Or.inr (by walk_at "mem"))) ?_) | ((with_reducible show wpAny _ _ (getMethod (Value.ref _) (Str.ofString "pop") _) _ _ _); refine' mPop (by assumption) (by (first | exact Or.inl ⟨_, by assumption⟩ | exact Or.inr (by walk_at "mem"))) ?_)))
        all_goals exact ⟨by simp [inP, *], by assumption⟩
      · clear hs
        intro C v m₃ J' s₃ E' hv _ hm hn hle2 hwk hs
        repeat' (first | (first | ((with_reducible show wpAny _ _ (eval (Expr.Subscript _ (Expr.Slice none _ _ _) _) _) _ _ _); refine xSliceU ?_) | ((with_reducible show wpAny _ _ (callWith _ (Value.ref _) _ _ _) _ _ _); refine' cwF (by walk_at "gE") (by ((show keepIn (hd.heap_39 _) _ = _; k_is))) ?_) | ((with_reducible show wpAny _ _ (unaryOp UnaryOp.USub _) _ _ _); (rename St _ _ _ _ => hsX); refine negI hsX ?_; clear hsX; intro _ _ _) | ((with_reducible show wpAny _ _ (eval (Expr.Name _ _) (compEnvC _ _ _ _)) _ _ _); first | refine' nK (by assumption) (by assumption) (by assumption) ?_ | refine' nKC (by assumption) (by rfl) (by assumption) ?_) | ((with_reducible show wpAny _ _ (eval (Expr.Dict [] [] _) _) _ _ _); (rename St _ _ _ _ => hsX); refine' mkD hsX (by assumption) ?_; clear hsX; intro _ _ _ _ _) | ((with_reducible show wpAny _ _ (isTrue (Expr.Compare _ [_, _] [_, _] _) _ _) _ _ _); refine isTrue_chain ?_) | ((with_reducible show wpAny _ _ (testChain _ _ _ _) _ _ _); first | refine test_link ?_ | refine test_last ?_) | ((with_reducible show _ ∧ _); refine' and_g (by assumption) (by walk_at "gE") ?_) | ((with_reducible show wpAny _ _ (call (Value.type "range") [_]) _ _ _); (rename St _ _ _ _ => hsX); (refine rng1 hsX ?_); clear hsX; intro _ _ _ _ _ _) | ((with_reducible show wpAny _ _ (call (Value.type "range") [_, _]) _ _ _); (rename St _ _ _ _ => hsX); (refine rng2 hsX ?_); clear hsX; intro _ _ _ _ _)) | walk_at "S" | (first | ((with_reducible show wpAny _ _ (evalPart _ _) _ _ _); first | with_reducible refine part_none ?_ | with_reducible refine part_some ?_) | ((with_reducible show _ ∧ _); (rename St _ _ _ _ => hsX); (refine And.intro (by (try simp only [List.length_cons, List.length_nil]); decide) ⟨_, _, _, hsX, ?_⟩); clear hsX; intro _ _ _ _) | ((with_reducible show wpAny _ _ (getMethod (Value.ref _) (Str.ofString "append") _) _ _ _); refine' mApp (by assumption) (by (first | exact Or.inl ⟨_, by assumption⟩ | exact Or.inr (by walk_at "mem"))) ?_) | ((with_reducible show wpAny _ _ (getMethod (Value.ref _) (Str.ofString "pop") _) _ _ _); refine' mPop (by assumption) (by (first | exact Or.inl ⟨_, by assumption⟩ | exact Or.inr (by walk_at "mem"))) ?_)))
        exact ⟨rfl, hs⟩
      · clear hs
        intro D ys s' hp hs
        have hy := paired_eq hp
        subst hy
        have hfi := ints_filter (p := inP b ((b : Int) + 1 + k)) (p' := fun j => decide ((b : Int) < j) && decide (j < ((b + 1 + k : Nat) : Int))) hsi (fun i t => by unfold inP; congr 2)
        rw [nI_between] at hfi
        refine eqNil hs r' (.inr (.head _)) (.ofInts hfi) (sh_ints _) fun s' hs => ?_
        replace hs := hs.rem .head
        rw [show decide ((nI (between ps b (b + 1 + k))).map PyData.int = []) = decide (between ps b (b + 1 + k) = []) from decide_eq_decide.mpr (by simp)]
        (first | (first | ((with_reducible show wpAny _ _ (eval (Expr.Subscript _ (Expr.Slice none _ _ _) _) _) _ _ _); refine xSliceU ?_) | ((with_reducible show wpAny _ _ (callWith _ (Value.ref _) _ _ _) _ _ _); refine' cwF (by walk_at "gE") (by ((show keepIn (hd.heap_39 _) _ = _; k_is))) ?_) | ((with_reducible show wpAny _ _ (unaryOp UnaryOp.USub _) _ _ _); (rename St _ _ _ _ => hsX); refine negI hsX ?_; clear hsX; intro _ _ _) | ((with_reducible show wpAny _ _ (eval (Expr.Name _ _) (compEnvC _ _ _ _)) _ _ _); first | refine' nK (by assumption) (by assumption) (by assumption) ?_ | refine' nKC (by assumption) (by rfl) (by assumption) ?_) | ((with_reducible show wpAny _ _ (eval (Expr.Dict [] [] _) _) _ _ _); (rename St _ _ _ _ => hsX); refine' mkD hsX (by assumption) ?_; clear hsX; intro _ _ _ _ _) | ((with_reducible show wpAny _ _ (isTrue (Expr.Compare _ [_, _] [_, _] _) _ _) _ _ _); refine isTrue_chain ?_) | ((with_reducible show wpAny _ _ (testChain _ _ _ _) _ _ _); first | refine test_link ?_ | refine test_last ?_) | ((with_reducible show _ ∧ _); refine' and_g (by assumption) (by walk_at "gE") ?_) | ((with_reducible show wpAny _ _ (call (Value.type "range") [_]) _ _ _); (rename St _ _ _ _ => hsX); (refine rng1 hsX ?_); clear hsX; intro _ _ _ _ _ _) | ((with_reducible show wpAny _ _ (call (Value.type "range") [_, _]) _ _ _); (rename St _ _ _ _ => hsX); (refine rng2 hsX ?_); clear hsX; intro _ _ _ _ _)) | walk_at "S" | (first | ((with_reducible show wpAny _ _ (evalPart _ _) _ _ _); first | with_reducible refine part_none ?_ | with_reducible refine part_some ?_) | ((with_reducible show _ ∧ _); (rename St _ _ _ _ => hsX); (refine And.intro (by (try simp only [List.length_cons, List.length_nil]); decide) ⟨_, _, _, hsX, ?_⟩); clear hsX; intro _ _ _ _) | ((with_reducible show wpAny _ _ (getMethod (Value.ref _) (Str.ofString "append") _) _ _ _); refine' mApp (by assumption) (by (first | exact Or.inl ⟨_, by assumption⟩ | exact Or.inr (by walk_at "mem"))) ?_) | ((with_reducible show wpAny _ _ (getMethod (Value.ref _) (Str.ofString "pop") _) _ _ _); refine' mPop (by assumption) (by (first | exact Or.inl ⟨_, by assumption⟩ | exact Or.inr (by walk_at "mem"))) ?_)))
        rename St _ _ _ _ => hs
        rename (_ : Int) = ln ps _ => hw
        rw [show ((b : Int) + 1 + k - 1).toNat = b + k by omega] at hw
        rw [wd_step hw] at hs
        obtain ⟨m2, hs, e1, e2, e3, e4, e5, e6, ⟨tw2, e7⟩, e8⟩ : ∃ m2, All9 (St s₀ Ik ((it2, EqO o2) :: (a2, LsO us2) :: (a1, LsO us1) :: (it, EqO o) :: (O, DiO (updI f2 b (.ref a2)) (i + 1)) :: (F, DiO (updI f1 b (.ref a1)) (i + 1)) :: (L, NsO m2) ::
            (c1, CeO (some (.int b tb))) :: (c2, CeO (some (.int ((b : Int) + 1 + k) t'))) :: W) _) (m2 "due" = some (.ref da)) (m2 "stops" = some (.ref sa)) (m2 "first_room" = some (.int W0 t)) (m2 "room" = some (.int W1 u)) (m2 "firsts" = some (.ref F)) (m2 "others" = some (.ref O)) ((∃ tw, m2 "wide" = some (.int (wd ps b (b + 1 + k)) tw))) (m2 "is_next" = some (.bool (decide (between ps b (b + 1 + k) = [])))) :=
          ⟨_, hs, by walk_at "lk", by walk_at "lk", by walk_at "lk", by walk_at "lk", by walk_at "lk", by walk_at "lk", ⟨_, by walk_at "lk"⟩, by walk_at "lk"⟩
        have hu1 : updI f1 (b : Int) (.ref a1) (b : Int) = some (.ref a1) := updI_same
        have hu2 : updI f2 (b : Int) (.ref a2) (b : Int) = some (.ref a2) := updI_same
        have hany : (nI (stopsL ps)).any (· == ((b : Int) + 1 + k)) = stopB ps (b + 1 + k) := any_stops (ps := ps) (e := b + 1 + k) (by omega) (by omega)
        have hz1 := ints_small hi1 (by omega)
        have hz2 := ints_small hi2 (by omega)
        refine xIfP (fun s => ∃ us, IntsAre us (nI ((List.range' (b + 1) (k + 1)).filter (canB ps W0 b))) ∧ St s₀ Ik ((it2, EqO o2) :: (a2, LsO us2) :: (a1, LsO us) :: (it, EqO o) :: (O, DiO (updI f2 b (.ref a2)) (i + 1)) :: (F, DiO (updI f1 b (.ref a1)) (i + 1)) :: (L, NsO m2) ::
            (c1, CeO (some (.int b tb))) :: (c2, CeO (some (.int ((b : Int) + 1 + k) t'))) :: W) s) ?_ ?_
        · refine tP (fun bb s => bb = canB ps W0 b (b + 1 + k) ∧ St s₀ Ik ((it2, EqO o2) :: (a2, LsO us2) :: (a1, LsO us1) :: (it, EqO o) :: (O, DiO (updI f2 b (.ref a2)) (i + 1)) :: (F, DiO (updI f1 b (.ref a1)) (i + 1)) :: (L, NsO m2) ::
            (c1, CeO (some (.int b tb))) :: (c2, CeO (some (.int ((b : Int) + 1 + k) t'))) :: W) s) ?_ ?_
          · repeat' first | (first | ((with_reducible show wpAny _ _ (assign (Expr.Subscript _ _ _) _ _) _ _ _); refine asgS ?_) | ((with_reducible show wpAny _ _ (setItem (Value.ref _) (Value.int _ _) _) _ _ _); (rename St _ _ _ _ => hsX); refine' setD hsX (by walk_at "mem") (by omega) (by walk_at "up") ?_; clear hsX; intro _ _) | ((with_reducible show wpAny _ _ (subscriptTail _ _ _ _) _ _ _); refine' idxP' (by assumption) (by assumption) (by assumption) (by (first | exact Or.inl ⟨_, by assumption⟩ | exact Or.inr (by walk_at "mem"))) (by omega) (by omega) (by omega) ?_; intro _ _ _ _ _ _ _ _ _ _ _) | ((with_reducible show wpAny _ _ (subscriptTail _ _ _ (Value.int 0 _)) _ _ _); refine' idxT (j := 0) (by assumption) (by (first | exact Or.inl ⟨_, by assumption⟩ | exact Or.inr (by walk_at "mem"))) (by decide) (by decide) (by rfl) (by rfl) ?_) | ((with_reducible show wpAny _ _ (subscriptTail _ _ _ (Value.int 1 _)) _ _ _); refine' idxT (j := 1) (by assumption) (by (first | exact Or.inl ⟨_, by assumption⟩ | exact Or.inr (by walk_at "mem"))) (by decide) (by decide) (by rfl) (by rfl) ?_) | ((with_reducible show wpAny _ _ (subscriptTail _ _ _ _) _ _ _); (rename St _ _ _ _ => hsX); refine' getD' hsX (by (exact Or.inr (by walk_at "mem"))) (by assumption) ?_; clear hsX; intro _ _)) | (first | (first | ((with_reducible show wpAny _ _ (eval (Expr.Subscript _ (Expr.Slice none _ _ _) _) _) _ _ _); refine xSliceU ?_) | ((with_reducible show wpAny _ _ (callWith _ (Value.ref _) _ _ _) _ _ _); refine' cwF (by walk_at "gE") (by ((show keepIn (hd.heap_39 _) _ = _; k_is))) ?_) | ((with_reducible show wpAny _ _ (unaryOp UnaryOp.USub _) _ _ _); (rename St _ _ _ _ => hsX); refine negI hsX ?_; clear hsX; intro _ _ _) | ((with_reducible show wpAny _ _ (eval (Expr.Name _ _) (compEnvC _ _ _ _)) _ _ _); first | refine' nK (by assumption) (by assumption) (by assumption) ?_ | refine' nKC (by assumption) (by rfl) (by assumption) ?_) | ((with_reducible show wpAny _ _ (eval (Expr.Dict [] [] _) _) _ _ _); (rename St _ _ _ _ => hsX); refine' mkD hsX (by assumption) ?_; clear hsX; intro _ _ _ _ _) | ((with_reducible show wpAny _ _ (isTrue (Expr.Compare _ [_, _] [_, _] _) _ _) _ _ _); refine isTrue_chain ?_) | ((with_reducible show wpAny _ _ (testChain _ _ _ _) _ _ _); first | refine test_link ?_ | refine test_last ?_) | ((with_reducible show _ ∧ _); refine' and_g (by assumption) (by walk_at "gE") ?_) | ((with_reducible show wpAny _ _ (call (Value.type "range") [_]) _ _ _); (rename St _ _ _ _ => hsX); (refine rng1 hsX ?_); clear hsX; intro _ _ _ _ _ _) | ((with_reducible show wpAny _ _ (call (Value.type "range") [_, _]) _ _ _); (rename St _ _ _ _ => hsX); (refine rng2 hsX ?_); clear hsX; intro _ _ _ _ _)) | walk_at "S" | (first | ((with_reducible show wpAny _ _ (evalPart _ _) _ _ _); first | with_reducible refine part_none ?_ | with_reducible refine part_some ?_) | ((with_reducible show _ ∧ _); (rename St _ _ _ _ => hsX); (refine And.intro (by (try simp only [List.length_cons, List.length_nil]); decide) ⟨_, _, _, hsX, ?_⟩); clear hsX; intro _ _ _ _) | ((with_reducible show wpAny _ _ (getMethod (Value.ref _) (Str.ofString "append") _) _ _ _); refine' mApp (by assumption) (by (first | exact Or.inl ⟨_, by assumption⟩ | exact Or.inr (by walk_at "mem"))) ?_) | ((with_reducible show wpAny _ _ (getMethod (Value.ref _) (Str.ofString "pop") _) _ _ _); refine' mPop (by assumption) (by (first | exact Or.inl ⟨_, by assumption⟩ | exact Or.inr (by walk_at "mem"))) ?_)))
            all_goals (rename (List.any _ _) = _ => ha; rw [hany] at ha; exact ⟨by unfold canB; rw [ha]; simp [*], by assumption⟩)
          · clear hs
            rintro _ s ⟨rfl, hs⟩
            refine if_b (fun hc => ?_) (fun hc => ?_)
            · repeat' first | (first | ((with_reducible show wpAny _ _ (assign (Expr.Subscript _ _ _) _ _) _ _ _); refine asgS ?_) | ((with_reducible show wpAny _ _ (setItem (Value.ref _) (Value.int _ _) _) _ _ _); (rename St _ _ _ _ => hsX); refine' setD hsX (by walk_at "mem") (by omega) (by walk_at "up") ?_; clear hsX; intro _ _) | ((with_reducible show wpAny _ _ (subscriptTail _ _ _ _) _ _ _); refine' idxP' (by assumption) (by assumption) (by assumption) (by (first | exact Or.inl ⟨_, by assumption⟩ | exact Or.inr (by walk_at "mem"))) (by omega) (by omega) (by omega) ?_; intro _ _ _ _ _ _ _ _ _ _ _) | ((with_reducible show wpAny _ _ (subscriptTail _ _ _ (Value.int 0 _)) _ _ _); refine' idxT (j := 0) (by assumption) (by (first | exact Or.inl ⟨_, by assumption⟩ | exact Or.inr (by walk_at "mem"))) (by decide) (by decide) (by rfl) (by rfl) ?_) | ((with_reducible show wpAny _ _ (subscriptTail _ _ _ (Value.int 1 _)) _ _ _); refine' idxT (j := 1) (by assumption) (by (first | exact Or.inl ⟨_, by assumption⟩ | exact Or.inr (by walk_at "mem"))) (by decide) (by decide) (by rfl) (by rfl) ?_) | ((with_reducible show wpAny _ _ (subscriptTail _ _ _ _) _ _ _); (rename St _ _ _ _ => hsX); refine' getD' hsX (by (exact Or.inr (by walk_at "mem"))) (by assumption) ?_; clear hsX; intro _ _)) | (first | (first | ((with_reducible show wpAny _ _ (eval (Expr.Subscript _ (Expr.Slice none _ _ _) _) _) _ _ _); refine xSliceU ?_) | ((with_reducible show wpAny _ _ (callWith _ (Value.ref _) _ _ _) _ _ _); refine' cwF (by walk_at "gE") (by ((show keepIn (hd.heap_39 _) _ = _; k_is))) ?_) | ((with_reducible show wpAny _ _ (unaryOp UnaryOp.USub _) _ _ _); (rename St _ _ _ _ => hsX); refine negI hsX ?_; clear hsX; intro _ _ _) | ((with_reducible show wpAny _ _ (eval (Expr.Name _ _) (compEnvC _ _ _ _)) _ _ _); first | refine' nK (by assumption) (by assumption) (by assumption) ?_ | refine' nKC (by assumption) (by rfl) (by assumption) ?_) | ((with_reducible show wpAny _ _ (eval (Expr.Dict [] [] _) _) _ _ _); (rename St _ _ _ _ => hsX); refine' mkD hsX (by assumption) ?_; clear hsX; intro _ _ _ _ _) | ((with_reducible show wpAny _ _ (isTrue (Expr.Compare _ [_, _] [_, _] _) _ _) _ _ _); refine isTrue_chain ?_) | ((with_reducible show wpAny _ _ (testChain _ _ _ _) _ _ _); first | refine test_link ?_ | refine test_last ?_) | ((with_reducible show _ ∧ _); refine' and_g (by assumption) (by walk_at "gE") ?_) | ((with_reducible show wpAny _ _ (call (Value.type "range") [_]) _ _ _); (rename St _ _ _ _ => hsX); (refine rng1 hsX ?_); clear hsX; intro _ _ _ _ _ _) | ((with_reducible show wpAny _ _ (call (Value.type "range") [_, _]) _ _ _); (rename St _ _ _ _ => hsX); (refine rng2 hsX ?_); clear hsX; intro _ _ _ _ _)) | walk_at "S" | (first | ((with_reducible show wpAny _ _ (evalPart _ _) _ _ _); first | with_reducible refine part_none ?_ | with_reducible refine part_some ?_) | ((with_reducible show _ ∧ _); (rename St _ _ _ _ => hsX); (refine And.intro (by (try simp only [List.length_cons, List.length_nil]); decide) ⟨_, _, _, hsX, ?_⟩); clear hsX; intro _ _ _ _) | ((with_reducible show wpAny _ _ (getMethod (Value.ref _) (Str.ofString "append") _) _ _ _); refine' mApp (by assumption) (by (first | exact Or.inl ⟨_, by assumption⟩ | exact Or.inr (by walk_at "mem"))) ?_) | ((with_reducible show wpAny _ _ (getMethod (Value.ref _) (Str.ofString "pop") _) _ _ _); refine' mPop (by assumption) (by (first | exact Or.inl ⟨_, by assumption⟩ | exact Or.inr (by walk_at "mem"))) ?_)))
              rename St _ _ _ _ => hs
              refine appL hs (by walk_at "mem") (by walk_at "up") hz1 fun s' hs => ⟨rfl, ?_⟩
              refine xNil ?_
              exact ⟨_, ints_more (by omega) hc hi1, hs⟩
            · refine xNil ?_
              exact ⟨_, ints_same hc hi1, hs⟩
        clear hs
        rintro s ⟨us1', hi1', hs⟩
        refine xIfP (fun s => ∃ us, IntsAre us (nI ((List.range' (b + 1) (k + 1)).filter (canB ps W1 b))) ∧ St s₀ Ik ((it2, EqO o2) :: (a2, LsO us) :: (a1, LsO us1') :: (it, EqO o) :: (O, DiO (updI f2 b (.ref a2)) (i + 1)) :: (F, DiO (updI f1 b (.ref a1)) (i + 1)) :: (L, NsO m2) ::
            (c1, CeO (some (.int b tb))) :: (c2, CeO (some (.int ((b : Int) + 1 + k) t'))) :: W) s) ?_ ?_
        · refine tP (fun bb s => bb = canB ps W1 b (b + 1 + k) ∧ St s₀ Ik ((it2, EqO o2) :: (a2, LsO us2) :: (a1, LsO us1') :: (it, EqO o) :: (O, DiO (updI f2 b (.ref a2)) (i + 1)) :: (F, DiO (updI f1 b (.ref a1)) (i + 1)) :: (L, NsO m2) ::
            (c1, CeO (some (.int b tb))) :: (c2, CeO (some (.int ((b : Int) + 1 + k) t'))) :: W) s) ?_ ?_
          · repeat' first | (first | ((with_reducible show wpAny _ _ (assign (Expr.Subscript _ _ _) _ _) _ _ _); refine asgS ?_) | ((with_reducible show wpAny _ _ (setItem (Value.ref _) (Value.int _ _) _) _ _ _); (rename St _ _ _ _ => hsX); refine' setD hsX (by walk_at "mem") (by omega) (by walk_at "up") ?_; clear hsX; intro _ _) | ((with_reducible show wpAny _ _ (subscriptTail _ _ _ _) _ _ _); refine' idxP' (by assumption) (by assumption) (by assumption) (by (first | exact Or.inl ⟨_, by assumption⟩ | exact Or.inr (by walk_at "mem"))) (by omega) (by omega) (by omega) ?_; intro _ _ _ _ _ _ _ _ _ _ _) | ((with_reducible show wpAny _ _ (subscriptTail _ _ _ (Value.int 0 _)) _ _ _); refine' idxT (j := 0) (by assumption) (by (first | exact Or.inl ⟨_, by assumption⟩ | exact Or.inr (by walk_at "mem"))) (by decide) (by decide) (by rfl) (by rfl) ?_) | ((with_reducible show wpAny _ _ (subscriptTail _ _ _ (Value.int 1 _)) _ _ _); refine' idxT (j := 1) (by assumption) (by (first | exact Or.inl ⟨_, by assumption⟩ | exact Or.inr (by walk_at "mem"))) (by decide) (by decide) (by rfl) (by rfl) ?_) | ((with_reducible show wpAny _ _ (subscriptTail _ _ _ _) _ _ _); (rename St _ _ _ _ => hsX); refine' getD' hsX (by (exact Or.inr (by walk_at "mem"))) (by assumption) ?_; clear hsX; intro _ _)) | (first | (first | ((with_reducible show wpAny _ _ (eval (Expr.Subscript _ (Expr.Slice none _ _ _) _) _) _ _ _); refine xSliceU ?_) | ((with_reducible show wpAny _ _ (callWith _ (Value.ref _) _ _ _) _ _ _); refine' cwF (by walk_at "gE") (by ((show keepIn (hd.heap_39 _) _ = _; k_is))) ?_) | ((with_reducible show wpAny _ _ (unaryOp UnaryOp.USub _) _ _ _); (rename St _ _ _ _ => hsX); refine negI hsX ?_; clear hsX; intro _ _ _) | ((with_reducible show wpAny _ _ (eval (Expr.Name _ _) (compEnvC _ _ _ _)) _ _ _); first | refine' nK (by assumption) (by assumption) (by assumption) ?_ | refine' nKC (by assumption) (by rfl) (by assumption) ?_) | ((with_reducible show wpAny _ _ (eval (Expr.Dict [] [] _) _) _ _ _); (rename St _ _ _ _ => hsX); refine' mkD hsX (by assumption) ?_; clear hsX; intro _ _ _ _ _) | ((with_reducible show wpAny _ _ (isTrue (Expr.Compare _ [_, _] [_, _] _) _ _) _ _ _); refine isTrue_chain ?_) | ((with_reducible show wpAny _ _ (testChain _ _ _ _) _ _ _); first | refine test_link ?_ | refine test_last ?_) | ((with_reducible show _ ∧ _); refine' and_g (by assumption) (by walk_at "gE") ?_) | ((with_reducible show wpAny _ _ (call (Value.type "range") [_]) _ _ _); (rename St _ _ _ _ => hsX); (refine rng1 hsX ?_); clear hsX; intro _ _ _ _ _ _) | ((with_reducible show wpAny _ _ (call (Value.type "range") [_, _]) _ _ _); (rename St _ _ _ _ => hsX); (refine rng2 hsX ?_); clear hsX; intro _ _ _ _ _)) | walk_at "S" | (first | ((with_reducible show wpAny _ _ (evalPart _ _) _ _ _); first | with_reducible refine part_none ?_ | with_reducible refine part_some ?_) | ((with_reducible show _ ∧ _); (rename St _ _ _ _ => hsX); (refine And.intro (by (try simp only [List.length_cons, List.length_nil]); decide) ⟨_, _, _, hsX, ?_⟩); clear hsX; intro _ _ _ _) | ((with_reducible show wpAny _ _ (getMethod (Value.ref _) (Str.ofString "append") _) _ _ _); refine' mApp (by assumption) (by (first | exact Or.inl ⟨_, by assumption⟩ | exact Or.inr (by walk_at "mem"))) ?_) | ((with_reducible show wpAny _ _ (getMethod (Value.ref _) (Str.ofString "pop") _) _ _ _); refine' mPop (by assumption) (by (first | exact Or.inl ⟨_, by assumption⟩ | exact Or.inr (by walk_at "mem"))) ?_)))
            all_goals (rename (List.any _ _) = _ => ha; rw [hany] at ha; exact ⟨by unfold canB; rw [ha]; simp [*], by assumption⟩)
          · clear hs
            rintro _ s ⟨rfl, hs⟩
            refine if_b (fun hc => ?_) (fun hc => ?_)
            · repeat' first | (first | ((with_reducible show wpAny _ _ (assign (Expr.Subscript _ _ _) _ _) _ _ _); refine asgS ?_) | ((with_reducible show wpAny _ _ (setItem (Value.ref _) (Value.int _ _) _) _ _ _); (rename St _ _ _ _ => hsX); refine' setD hsX (by walk_at "mem") (by omega) (by walk_at "up") ?_; clear hsX; intro _ _) | ((with_reducible show wpAny _ _ (subscriptTail _ _ _ _) _ _ _); refine' idxP' (by assumption) (by assumption) (by assumption) (by (first | exact Or.inl ⟨_, by assumption⟩ | exact Or.inr (by walk_at "mem"))) (by omega) (by omega) (by omega) ?_; intro _ _ _ _ _ _ _ _ _ _ _) | ((with_reducible show wpAny _ _ (subscriptTail _ _ _ (Value.int 0 _)) _ _ _); refine' idxT (j := 0) (by assumption) (by (first | exact Or.inl ⟨_, by assumption⟩ | exact Or.inr (by walk_at "mem"))) (by decide) (by decide) (by rfl) (by rfl) ?_) | ((with_reducible show wpAny _ _ (subscriptTail _ _ _ (Value.int 1 _)) _ _ _); refine' idxT (j := 1) (by assumption) (by (first | exact Or.inl ⟨_, by assumption⟩ | exact Or.inr (by walk_at "mem"))) (by decide) (by decide) (by rfl) (by rfl) ?_) | ((with_reducible show wpAny _ _ (subscriptTail _ _ _ _) _ _ _); (rename St _ _ _ _ => hsX); refine' getD' hsX (by (exact Or.inr (by walk_at "mem"))) (by assumption) ?_; clear hsX; intro _ _)) | (first | (first | ((with_reducible show wpAny _ _ (eval (Expr.Subscript _ (Expr.Slice none _ _ _) _) _) _ _ _); refine xSliceU ?_) | ((with_reducible show wpAny _ _ (callWith _ (Value.ref _) _ _ _) _ _ _); refine' cwF (by walk_at "gE") (by ((show keepIn (hd.heap_39 _) _ = _; k_is))) ?_) | ((with_reducible show wpAny _ _ (unaryOp UnaryOp.USub _) _ _ _); (rename St _ _ _ _ => hsX); refine negI hsX ?_; clear hsX; intro _ _ _) | ((with_reducible show wpAny _ _ (eval (Expr.Name _ _) (compEnvC _ _ _ _)) _ _ _); first | refine' nK (by assumption) (by assumption) (by assumption) ?_ | refine' nKC (by assumption) (by rfl) (by assumption) ?_) | ((with_reducible show wpAny _ _ (eval (Expr.Dict [] [] _) _) _ _ _); (rename St _ _ _ _ => hsX); refine' mkD hsX (by assumption) ?_; clear hsX; intro _ _ _ _ _) | ((with_reducible show wpAny _ _ (isTrue (Expr.Compare _ [_, _] [_, _] _) _ _) _ _ _); refine isTrue_chain ?_) | ((with_reducible show wpAny _ _ (testChain _ _ _ _) _ _ _); first | refine test_link ?_ | refine test_last ?_) | ((with_reducible show _ ∧ _); refine' and_g (by assumption) (by walk_at "gE") ?_) | ((with_reducible show wpAny _ _ (call (Value.type "range") [_]) _ _ _); (rename St _ _ _ _ => hsX); (refine rng1 hsX ?_); clear hsX; intro _ _ _ _ _ _) | ((with_reducible show wpAny _ _ (call (Value.type "range") [_, _]) _ _ _); (rename St _ _ _ _ => hsX); (refine rng2 hsX ?_); clear hsX; intro _ _ _ _ _)) | walk_at "S" | (first | ((with_reducible show wpAny _ _ (evalPart _ _) _ _ _); first | with_reducible refine part_none ?_ | with_reducible refine part_some ?_) | ((with_reducible show _ ∧ _); (rename St _ _ _ _ => hsX); (refine And.intro (by (try simp only [List.length_cons, List.length_nil]); decide) ⟨_, _, _, hsX, ?_⟩); clear hsX; intro _ _ _ _) | ((with_reducible show wpAny _ _ (getMethod (Value.ref _) (Str.ofString "append") _) _ _ _); refine' mApp (by assumption) (by (first | exact Or.inl ⟨_, by assumption⟩ | exact Or.inr (by walk_at "mem"))) ?_) | ((with_reducible show wpAny _ _ (getMethod (Value.ref _) (Str.ofString "pop") _) _ _ _); refine' mPop (by assumption) (by (first | exact Or.inl ⟨_, by assumption⟩ | exact Or.inr (by walk_at "mem"))) ?_)))
              rename St _ _ _ _ => hs
              refine appL hs (by walk_at "mem") (by walk_at "up") hz2 fun s' hs => ⟨rfl, ?_⟩
              refine xNil ?_
              exact ⟨_, ints_more (by omega) hc hi2, hs⟩
            · refine xNil ?_
              exact ⟨_, ints_same hc hi2, hs⟩
        clear hs
        rintro s ⟨us2', hi2', hs⟩
        repeat' first | (first | ((with_reducible show wpAny _ _ (assign (Expr.Subscript _ _ _) _ _) _ _ _); refine asgS ?_) | ((with_reducible show wpAny _ _ (setItem (Value.ref _) (Value.int _ _) _) _ _ _); (rename St _ _ _ _ => hsX); refine' setD hsX (by walk_at "mem") (by omega) (by walk_at "up") ?_; clear hsX; intro _ _) | ((with_reducible show wpAny _ _ (subscriptTail _ _ _ _) _ _ _); refine' idxP' (by assumption) (by assumption) (by assumption) (by (first | exact Or.inl ⟨_, by assumption⟩ | exact Or.inr (by walk_at "mem"))) (by omega) (by omega) (by omega) ?_; intro _ _ _ _ _ _ _ _ _ _ _) | ((with_reducible show wpAny _ _ (subscriptTail _ _ _ (Value.int 0 _)) _ _ _); refine' idxT (j := 0) (by assumption) (by (first | exact Or.inl ⟨_, by assumption⟩ | exact Or.inr (by walk_at "mem"))) (by decide) (by decide) (by rfl) (by rfl) ?_) | ((with_reducible show wpAny _ _ (subscriptTail _ _ _ (Value.int 1 _)) _ _ _); refine' idxT (j := 1) (by assumption) (by (first | exact Or.inl ⟨_, by assumption⟩ | exact Or.inr (by walk_at "mem"))) (by decide) (by decide) (by rfl) (by rfl) ?_) | ((with_reducible show wpAny _ _ (subscriptTail _ _ _ _) _ _ _); (rename St _ _ _ _ => hsX); refine' getD' hsX (by (exact Or.inr (by walk_at "mem"))) (by assumption) ?_; clear hsX; intro _ _)) | (first | (first | ((with_reducible show wpAny _ _ (eval (Expr.Subscript _ (Expr.Slice none _ _ _) _) _) _ _ _); refine xSliceU ?_) | ((with_reducible show wpAny _ _ (callWith _ (Value.ref _) _ _ _) _ _ _); refine' cwF (by walk_at "gE") (by ((show keepIn (hd.heap_39 _) _ = _; k_is))) ?_) | ((with_reducible show wpAny _ _ (unaryOp UnaryOp.USub _) _ _ _); (rename St _ _ _ _ => hsX); refine negI hsX ?_; clear hsX; intro _ _ _) | ((with_reducible show wpAny _ _ (eval (Expr.Name _ _) (compEnvC _ _ _ _)) _ _ _); first | refine' nK (by assumption) (by assumption) (by assumption) ?_ | refine' nKC (by assumption) (by rfl) (by assumption) ?_) | ((with_reducible show wpAny _ _ (eval (Expr.Dict [] [] _) _) _ _ _); (rename St _ _ _ _ => hsX); refine' mkD hsX (by assumption) ?_; clear hsX; intro _ _ _ _ _) | ((with_reducible show wpAny _ _ (isTrue (Expr.Compare _ [_, _] [_, _] _) _ _) _ _ _); refine isTrue_chain ?_) | ((with_reducible show wpAny _ _ (testChain _ _ _ _) _ _ _); first | refine test_link ?_ | refine test_last ?_) | ((with_reducible show _ ∧ _); refine' and_g (by assumption) (by walk_at "gE") ?_) | ((with_reducible show wpAny _ _ (call (Value.type "range") [_]) _ _ _); (rename St _ _ _ _ => hsX); (refine rng1 hsX ?_); clear hsX; intro _ _ _ _ _ _) | ((with_reducible show wpAny _ _ (call (Value.type "range") [_, _]) _ _ _); (rename St _ _ _ _ => hsX); (refine rng2 hsX ?_); clear hsX; intro _ _ _ _ _)) | walk_at "S" | (first | ((with_reducible show wpAny _ _ (evalPart _ _) _ _ _); first | with_reducible refine part_none ?_ | with_reducible refine part_some ?_) | ((with_reducible show _ ∧ _); (rename St _ _ _ _ => hsX); (refine And.intro (by (try simp only [List.length_cons, List.length_nil]); decide) ⟨_, _, _, hsX, ?_⟩); clear hsX; intro _ _ _ _) | ((with_reducible show wpAny _ _ (getMethod (Value.ref _) (Str.ofString "append") _) _ _ _); refine' mApp (by assumption) (by (first | exact Or.inl ⟨_, by assumption⟩ | exact Or.inr (by walk_at "mem"))) ?_) | ((with_reducible show wpAny _ _ (getMethod (Value.ref _) (Str.ofString "pop") _) _ _ _); refine' mPop (by assumption) (by (first | exact Or.inl ⟨_, by assumption⟩ | exact Or.inr (by walk_at "mem"))) ?_)))
        rename St _ _ _ _ => hs
        exact Turn.next hs (by walk_at "rem") ⟨rfl, _, _, _, us1', us2', _, rfl, ⟨by walk_at "lk", by walk_at "lk", by walk_at "lk", by walk_at "lk", by walk_at "lk", by walk_at "lk"⟩, by walk_at "lk",
          by rw [show ((b : Int) + 1 + k - 1).toNat = b + k by omega]; exact sm_step, hi1', hi2'⟩
end

/-! # part D6 -/
/-- a state as data -/
def stD (p : Nat × Nat) : PyData := .tuple [.int p.1, .int p.2]
theorem can_st : ∀ st : List (Nat × Nat), PyData.canLayAll0 (st.map stD) = true
  | [] => rfl
  | _ :: r => by show (true && PyData.canLayAll0 (r.map stD)) = true; rw [can_st r]; rfl
theorem dep_st : ∀ st : List (Nat × Nat), PyData.depthAll (st.map stD) ≤ 1
  | [] => by decide
  | p :: r => by
    have h := dep_st r
    show max (PyData.depth (stD p)) (PyData.depthAll (r.map stD)) ≤ 1
    have : PyData.depth (stD p) = 1 := rfl
    omega
theorem sh_st (st : List (Nat × Nat)) : PySem.SeqAt.shaped (.list (st.map stD)) = true := by
  show (PyData.canLayAll0 (st.map stD) && decide (PyData.depthAll (st.map stD) + 1 ≤ 64)) = true
  have h := dep_st st
  rw [can_st, decide_eq_true (by omega)]; rfl
section
variable {prog : Program} {w : World} {A : Around} {E : Value → Shared → Prop} {s s₀ : Shared} {I : Kn} {W W' : Own} {env : Env} {a : Addr} {vs : List Value} {pos : Pos}
theorem neNilD {ds : List PyData} {Q : Value → Shared → Prop} (hs : St s₀ I W s) (hr : Rm A 0) (ha : HasL I W a vs) (ra : RpA I vs ds) (h1 : PySem.SeqAt.shaped (.list ds) = true) (h : ∀ s', St s₀ I W s' → Q (.bool (decide (ds ≠ []))) s') :
    wpAny (model prog w) A (eval (.List [] pos) env) (fun y s₁ => wpAny (model prog w) A (compareOp .NotEq (.ref a) y) Q E s₁) E s := by
  refine mkL (wpAny_items_nil ⟨by decide, _, _, _, hs, fun c s' _ hs' => ?_⟩)
  refine neLL (es := []) hs' hr (ha.imp id (.tail _)) ra (.inr (.head _)) .nil h1 rfl (by cases ds <;> rfl) ?_
  rw [show Spec.same (.list ds) (.list []) = decide (ds = []) from same_dec ⟨fun e => by injection e, fun e => by rw [e]⟩]
  rw [show (!decide (ds = [])) = decide (ds ≠ []) from by by_cases e : ds = [] <;> simp [e]]
  exact h _ (hs'.rem .head)
theorem rpa_snoc {ds : List PyData} {d : PyData} (h : RpA I vs (ds ++ [d])) : Ex2 fun us v => All3 (vs = us ++ [v]) (RpA I us ds) (Rp I v d) := by
  induction ds generalizing vs with
  | nil => cases h with | cons r r' => cases r' with | nil => exact ⟨[], _, rfl, .nil, r⟩
  | cons x xs ih =>
    cases h with
    | cons r r' =>
      obtain ⟨us, v, e, r1, r2⟩ := ih r'
      exact ⟨_ :: us, v, by rw [e]; rfl, .cons r r1, r2⟩
theorem stInv {v : Value} {p : Nat × Nat} (h : Rp I v (stD p)) : Ex4 fun a n t u => v = .ref a ∧ I a = some { cls := .type "tuple", data := .seq [Value.int p.1 t, .int p.2 u].toArray n } := by
  obtain ⟨a, vs, n, rfl, e, r⟩ := h.tupInv
  cases r with | cons r1 r => cases r with | cons r2 r => cases r with | nil =>
    obtain ⟨t, rfl⟩ := r1.intInv
    obtain ⟨u, rfl⟩ := r2.intInv
    exact ⟨a, n, t, u, rfl, e⟩
end
/-- what the walk over all roads keeps -/
structure AllI (ps : List Piece) (W0 W1 : Int) (st : List (Nat × Nat)) (f : Int → Option Value) (lst : Int) : Prop where
  snd : ∀ p ∈ st, Rch ps W0 W1 p.2 p.1
  cov : ∀ k a, Rch ps W0 W1 k a → (Ex2 fun v t => All3 (f ((k : Nat) : Int) = some (.int ((v : Nat) : Int) t)) (a ≤ v) ((a = ps.length → lst ≤ k))) ∨ ∃ p ∈ st, Desc ps W0 W1 p.1 p.2 a k
  val : ∀ k x, f k = some x → Ex3 fun (v j : Nat) (t : Tok) => All3 (k = j) (x = .int (v : Int) t) (Rch ps W0 W1 j v)
  lsd : lst = ps.length + 1 ∨ ∃ k : Nat, lst = k ∧ Rch ps W0 W1 k ps.length
theorem AllI.init {ps : List Piece} {W0 W1 : Int} : AllI ps W0 W1 [(0, 0)] (fun _ => none) (ps.length + 1) :=
  ⟨fun p hp => by rw [List.mem_singleton.mp hp]; exact .refl _ _, fun k a h => .inr ⟨_, .head _, h⟩, fun k x h => (nomatch h), .inl rfl⟩
theorem AllI.cur {ps : List Piece} {W0 W1 : Int} {st : List (Nat × Nat)} {f : Int → Option Value} {lst : Int} (A : AllI ps W0 W1 st f lst) (k : Nat) : ∃ c : Nat, All3 ((∀ t0, ∃ t, (f (k : Int)).getD (.int 0 t0) = .int (c : Int) t)) ((∀ v t, f (k : Int) = some (.int v t) → v = c)) ((c = 0 ∨ Rch ps W0 W1 k c)) := by
  cases e : f (k : Int) with
  | none => exact ⟨0, fun t0 => ⟨t0, rfl⟩, fun v t h => (nomatch h), .inl rfl⟩
  | some x =>
    obtain ⟨v, j, t, hj, rfl, hr⟩ := A.val _ _ e
    have : j = k := by omega
    subst this
    exact ⟨v, fun t0 => ⟨t, rfl⟩, fun v' t' h => by cases h; rfl, .inr hr⟩
theorem AllI.step {ps : List Piece} {W0 W1 : Int} {st : List (Nat × Nat)} {f : Int → Option Value} {lst : Int} {a k c : Nat} {t : Tok} (A : AllI ps W0 W1 (st ++ [(a, k)]) f lst) (hc1 : ∀ v t, f (k : Int) = some (.int v t) → v = c) (hc2 : c = 0 ∨ Rch ps W0 W1 k c) :
    (a = ps.length → AllI ps W0 W1 st (updI f k (.int (max (a : Int) c) t)) (min lst k)) ∧ (a ≠ ps.length → AllI ps W0 W1 (st ++ (succs ps (rm W0 W1 k) a).map fun e => (e, k + 1)) (updI f k (.int (max (a : Int) c) t)) lst) := by
  have ra : Rch ps W0 W1 k a := A.snd (a, k) (by simp)
  have hmax : max (a : Int) (c : Int) = ((max a c : Nat) : Int) := by omega
  have rmax : Rch ps W0 W1 k (max a c) := by
    rcases hc2 with rfl | hc2
    · rw [Nat.max_zero]; exact ra
    · rcases Nat.le_total a c with q | q
      · rw [Nat.max_eq_right q]; exact hc2
      · rw [Nat.max_eq_left q]; exact ra
  rw [hmax]
  have hval : ∀ (lst' : Int) k' x, updI f k (.int ((max a c : Nat) : Int) t) k' = some x → Ex3 fun (v j : Nat) (t : Tok) => All3 (k' = j) (x = .int (v : Int) t) (Rch ps W0 W1 j v) := fun _ k' x e => by
    by_cases q : k' = k
    · subst q
      rw [updI_same] at e; cases e
      exact ⟨_, k, t, rfl, rfl, rmax⟩
    · rw [updI_ne q] at e; exact A.val _ _ e
  have hold : ∀ (lst' : Int), lst' ≤ lst → ∀ (j x : Nat), (Ex2 fun (v : Nat) (t : Tok) => All3 (f (j : Int) = some (.int (v : Int) t)) (x ≤ v) ((x = ps.length → lst ≤ j))) → Ex2 fun (v : Nat) (t' : Tok) => All3 (updI f k (.int ((max a c : Nat) : Int) t) (j : Int) = some (.int (v : Int) t')) (x ≤ v) ((x = ps.length → lst' ≤ j)) := by
    rintro lst' hl j x ⟨v, tv, e, h1, h2⟩
    by_cases q : (j : Int) = k
    · have : j = k := by omega
      subst this
      have hv := hc1 _ _ e
      exact ⟨_, _, updI_same, by omega, fun q => Int.le_trans hl (h2 q)⟩
    · exact ⟨v, tv, (updI_ne q).trans e, h1, fun q => Int.le_trans hl (h2 q)⟩
  constructor
  · intro han
    refine ⟨fun p hp => A.snd p (by simp [hp]), fun j x hx => ?_, hval 0, ?_⟩
    · rcases A.cov j x hx with h | ⟨p, hp, d⟩
      · exact .inl (hold _ (by omega) j x h)
      · rcases List.mem_append.mp hp with hp | hp
        · exact .inr ⟨p, hp, d⟩
        · rw [List.mem_singleton.mp hp] at d
          cases d with
          | refl => exact .inl ⟨_, _, updI_same, by omega, fun _ => by omega⟩
          | step c' d' => have h1 := c'.1; have h2 := c'.2.1; subst han; omega
    · by_cases q : lst ≤ k
      · rw [show min lst (k : Int) = lst by omega]; exact A.lsd
      · rw [show min lst (k : Int) = k by omega]; exact .inr ⟨k, rfl, han ▸ ra⟩
  · intro han
    refine ⟨fun p hp => ?_, fun j x hx => ?_, hval 0, A.lsd⟩
    · rcases List.mem_append.mp hp with hp | hp
      · exact A.snd p (by simp [hp])
      · obtain ⟨e, he, rfl⟩ := List.mem_map.mp hp
        exact Desc.snoc ra (mem_succs.mp he)
    · rcases A.cov j x hx with h | ⟨p, hp, d⟩
      · exact .inl (hold _ (Int.le_refl _) j x h)
      · rcases List.mem_append.mp hp with hp | hp
        · exact .inr ⟨p, List.mem_append_left _ hp, d⟩
        · rw [List.mem_singleton.mp hp] at d
          cases d with
          | refl => exact .inl ⟨_, _, updI_same, by omega, fun q => absurd q han⟩
          | step c' d' => exact .inr ⟨_, List.mem_append_right _ (List.mem_map.mpr ⟨_, mem_succs.mpr c', rfl⟩), d'⟩
section
variable {w : World} {A : Around} {E : Value → Shared → Prop} {s s₀ : Shared} {I : Kn} {W : Own} {Q : Value → Shared → Prop} {t u : Tok}
theorem c_all {ps : List Piece} {due : Value} {F O : Addr} {f1 f2 : Int → Option Value} {W0 W1 : Int} (g : G0 w I) (r : Rm A 1) (hs : St s₀ I W s) (hd : Rp I due (.list (ps.map pcD))) (hn : ps.length ≤ 8) (hn0 : 0 < ps.length)
    (hF : ∃ o, I F = some o ∧ DiO f1 1000 o) (hO : ∃ o, I O = some o ∧ DiO f2 1000 o) (hb : ∀ b ∈ begins ps, Lk I f1 b (succs ps W0 b) ∧ Lk I f2 b (succs ps W1 b))
    (h : ∀ J T D f lst tl s', Kn.le I J → (∃ n, J T = some { cls := .type "tuple", data := .seq [Value.ref D, Value.int lst tl].toArray n }) → (D == sysModules) = false → (∃ o, J D = some o ∧ DiO f 1000 o) → (∀ k a, Rch ps W0 W1 k a → Ex2 fun v t => All4 (f ((k : Nat) : Int) = some (.int ((v : Nat) : Int) t)) (a ≤ v) (Rch ps W0 W1 k v) ((a = ps.length → lst ≤ k))) →
      (lst = ps.length + 1 ∨ ∃ k : Nat, lst = k ∧ Rch ps W0 W1 k ps.length) → St s₀ J W s' → Q (.ref T) s') :
    wpAny (model PROG w) A (call (.ref 103) [due, .ref F, .ref O]) Q E s := by
  refine xCall (n := 0) g r hs (by k_is) (by k_is) rfl (locs rfl) (by decide) ?_
  clear hs r
  intro A' L s' m hm hs r'
  have h1 : m "due" = some due := by rw [hm]; rfl
  have h2 : m "firsts" = some (.ref F) := by rw [hm]; rfl
  have h3 : m "others" = some (.ref O) := by rw [hm]; rfl
  clear hm
  have hI : Ex2 fun b o => I b = some o ∧ 1 ≤ b := ⟨103, _, g.at' (by k_is), by decide⟩
  refine xAssignSw3 (x := "furthest") (y := "least") (z := "waiting") r' ?_ rfl rfl
  obtain ⟨da, dvs, dn, rfl, ed, rd⟩ := hd.listInv
  have hdl : dvs.length = ps.length := by have := rd.length; rwa [List.length_map] at this
  refine eP ?Pa ?ha ?ka
  case Pa => exact fun v s => Ex7 fun T D WA wvs J lst tl => All6 (v = .ref T) (Kn.le I J) ((D == sysModules) = false) (lst = (ps.length : Int) + 1) (RpA J wvs ([(0, 0)].map stD)) (St s₀ J ((T, TuO [.ref D, .int lst tl, .ref WA]) :: (WA, LsO wvs) :: (D, DiO (fun _ => none) 0) :: (L, NsO m) :: W) s)
  · repeat' first | (first | ((with_reducible show wpAny _ _ (eval (Expr.Tuple [Expr.Constant _ _ _, _] _ _) _) _ _ _); refine mkTR ?_) | ((with_reducible show wpAny _ _ (eval (Expr.Tuple [Expr.Name _ _, Expr.BinOp _ _ _ _] _ _) _) _ _ _); refine mkTR ?_) | ((with_reducible show _ ∧ _); (rename St _ _ _ _ => hsX); refine' fin_disp (by (simp [sizeLine])) hsX (by walk_at "rpa") ?_; clear hsX; intro _ _ _ _ _ _)) | (first | ((with_reducible show wpAny _ _ (assign (Expr.Subscript _ _ _) _ _) _ _ _); refine asgS ?_) | ((with_reducible show wpAny _ _ (setItem (Value.ref _) (Value.int _ _) _) _ _ _); (rename St _ _ _ _ => hsX); refine' setD hsX (by walk_at "mem") (by omega) (by walk_at "up") ?_; clear hsX; intro _ _) | ((with_reducible show wpAny _ _ (subscriptTail _ _ _ _) _ _ _); refine' idxP' (by assumption) (by assumption) (by assumption) (by (first | exact Or.inl ⟨_, by assumption⟩ | exact Or.inr (by walk_at "mem"))) (by omega) (by omega) (by omega) ?_; intro _ _ _ _ _ _ _ _ _ _ _) | ((with_reducible show wpAny _ _ (subscriptTail _ _ _ (Value.int 0 _)) _ _ _); refine' idxT (j := 0) (by assumption) (by (first | exact Or.inl ⟨_, by assumption⟩ | exact Or.inr (by walk_at "mem"))) (by decide) (by decide) (by rfl) (by rfl) ?_) | ((with_reducible show wpAny _ _ (subscriptTail _ _ _ (Value.int 1 _)) _ _ _); refine' idxT (j := 1) (by assumption) (by (first | exact Or.inl ⟨_, by assumption⟩ | exact Or.inr (by walk_at "mem"))) (by decide) (by decide) (by rfl) (by rfl) ?_) | ((with_reducible show wpAny _ _ (subscriptTail _ _ _ _) _ _ _); (rename St _ _ _ _ => hsX); refine' getD' hsX (by (exact Or.inr (by walk_at "mem"))) (by assumption) ?_; clear hsX; intro _ _)) | (first | (first | ((with_reducible show wpAny _ _ (eval (Expr.Subscript _ (Expr.Slice none _ _ _) _) _) _ _ _); refine xSliceU ?_) | ((with_reducible show wpAny _ _ (callWith _ (Value.ref _) _ _ _) _ _ _); refine' cwF (by walk_at "gE") (by ((show keepIn (hd.heap_39 _) _ = _; k_is))) ?_) | ((with_reducible show wpAny _ _ (unaryOp UnaryOp.USub _) _ _ _); (rename St _ _ _ _ => hsX); refine negI hsX ?_; clear hsX; intro _ _ _) | ((with_reducible show wpAny _ _ (eval (Expr.Name _ _) (compEnvC _ _ _ _)) _ _ _); first | refine' nK (by assumption) (by assumption) (by assumption) ?_ | refine' nKC (by assumption) (by rfl) (by assumption) ?_) | ((with_reducible show wpAny _ _ (eval (Expr.Dict [] [] _) _) _ _ _); (rename St _ _ _ _ => hsX); refine' mkD hsX (by assumption) ?_; clear hsX; intro _ _ _ _ _) | ((with_reducible show wpAny _ _ (isTrue (Expr.Compare _ [_, _] [_, _] _) _ _) _ _ _); refine isTrue_chain ?_) | ((with_reducible show wpAny _ _ (testChain _ _ _ _) _ _ _); first | refine test_link ?_ | refine test_last ?_) | ((with_reducible show _ ∧ _); refine' and_g (by assumption) (by walk_at "gE") ?_) | ((with_reducible show wpAny _ _ (call (Value.type "range") [_]) _ _ _); (rename St _ _ _ _ => hsX); (refine rng1 hsX ?_); clear hsX; intro _ _ _ _ _ _) | ((with_reducible show wpAny _ _ (call (Value.type "range") [_, _]) _ _ _); (rename St _ _ _ _ => hsX); (refine rng2 hsX ?_); clear hsX; intro _ _ _ _ _)) | walk_at "S" | (first | ((with_reducible show wpAny _ _ (evalPart _ _) _ _ _); first | with_reducible refine part_none ?_ | with_reducible refine part_some ?_) | ((with_reducible show _ ∧ _); (rename St _ _ _ _ => hsX); (refine And.intro (by (try simp only [List.length_cons, List.length_nil]); decide) ⟨_, _, _, hsX, ?_⟩); clear hsX; intro _ _ _ _) | ((with_reducible show wpAny _ _ (getMethod (Value.ref _) (Str.ofString "append") _) _ _ _); refine' mApp (by assumption) (by (first | exact Or.inl ⟨_, by assumption⟩ | exact Or.inr (by walk_at "mem"))) ?_) | ((with_reducible show wpAny _ _ (getMethod (Value.ref _) (Str.ofString "pop") _) _ _ _); refine' mPop (by assumption) (by (first | exact Or.inl ⟨_, by assumption⟩ | exact Or.inr (by walk_at "mem"))) ?_)))
    rename St _ _ _ _ => hs
    exact ⟨_, _, _, _, _, _, _, rfl, by assumption, by assumption, by omega, .cons (by assumption) .nil, hs⟩
  clear hs
  rintro _ s ⟨T, D, WA, wvs, J, lst, tl, rfl, hle, hsD, hlst, hw, hs⟩
  refine ⟨T, .ref D, .int lst tl, .ref WA, _, _, _, rfl, hs, .inr (.head _), fun s' hs => ?_⟩
  replace hs := hs.rem .head
  repeat' first | (first | ((with_reducible show wpAny _ _ (eval (Expr.Tuple [Expr.Constant _ _ _, _] _ _) _) _ _ _); refine mkTR ?_) | ((with_reducible show wpAny _ _ (eval (Expr.Tuple [Expr.Name _ _, Expr.BinOp _ _ _ _] _ _) _) _ _ _); refine mkTR ?_) | ((with_reducible show _ ∧ _); (rename St _ _ _ _ => hsX); refine' fin_disp (by (simp [sizeLine])) hsX (by walk_at "rpa") ?_; clear hsX; intro _ _ _ _ _ _)) | (first | ((with_reducible show wpAny _ _ (assign (Expr.Subscript _ _ _) _ _) _ _ _); refine asgS ?_) | ((with_reducible show wpAny _ _ (setItem (Value.ref _) (Value.int _ _) _) _ _ _); (rename St _ _ _ _ => hsX); refine' setD hsX (by walk_at "mem") (by omega) (by walk_at "up") ?_; clear hsX; intro _ _) | ((with_reducible show wpAny _ _ (subscriptTail _ _ _ _) _ _ _); refine' idxP' (by assumption) (by assumption) (by assumption) (by (first | exact Or.inl ⟨_, by assumption⟩ | exact Or.inr (by walk_at "mem"))) (by omega) (by omega) (by omega) ?_; intro _ _ _ _ _ _ _ _ _ _ _) | ((with_reducible show wpAny _ _ (subscriptTail _ _ _ (Value.int 0 _)) _ _ _); refine' idxT (j := 0) (by assumption) (by (first | exact Or.inl ⟨_, by assumption⟩ | exact Or.inr (by walk_at "mem"))) (by decide) (by decide) (by rfl) (by rfl) ?_) | ((with_reducible show wpAny _ _ (subscriptTail _ _ _ (Value.int 1 _)) _ _ _); refine' idxT (j := 1) (by assumption) (by (first | exact Or.inl ⟨_, by assumption⟩ | exact Or.inr (by walk_at "mem"))) (by decide) (by decide) (by rfl) (by rfl) ?_) | ((with_reducible show wpAny _ _ (subscriptTail _ _ _ _) _ _ _); (rename St _ _ _ _ => hsX); refine' getD' hsX (by (exact Or.inr (by walk_at "mem"))) (by assumption) ?_; clear hsX; intro _ _)) | (first | (first | ((with_reducible show wpAny _ _ (eval (Expr.Subscript _ (Expr.Slice none _ _ _) _) _) _ _ _); refine xSliceU ?_) | ((with_reducible show wpAny _ _ (callWith _ (Value.ref _) _ _ _) _ _ _); refine' cwF (by walk_at "gE") (by ((show keepIn (hd.heap_39 _) _ = _; k_is))) ?_) | ((with_reducible show wpAny _ _ (unaryOp UnaryOp.USub _) _ _ _); (rename St _ _ _ _ => hsX); refine negI hsX ?_; clear hsX; intro _ _ _) | ((with_reducible show wpAny _ _ (eval (Expr.Name _ _) (compEnvC _ _ _ _)) _ _ _); first | refine' nK (by assumption) (by assumption) (by assumption) ?_ | refine' nKC (by assumption) (by rfl) (by assumption) ?_) | ((with_reducible show wpAny _ _ (eval (Expr.Dict [] [] _) _) _ _ _); (rename St _ _ _ _ => hsX); refine' mkD hsX (by assumption) ?_; clear hsX; intro _ _ _ _ _) | ((with_reducible show wpAny _ _ (isTrue (Expr.Compare _ [_, _] [_, _] _) _ _) _ _ _); refine isTrue_chain ?_) | ((with_reducible show wpAny _ _ (testChain _ _ _ _) _ _ _); first | refine test_link ?_ | refine test_last ?_) | ((with_reducible show _ ∧ _); refine' and_g (by assumption) (by walk_at "gE") ?_) | ((with_reducible show wpAny _ _ (call (Value.type "range") [_]) _ _ _); (rename St _ _ _ _ => hsX); (refine rng1 hsX ?_); clear hsX; intro _ _ _ _ _ _) | ((with_reducible show wpAny _ _ (call (Value.type "range") [_, _]) _ _ _); (rename St _ _ _ _ => hsX); (refine rng2 hsX ?_); clear hsX; intro _ _ _ _ _)) | walk_at "S" | (first | ((with_reducible show wpAny _ _ (evalPart _ _) _ _ _); first | with_reducible refine part_none ?_ | with_reducible refine part_some ?_) | ((with_reducible show _ ∧ _); (rename St _ _ _ _ => hsX); (refine And.intro (by (try simp only [List.length_cons, List.length_nil]); decide) ⟨_, _, _, hsX, ?_⟩); clear hsX; intro _ _ _ _) | ((with_reducible show wpAny _ _ (getMethod (Value.ref _) (Str.ofString "append") _) _ _ _); refine' mApp (by assumption) (by (first | exact Or.inl ⟨_, by assumption⟩ | exact Or.inr (by walk_at "mem"))) ?_) | ((with_reducible show wpAny _ _ (getMethod (Value.ref _) (Str.ofString "pop") _) _ _ _); refine' mPop (by assumption) (by (first | exact Or.inl ⟨_, by assumption⟩ | exact Or.inr (by walk_at "mem"))) ?_)))
  rename St _ _ _ _ => hs
  refine xWhileP (fun k s => Ex8 fun J m wvs st f N lst tl => All7 (Kn.le I J) (St s₀ J ((WA, LsO wvs) :: (D, DiO f N) :: (L, NsO m) :: W) s) ((All6 (m "due" = some (.ref da)) (m "firsts" = some (.ref F)) (m "others" = some (.ref O)) (m "furthest" = some (.ref D)) (m "least" = some (.int lst tl)) (m "waiting" = some (.ref WA)))) (RpA J wvs (st.map stD)) (N + wt ps.length st ≤ 2 ^ ps.length) (k = wt ps.length st) (AllI ps W0 W1 st f lst))
    (fun s => Ex7 fun J m wvs f N lst tl => All6 (Kn.le I J) (St s₀ J ((WA, LsO wvs) :: (D, DiO f N) :: (L, NsO m) :: W) s) (m "furthest" = some (.ref D)) (m "least" = some (.int lst tl)) (N ≤ 256) (AllI ps W0 W1 [] f lst))
    _ ⟨J, _, wvs, [(0, 0)], _, _, lst, tl, hle, hs, ⟨by walk_at "lk", by walk_at "lk", by walk_at "lk", by walk_at "lk", by walk_at "lk", by walk_at "lk"⟩, hw, by simp [wt], rfl, by rw [hlst]; exact .init⟩ ?_ ?_
  · rintro k s ⟨J, m, wvs, st, f, N, lst, tl, hle, hs, ⟨e1, e2, e3, e4, e5, e6⟩, hw, hN, rfl, HI⟩
    replace g := g.mono hle
    replace ed := hle _ _ ed
    have hpow : 2 ^ ps.length ≤ 256 := Nat.le_trans (Nat.pow_le_pow_right (by decide) hn) (by decide)
    have hwl := hw.length
    rw [List.length_map] at hwl
    have hstl := wt_len ps.length st
    refine tP (fun b s => b = decide (st ≠ []) ∧ St s₀ J ((WA, LsO wvs) :: (D, DiO f N) :: (L, NsO m) :: W) s) ?_ ?_
    · refine wpAny_isTrue_Compare1 ?_
      (first | (first | ((with_reducible show wpAny _ _ (eval (Expr.Subscript _ (Expr.Slice none _ _ _) _) _) _ _ _); refine xSliceU ?_) | ((with_reducible show wpAny _ _ (callWith _ (Value.ref _) _ _ _) _ _ _); refine' cwF (by walk_at "gE") (by ((show keepIn (hd.heap_39 _) _ = _; k_is))) ?_) | ((with_reducible show wpAny _ _ (unaryOp UnaryOp.USub _) _ _ _); (rename St _ _ _ _ => hsX); refine negI hsX ?_; clear hsX; intro _ _ _) | ((with_reducible show wpAny _ _ (eval (Expr.Name _ _) (compEnvC _ _ _ _)) _ _ _); first | refine' nK (by assumption) (by assumption) (by assumption) ?_ | refine' nKC (by assumption) (by rfl) (by assumption) ?_) | ((with_reducible show wpAny _ _ (eval (Expr.Dict [] [] _) _) _ _ _); (rename St _ _ _ _ => hsX); refine' mkD hsX (by assumption) ?_; clear hsX; intro _ _ _ _ _) | ((with_reducible show wpAny _ _ (isTrue (Expr.Compare _ [_, _] [_, _] _) _ _) _ _ _); refine isTrue_chain ?_) | ((with_reducible show wpAny _ _ (testChain _ _ _ _) _ _ _); first | refine test_link ?_ | refine test_last ?_) | ((with_reducible show _ ∧ _); refine' and_g (by assumption) (by walk_at "gE") ?_) | ((with_reducible show wpAny _ _ (call (Value.type "range") [_]) _ _ _); (rename St _ _ _ _ => hsX); (refine rng1 hsX ?_); clear hsX; intro _ _ _ _ _ _) | ((with_reducible show wpAny _ _ (call (Value.type "range") [_, _]) _ _ _); (rename St _ _ _ _ => hsX); (refine rng2 hsX ?_); clear hsX; intro _ _ _ _ _)) | walk_at "S" | (first | ((with_reducible show wpAny _ _ (evalPart _ _) _ _ _); first | with_reducible refine part_none ?_ | with_reducible refine part_some ?_) | ((with_reducible show _ ∧ _); (rename St _ _ _ _ => hsX); (refine And.intro (by (try simp only [List.length_cons, List.length_nil]); decide) ⟨_, _, _, hsX, ?_⟩); clear hsX; intro _ _ _ _) | ((with_reducible show wpAny _ _ (getMethod (Value.ref _) (Str.ofString "append") _) _ _ _); refine' mApp (by assumption) (by (first | exact Or.inl ⟨_, by assumption⟩ | exact Or.inr (by walk_at "mem"))) ?_) | ((with_reducible show wpAny _ _ (getMethod (Value.ref _) (Str.ofString "pop") _) _ _ _); refine' mPop (by assumption) (by (first | exact Or.inl ⟨_, by assumption⟩ | exact Or.inr (by walk_at "mem"))) ?_)))
      refine neNilD hs r' (.inr (.head _)) hw (sh_st _) fun s' hs => ?_
      (first | (first | ((with_reducible show wpAny _ _ (eval (Expr.Subscript _ (Expr.Slice none _ _ _) _) _) _ _ _); refine xSliceU ?_) | ((with_reducible show wpAny _ _ (callWith _ (Value.ref _) _ _ _) _ _ _); refine' cwF (by walk_at "gE") (by ((show keepIn (hd.heap_39 _) _ = _; k_is))) ?_) | ((with_reducible show wpAny _ _ (unaryOp UnaryOp.USub _) _ _ _); (rename St _ _ _ _ => hsX); refine negI hsX ?_; clear hsX; intro _ _ _) | ((with_reducible show wpAny _ _ (eval (Expr.Name _ _) (compEnvC _ _ _ _)) _ _ _); first | refine' nK (by assumption) (by assumption) (by assumption) ?_ | refine' nKC (by assumption) (by rfl) (by assumption) ?_) | ((with_reducible show wpAny _ _ (eval (Expr.Dict [] [] _) _) _ _ _); (rename St _ _ _ _ => hsX); refine' mkD hsX (by assumption) ?_; clear hsX; intro _ _ _ _ _) | ((with_reducible show wpAny _ _ (isTrue (Expr.Compare _ [_, _] [_, _] _) _ _) _ _ _); refine isTrue_chain ?_) | ((with_reducible show wpAny _ _ (testChain _ _ _ _) _ _ _); first | refine test_link ?_ | refine test_last ?_) | ((with_reducible show _ ∧ _); refine' and_g (by assumption) (by walk_at "gE") ?_) | ((with_reducible show wpAny _ _ (call (Value.type "range") [_]) _ _ _); (rename St _ _ _ _ => hsX); (refine rng1 hsX ?_); clear hsX; intro _ _ _ _ _ _) | ((with_reducible show wpAny _ _ (call (Value.type "range") [_, _]) _ _ _); (rename St _ _ _ _ => hsX); (refine rng2 hsX ?_); clear hsX; intro _ _ _ _ _)) | walk_at "S" | (first | ((with_reducible show wpAny _ _ (evalPart _ _) _ _ _); first | with_reducible refine part_none ?_ | with_reducible refine part_some ?_) | ((with_reducible show _ ∧ _); (rename St _ _ _ _ => hsX); (refine And.intro (by (try simp only [List.length_cons, List.length_nil]); decide) ⟨_, _, _, hsX, ?_⟩); clear hsX; intro _ _ _ _) | ((with_reducible show wpAny _ _ (getMethod (Value.ref _) (Str.ofString "append") _) _ _ _); refine' mApp (by assumption) (by (first | exact Or.inl ⟨_, by assumption⟩ | exact Or.inr (by walk_at "mem"))) ?_) | ((with_reducible show wpAny _ _ (getMethod (Value.ref _) (Str.ofString "pop") _) _ _ _); refine' mPop (by assumption) (by (first | exact Or.inl ⟨_, by assumption⟩ | exact Or.inr (by walk_at "mem"))) ?_)))
      exact ⟨decide_eq_decide.mpr (by simp), hs⟩
    clear hs
    rintro _ s ⟨rfl, hs⟩
    refine if_dec (fun hne => ?_) (fun hne => ?_)
    · obtain ⟨st', a, k, rfl⟩ : Ex3 fun st' a k => st = st' ++ [(a, k)] := by
        rcases List.eq_nil_or_concat st with h | ⟨st', p, h⟩
        · exact absurd h hne
        · exact ⟨st', p.1, p.2, by rw [h]; simp⟩
      clear hne
      rw [List.map_append] at hw
      obtain ⟨us, v, rfl, hus, hv⟩ := rpa_snoc hw
      obtain ⟨pt, pn, ta, tk, rfl, ept⟩ := stInv hv
      replace ept : J pt = some { cls := .type "tuple", data := .seq [Value.int (a : Int) ta, Value.int (k : Int) tk].toArray pn } := ept
      obtain ⟨c, hc0, hc1, hc2⟩ := HI.cur k
      have ra : Rch ps W0 W1 k a := HI.snd (a, k) (by simp)
      have hal := ra.le
      rw [wt_app] at hN hstl
      have hwa : wt ps.length [(a, k)] = 2 ^ (ps.length - a) := by simp [wt]
      have h1p : 1 ≤ 2 ^ (ps.length - a) := Nat.one_le_two_pow
      rw [hwa] at hN hstl
      have hN' : N ≤ 255 := by omega
      rw [List.length_append] at hwl hstl
      have hul : us.length ≤ 256 := by
        have := hus.length
        rw [List.length_map] at this
        have := wt_len ps.length st'
        omega
      repeat' first | (first | ((with_reducible show wpAny _ _ (execs (Stmt.Assign [Expr.Subscript _ _ _] _ _ :: _) _) _ _ _); refine xAssignS ?_) | ((with_reducible show wpAny _ _ (callWith _ (Value.builtin "list.pop") _ _ _) _ _ _); (rename St _ _ _ _ => hsX); refine' popE hsX (by walk_at "mem") (by walk_at "up") (by ((simp only [sizeLine]; omega))) ?_; clear hsX; intro _ _) | ((with_reducible show wpAny _ _ (getMethod (Value.ref _) (Str.ofString "get") _) _ _ _); refine' mGet (by assumption) (by (exact Or.inr (by walk_at "mem"))) ?_) | ((with_reducible show wpAny _ _ (callWith _ (Value.builtin "dict.get") _ _ _) _ _ _); refine' dget2 (by assumption) ?_)) | (first | ((with_reducible show wpAny _ _ (eval (Expr.Tuple [Expr.Constant _ _ _, _] _ _) _) _ _ _); refine mkTR ?_) | ((with_reducible show wpAny _ _ (eval (Expr.Tuple [Expr.Name _ _, Expr.BinOp _ _ _ _] _ _) _) _ _ _); refine mkTR ?_) | ((with_reducible show _ ∧ _); (rename St _ _ _ _ => hsX); refine' fin_disp (by (simp [sizeLine])) hsX (by walk_at "rpa") ?_; clear hsX; intro _ _ _ _ _ _)) | (first | ((with_reducible show wpAny _ _ (assign (Expr.Subscript _ _ _) _ _) _ _ _); refine asgS ?_) | ((with_reducible show wpAny _ _ (setItem (Value.ref _) (Value.int _ _) _) _ _ _); (rename St _ _ _ _ => hsX); refine' setD hsX (by walk_at "mem") (by omega) (by walk_at "up") ?_; clear hsX; intro _ _) | ((with_reducible show wpAny _ _ (subscriptTail _ _ _ _) _ _ _); refine' idxP' (by assumption) (by assumption) (by assumption) (by (first | exact Or.inl ⟨_, by assumption⟩ | exact Or.inr (by walk_at "mem"))) (by omega) (by omega) (by omega) ?_; intro _ _ _ _ _ _ _ _ _ _ _) | ((with_reducible show wpAny _ _ (subscriptTail _ _ _ (Value.int 0 _)) _ _ _); refine' idxT (j := 0) (by assumption) (by (first | exact Or.inl ⟨_, by assumption⟩ | exact Or.inr (by walk_at "mem"))) (by decide) (by decide) (by rfl) (by rfl) ?_) | ((with_reducible show wpAny _ _ (subscriptTail _ _ _ (Value.int 1 _)) _ _ _); refine' idxT (j := 1) (by assumption) (by (first | exact Or.inl ⟨_, by assumption⟩ | exact Or.inr (by walk_at "mem"))) (by decide) (by decide) (by rfl) (by rfl) ?_) | ((with_reducible show wpAny _ _ (subscriptTail _ _ _ _) _ _ _); (rename St _ _ _ _ => hsX); refine' getD' hsX (by (exact Or.inr (by walk_at "mem"))) (by assumption) ?_; clear hsX; intro _ _)) | (first | (first | ((with_reducible show wpAny _ _ (eval (Expr.Subscript _ (Expr.Slice none _ _ _) _) _) _ _ _); refine xSliceU ?_) | ((with_reducible show wpAny _ _ (callWith _ (Value.ref _) _ _ _) _ _ _); refine' cwF (by walk_at "gE") (by ((show keepIn (hd.heap_39 _) _ = _; k_is))) ?_) | ((with_reducible show wpAny _ _ (unaryOp UnaryOp.USub _) _ _ _); (rename St _ _ _ _ => hsX); refine negI hsX ?_; clear hsX; intro _ _ _) | ((with_reducible show wpAny _ _ (eval (Expr.Name _ _) (compEnvC _ _ _ _)) _ _ _); first | refine' nK (by assumption) (by assumption) (by assumption) ?_ | refine' nKC (by assumption) (by rfl) (by assumption) ?_) | ((with_reducible show wpAny _ _ (eval (Expr.Dict [] [] _) _) _ _ _); (rename St _ _ _ _ => hsX); refine' mkD hsX (by assumption) ?_; clear hsX; intro _ _ _ _ _) | ((with_reducible show wpAny _ _ (isTrue (Expr.Compare _ [_, _] [_, _] _) _ _) _ _ _); refine isTrue_chain ?_) | ((with_reducible show wpAny _ _ (testChain _ _ _ _) _ _ _); first | refine test_link ?_ | refine test_last ?_) | ((with_reducible show _ ∧ _); refine' and_g (by assumption) (by walk_at "gE") ?_) | ((with_reducible show wpAny _ _ (call (Value.type "range") [_]) _ _ _); (rename St _ _ _ _ => hsX); (refine rng1 hsX ?_); clear hsX; intro _ _ _ _ _ _) | ((with_reducible show wpAny _ _ (call (Value.type "range") [_, _]) _ _ _); (rename St _ _ _ _ => hsX); (refine rng2 hsX ?_); clear hsX; intro _ _ _ _ _)) | walk_at "S" | (first | ((with_reducible show wpAny _ _ (evalPart _ _) _ _ _); first | with_reducible refine part_none ?_ | with_reducible refine part_some ?_) | ((with_reducible show _ ∧ _); (rename St _ _ _ _ => hsX); (refine And.intro (by (try simp only [List.length_cons, List.length_nil]); decide) ⟨_, _, _, hsX, ?_⟩); clear hsX; intro _ _ _ _) | ((with_reducible show wpAny _ _ (getMethod (Value.ref _) (Str.ofString "append") _) _ _ _); refine' mApp (by assumption) (by (first | exact Or.inl ⟨_, by assumption⟩ | exact Or.inr (by walk_at "mem"))) ?_) | ((with_reducible show wpAny _ _ (getMethod (Value.ref _) (Str.ofString "pop") _) _ _ _); refine' mPop (by assumption) (by (first | exact Or.inl ⟨_, by assumption⟩ | exact Or.inr (by walk_at "mem"))) ?_)))
      rename Tok => t0
      refine ⟨k, tk, _, _, _, f, N, rfl, by assumption, .inr (by walk_at "mem"), fun s' hs => ?_⟩
      obtain ⟨tx, ex⟩ := hc0 t0
      rw [ex]
      repeat' first | (first | ((with_reducible show wpAny _ _ (execs (Stmt.Assign [Expr.Subscript _ _ _] _ _ :: _) _) _ _ _); refine xAssignS ?_) | ((with_reducible show wpAny _ _ (callWith _ (Value.builtin "list.pop") _ _ _) _ _ _); (rename St _ _ _ _ => hsX); refine' popE hsX (by walk_at "mem") (by walk_at "up") (by ((simp only [sizeLine]; omega))) ?_; clear hsX; intro _ _) | ((with_reducible show wpAny _ _ (getMethod (Value.ref _) (Str.ofString "get") _) _ _ _); refine' mGet (by assumption) (by (exact Or.inr (by walk_at "mem"))) ?_) | ((with_reducible show wpAny _ _ (callWith _ (Value.builtin "dict.get") _ _ _) _ _ _); refine' dget2 (by assumption) ?_)) | (first | ((with_reducible show wpAny _ _ (eval (Expr.Tuple [Expr.Constant _ _ _, _] _ _) _) _ _ _); refine mkTR ?_) | ((with_reducible show wpAny _ _ (eval (Expr.Tuple [Expr.Name _ _, Expr.BinOp _ _ _ _] _ _) _) _ _ _); refine mkTR ?_) | ((with_reducible show _ ∧ _); (rename St _ _ _ _ => hsX); refine' fin_disp (by (simp [sizeLine])) hsX (by walk_at "rpa") ?_; clear hsX; intro _ _ _ _ _ _)) | (first | ((with_reducible show wpAny _ _ (assign (Expr.Subscript _ _ _) _ _) _ _ _); refine asgS ?_) | ((with_reducible show wpAny _ _ (setItem (Value.ref _) (Value.int _ _) _) _ _ _); (rename St _ _ _ _ => hsX); refine' setD hsX (by walk_at "mem") (by omega) (by walk_at "up") ?_; clear hsX; intro _ _) | ((with_reducible show wpAny _ _ (subscriptTail _ _ _ _) _ _ _); refine' idxP' (by assumption) (by assumption) (by assumption) (by (first | exact Or.inl ⟨_, by assumption⟩ | exact Or.inr (by walk_at "mem"))) (by omega) (by omega) (by omega) ?_; intro _ _ _ _ _ _ _ _ _ _ _) | ((with_reducible show wpAny _ _ (subscriptTail _ _ _ (Value.int 0 _)) _ _ _); refine' idxT (j := 0) (by assumption) (by (first | exact Or.inl ⟨_, by assumption⟩ | exact Or.inr (by walk_at "mem"))) (by decide) (by decide) (by rfl) (by rfl) ?_) | ((with_reducible show wpAny _ _ (subscriptTail _ _ _ (Value.int 1 _)) _ _ _); refine' idxT (j := 1) (by assumption) (by (first | exact Or.inl ⟨_, by assumption⟩ | exact Or.inr (by walk_at "mem"))) (by decide) (by decide) (by rfl) (by rfl) ?_) | ((with_reducible show wpAny _ _ (subscriptTail _ _ _ _) _ _ _); (rename St _ _ _ _ => hsX); refine' getD' hsX (by (exact Or.inr (by walk_at "mem"))) (by assumption) ?_; clear hsX; intro _ _)) | (first | (first | ((with_reducible show wpAny _ _ (eval (Expr.Subscript _ (Expr.Slice none _ _ _) _) _) _ _ _); refine xSliceU ?_) | ((with_reducible show wpAny _ _ (callWith _ (Value.ref _) _ _ _) _ _ _); refine' cwF (by walk_at "gE") (by ((show keepIn (hd.heap_39 _) _ = _; k_is))) ?_) | ((with_reducible show wpAny _ _ (unaryOp UnaryOp.USub _) _ _ _); (rename St _ _ _ _ => hsX); refine negI hsX ?_; clear hsX; intro _ _ _) | ((with_reducible show wpAny _ _ (eval (Expr.Name _ _) (compEnvC _ _ _ _)) _ _ _); first | refine' nK (by assumption) (by assumption) (by assumption) ?_ | refine' nKC (by assumption) (by rfl) (by assumption) ?_) | ((with_reducible show wpAny _ _ (eval (Expr.Dict [] [] _) _) _ _ _); (rename St _ _ _ _ => hsX); refine' mkD hsX (by assumption) ?_; clear hsX; intro _ _ _ _ _) | ((with_reducible show wpAny _ _ (isTrue (Expr.Compare _ [_, _] [_, _] _) _ _) _ _ _); refine isTrue_chain ?_) | ((with_reducible show wpAny _ _ (testChain _ _ _ _) _ _ _); first | refine test_link ?_ | refine test_last ?_) | ((with_reducible show _ ∧ _); refine' and_g (by assumption) (by walk_at "gE") ?_) | ((with_reducible show wpAny _ _ (call (Value.type "range") [_]) _ _ _); (rename St _ _ _ _ => hsX); (refine rng1 hsX ?_); clear hsX; intro _ _ _ _ _ _) | ((with_reducible show wpAny _ _ (call (Value.type "range") [_, _]) _ _ _); (rename St _ _ _ _ => hsX); (refine rng2 hsX ?_); clear hsX; intro _ _ _ _ _)) | walk_at "S" | (first | ((with_reducible show wpAny _ _ (evalPart _ _) _ _ _); first | with_reducible refine part_none ?_ | with_reducible refine part_some ?_) | ((with_reducible show _ ∧ _); (rename St _ _ _ _ => hsX); (refine And.intro (by (try simp only [List.length_cons, List.length_nil]); decide) ⟨_, _, _, hsX, ?_⟩); clear hsX; intro _ _ _ _) | ((with_reducible show wpAny _ _ (getMethod (Value.ref _) (Str.ofString "append") _) _ _ _); refine' mApp (by assumption) (by (first | exact Or.inl ⟨_, by assumption⟩ | exact Or.inr (by walk_at "mem"))) ?_) | ((with_reducible show wpAny _ _ (getMethod (Value.ref _) (Str.ofString "pop") _) _ _ _); refine' mPop (by assumption) (by (first | exact Or.inl ⟨_, by assumption⟩ | exact Or.inr (by walk_at "mem"))) ?_)))
      refine maxI (L := L) hs r' (by walk_at "mem") fun tm s' hs => ?_
      obtain ⟨HA, HB⟩ := HI.step (t := tm) hc1 hc2
      repeat' first | (first | ((with_reducible show wpAny _ _ (execs (Stmt.Assign [Expr.Subscript _ _ _] _ _ :: _) _) _ _ _); refine xAssignS ?_) | ((with_reducible show wpAny _ _ (callWith _ (Value.builtin "list.pop") _ _ _) _ _ _); (rename St _ _ _ _ => hsX); refine' popE hsX (by walk_at "mem") (by walk_at "up") (by ((simp only [sizeLine]; omega))) ?_; clear hsX; intro _ _) | ((with_reducible show wpAny _ _ (getMethod (Value.ref _) (Str.ofString "get") _) _ _ _); refine' mGet (by assumption) (by (exact Or.inr (by walk_at "mem"))) ?_) | ((with_reducible show wpAny _ _ (callWith _ (Value.builtin "dict.get") _ _ _) _ _ _); refine' dget2 (by assumption) ?_)) | (first | ((with_reducible show wpAny _ _ (eval (Expr.Tuple [Expr.Constant _ _ _, _] _ _) _) _ _ _); refine mkTR ?_) | ((with_reducible show wpAny _ _ (eval (Expr.Tuple [Expr.Name _ _, Expr.BinOp _ _ _ _] _ _) _) _ _ _); refine mkTR ?_) | ((with_reducible show _ ∧ _); (rename St _ _ _ _ => hsX); refine' fin_disp (by (simp [sizeLine])) hsX (by walk_at "rpa") ?_; clear hsX; intro _ _ _ _ _ _)) | (first | ((with_reducible show wpAny _ _ (assign (Expr.Subscript _ _ _) _ _) _ _ _); refine asgS ?_) | ((with_reducible show wpAny _ _ (setItem (Value.ref _) (Value.int _ _) _) _ _ _); (rename St _ _ _ _ => hsX); refine' setD hsX (by walk_at "mem") (by omega) (by walk_at "up") ?_; clear hsX; intro _ _) | ((with_reducible show wpAny _ _ (subscriptTail _ _ _ _) _ _ _); refine' idxP' (by assumption) (by assumption) (by assumption) (by (first | exact Or.inl ⟨_, by assumption⟩ | exact Or.inr (by walk_at "mem"))) (by omega) (by omega) (by omega) ?_; intro _ _ _ _ _ _ _ _ _ _ _) | ((with_reducible show wpAny _ _ (subscriptTail _ _ _ (Value.int 0 _)) _ _ _); refine' idxT (j := 0) (by assumption) (by (first | exact Or.inl ⟨_, by assumption⟩ | exact Or.inr (by walk_at "mem"))) (by decide) (by decide) (by rfl) (by rfl) ?_) | ((with_reducible show wpAny _ _ (subscriptTail _ _ _ (Value.int 1 _)) _ _ _); refine' idxT (j := 1) (by assumption) (by (first | exact Or.inl ⟨_, by assumption⟩ | exact Or.inr (by walk_at "mem"))) (by decide) (by decide) (by rfl) (by rfl) ?_) | ((with_reducible show wpAny _ _ (subscriptTail _ _ _ _) _ _ _); (rename St _ _ _ _ => hsX); refine' getD' hsX (by (exact Or.inr (by walk_at "mem"))) (by assumption) ?_; clear hsX; intro _ _)) | (first | (first | ((with_reducible show wpAny _ _ (eval (Expr.Subscript _ (Expr.Slice none _ _ _) _) _) _ _ _); refine xSliceU ?_) | ((with_reducible show wpAny _ _ (callWith _ (Value.ref _) _ _ _) _ _ _); refine' cwF (by walk_at "gE") (by ((show keepIn (hd.heap_39 _) _ = _; k_is))) ?_) | ((with_reducible show wpAny _ _ (unaryOp UnaryOp.USub _) _ _ _); (rename St _ _ _ _ => hsX); refine negI hsX ?_; clear hsX; intro _ _ _) | ((with_reducible show wpAny _ _ (eval (Expr.Name _ _) (compEnvC _ _ _ _)) _ _ _); first | refine' nK (by assumption) (by assumption) (by assumption) ?_ | refine' nKC (by assumption) (by rfl) (by assumption) ?_) | ((with_reducible show wpAny _ _ (eval (Expr.Dict [] [] _) _) _ _ _); (rename St _ _ _ _ => hsX); refine' mkD hsX (by assumption) ?_; clear hsX; intro _ _ _ _ _) | ((with_reducible show wpAny _ _ (isTrue (Expr.Compare _ [_, _] [_, _] _) _ _) _ _ _); refine isTrue_chain ?_) | ((with_reducible show wpAny _ _ (testChain _ _ _ _) _ _ _); first | refine test_link ?_ | refine test_last ?_) | ((with_reducible show _ ∧ _); refine' and_g (by assumption) (by walk_at "gE") ?_) | ((with_reducible show wpAny _ _ (call (Value.type "range") [_]) _ _ _); (rename St _ _ _ _ => hsX); (refine rng1 hsX ?_); clear hsX; intro _ _ _ _ _ _) | ((with_reducible show wpAny _ _ (call (Value.type "range") [_, _]) _ _ _); (rename St _ _ _ _ => hsX); (refine rng2 hsX ?_); clear hsX; intro _ _ _ _ _)) | walk_at "S" | (first | ((with_reducible show wpAny _ _ (evalPart _ _) _ _ _); first | with_reducible refine part_none ?_ | with_reducible refine part_some ?_) | ((with_reducible show _ ∧ _); (rename St _ _ _ _ => hsX); (refine And.intro (by (try simp only [List.length_cons, List.length_nil]); decide) ⟨_, _, _, hsX, ?_⟩); clear hsX; intro _ _ _ _) | ((with_reducible show wpAny _ _ (getMethod (Value.ref _) (Str.ofString "append") _) _ _ _); refine' mApp (by assumption) (by (first | exact Or.inl ⟨_, by assumption⟩ | exact Or.inr (by walk_at "mem"))) ?_) | ((with_reducible show wpAny _ _ (getMethod (Value.ref _) (Str.ofString "pop") _) _ _ _); refine' mPop (by assumption) (by (first | exact Or.inl ⟨_, by assumption⟩ | exact Or.inr (by walk_at "mem"))) ?_)))
      · rename (a : Int) = _ => han
        have han' : a = ps.length := by omega
        rename St _ _ _ _ => hs
        refine minI (L := L) hs r' (by walk_at "mem") fun tl' s' hs => ?_
        repeat' first | (first | ((with_reducible show wpAny _ _ (execs (Stmt.Assign [Expr.Subscript _ _ _] _ _ :: _) _) _ _ _); refine xAssignS ?_) | ((with_reducible show wpAny _ _ (callWith _ (Value.builtin "list.pop") _ _ _) _ _ _); (rename St _ _ _ _ => hsX); refine' popE hsX (by walk_at "mem") (by walk_at "up") (by ((simp only [sizeLine]; omega))) ?_; clear hsX; intro _ _) | ((with_reducible show wpAny _ _ (getMethod (Value.ref _) (Str.ofString "get") _) _ _ _); refine' mGet (by assumption) (by (exact Or.inr (by walk_at "mem"))) ?_) | ((with_reducible show wpAny _ _ (callWith _ (Value.builtin "dict.get") _ _ _) _ _ _); refine' dget2 (by assumption) ?_)) | (first | ((with_reducible show wpAny _ _ (eval (Expr.Tuple [Expr.Constant _ _ _, _] _ _) _) _ _ _); refine mkTR ?_) | ((with_reducible show wpAny _ _ (eval (Expr.Tuple [Expr.Name _ _, Expr.BinOp _ _ _ _] _ _) _) _ _ _); refine mkTR ?_) | ((with_reducible show _ ∧ _); (rename St _ _ _ _ => hsX); refine' fin_disp (by (simp [sizeLine])) hsX (by walk_at "rpa") ?_; clear hsX; intro _ _ _ _ _ _)) | (first | ((with_reducible show wpAny _ _ (assign (Expr.Subscript _ _ _) _ _) _ _ _); refine asgS ?_) | ((with_reducible show wpAny _ _ (setItem (Value.ref _) (Value.int _ _) _) _ _ _); (rename St _ _ _ _ => hsX); refine' setD hsX (by walk_at "mem") (by omega) (by walk_at "up") ?_; clear hsX; intro _ _) | ((with_reducible show wpAny _ _ (subscriptTail _ _ _ _) _ _ _); refine' idxP' (by assumption) (by assumption) (by assumption) (by (first | exact Or.inl ⟨_, by assumption⟩ | exact Or.inr (by walk_at "mem"))) (by omega) (by omega) (by omega) ?_; intro _ _ _ _ _ _ _ _ _ _ _) | ((with_reducible show wpAny _ _ (subscriptTail _ _ _ (Value.int 0 _)) _ _ _); refine' idxT (j := 0) (by assumption) (by (first | exact Or.inl ⟨_, by assumption⟩ | exact Or.inr (by walk_at "mem"))) (by decide) (by decide) (by rfl) (by rfl) ?_) | ((with_reducible show wpAny _ _ (subscriptTail _ _ _ (Value.int 1 _)) _ _ _); refine' idxT (j := 1) (by assumption) (by (first | exact Or.inl ⟨_, by assumption⟩ | exact Or.inr (by walk_at "mem"))) (by decide) (by decide) (by rfl) (by rfl) ?_) | ((with_reducible show wpAny _ _ (subscriptTail _ _ _ _) _ _ _); (rename St _ _ _ _ => hsX); refine' getD' hsX (by (exact Or.inr (by walk_at "mem"))) (by assumption) ?_; clear hsX; intro _ _)) | (first | (first | ((with_reducible show wpAny _ _ (eval (Expr.Subscript _ (Expr.Slice none _ _ _) _) _) _ _ _); refine xSliceU ?_) | ((with_reducible show wpAny _ _ (callWith _ (Value.ref _) _ _ _) _ _ _); refine' cwF (by walk_at "gE") (by ((show keepIn (hd.heap_39 _) _ = _; k_is))) ?_) | ((with_reducible show wpAny _ _ (unaryOp UnaryOp.USub _) _ _ _); (rename St _ _ _ _ => hsX); refine negI hsX ?_; clear hsX; intro _ _ _) | ((with_reducible show wpAny _ _ (eval (Expr.Name _ _) (compEnvC _ _ _ _)) _ _ _); first | refine' nK (by assumption) (by assumption) (by assumption) ?_ | refine' nKC (by assumption) (by rfl) (by assumption) ?_) | ((with_reducible show wpAny _ _ (eval (Expr.Dict [] [] _) _) _ _ _); (rename St _ _ _ _ => hsX); refine' mkD hsX (by assumption) ?_; clear hsX; intro _ _ _ _ _) | ((with_reducible show wpAny _ _ (isTrue (Expr.Compare _ [_, _] [_, _] _) _ _) _ _ _); refine isTrue_chain ?_) | ((with_reducible show wpAny _ _ (testChain _ _ _ _) _ _ _); first | refine test_link ?_ | refine test_last ?_) | ((with_reducible show _ ∧ _); refine' and_g (by assumption) (by walk_at "gE") ?_) | ((with_reducible show wpAny _ _ (call (Value.type "range") [_]) _ _ _); (rename St _ _ _ _ => hsX); (refine rng1 hsX ?_); clear hsX; intro _ _ _ _ _ _) | ((with_reducible show wpAny _ _ (call (Value.type "range") [_, _]) _ _ _); (rename St _ _ _ _ => hsX); (refine rng2 hsX ?_); clear hsX; intro _ _ _ _ _)) | walk_at "S" | (first | ((with_reducible show wpAny _ _ (evalPart _ _) _ _ _); first | with_reducible refine part_none ?_ | with_reducible refine part_some ?_) | ((with_reducible show _ ∧ _); (rename St _ _ _ _ => hsX); (refine And.intro (by (try simp only [List.length_cons, List.length_nil]); decide) ⟨_, _, _, hsX, ?_⟩); clear hsX; intro _ _ _ _) | ((with_reducible show wpAny _ _ (getMethod (Value.ref _) (Str.ofString "append") _) _ _ _); refine' mApp (by assumption) (by (first | exact Or.inl ⟨_, by assumption⟩ | exact Or.inr (by walk_at "mem"))) ?_) | ((with_reducible show wpAny _ _ (getMethod (Value.ref _) (Str.ofString "pop") _) _ _ _); refine' mPop (by assumption) (by (first | exact Or.inl ⟨_, by assumption⟩ | exact Or.inr (by walk_at "mem"))) ?_)))
        rename St _ _ _ _ => hs
        refine ⟨wt ps.length st', ?_, J, _, us, st', _, _, _, _, hle, hs, ⟨by walk_at "lk", by walk_at "lk", by walk_at "lk", by walk_at "lk", by walk_at "lk", by walk_at "lk"⟩, hus, by omega, rfl, HA han'⟩
        rw [wt_app, hwa]; omega
      · rename ¬ ((a : Int) = _) => han
        have han' : a ≠ ps.length := by omega
        rename St _ _ _ _ => hs
        have hbeg : a ∈ begins ps := by
          cases k with
          | zero => rw [ra.zero]; exact .head _
          | succ k =>
            obtain ⟨b, _, cc⟩ := ra.succ
            exact mem_begins cc.2.2.1 (by omega) (by have := cc.1; omega)
        obtain ⟨⟨x1, y1, z1⟩, ⟨x2, y2, z2⟩⟩ := hb a hbeg
        replace z1 := z1.mono hle
        replace z2 := z2.mono hle
        have hF' : HasD J ((WA, LsO us) :: (D, DiO (updI f (↑k) (Value.int (max ↑a ↑c) tm)) (N + 1)) :: (L, NsO (upd (upd m "at" (Value.int a ta)) "many" (Value.int k tk))) :: W) F f1 1000 := .inl (let ⟨o, e, q⟩ := hF; ⟨o, hle _ _ e, q⟩)
        have hO' : HasD J ((WA, LsO us) :: (D, DiO (updI f (↑k) (Value.int (max ↑a ↑c) tm)) (N + 1)) :: (L, NsO (upd (upd m "at" (Value.int a ta)) "many" (Value.int k tk))) :: W) O f2 1000 := .inl (let ⟨o, e, q⟩ := hO; ⟨o, hle _ _ e, q⟩)
        refine xForL r' ?_
        refine eP ?Pc ?hc ?kc
        case Pc => exact fun v s => ∃ la, All3 (v = .ref la) (Rp J (.ref la) (.list (iN (succs ps (rm W0 W1 k) a)))) (St s₀ J ((WA, LsO us) :: (D, DiO (updI f (↑k) (Value.int (max ↑a ↑c) tm)) (N + 1)) :: (L, NsO (upd (upd m "at" (Value.int a ta)) "many" (Value.int k tk))) :: W) s)
        · repeat' (first | (first | ((with_reducible show wpAny _ _ (eval (Expr.Subscript _ (Expr.Slice none _ _ _) _) _) _ _ _); refine xSliceU ?_) | ((with_reducible show wpAny _ _ (callWith _ (Value.ref _) _ _ _) _ _ _); refine' cwF (by walk_at "gE") (by ((show keepIn (hd.heap_39 _) _ = _; k_is))) ?_) | ((with_reducible show wpAny _ _ (unaryOp UnaryOp.USub _) _ _ _); (rename St _ _ _ _ => hsX); refine negI hsX ?_; clear hsX; intro _ _ _) | ((with_reducible show wpAny _ _ (eval (Expr.Name _ _) (compEnvC _ _ _ _)) _ _ _); first | refine' nK (by assumption) (by assumption) (by assumption) ?_ | refine' nKC (by assumption) (by rfl) (by assumption) ?_) | ((with_reducible show wpAny _ _ (eval (Expr.Dict [] [] _) _) _ _ _); (rename St _ _ _ _ => hsX); refine' mkD hsX (by assumption) ?_; clear hsX; intro _ _ _ _ _) | ((with_reducible show wpAny _ _ (isTrue (Expr.Compare _ [_, _] [_, _] _) _ _) _ _ _); refine isTrue_chain ?_) | ((with_reducible show wpAny _ _ (testChain _ _ _ _) _ _ _); first | refine test_link ?_ | refine test_last ?_) | ((with_reducible show _ ∧ _); refine' and_g (by assumption) (by walk_at "gE") ?_) | ((with_reducible show wpAny _ _ (call (Value.type "range") [_]) _ _ _); (rename St _ _ _ _ => hsX); (refine rng1 hsX ?_); clear hsX; intro _ _ _ _ _ _) | ((with_reducible show wpAny _ _ (call (Value.type "range") [_, _]) _ _ _); (rename St _ _ _ _ => hsX); (refine rng2 hsX ?_); clear hsX; intro _ _ _ _ _)) | walk_at "S" | (first | ((with_reducible show wpAny _ _ (evalPart _ _) _ _ _); first | with_reducible refine part_none ?_ | with_reducible refine part_some ?_) | ((with_reducible show _ ∧ _); (rename St _ _ _ _ => hsX); (refine And.intro (by (try simp only [List.length_cons, List.length_nil]); decide) ⟨_, _, _, hsX, ?_⟩); clear hsX; intro _ _ _ _) | ((with_reducible show wpAny _ _ (getMethod (Value.ref _) (Str.ofString "append") _) _ _ _); refine' mApp (by assumption) (by (first | exact Or.inl ⟨_, by assumption⟩ | exact Or.inr (by walk_at "mem"))) ?_) | ((with_reducible show wpAny _ _ (getMethod (Value.ref _) (Str.ofString "pop") _) _ _ _); refine' mPop (by assumption) (by (first | exact Or.inl ⟨_, by assumption⟩ | exact Or.inr (by walk_at "mem"))) ?_)))
          · rename (k : Int) = 0 => hk
            have hk' : k = 0 := by omega
            rename St _ _ _ _ => hs
            refine getD' hs hF' y1 fun s' hs => ⟨_, rfl, ?_, hs⟩
            unfold rm; rw [if_pos hk']; exact z1
          · rename ¬ ((k : Int) = 0) => hk
            have hk' : ¬ k = 0 := by omega
            rename St _ _ _ _ => hs
            refine getD' hs hO' y2 fun s' hs => ⟨_, rfl, ?_, hs⟩
            unfold rm; rw [if_neg hk']; exact z2
        clear hs
        rintro _ s ⟨la, rfl, hl, hs⟩
        obtain ⟨la', lvs, ln, e, eln, rl⟩ := hl.listInv
        cases e
        have hll := iN_len rl
        have hs8 : (succs ps (rm W0 W1 k) a).length ≤ ps.length := by
          have := List.length_filter_le (canB ps (rm W0 W1 k) a) (List.range' (a + 1) (ps.length - a))
          rw [List.length_range'] at this
          unfold succs; omega
        refine ForL.mk' ?Jv ?Post hs eln ?h0 ?hle ?turn ?done ?hp (.inl fun _ _ => rfl)
        case Jv =>
         exact fun i I' W' => Ex2 fun m wvs => All4 (Kn.le J I') (W' = (WA, LsO wvs) :: (D, DiO (updI f (↑k) (Value.int (max ↑a ↑c) tm)) (N + 1)) :: (L, NsO m) :: W) ((All7 (m "due" = some (.ref da)) (m "firsts" = some (.ref F)) (m "others" = some (.ref O)) (m "furthest" = some (.ref D)) (m "least" = some (.int lst tl)) (m "waiting" = some (.ref WA)) (m "many" = some (.int k tk)))) (RpA I' wvs ((st' ++ ((succs ps (rm W0 W1 k) a).take i).map fun e => (e, k + 1)).map stD))
        case Post =>
         exact fun s => Ex3 fun I' m wvs => All4 (Kn.le J I') (St s₀ I' ((WA, LsO wvs) :: (D, DiO (updI f (↑k) (Value.int (max ↑a ↑c) tm)) (N + 1)) :: (L, NsO m) :: W) s) ((All6 (m "due" = some (.ref da)) (m "firsts" = some (.ref F)) (m "others" = some (.ref O)) (m "furthest" = some (.ref D)) (m "least" = some (.int lst tl)) (m "waiting" = some (.ref WA)))) (RpA I' wvs ((st' ++ (succs ps (rm W0 W1 k) a).map fun e => (e, k + 1)).map stD))
        case h0 => exact ⟨_, us, Kn.le.rfl', rfl, ⟨by walk_at "lk", by walk_at "lk", by walk_at "lk", by walk_at "lk", by walk_at "lk", by walk_at "lk", by walk_at "lk"⟩, by simpa using hus⟩
        case hle => rintro i I' W' ⟨_, _, h, _⟩; exact h
        case done =>
          rintro I' _ s ⟨m, wvs, hle', rfl, ⟨q1, q2, q3, q4, q5, q6, _⟩, hwv⟩ hs
          rw [hll, List.take_length] at hwv
          exact ⟨_, _, _, hle', hs, ⟨q1, q2, q3, q4, q5, q6⟩, hwv⟩
        case hp =>
          rintro s ⟨I', m, wvs, hle', hs, ⟨q1, q2, q3, q4, q5, q6⟩, hwv⟩
          refine xNil ?_
          have hws := wt_succs (ps := ps) (W := rm W0 W1 k) (k := k + 1) (b := a) (by omega)
          refine xNil ?_
          refine ⟨_, ?_, I', m, wvs, _, _, _, _, _, hle.tr hle', hs, ⟨q1, q2, q3, q4, q5, q6⟩, hwv, ?_, rfl, HB han'⟩
          · rw [wt_app, wt_app, hwa]; omega
          · rw [wt_app]; omega
        case turn =>
          rintro i ev I' _ it o s hev ⟨m, wvs, hle', rfl, ⟨q1, q2, q3, q4, q5, q6, q7⟩, hwv⟩ hs
          obtain ⟨e, te, hei, rfl⟩ := iN_get rl hev
          have hil : i < (succs ps (rm W0 W1 k) a).length := (List.getElem?_eq_some_iff.mp hei).1
          have hwl2 := hwv.length
          rw [List.length_map, List.length_append, List.length_map, List.length_take] at hwl2
          have hst2 := wt_len ps.length st'
          repeat' first | (first | ((with_reducible show wpAny _ _ (eval (Expr.Tuple [Expr.Constant _ _ _, _] _ _) _) _ _ _); refine mkTR ?_) | ((with_reducible show wpAny _ _ (eval (Expr.Tuple [Expr.Name _ _, Expr.BinOp _ _ _ _] _ _) _) _ _ _); refine mkTR ?_) | ((with_reducible show _ ∧ _); (rename St _ _ _ _ => hsX); refine' fin_disp (by (simp [sizeLine])) hsX (by walk_at "rpa") ?_; clear hsX; intro _ _ _ _ _ _)) | (first | ((with_reducible show wpAny _ _ (assign (Expr.Subscript _ _ _) _ _) _ _ _); refine asgS ?_) | ((with_reducible show wpAny _ _ (setItem (Value.ref _) (Value.int _ _) _) _ _ _); (rename St _ _ _ _ => hsX); refine' setD hsX (by walk_at "mem") (by omega) (by walk_at "up") ?_; clear hsX; intro _ _) | ((with_reducible show wpAny _ _ (subscriptTail _ _ _ _) _ _ _); refine' idxP' (by assumption) (by assumption) (by assumption) (by (first | exact Or.inl ⟨_, by assumption⟩ | exact Or.inr (by walk_at "mem"))) (by omega) (by omega) (by omega) ?_; intro _ _ _ _ _ _ _ _ _ _ _) | ((with_reducible show wpAny _ _ (subscriptTail _ _ _ (Value.int 0 _)) _ _ _); refine' idxT (j := 0) (by assumption) (by (first | exact Or.inl ⟨_, by assumption⟩ | exact Or.inr (by walk_at "mem"))) (by decide) (by decide) (by rfl) (by rfl) ?_) | ((with_reducible show wpAny _ _ (subscriptTail _ _ _ (Value.int 1 _)) _ _ _); refine' idxT (j := 1) (by assumption) (by (first | exact Or.inl ⟨_, by assumption⟩ | exact Or.inr (by walk_at "mem"))) (by decide) (by decide) (by rfl) (by rfl) ?_) | ((with_reducible show wpAny _ _ (subscriptTail _ _ _ _) _ _ _); (rename St _ _ _ _ => hsX); refine' getD' hsX (by (exact Or.inr (by walk_at "mem"))) (by assumption) ?_; clear hsX; intro _ _)) | (first | (first | ((with_reducible show wpAny _ _ (eval (Expr.Subscript _ (Expr.Slice none _ _ _) _) _) _ _ _); refine xSliceU ?_) | ((with_reducible show wpAny _ _ (callWith _ (Value.ref _) _ _ _) _ _ _); refine' cwF (by walk_at "gE") (by ((show keepIn (hd.heap_39 _) _ = _; k_is))) ?_) | ((with_reducible show wpAny _ _ (unaryOp UnaryOp.USub _) _ _ _); (rename St _ _ _ _ => hsX); refine negI hsX ?_; clear hsX; intro _ _ _) | ((with_reducible show wpAny _ _ (eval (Expr.Name _ _) (compEnvC _ _ _ _)) _ _ _); first | refine' nK (by assumption) (by assumption) (by assumption) ?_ | refine' nKC (by assumption) (by rfl) (by assumption) ?_) | ((with_reducible show wpAny _ _ (eval (Expr.Dict [] [] _) _) _ _ _); (rename St _ _ _ _ => hsX); refine' mkD hsX (by assumption) ?_; clear hsX; intro _ _ _ _ _) | ((with_reducible show wpAny _ _ (isTrue (Expr.Compare _ [_, _] [_, _] _) _ _) _ _ _); refine isTrue_chain ?_) | ((with_reducible show wpAny _ _ (testChain _ _ _ _) _ _ _); first | refine test_link ?_ | refine test_last ?_) | ((with_reducible show _ ∧ _); refine' and_g (by assumption) (by walk_at "gE") ?_) | ((with_reducible show wpAny _ _ (call (Value.type "range") [_]) _ _ _); (rename St _ _ _ _ => hsX); (refine rng1 hsX ?_); clear hsX; intro _ _ _ _ _ _) | ((with_reducible show wpAny _ _ (call (Value.type "range") [_, _]) _ _ _); (rename St _ _ _ _ => hsX); (refine rng2 hsX ?_); clear hsX; intro _ _ _ _ _)) | walk_at "S" | (first | ((with_reducible show wpAny _ _ (evalPart _ _) _ _ _); first | with_reducible refine part_none ?_ | with_reducible refine part_some ?_) | ((with_reducible show _ ∧ _); (rename St _ _ _ _ => hsX); (refine And.intro (by (try simp only [List.length_cons, List.length_nil]); decide) ⟨_, _, _, hsX, ?_⟩); clear hsX; intro _ _ _ _) | ((with_reducible show wpAny _ _ (getMethod (Value.ref _) (Str.ofString "append") _) _ _ _); refine' mApp (by assumption) (by (first | exact Or.inl ⟨_, by assumption⟩ | exact Or.inr (by walk_at "mem"))) ?_) | ((with_reducible show wpAny _ _ (getMethod (Value.ref _) (Str.ofString "pop") _) _ _ _); refine' mPop (by assumption) (by (first | exact Or.inl ⟨_, by assumption⟩ | exact Or.inr (by walk_at "mem"))) ?_)))
          rename St _ _ _ _ => hs
          refine appL hs (by walk_at "mem") (by walk_at "up") (by simp only [sizeLine]; omega) fun s' hs => ⟨rfl, ?_⟩
          repeat' first | (first | ((with_reducible show wpAny _ _ (eval (Expr.Tuple [Expr.Constant _ _ _, _] _ _) _) _ _ _); refine mkTR ?_) | ((with_reducible show wpAny _ _ (eval (Expr.Tuple [Expr.Name _ _, Expr.BinOp _ _ _ _] _ _) _) _ _ _); refine mkTR ?_) | ((with_reducible show _ ∧ _); (rename St _ _ _ _ => hsX); refine' fin_disp (by (simp [sizeLine])) hsX (by walk_at "rpa") ?_; clear hsX; intro _ _ _ _ _ _)) | (first | ((with_reducible show wpAny _ _ (assign (Expr.Subscript _ _ _) _ _) _ _ _); refine asgS ?_) | ((with_reducible show wpAny _ _ (setItem (Value.ref _) (Value.int _ _) _) _ _ _); (rename St _ _ _ _ => hsX); refine' setD hsX (by walk_at "mem") (by omega) (by walk_at "up") ?_; clear hsX; intro _ _) | ((with_reducible show wpAny _ _ (subscriptTail _ _ _ _) _ _ _); refine' idxP' (by assumption) (by assumption) (by assumption) (by (first | exact Or.inl ⟨_, by assumption⟩ | exact Or.inr (by walk_at "mem"))) (by omega) (by omega) (by omega) ?_; intro _ _ _ _ _ _ _ _ _ _ _) | ((with_reducible show wpAny _ _ (subscriptTail _ _ _ (Value.int 0 _)) _ _ _); refine' idxT (j := 0) (by assumption) (by (first | exact Or.inl ⟨_, by assumption⟩ | exact Or.inr (by walk_at "mem"))) (by decide) (by decide) (by rfl) (by rfl) ?_) | ((with_reducible show wpAny _ _ (subscriptTail _ _ _ (Value.int 1 _)) _ _ _); refine' idxT (j := 1) (by assumption) (by (first | exact Or.inl ⟨_, by assumption⟩ | exact Or.inr (by walk_at "mem"))) (by decide) (by decide) (by rfl) (by rfl) ?_) | ((with_reducible show wpAny _ _ (subscriptTail _ _ _ _) _ _ _); (rename St _ _ _ _ => hsX); refine' getD' hsX (by (exact Or.inr (by walk_at "mem"))) (by assumption) ?_; clear hsX; intro _ _)) | (first | (first | ((with_reducible show wpAny _ _ (eval (Expr.Subscript _ (Expr.Slice none _ _ _) _) _) _ _ _); refine xSliceU ?_) | ((with_reducible show wpAny _ _ (callWith _ (Value.ref _) _ _ _) _ _ _); refine' cwF (by walk_at "gE") (by ((show keepIn (hd.heap_39 _) _ = _; k_is))) ?_) | ((with_reducible show wpAny _ _ (unaryOp UnaryOp.USub _) _ _ _); (rename St _ _ _ _ => hsX); refine negI hsX ?_; clear hsX; intro _ _ _) | ((with_reducible show wpAny _ _ (eval (Expr.Name _ _) (compEnvC _ _ _ _)) _ _ _); first | refine' nK (by assumption) (by assumption) (by assumption) ?_ | refine' nKC (by assumption) (by rfl) (by assumption) ?_) | ((with_reducible show wpAny _ _ (eval (Expr.Dict [] [] _) _) _ _ _); (rename St _ _ _ _ => hsX); refine' mkD hsX (by assumption) ?_; clear hsX; intro _ _ _ _ _) | ((with_reducible show wpAny _ _ (isTrue (Expr.Compare _ [_, _] [_, _] _) _ _) _ _ _); refine isTrue_chain ?_) | ((with_reducible show wpAny _ _ (testChain _ _ _ _) _ _ _); first | refine test_link ?_ | refine test_last ?_) | ((with_reducible show _ ∧ _); refine' and_g (by assumption) (by walk_at "gE") ?_) | ((with_reducible show wpAny _ _ (call (Value.type "range") [_]) _ _ _); (rename St _ _ _ _ => hsX); (refine rng1 hsX ?_); clear hsX; intro _ _ _ _ _ _) | ((with_reducible show wpAny _ _ (call (Value.type "range") [_, _]) _ _ _); (rename St _ _ _ _ => hsX); (refine rng2 hsX ?_); clear hsX; intro _ _ _ _ _)) | walk_at "S" | (first | ((with_reducible show wpAny _ _ (evalPart _ _) _ _ _); first | with_reducible refine part_none ?_ | with_reducible refine part_some ?_) | ((with_reducible show _ ∧ _); (rename St _ _ _ _ => hsX); (refine And.intro (by (try simp only [List.length_cons, List.length_nil]); decide) ⟨_, _, _, hsX, ?_⟩); clear hsX; intro _ _ _ _) | ((with_reducible show wpAny _ _ (getMethod (Value.ref _) (Str.ofString "append") _) _ _ _); refine' mApp (by assumption) (by (first | exact Or.inl ⟨_, by assumption⟩ | exact Or.inr (by walk_at "mem"))) ?_) | ((with_reducible show wpAny _ _ (getMethod (Value.ref _) (Str.ofString "pop") _) _ _ _); refine' mPop (by assumption) (by (first | exact Or.inl ⟨_, by assumption⟩ | exact Or.inr (by walk_at "mem"))) ?_)))
          refine Turn.next hs (by walk_at "rem") ⟨_, _, hle'.tr (by assumption), rfl, ⟨by walk_at "lk", by walk_at "lk", by walk_at "lk", by walk_at "lk", by walk_at "lk", by walk_at "lk", by walk_at "lk"⟩, ?_⟩
          have eqq : (st' ++ ((succs ps (rm W0 W1 k) a).take (i + 1)).map fun e => (e, k + 1)).map stD = (st' ++ ((succs ps (rm W0 W1 k) a).take i).map fun e => (e, k + 1)).map stD ++ [stD (e, k + 1)] := by
            rw [List.take_add_one, hei]; simp
          rw [eqq]
          exact (hwv.mono (by assumption)).append (.one (by assumption))
    · have : st = [] := Classical.not_not.mp hne
      subst this
      exact ⟨J, m, wvs, f, N, lst, tl, hle, hs, e4, e5, by omega, HI⟩
  · rintro s ⟨J, m, wvs, f, N, lst, tl, hle, hs, e4, e5, hN, HI⟩
    repeat' first | (first | ((with_reducible show wpAny _ _ (eval (Expr.Tuple [Expr.Constant _ _ _, _] _ _) _) _ _ _); refine mkTR ?_) | ((with_reducible show wpAny _ _ (eval (Expr.Tuple [Expr.Name _ _, Expr.BinOp _ _ _ _] _ _) _) _ _ _); refine mkTR ?_) | ((with_reducible show _ ∧ _); (rename St _ _ _ _ => hsX); refine' fin_disp (by (simp [sizeLine])) hsX (by walk_at "rpa") ?_; clear hsX; intro _ _ _ _ _ _)) | (first | ((with_reducible show wpAny _ _ (assign (Expr.Subscript _ _ _) _ _) _ _ _); refine asgS ?_) | ((with_reducible show wpAny _ _ (setItem (Value.ref _) (Value.int _ _) _) _ _ _); (rename St _ _ _ _ => hsX); refine' setD hsX (by walk_at "mem") (by omega) (by walk_at "up") ?_; clear hsX; intro _ _) | ((with_reducible show wpAny _ _ (subscriptTail _ _ _ _) _ _ _); refine' idxP' (by assumption) (by assumption) (by assumption) (by (first | exact Or.inl ⟨_, by assumption⟩ | exact Or.inr (by walk_at "mem"))) (by omega) (by omega) (by omega) ?_; intro _ _ _ _ _ _ _ _ _ _ _) | ((with_reducible show wpAny _ _ (subscriptTail _ _ _ (Value.int 0 _)) _ _ _); refine' idxT (j := 0) (by assumption) (by (first | exact Or.inl ⟨_, by assumption⟩ | exact Or.inr (by walk_at "mem"))) (by decide) (by decide) (by rfl) (by rfl) ?_) | ((with_reducible show wpAny _ _ (subscriptTail _ _ _ (Value.int 1 _)) _ _ _); refine' idxT (j := 1) (by assumption) (by (first | exact Or.inl ⟨_, by assumption⟩ | exact Or.inr (by walk_at "mem"))) (by decide) (by decide) (by rfl) (by rfl) ?_) | ((with_reducible show wpAny _ _ (subscriptTail _ _ _ _) _ _ _); (rename St _ _ _ _ => hsX); refine' getD' hsX (by (exact Or.inr (by walk_at "mem"))) (by assumption) ?_; clear hsX; intro _ _)) | (first | (first | ((with_reducible show wpAny _ _ (eval (Expr.Subscript _ (Expr.Slice none _ _ _) _) _) _ _ _); refine xSliceU ?_) | ((with_reducible show wpAny _ _ (callWith _ (Value.ref _) _ _ _) _ _ _); refine' cwF (by walk_at "gE") (by ((show keepIn (hd.heap_39 _) _ = _; k_is))) ?_) | ((with_reducible show wpAny _ _ (unaryOp UnaryOp.USub _) _ _ _); (rename St _ _ _ _ => hsX); refine negI hsX ?_; clear hsX; intro _ _ _) | ((with_reducible show wpAny _ _ (eval (Expr.Name _ _) (compEnvC _ _ _ _)) _ _ _); first | refine' nK (by assumption) (by assumption) (by assumption) ?_ | refine' nKC (by assumption) (by rfl) (by assumption) ?_) | ((with_reducible show wpAny _ _ (eval (Expr.Dict [] [] _) _) _ _ _); (rename St _ _ _ _ => hsX); refine' mkD hsX (by assumption) ?_; clear hsX; intro _ _ _ _ _) | ((with_reducible show wpAny _ _ (isTrue (Expr.Compare _ [_, _] [_, _] _) _ _) _ _ _); refine isTrue_chain ?_) | ((with_reducible show wpAny _ _ (testChain _ _ _ _) _ _ _); first | refine test_link ?_ | refine test_last ?_) | ((with_reducible show _ ∧ _); refine' and_g (by assumption) (by walk_at "gE") ?_) | ((with_reducible show wpAny _ _ (call (Value.type "range") [_]) _ _ _); (rename St _ _ _ _ => hsX); (refine rng1 hsX ?_); clear hsX; intro _ _ _ _ _ _) | ((with_reducible show wpAny _ _ (call (Value.type "range") [_, _]) _ _ _); (rename St _ _ _ _ => hsX); (refine rng2 hsX ?_); clear hsX; intro _ _ _ _ _)) | walk_at "S" | (first | ((with_reducible show wpAny _ _ (evalPart _ _) _ _ _); first | with_reducible refine part_none ?_ | with_reducible refine part_some ?_) | ((with_reducible show _ ∧ _); (rename St _ _ _ _ => hsX); (refine And.intro (by (try simp only [List.length_cons, List.length_nil]); decide) ⟨_, _, _, hsX, ?_⟩); clear hsX; intro _ _ _ _) | ((with_reducible show wpAny _ _ (getMethod (Value.ref _) (Str.ofString "append") _) _ _ _); refine' mApp (by assumption) (by (first | exact Or.inl ⟨_, by assumption⟩ | exact Or.inr (by walk_at "mem"))) ?_) | ((with_reducible show wpAny _ _ (getMethod (Value.ref _) (Str.ofString "pop") _) _ _ _); refine' mPop (by assumption) (by (first | exact Or.inl ⟨_, by assumption⟩ | exact Or.inr (by walk_at "mem"))) ?_)))
    rename St _ _ _ _ => hs
    obtain ⟨oT, ⟨nT, rfl⟩, hJ1, hs⟩ := hs.freeze .head
    obtain ⟨oD, qD, hJ2, hs⟩ := hs.freeze (.tail .head)
    have l1 := Kn.set_le (o := ({ cls := .type "tuple", data := .seq [Value.ref D, Value.int lst tl].toArray nT } : Obj)) hJ1
    have l2 := Kn.set_le (o := oD) hJ2
    refine h _ _ D f lst tl _ (hle.tr (l1.tr l2)) ⟨_, l2 _ _ Kn.set_self⟩ hsD ⟨_, Kn.set_self, DiO.mono qD (by omega)⟩ (fun k a hr => ?_) HI.lsd ((hs.rem .head).rem .head)
    rcases HI.cov k a hr with ⟨v, t, e, q1, q2⟩ | ⟨p, hp, _⟩
    · obtain ⟨v', j, t', hj, hx, hr'⟩ := HI.val _ _ e
      have hjk : k = j := by omega
      have hvv : (v : Int) = v' := by injection hx
      have hvv' : v = v' := by omega
      subst hjk hvv'
      exact ⟨v, t, e, q1, hr', q2⟩
    · cases hp
end

/-! # part P3 -/
/-! ## the text that the law builds -/
theorem words_ok : ∀ x ∈ WORDS, x ≠ [] ∧ x.length ≤ 5 ∧ ∀ c ∈ x, isBlk c = false := by decide
theorem betw_ok : ∀ y ∈ BETW, y ≠ [] ∧ y.length ≤ 2 ∧ ∀ c ∈ y, isBlk c = true := by decide
theorem betw_is {y : List Int} (h : y ∈ BETW) : y = [32] ∨ y = [32, 32] ∨ y = [10] := by
  unfold BETW at h
  simpa using h
theorem okP_good {p : Part} (h : okP p) : goodP p :=
  ⟨(words_ok _ h.1).1, (betw_ok _ h.2).1, (words_ok _ h.1).2.2, (betw_ok _ h.2).2.2⟩
theorem flat_len : ∀ {ps : List Part}, (∀ p ∈ ps, okP p) → (flat ps).length ≤ 7 * ps.length
  | [], _ => Nat.le_refl _
  | p :: r, h => by
    have ih := flat_len (ps := r) fun q hq => h q (.tail _ hq)
    have h1 := (words_ok _ (h p (.head _)).1).2.1
    have h2 := (betw_ok _ (h p (.head _)).2).2.1
    rw [flat_cons, List.length_append, List.length_append, List.length_cons]
    omega
theorem gapS_range (xs ys : List Int) : 1 ≤ gapS xs ys ∧ gapS xs ys ≤ 2 := by
  unfold gapS
  split
  · split <;> decide
  · decide
theorem fine_due {ps : List Part} (h : ∀ p ∈ ps, okP p) : fine (ps.map dueOf) := by
  intro q hq
  obtain ⟨p, hp, rfl⟩ := List.mem_map.mp hq
  have h1 := words_ok _ (h p hp).1
  exact ⟨h1.1, by show p.1.length < 1000; have := h1.2.1; omega, (gapS_range _ _).1, (gapS_range _ _).2⟩
theorem gap_law {p : Part} (h : okP p) : gapL p.1 p.2 = gapS p.1 p.2 := gapL_gapS (betw_is h.2)
/-- pieces as data are shaped -/
theorem can_pcs : ∀ ps : List Piece, PyData.canLayAll0 (ps.map pcD) = true
  | [] => rfl
  | p :: r => by
    show (PyData.canLay0 (pcD p) && PyData.canLayAll0 (r.map pcD)) = true
    have : PyData.canLay0 (pcD p) = true := by
      show (PyData.canLayAll0 (p.1.map .int) && (true && true)) = true
      rw [canA_ints]; rfl
    rw [can_pcs r, this]; rfl
theorem dep_pc (p : Piece) : PyData.depth (pcD p) = 2 := by
  show max (PyData.depthAll (p.1.map .int) + 1) (max 0 0) + 1 = 2
  rw [depA_ints]; rfl
theorem dep_pcs : ∀ ps : List Piece, PyData.depthAll (ps.map pcD) ≤ 2
  | [] => by decide
  | p :: r => by
    have h := dep_pcs r
    show max (PyData.depth (pcD p)) (PyData.depthAll (r.map pcD)) ≤ 2
    rw [dep_pc]; omega
theorem sh_pcs (ps : List Piece) : PySem.SeqAt.shaped (.list (ps.map pcD)) = true := by
  show (PyData.canLayAll0 (ps.map pcD) && decide (PyData.depthAll (ps.map pcD) + 1 ≤ 64)) = true
  have h := dep_pcs ps
  rw [can_pcs, decide_eq_true (by omega)]; rfl
theorem nm_pcs : ∀ ps : List Piece, PySem.SeqAt.noMixAll (ps.map pcD) (ps.map pcD) = true
  | [] => rfl
  | p :: r => by
    show (PySem.SeqAt.noMix (pcD p) (pcD p) && PySem.SeqAt.noMixAll (r.map pcD) (r.map pcD)) = true
    have : PySem.SeqAt.noMix (pcD p) (pcD p) = true := by
      show (PySem.SeqAt.noMixAll (p.1.map .int) (p.1.map .int) && (true && true)) = true
      rw [nm_ints]; rfl
    rw [nm_pcs r, this]; rfl
/-- what the rows hold, one behind the other -/
theorem rows_flat {ps : List Piece} {W0 W1 : Int} {es : List Nat} (h : Greedy ps W0 W1 es) : (cuts ps 0 es).flatten = ps := by
  have := cuts_flat ps (C := fun b e => best ps (roomAt W0 W1 b) b e) (fun b e h => ⟨h.1.1, h.1.2.1⟩) es 0 ps.length h (Nat.le_refl _)
  rw [this]; simp
theorem cut_at {α : Type} {ps : List α} {C : Nat → Nat → Prop} (hC : ∀ b e, C b e → b < e ∧ e ≤ ps.length) : ∀ {es : List Nat} {b n : Nat} {i : Nat} {row : List α}, Road C b es n → (cuts ps b es)[i]? = some row →
    ∃ e, es[i]? = some e ∧ row ≠ [] ∧ ((((cuts ps b es).take i).map List.length).sum + b + row.length = e)
  | [], _, _, _, _, _, h => by simp [cuts] at h
  | x :: r, b, n, i, row, ⟨hc, hr⟩, h => by
    obtain ⟨h1, h2⟩ := hC _ _ hc
    have hl : ((ps.drop b).take (x - b)).length = x - b := by rw [List.length_take, List.length_drop]; omega
    cases i with
    | zero =>
      have e : (ps.drop b).take (x - b) = row := by simpa [cuts] using h
      refine ⟨x, rfl, fun q => ?_, ?_⟩
      · rw [← e] at q; rw [q] at hl; simp at hl; omega
      · rw [← e, hl]; simp; omega
    | succ i =>
      have h' : (cuts ps x r)[i]? = some row := by simpa [cuts] using h
      obtain ⟨e, e1, e2, e3⟩ := cut_at hC hr h'
      refine ⟨e, by simpa using e1, e2, ?_⟩
      show (((((ps.drop b).take (x - b)) :: cuts ps x r).take (i + 1)).map List.length).sum + b + row.length = e
      rw [List.take_succ_cons, List.map_cons, List.sum_cons, hl]
      omega
theorem road_n {ps : List Piece} {W0 W1 : Int} {es : List Nat} (h : Greedy ps W0 W1 es) : es.length ≤ ps.length := by
  have : ∀ (es : List Nat) (b : Nat), GRoad ps W0 W1 b es ps.length → b + es.length ≤ ps.length := by
    intro es
    induction es with
    | nil => intro b h; cases h; exact Nat.le_refl _
    | cons x r ih =>
      intro b ⟨hc, hr⟩
      have := ih x hr
      have h1 := hc.1.1
      rw [List.length_cons]; omega
  have := this es 0 h
  omega

/-! # part D7 -/
theorem bodyEq {K : Frag} {f : Addr} {n1 q1 n2 q2 : Str} {pr1 pr2 : Arguments} {b1 b2 : List Stmt} {sc1 sc2 : Scope} {a1 a2 a3 a4 a5 a6 a7 c1 c2 c3 c4 c5 c6 c7 : Value} {d1 d2 e1 e2 : Option Addr} {o1 o2 : Array (Option Value)} {P : Str → List Stmt → Scope → Prop}
    (h2 : K.lookup f = some ⟨c7, d2, .func (fnX n2 q2 pr2 b2 sc2 [] c1 c2 c3 c4 e2 c5 c6), o2⟩) (h1 : K.lookup f = some ⟨a7, d1, .func (fnX n1 q1 pr1 b1 sc1 [] a1 a2 a3 a4 e1 a5 a6), o1⟩) (h : P q2 b2 sc2) : P q1 b1 sc1 := by
  cases Option.some.inj (h1.symm.trans h2)
  exact h
theorem partInv {I : Kn} {v : Value} {p : Part} (h : Rp I v (partD p)) : Ex4 fun a x y n => All4 (v = .ref a) (I a = some { cls := .type "tuple", data := .seq [x, y].toArray n }) (Rp I x (.list (p.1.map .int))) (Rp I y (.list (p.2.map .int))) := by
  obtain ⟨a, vs, n, rfl, e, r⟩ := h.tupInv
  cases r with | cons r1 r => cases r with | cons r2 r => cases r with | nil => exact ⟨a, _, _, n, rfl, e, r1, r2⟩
theorem rpa_at {I : Kn} {α : Type} {vs : List Value} {xs : List α} {f : α → PyData} (h : RpA I vs (xs.map f)) {i : Nat} {v : Value} (e : vs[i]? = some v) : ∃ x, xs[i]? = some x ∧ Rp I v (f x) := by
  have hl := h.length
  rw [List.length_map] at hl
  have hlt : i < xs.length := by have := (List.getElem?_eq_some_iff.mp e).1; omega
  have e' : (xs.map f)[i]? = some (f xs[i]) := by rw [List.getElem?_map, List.getElem?_eq_getElem hlt]; rfl
  obtain ⟨v', ev, r⟩ := h.get e'
  rw [e] at ev; cases ev
  exact ⟨_, List.getElem?_eq_getElem hlt, r⟩
section
variable {w : World} {A : Around} {E : Value → Shared → Prop} {s s₀ : Shared} {I : Kn} {W : Own} {Q : Flow → Shared → Prop} {t u : Tok} {L c fa : Addr} {m : Str → Option Value}
/-- the law from its fourth statement on -/
def Rest2 (w : World) (A : Around) (E : Value → Shared → Prop) (s₀ : Shared) (Q : Flow → Shared → Prop) (L c : Addr) (I₀ : Kn) (X : List Stmt) (env : Env) : Prop :=
  ∀ (I : Kn) (W : Own) (s : Shared) (m : Str → Option Value) (cv : Value) (ps : List Part) (P C DA : Addr) (dn : Int), Kn.le I₀ I → G0 w I → (∀ p ∈ ps, okP p) → 1 ≤ ps.length → ps.length ≤ 8 → dn ≤ 50 →
    St s₀ I ((P, PotO C dn) :: (C, CelO) :: (L, NsO m) :: (c, CeO (some (.ref DA))) :: W) s → m "pot" = some (.ref P) → m "codes" = some cv → Rp I cv (.list ((flat ps).map .int)) → Rp I (.ref DA) (.list ((ps.map dueOf).map pcD)) →
    wpAny (model PROG w) A (execs X env) Q E s
theorem c_law {qual : Str} {body : List Stmt} {scope : Scope} {name : Str} {params : Arguments} {dV kV doc pm cdv ct oc : Value} {an od : Option Addr} {osl : Array (Option Value)} {cd sv : Value} {ns : List Int} (g : G0 w I) (r : Rm A 4)
    (ho : (hd.heap_39 w.params).lookup 108 = some ⟨oc, od, .func (fnX name qual params body scope [] dV kV doc pm an cdv ct), osl⟩)
    (hs : St s₀ I ((L, NsO m) :: (c, CeO none) :: W) s) (hm : m "script" = some sv) (hv : Rp I sv (.list (ns.map .int))) (hn : ns.length ≤ 63)
    (k2 : Rest2 w A E s₀ Q L c I (body.drop 3) (envX qual scope L fa cd [("due", c)])) :
    wpAny (model PROG w) A (execs body (envX qual scope L fa cd [("due", c)])) Q E s := by
  refine bodyEq (P := fun qual body scope => Rest2 w A E s₀ Q L c I (body.drop 3) (envX qual scope L fa cd [("due", c)]) → wpAny (model PROG w) A (execs body (envX qual scope L fa cd [("due", c)])) Q E s) (by k_is) ho ?_ k2
  clear ho k2
  intro k2
  repeat' first | (first | ((with_reducible show wpAny _ _ (eval (Expr.Tuple [Expr.Name _ _, Expr.Call _ _ _ _] _ _) _) _ _ _); refine mkTR ?_) | ((with_reducible show _ ∧ _); (rename St _ _ _ _ => hsX); refine' fin_disp (by (simp [sizeLine])) hsX (by walk_at "rpa") ?_; clear hsX; intro _ _ _ _ _ _) | ((with_reducible show wpAny _ _ (call (Value.ref 77) _) _ _ _); (rename St _ _ _ _ => hsX); refine' c_draw (by walk_at "gE") (by (first | assumption | exact Rm.le (by assumption) (by omega))) hsX (by walk_at "rem") (by walk_at "rem") (by omega) (by omega) (by omega) ?_; clear hsX; intro _ _ _ _ _ _)) | (first | ((with_reducible show wpAny _ _ (assign (Expr.Subscript _ _ _) _ _) _ _ _); refine asgS ?_) | ((with_reducible show wpAny _ _ (setItem (Value.ref _) (Value.int _ _) _) _ _ _); (rename St _ _ _ _ => hsX); refine' setD hsX (by walk_at "mem") (by omega) (by walk_at "up") ?_; clear hsX; intro _ _) | ((with_reducible show wpAny _ _ (subscriptTail _ _ _ _) _ _ _); refine' idxP' (by assumption) (by assumption) (by assumption) (by (first | exact Or.inl ⟨_, by assumption⟩ | exact Or.inr (by walk_at "mem"))) (by omega) (by omega) (by omega) ?_; intro _ _ _ _ _ _ _ _ _ _ _) | ((with_reducible show wpAny _ _ (subscriptTail _ _ _ (Value.int 0 _)) _ _ _); refine' idxT (j := 0) (by assumption) (by (first | exact Or.inl ⟨_, by assumption⟩ | exact Or.inr (by walk_at "mem"))) (by decide) (by decide) (by rfl) (by rfl) ?_) | ((with_reducible show wpAny _ _ (subscriptTail _ _ _ (Value.int 1 _)) _ _ _); refine' idxT (j := 1) (by assumption) (by (first | exact Or.inl ⟨_, by assumption⟩ | exact Or.inr (by walk_at "mem"))) (by decide) (by decide) (by rfl) (by rfl) ?_) | ((with_reducible show wpAny _ _ (subscriptTail _ _ _ _) _ _ _); (rename St _ _ _ _ => hsX); refine' getD' hsX (by (exact Or.inr (by walk_at "mem"))) (by assumption) ?_; clear hsX; intro _ _)) | (first | (first | ((with_reducible show wpAny _ _ (eval (Expr.Subscript _ (Expr.Slice none _ _ _) _) _) _ _ _); refine xSliceU ?_) | ((with_reducible show wpAny _ _ (callWith _ (Value.ref _) _ _ _) _ _ _); refine' cwF (by walk_at "gE") (by ((show keepIn (hd.heap_39 _) _ = _; k_is))) ?_) | ((with_reducible show wpAny _ _ (unaryOp UnaryOp.USub _) _ _ _); (rename St _ _ _ _ => hsX); refine negI hsX ?_; clear hsX; intro _ _ _) | ((with_reducible show wpAny _ _ (eval (Expr.Name _ _) (compEnvC _ _ _ _)) _ _ _); first | refine' nK (by assumption) (by assumption) (by assumption) ?_ | refine' nKC (by assumption) (by rfl) (by assumption) ?_) | ((with_reducible show wpAny _ _ (eval (Expr.Dict [] [] _) _) _ _ _); (rename St _ _ _ _ => hsX); refine' mkD hsX (by assumption) ?_; clear hsX; intro _ _ _ _ _) | ((with_reducible show wpAny _ _ (isTrue (Expr.Compare _ [_, _] [_, _] _) _ _) _ _ _); refine isTrue_chain ?_) | ((with_reducible show wpAny _ _ (testChain _ _ _ _) _ _ _); first | refine test_link ?_ | refine test_last ?_) | ((with_reducible show _ ∧ _); refine' and_g (by assumption) (by walk_at "gE") ?_) | ((with_reducible show wpAny _ _ (call (Value.type "range") [_]) _ _ _); (rename St _ _ _ _ => hsX); (refine rng1 hsX ?_); clear hsX; intro _ _ _ _ _ _) | ((with_reducible show wpAny _ _ (call (Value.type "range") [_, _]) _ _ _); (rename St _ _ _ _ => hsX); (refine rng2 hsX ?_); clear hsX; intro _ _ _ _ _)) | walk_at "S" | (first | ((with_reducible show wpAny _ _ (evalPart _ _) _ _ _); first | with_reducible refine part_none ?_ | with_reducible refine part_some ?_) | ((with_reducible show _ ∧ _); (rename St _ _ _ _ => hsX); (refine And.intro (by (try simp only [List.length_cons, List.length_nil]); decide) ⟨_, _, _, hsX, ?_⟩); clear hsX; intro _ _ _ _) | ((with_reducible show wpAny _ _ (getMethod (Value.ref _) (Str.ofString "append") _) _ _ _); refine' mApp (by assumption) (by (first | exact Or.inl ⟨_, by assumption⟩ | exact Or.inr (by walk_at "mem"))) ?_) | ((with_reducible show wpAny _ _ (getMethod (Value.ref _) (Str.ofString "pop") _) _ _ _); refine' mPop (by assumption) (by (first | exact Or.inl ⟨_, by assumption⟩ | exact Or.inr (by walk_at "mem"))) ?_)))
  rename St _ _ _ _ => hs
  refine c_pot g (r.le (by omega)) hs hv hn fun P C s' hs => ?_
  repeat' first | (first | ((with_reducible show wpAny _ _ (eval (Expr.Tuple [Expr.Name _ _, Expr.Call _ _ _ _] _ _) _) _ _ _); refine mkTR ?_) | ((with_reducible show _ ∧ _); (rename St _ _ _ _ => hsX); refine' fin_disp (by (simp [sizeLine])) hsX (by walk_at "rpa") ?_; clear hsX; intro _ _ _ _ _ _) | ((with_reducible show wpAny _ _ (call (Value.ref 77) _) _ _ _); (rename St _ _ _ _ => hsX); refine' c_draw (by walk_at "gE") (by (first | assumption | exact Rm.le (by assumption) (by omega))) hsX (by walk_at "rem") (by walk_at "rem") (by omega) (by omega) (by omega) ?_; clear hsX; intro _ _ _ _ _ _)) | (first | ((with_reducible show wpAny _ _ (assign (Expr.Subscript _ _ _) _ _) _ _ _); refine asgS ?_) | ((with_reducible show wpAny _ _ (setItem (Value.ref _) (Value.int _ _) _) _ _ _); (rename St _ _ _ _ => hsX); refine' setD hsX (by walk_at "mem") (by omega) (by walk_at "up") ?_; clear hsX; intro _ _) | ((with_reducible show wpAny _ _ (subscriptTail _ _ _ _) _ _ _); refine' idxP' (by assumption) (by assumption) (by assumption) (by (first | exact Or.inl ⟨_, by assumption⟩ | exact Or.inr (by walk_at "mem"))) (by omega) (by omega) (by omega) ?_; intro _ _ _ _ _ _ _ _ _ _ _) | ((with_reducible show wpAny _ _ (subscriptTail _ _ _ (Value.int 0 _)) _ _ _); refine' idxT (j := 0) (by assumption) (by (first | exact Or.inl ⟨_, by assumption⟩ | exact Or.inr (by walk_at "mem"))) (by decide) (by decide) (by rfl) (by rfl) ?_) | ((with_reducible show wpAny _ _ (subscriptTail _ _ _ (Value.int 1 _)) _ _ _); refine' idxT (j := 1) (by assumption) (by (first | exact Or.inl ⟨_, by assumption⟩ | exact Or.inr (by walk_at "mem"))) (by decide) (by decide) (by rfl) (by rfl) ?_) | ((with_reducible show wpAny _ _ (subscriptTail _ _ _ _) _ _ _); (rename St _ _ _ _ => hsX); refine' getD' hsX (by (exact Or.inr (by walk_at "mem"))) (by assumption) ?_; clear hsX; intro _ _)) | ((fail_if_success (with_reducible show wpAny _ _ (execs (Stmt.Assign [Expr.Tuple _ _ _] _ _ :: _) _) _ _ _)); first | (first | ((with_reducible show wpAny _ _ (eval (Expr.Subscript _ (Expr.Slice none _ _ _) _) _) _ _ _); refine xSliceU ?_) | ((with_reducible show wpAny _ _ (callWith _ (Value.ref _) _ _ _) _ _ _); refine' cwF (by walk_at "gE") (by ((show keepIn (hd.heap_39 _) _ = _; k_is))) ?_) | ((with_reducible show wpAny _ _ (unaryOp UnaryOp.USub _) _ _ _); (rename St _ _ _ _ => hsX); refine negI hsX ?_; clear hsX; intro _ _ _) | ((with_reducible show wpAny _ _ (eval (Expr.Name _ _) (compEnvC _ _ _ _)) _ _ _); first | refine' nK (by assumption) (by assumption) (by assumption) ?_ | refine' nKC (by assumption) (by rfl) (by assumption) ?_) | ((with_reducible show wpAny _ _ (eval (Expr.Dict [] [] _) _) _ _ _); (rename St _ _ _ _ => hsX); refine' mkD hsX (by assumption) ?_; clear hsX; intro _ _ _ _ _) | ((with_reducible show wpAny _ _ (isTrue (Expr.Compare _ [_, _] [_, _] _) _ _) _ _ _); refine isTrue_chain ?_) | ((with_reducible show wpAny _ _ (testChain _ _ _ _) _ _ _); first | refine test_link ?_ | refine test_last ?_) | ((with_reducible show _ ∧ _); refine' and_g (by assumption) (by walk_at "gE") ?_) | ((with_reducible show wpAny _ _ (call (Value.type "range") [_]) _ _ _); (rename St _ _ _ _ => hsX); (refine rng1 hsX ?_); clear hsX; intro _ _ _ _ _ _) | ((with_reducible show wpAny _ _ (call (Value.type "range") [_, _]) _ _ _); (rename St _ _ _ _ => hsX); (refine rng2 hsX ?_); clear hsX; intro _ _ _ _ _)) | walk_at "S" | (first | ((with_reducible show wpAny _ _ (evalPart _ _) _ _ _); first | with_reducible refine part_none ?_ | with_reducible refine part_some ?_) | ((with_reducible show _ ∧ _); (rename St _ _ _ _ => hsX); (refine And.intro (by (try simp only [List.length_cons, List.length_nil]); decide) ⟨_, _, _, hsX, ?_⟩); clear hsX; intro _ _ _ _) | ((with_reducible show wpAny _ _ (getMethod (Value.ref _) (Str.ofString "append") _) _ _ _); refine' mApp (by assumption) (by (first | exact Or.inl ⟨_, by assumption⟩ | exact Or.inr (by walk_at "mem"))) ?_) | ((with_reducible show wpAny _ _ (getMethod (Value.ref _) (Str.ofString "pop") _) _ _ _); refine' mPop (by assumption) (by (first | exact Or.inl ⟨_, by assumption⟩ | exact Or.inr (by walk_at "mem"))) ?_)))
  refine xAssignT ?_
  refine eP ?Pa ?ha ?ka
  case Pa =>
   exact fun v s => Ex7 fun T pv CA DA J (ps : List Part) dn => All8 (v = .ref T) (Kn.le I J) (Rp J pv (.list (ps.map partD))) ((∀ p ∈ ps, okP p)) (1 ≤ ps.length) (ps.length ≤ 8) (dn ≤ 50) (St s₀ J ((T, TuO [pv, .ref CA, .ref DA]) :: (DA, LsO []) :: (CA, LsO []) :: (P, PotO C dn) :: (C, CelO) :: (L, NsO (upd m "pot" (.ref P))) :: (c, CeO none) :: W) s)
  · repeat' first | (first | ((with_reducible show wpAny _ _ (eval (Expr.Tuple [Expr.Name _ _, Expr.Call _ _ _ _] _ _) _) _ _ _); refine mkTR ?_) | ((with_reducible show _ ∧ _); (rename St _ _ _ _ => hsX); refine' fin_disp (by (simp [sizeLine])) hsX (by walk_at "rpa") ?_; clear hsX; intro _ _ _ _ _ _) | ((with_reducible show wpAny _ _ (call (Value.ref 77) _) _ _ _); (rename St _ _ _ _ => hsX); refine' c_draw (by walk_at "gE") (by (first | assumption | exact Rm.le (by assumption) (by omega))) hsX (by walk_at "rem") (by walk_at "rem") (by omega) (by omega) (by omega) ?_; clear hsX; intro _ _ _ _ _ _)) | (first | ((with_reducible show wpAny _ _ (assign (Expr.Subscript _ _ _) _ _) _ _ _); refine asgS ?_) | ((with_reducible show wpAny _ _ (setItem (Value.ref _) (Value.int _ _) _) _ _ _); (rename St _ _ _ _ => hsX); refine' setD hsX (by walk_at "mem") (by omega) (by walk_at "up") ?_; clear hsX; intro _ _) | ((with_reducible show wpAny _ _ (subscriptTail _ _ _ _) _ _ _); refine' idxP' (by assumption) (by assumption) (by assumption) (by (first | exact Or.inl ⟨_, by assumption⟩ | exact Or.inr (by walk_at "mem"))) (by omega) (by omega) (by omega) ?_; intro _ _ _ _ _ _ _ _ _ _ _) | ((with_reducible show wpAny _ _ (subscriptTail _ _ _ (Value.int 0 _)) _ _ _); refine' idxT (j := 0) (by assumption) (by (first | exact Or.inl ⟨_, by assumption⟩ | exact Or.inr (by walk_at "mem"))) (by decide) (by decide) (by rfl) (by rfl) ?_) | ((with_reducible show wpAny _ _ (subscriptTail _ _ _ (Value.int 1 _)) _ _ _); refine' idxT (j := 1) (by assumption) (by (first | exact Or.inl ⟨_, by assumption⟩ | exact Or.inr (by walk_at "mem"))) (by decide) (by decide) (by rfl) (by rfl) ?_) | ((with_reducible show wpAny _ _ (subscriptTail _ _ _ _) _ _ _); (rename St _ _ _ _ => hsX); refine' getD' hsX (by (exact Or.inr (by walk_at "mem"))) (by assumption) ?_; clear hsX; intro _ _)) | (first | (first | ((with_reducible show wpAny _ _ (eval (Expr.Subscript _ (Expr.Slice none _ _ _) _) _) _ _ _); refine xSliceU ?_) | ((with_reducible show wpAny _ _ (callWith _ (Value.ref _) _ _ _) _ _ _); refine' cwF (by walk_at "gE") (by ((show keepIn (hd.heap_39 _) _ = _; k_is))) ?_) | ((with_reducible show wpAny _ _ (unaryOp UnaryOp.USub _) _ _ _); (rename St _ _ _ _ => hsX); refine negI hsX ?_; clear hsX; intro _ _ _) | ((with_reducible show wpAny _ _ (eval (Expr.Name _ _) (compEnvC _ _ _ _)) _ _ _); first | refine' nK (by assumption) (by assumption) (by assumption) ?_ | refine' nKC (by assumption) (by rfl) (by assumption) ?_) | ((with_reducible show wpAny _ _ (eval (Expr.Dict [] [] _) _) _ _ _); (rename St _ _ _ _ => hsX); refine' mkD hsX (by assumption) ?_; clear hsX; intro _ _ _ _ _) | ((with_reducible show wpAny _ _ (isTrue (Expr.Compare _ [_, _] [_, _] _) _ _) _ _ _); refine isTrue_chain ?_) | ((with_reducible show wpAny _ _ (testChain _ _ _ _) _ _ _); first | refine test_link ?_ | refine test_last ?_) | ((with_reducible show _ ∧ _); refine' and_g (by assumption) (by walk_at "gE") ?_) | ((with_reducible show wpAny _ _ (call (Value.type "range") [_]) _ _ _); (rename St _ _ _ _ => hsX); (refine rng1 hsX ?_); clear hsX; intro _ _ _ _ _ _) | ((with_reducible show wpAny _ _ (call (Value.type "range") [_, _]) _ _ _); (rename St _ _ _ _ => hsX); (refine rng2 hsX ?_); clear hsX; intro _ _ _ _ _)) | walk_at "S" | (first | ((with_reducible show wpAny _ _ (evalPart _ _) _ _ _); first | with_reducible refine part_none ?_ | with_reducible refine part_some ?_) | ((with_reducible show _ ∧ _); (rename St _ _ _ _ => hsX); (refine And.intro (by (try simp only [List.length_cons, List.length_nil]); decide) ⟨_, _, _, hsX, ?_⟩); clear hsX; intro _ _ _ _) | ((with_reducible show wpAny _ _ (getMethod (Value.ref _) (Str.ofString "append") _) _ _ _); refine' mApp (by assumption) (by (first | exact Or.inl ⟨_, by assumption⟩ | exact Or.inr (by walk_at "mem"))) ?_) | ((with_reducible show wpAny _ _ (getMethod (Value.ref _) (Str.ofString "pop") _) _ _ _); refine' mPop (by assumption) (by (first | exact Or.inl ⟨_, by assumption⟩ | exact Or.inr (by walk_at "mem"))) ?_)))
    rename St _ _ _ _ => hs
    refine c_parts g (r.le (by omega)) hs (by decide) fun J pv ps s' hle hp hok hl1 hl8 hs => ?_
    repeat' first | (first | ((with_reducible show wpAny _ _ (eval (Expr.Tuple [Expr.Name _ _, Expr.Call _ _ _ _] _ _) _) _ _ _); refine mkTR ?_) | ((with_reducible show _ ∧ _); (rename St _ _ _ _ => hsX); refine' fin_disp (by (simp [sizeLine])) hsX (by walk_at "rpa") ?_; clear hsX; intro _ _ _ _ _ _) | ((with_reducible show wpAny _ _ (call (Value.ref 77) _) _ _ _); (rename St _ _ _ _ => hsX); refine' c_draw (by walk_at "gE") (by (first | assumption | exact Rm.le (by assumption) (by omega))) hsX (by walk_at "rem") (by walk_at "rem") (by omega) (by omega) (by omega) ?_; clear hsX; intro _ _ _ _ _ _)) | (first | ((with_reducible show wpAny _ _ (assign (Expr.Subscript _ _ _) _ _) _ _ _); refine asgS ?_) | ((with_reducible show wpAny _ _ (setItem (Value.ref _) (Value.int _ _) _) _ _ _); (rename St _ _ _ _ => hsX); refine' setD hsX (by walk_at "mem") (by omega) (by walk_at "up") ?_; clear hsX; intro _ _) | ((with_reducible show wpAny _ _ (subscriptTail _ _ _ _) _ _ _); refine' idxP' (by assumption) (by assumption) (by assumption) (by (first | exact Or.inl ⟨_, by assumption⟩ | exact Or.inr (by walk_at "mem"))) (by omega) (by omega) (by omega) ?_; intro _ _ _ _ _ _ _ _ _ _ _) | ((with_reducible show wpAny _ _ (subscriptTail _ _ _ (Value.int 0 _)) _ _ _); refine' idxT (j := 0) (by assumption) (by (first | exact Or.inl ⟨_, by assumption⟩ | exact Or.inr (by walk_at "mem"))) (by decide) (by decide) (by rfl) (by rfl) ?_) | ((with_reducible show wpAny _ _ (subscriptTail _ _ _ (Value.int 1 _)) _ _ _); refine' idxT (j := 1) (by assumption) (by (first | exact Or.inl ⟨_, by assumption⟩ | exact Or.inr (by walk_at "mem"))) (by decide) (by decide) (by rfl) (by rfl) ?_) | ((with_reducible show wpAny _ _ (subscriptTail _ _ _ _) _ _ _); (rename St _ _ _ _ => hsX); refine' getD' hsX (by (exact Or.inr (by walk_at "mem"))) (by assumption) ?_; clear hsX; intro _ _)) | (first | (first | ((with_reducible show wpAny _ _ (eval (Expr.Subscript _ (Expr.Slice none _ _ _) _) _) _ _ _); refine xSliceU ?_) | ((with_reducible show wpAny _ _ (callWith _ (Value.ref _) _ _ _) _ _ _); refine' cwF (by walk_at "gE") (by ((show keepIn (hd.heap_39 _) _ = _; k_is))) ?_) | ((with_reducible show wpAny _ _ (unaryOp UnaryOp.USub _) _ _ _); (rename St _ _ _ _ => hsX); refine negI hsX ?_; clear hsX; intro _ _ _) | ((with_reducible show wpAny _ _ (eval (Expr.Name _ _) (compEnvC _ _ _ _)) _ _ _); first | refine' nK (by assumption) (by assumption) (by assumption) ?_ | refine' nKC (by assumption) (by rfl) (by assumption) ?_) | ((with_reducible show wpAny _ _ (eval (Expr.Dict [] [] _) _) _ _ _); (rename St _ _ _ _ => hsX); refine' mkD hsX (by assumption) ?_; clear hsX; intro _ _ _ _ _) | ((with_reducible show wpAny _ _ (isTrue (Expr.Compare _ [_, _] [_, _] _) _ _) _ _ _); refine isTrue_chain ?_) | ((with_reducible show wpAny _ _ (testChain _ _ _ _) _ _ _); first | refine test_link ?_ | refine test_last ?_) | ((with_reducible show _ ∧ _); refine' and_g (by assumption) (by walk_at "gE") ?_) | ((with_reducible show wpAny _ _ (call (Value.type "range") [_]) _ _ _); (rename St _ _ _ _ => hsX); (refine rng1 hsX ?_); clear hsX; intro _ _ _ _ _ _) | ((with_reducible show wpAny _ _ (call (Value.type "range") [_, _]) _ _ _); (rename St _ _ _ _ => hsX); (refine rng2 hsX ?_); clear hsX; intro _ _ _ _ _)) | walk_at "S" | (first | ((with_reducible show wpAny _ _ (evalPart _ _) _ _ _); first | with_reducible refine part_none ?_ | with_reducible refine part_some ?_) | ((with_reducible show _ ∧ _); (rename St _ _ _ _ => hsX); (refine And.intro (by (try simp only [List.length_cons, List.length_nil]); decide) ⟨_, _, _, hsX, ?_⟩); clear hsX; intro _ _ _ _) | ((with_reducible show wpAny _ _ (getMethod (Value.ref _) (Str.ofString "append") _) _ _ _); refine' mApp (by assumption) (by (first | exact Or.inl ⟨_, by assumption⟩ | exact Or.inr (by walk_at "mem"))) ?_) | ((with_reducible show wpAny _ _ (getMethod (Value.ref _) (Str.ofString "pop") _) _ _ _); refine' mPop (by assumption) (by (first | exact Or.inl ⟨_, by assumption⟩ | exact Or.inr (by walk_at "mem"))) ?_)))
    rename St _ _ _ _ => hs
    exact ⟨_, pv, _, _, J, ps, 17, rfl, hle, hp, hok, hl1, hl8, by decide, hs⟩
  clear hs
  rintro _ s ⟨T, pv, CA, DA, J, ps, dn, rfl, hle, hp, hok, hl1, hl8, hdn, hs⟩
  refine asg3 hs (r.le (by omega)) (.inr (.head _)) fun s' hs => ?_
  replace hs := hs.rem .head
  replace g := g.mono hle
  repeat' first | (first | ((with_reducible show wpAny _ _ (eval (Expr.Tuple [Expr.Name _ _, Expr.Call _ _ _ _] _ _) _) _ _ _); refine mkTR ?_) | ((with_reducible show _ ∧ _); (rename St _ _ _ _ => hsX); refine' fin_disp (by (simp [sizeLine])) hsX (by walk_at "rpa") ?_; clear hsX; intro _ _ _ _ _ _) | ((with_reducible show wpAny _ _ (call (Value.ref 77) _) _ _ _); (rename St _ _ _ _ => hsX); refine' c_draw (by walk_at "gE") (by (first | assumption | exact Rm.le (by assumption) (by omega))) hsX (by walk_at "rem") (by walk_at "rem") (by omega) (by omega) (by omega) ?_; clear hsX; intro _ _ _ _ _ _)) | (first | ((with_reducible show wpAny _ _ (assign (Expr.Subscript _ _ _) _ _) _ _ _); refine asgS ?_) | ((with_reducible show wpAny _ _ (setItem (Value.ref _) (Value.int _ _) _) _ _ _); (rename St _ _ _ _ => hsX); refine' setD hsX (by walk_at "mem") (by omega) (by walk_at "up") ?_; clear hsX; intro _ _) | ((with_reducible show wpAny _ _ (subscriptTail _ _ _ _) _ _ _); refine' idxP' (by assumption) (by assumption) (by assumption) (by (first | exact Or.inl ⟨_, by assumption⟩ | exact Or.inr (by walk_at "mem"))) (by omega) (by omega) (by omega) ?_; intro _ _ _ _ _ _ _ _ _ _ _) | ((with_reducible show wpAny _ _ (subscriptTail _ _ _ (Value.int 0 _)) _ _ _); refine' idxT (j := 0) (by assumption) (by (first | exact Or.inl ⟨_, by assumption⟩ | exact Or.inr (by walk_at "mem"))) (by decide) (by decide) (by rfl) (by rfl) ?_) | ((with_reducible show wpAny _ _ (subscriptTail _ _ _ (Value.int 1 _)) _ _ _); refine' idxT (j := 1) (by assumption) (by (first | exact Or.inl ⟨_, by assumption⟩ | exact Or.inr (by walk_at "mem"))) (by decide) (by decide) (by rfl) (by rfl) ?_) | ((with_reducible show wpAny _ _ (subscriptTail _ _ _ _) _ _ _); (rename St _ _ _ _ => hsX); refine' getD' hsX (by (exact Or.inr (by walk_at "mem"))) (by assumption) ?_; clear hsX; intro _ _)) | (first | (first | ((with_reducible show wpAny _ _ (eval (Expr.Subscript _ (Expr.Slice none _ _ _) _) _) _ _ _); refine xSliceU ?_) | ((with_reducible show wpAny _ _ (callWith _ (Value.ref _) _ _ _) _ _ _); refine' cwF (by walk_at "gE") (by ((show keepIn (hd.heap_39 _) _ = _; k_is))) ?_) | ((with_reducible show wpAny _ _ (unaryOp UnaryOp.USub _) _ _ _); (rename St _ _ _ _ => hsX); refine negI hsX ?_; clear hsX; intro _ _ _) | ((with_reducible show wpAny _ _ (eval (Expr.Name _ _) (compEnvC _ _ _ _)) _ _ _); first | refine' nK (by assumption) (by assumption) (by assumption) ?_ | refine' nKC (by assumption) (by rfl) (by assumption) ?_) | ((with_reducible show wpAny _ _ (eval (Expr.Dict [] [] _) _) _ _ _); (rename St _ _ _ _ => hsX); refine' mkD hsX (by assumption) ?_; clear hsX; intro _ _ _ _ _) | ((with_reducible show wpAny _ _ (isTrue (Expr.Compare _ [_, _] [_, _] _) _ _) _ _ _); refine isTrue_chain ?_) | ((with_reducible show wpAny _ _ (testChain _ _ _ _) _ _ _); first | refine test_link ?_ | refine test_last ?_) | ((with_reducible show _ ∧ _); refine' and_g (by assumption) (by walk_at "gE") ?_) | ((with_reducible show wpAny _ _ (call (Value.type "range") [_]) _ _ _); (rename St _ _ _ _ => hsX); (refine rng1 hsX ?_); clear hsX; intro _ _ _ _ _ _) | ((with_reducible show wpAny _ _ (call (Value.type "range") [_, _]) _ _ _); (rename St _ _ _ _ => hsX); (refine rng2 hsX ?_); clear hsX; intro _ _ _ _ _)) | walk_at "S" | (first | ((with_reducible show wpAny _ _ (evalPart _ _) _ _ _); first | with_reducible refine part_none ?_ | with_reducible refine part_some ?_) | ((with_reducible show _ ∧ _); (rename St _ _ _ _ => hsX); (refine And.intro (by (try simp only [List.length_cons, List.length_nil]); decide) ⟨_, _, _, hsX, ?_⟩); clear hsX; intro _ _ _ _) | ((with_reducible show wpAny _ _ (getMethod (Value.ref _) (Str.ofString "append") _) _ _ _); refine' mApp (by assumption) (by (first | exact Or.inl ⟨_, by assumption⟩ | exact Or.inr (by walk_at "mem"))) ?_) | ((with_reducible show wpAny _ _ (getMethod (Value.ref _) (Str.ofString "pop") _) _ _ _); refine' mPop (by assumption) (by (first | exact Or.inl ⟨_, by assumption⟩ | exact Or.inr (by walk_at "mem"))) ?_)))
  rename St _ _ _ _ => hs
  obtain ⟨oC, ⟨nC, rfl⟩, hJC, hs⟩ := hs.freeze (.tail .head)
  have lC := Kn.set_le (o := PySem.W.listOf ([] : List Value).toArray nC) hJC
  have hc0 : Rp (J.set CA (PySem.W.listOf ([] : List Value).toArray nC)) (.ref CA) (.list []) := .list Kn.set_self .nil
  revert hs hc0 lC
  generalize J.set CA (PySem.W.listOf ([] : List Value).toArray nC) = J1
  intro hs lC hc0
  replace g := g.mono lC
  replace hp := hp.mono lC
  refine xForL (r.le (by omega)) ?_
  repeat' first | (first | ((with_reducible show wpAny _ _ (eval (Expr.Tuple [Expr.Name _ _, Expr.Call _ _ _ _] _ _) _) _ _ _); refine mkTR ?_) | ((with_reducible show _ ∧ _); (rename St _ _ _ _ => hsX); refine' fin_disp (by (simp [sizeLine])) hsX (by walk_at "rpa") ?_; clear hsX; intro _ _ _ _ _ _) | ((with_reducible show wpAny _ _ (call (Value.ref 77) _) _ _ _); (rename St _ _ _ _ => hsX); refine' c_draw (by walk_at "gE") (by (first | assumption | exact Rm.le (by assumption) (by omega))) hsX (by walk_at "rem") (by walk_at "rem") (by omega) (by omega) (by omega) ?_; clear hsX; intro _ _ _ _ _ _)) | (first | ((with_reducible show wpAny _ _ (assign (Expr.Subscript _ _ _) _ _) _ _ _); refine asgS ?_) | ((with_reducible show wpAny _ _ (setItem (Value.ref _) (Value.int _ _) _) _ _ _); (rename St _ _ _ _ => hsX); refine' setD hsX (by walk_at "mem") (by omega) (by walk_at "up") ?_; clear hsX; intro _ _) | ((with_reducible show wpAny _ _ (subscriptTail _ _ _ _) _ _ _); refine' idxP' (by assumption) (by assumption) (by assumption) (by (first | exact Or.inl ⟨_, by assumption⟩ | exact Or.inr (by walk_at "mem"))) (by omega) (by omega) (by omega) ?_; intro _ _ _ _ _ _ _ _ _ _ _) | ((with_reducible show wpAny _ _ (subscriptTail _ _ _ (Value.int 0 _)) _ _ _); refine' idxT (j := 0) (by assumption) (by (first | exact Or.inl ⟨_, by assumption⟩ | exact Or.inr (by walk_at "mem"))) (by decide) (by decide) (by rfl) (by rfl) ?_) | ((with_reducible show wpAny _ _ (subscriptTail _ _ _ (Value.int 1 _)) _ _ _); refine' idxT (j := 1) (by assumption) (by (first | exact Or.inl ⟨_, by assumption⟩ | exact Or.inr (by walk_at "mem"))) (by decide) (by decide) (by rfl) (by rfl) ?_) | ((with_reducible show wpAny _ _ (subscriptTail _ _ _ _) _ _ _); (rename St _ _ _ _ => hsX); refine' getD' hsX (by (exact Or.inr (by walk_at "mem"))) (by assumption) ?_; clear hsX; intro _ _)) | (first | (first | ((with_reducible show wpAny _ _ (eval (Expr.Subscript _ (Expr.Slice none _ _ _) _) _) _ _ _); refine xSliceU ?_) | ((with_reducible show wpAny _ _ (callWith _ (Value.ref _) _ _ _) _ _ _); refine' cwF (by walk_at "gE") (by ((show keepIn (hd.heap_39 _) _ = _; k_is))) ?_) | ((with_reducible show wpAny _ _ (unaryOp UnaryOp.USub _) _ _ _); (rename St _ _ _ _ => hsX); refine negI hsX ?_; clear hsX; intro _ _ _) | ((with_reducible show wpAny _ _ (eval (Expr.Name _ _) (compEnvC _ _ _ _)) _ _ _); first | refine' nK (by assumption) (by assumption) (by assumption) ?_ | refine' nKC (by assumption) (by rfl) (by assumption) ?_) | ((with_reducible show wpAny _ _ (eval (Expr.Dict [] [] _) _) _ _ _); (rename St _ _ _ _ => hsX); refine' mkD hsX (by assumption) ?_; clear hsX; intro _ _ _ _ _) | ((with_reducible show wpAny _ _ (isTrue (Expr.Compare _ [_, _] [_, _] _) _ _) _ _ _); refine isTrue_chain ?_) | ((with_reducible show wpAny _ _ (testChain _ _ _ _) _ _ _); first | refine test_link ?_ | refine test_last ?_) | ((with_reducible show _ ∧ _); refine' and_g (by assumption) (by walk_at "gE") ?_) | ((with_reducible show wpAny _ _ (call (Value.type "range") [_]) _ _ _); (rename St _ _ _ _ => hsX); (refine rng1 hsX ?_); clear hsX; intro _ _ _ _ _ _) | ((with_reducible show wpAny _ _ (call (Value.type "range") [_, _]) _ _ _); (rename St _ _ _ _ => hsX); (refine rng2 hsX ?_); clear hsX; intro _ _ _ _ _)) | walk_at "S" | (first | ((with_reducible show wpAny _ _ (evalPart _ _) _ _ _); first | with_reducible refine part_none ?_ | with_reducible refine part_some ?_) | ((with_reducible show _ ∧ _); (rename St _ _ _ _ => hsX); (refine And.intro (by (try simp only [List.length_cons, List.length_nil]); decide) ⟨_, _, _, hsX, ?_⟩); clear hsX; intro _ _ _ _) | ((with_reducible show wpAny _ _ (getMethod (Value.ref _) (Str.ofString "append") _) _ _ _); refine' mApp (by assumption) (by (first | exact Or.inl ⟨_, by assumption⟩ | exact Or.inr (by walk_at "mem"))) ?_) | ((with_reducible show wpAny _ _ (getMethod (Value.ref _) (Str.ofString "pop") _) _ _ _); refine' mPop (by assumption) (by (first | exact Or.inl ⟨_, by assumption⟩ | exact Or.inr (by walk_at "mem"))) ?_)))
  rename St _ _ _ _ => hs
  obtain ⟨pa, pvs, pn, rfl, epa, rpa⟩ := hp.listInv
  have hpl : pvs.length = ps.length := by have := rpa.length; rwa [List.length_map] at this
  refine ForL.mk' ?Jv ?Post hs epa ?h0 ?hle ?turn ?done ?hp (.inr ⟨⟨_, _, _, rfl⟩, fun i v e => ?_⟩)
  case Jv =>
   exact fun i I' W' => Ex3 fun m cv dvs => All5 (Kn.le J1 I') (W' = (DA, LsO dvs) :: (P, PotO C dn) :: (C, CelO) :: (L, NsO m) :: (c, CeO (some (.ref DA))) :: W) ((m "pot" = some (.ref P) ∧ m "codes" = some cv)) (Rp I' cv (.list ((flat (ps.take i)).map .int))) (RpA I' dvs (((ps.take i).map dueOf).map pcD))
  case Post =>
   exact fun s => Ex4 fun I' m cv dvs => All5 (Kn.le J1 I') (St s₀ I' ((DA, LsO dvs) :: (P, PotO C dn) :: (C, CelO) :: (L, NsO m) :: (c, CeO (some (.ref DA))) :: W) s) ((m "pot" = some (.ref P) ∧ m "codes" = some cv)) (Rp I' cv (.list ((flat ps).map .int))) (RpA I' dvs ((ps.map dueOf).map pcD))
  case h0 => exact ⟨_, .ref CA, [], Kn.le.rfl', rfl, ⟨by walk_at "lk", by walk_at "lk"⟩, by simpa [flat] using hc0, by simpa using RpA.nil⟩
  case hle => rintro i I' W' ⟨_, _, _, h, _⟩; exact h
  case done =>
    rintro I' _ s ⟨m, cv, dvs, hle', rfl, ⟨e1, e2⟩, q1, q2⟩ hs
    rw [hpl, List.take_length] at q1 q2
    exact ⟨_, _, _, _, hle', hs, ⟨e1, e2⟩, q1, q2⟩
  case turn =>
    rintro i v I' _ it o s hiv ⟨m, cv, dvs, hle', rfl, ⟨e1, e2⟩, q1, q2⟩ hs
    obtain ⟨p, hpi, hv'⟩ := rpa_at (f := partD) (rpa.mono hle') hiv
    obtain ⟨ta, x, y, tn, rfl, eta, rx, ry⟩ := partInv hv'
    have hpm : p ∈ ps := List.mem_of_getElem? hpi
    have okp := hok p hpm
    have hx5 := (words_ok _ okp.1).2.1
    have hy2 := (betw_ok _ okp.2).2.1
    have hfl := flat_len (ps := ps.take i) fun q hq => hok q (List.mem_of_mem_take hq)
    have htl : (ps.take i).length ≤ 8 := by rw [List.length_take]; omega
    have hdl := q2.length
    rw [List.length_map, List.length_map] at hdl
    replace g := g.mono hle'
    repeat' first | (first | ((with_reducible show wpAny _ _ (binaryOp Operator.Add _ _) _ _ _); refine' catR (by assumption) (by walk_at "rpa") (by walk_at "rpa") (by ((simp only [List.length_map, List.length_append, sizeLine]; omega))) ?_; intro _ _ _ _ _ _) | ((with_reducible show wpAny _ _ (call (Value.ref 91) _) _ _ _); (rename St _ _ _ _ => hsX); refine' c_law_gap (by walk_at "gE") (by (first | assumption | exact Rm.le (by assumption) (by omega))) hsX (by walk_at "rpa") (by omega) (by walk_at "rpa") ?_; clear hsX; intro _ _ _)) | (first | ((with_reducible show wpAny _ _ (eval (Expr.Tuple [Expr.Name _ _, Expr.Call _ _ _ _] _ _) _) _ _ _); refine mkTR ?_) | ((with_reducible show _ ∧ _); (rename St _ _ _ _ => hsX); refine' fin_disp (by (simp [sizeLine])) hsX (by walk_at "rpa") ?_; clear hsX; intro _ _ _ _ _ _) | ((with_reducible show wpAny _ _ (call (Value.ref 77) _) _ _ _); (rename St _ _ _ _ => hsX); refine' c_draw (by walk_at "gE") (by (first | assumption | exact Rm.le (by assumption) (by omega))) hsX (by walk_at "rem") (by walk_at "rem") (by omega) (by omega) (by omega) ?_; clear hsX; intro _ _ _ _ _ _)) | (first | ((with_reducible show wpAny _ _ (assign (Expr.Subscript _ _ _) _ _) _ _ _); refine asgS ?_) | ((with_reducible show wpAny _ _ (setItem (Value.ref _) (Value.int _ _) _) _ _ _); (rename St _ _ _ _ => hsX); refine' setD hsX (by walk_at "mem") (by omega) (by walk_at "up") ?_; clear hsX; intro _ _) | ((with_reducible show wpAny _ _ (subscriptTail _ _ _ _) _ _ _); refine' idxP' (by assumption) (by assumption) (by assumption) (by (first | exact Or.inl ⟨_, by assumption⟩ | exact Or.inr (by walk_at "mem"))) (by omega) (by omega) (by omega) ?_; intro _ _ _ _ _ _ _ _ _ _ _) | ((with_reducible show wpAny _ _ (subscriptTail _ _ _ (Value.int 0 _)) _ _ _); refine' idxT (j := 0) (by assumption) (by (first | exact Or.inl ⟨_, by assumption⟩ | exact Or.inr (by walk_at "mem"))) (by decide) (by decide) (by rfl) (by rfl) ?_) | ((with_reducible show wpAny _ _ (subscriptTail _ _ _ (Value.int 1 _)) _ _ _); refine' idxT (j := 1) (by assumption) (by (first | exact Or.inl ⟨_, by assumption⟩ | exact Or.inr (by walk_at "mem"))) (by decide) (by decide) (by rfl) (by rfl) ?_) | ((with_reducible show wpAny _ _ (subscriptTail _ _ _ _) _ _ _); (rename St _ _ _ _ => hsX); refine' getD' hsX (by (exact Or.inr (by walk_at "mem"))) (by assumption) ?_; clear hsX; intro _ _)) | (first | (first | ((with_reducible show wpAny _ _ (eval (Expr.Subscript _ (Expr.Slice none _ _ _) _) _) _ _ _); refine xSliceU ?_) | ((with_reducible show wpAny _ _ (callWith _ (Value.ref _) _ _ _) _ _ _); refine' cwF (by walk_at "gE") (by ((show keepIn (hd.heap_39 _) _ = _; k_is))) ?_) | ((with_reducible show wpAny _ _ (unaryOp UnaryOp.USub _) _ _ _); (rename St _ _ _ _ => hsX); refine negI hsX ?_; clear hsX; intro _ _ _) | ((with_reducible show wpAny _ _ (eval (Expr.Name _ _) (compEnvC _ _ _ _)) _ _ _); first | refine' nK (by assumption) (by assumption) (by assumption) ?_ | refine' nKC (by assumption) (by rfl) (by assumption) ?_) | ((with_reducible show wpAny _ _ (eval (Expr.Dict [] [] _) _) _ _ _); (rename St _ _ _ _ => hsX); refine' mkD hsX (by assumption) ?_; clear hsX; intro _ _ _ _ _) | ((with_reducible show wpAny _ _ (isTrue (Expr.Compare _ [_, _] [_, _] _) _ _) _ _ _); refine isTrue_chain ?_) | ((with_reducible show wpAny _ _ (testChain _ _ _ _) _ _ _); first | refine test_link ?_ | refine test_last ?_) | ((with_reducible show _ ∧ _); refine' and_g (by assumption) (by walk_at "gE") ?_) | ((with_reducible show wpAny _ _ (call (Value.type "range") [_]) _ _ _); (rename St _ _ _ _ => hsX); (refine rng1 hsX ?_); clear hsX; intro _ _ _ _ _ _) | ((with_reducible show wpAny _ _ (call (Value.type "range") [_, _]) _ _ _); (rename St _ _ _ _ => hsX); (refine rng2 hsX ?_); clear hsX; intro _ _ _ _ _)) | walk_at "S" | (first | ((with_reducible show wpAny _ _ (evalPart _ _) _ _ _); first | with_reducible refine part_none ?_ | with_reducible refine part_some ?_) | ((with_reducible show _ ∧ _); (rename St _ _ _ _ => hsX); (refine And.intro (by (try simp only [List.length_cons, List.length_nil]); decide) ⟨_, _, _, hsX, ?_⟩); clear hsX; intro _ _ _ _) | ((with_reducible show wpAny _ _ (getMethod (Value.ref _) (Str.ofString "append") _) _ _ _); refine' mApp (by assumption) (by (first | exact Or.inl ⟨_, by assumption⟩ | exact Or.inr (by walk_at "mem"))) ?_) | ((with_reducible show wpAny _ _ (getMethod (Value.ref _) (Str.ofString "pop") _) _ _ _); refine' mPop (by assumption) (by (first | exact Or.inl ⟨_, by assumption⟩ | exact Or.inr (by walk_at "mem"))) ?_)))
    rename Rp _ _ (.tuple _) => hT
    rename Rp _ _ (.list (_ ++ _ ++ _)) => hcv
    rename St _ _ _ _ => hs
    refine appL hs (by walk_at "mem") (by walk_at "up") (by simp only [sizeLine]; omega) fun s' hs => ⟨rfl, ?_⟩
    repeat' first | (first | ((with_reducible show wpAny _ _ (binaryOp Operator.Add _ _) _ _ _); refine' catR (by assumption) (by walk_at "rpa") (by walk_at "rpa") (by ((simp only [List.length_map, List.length_append, sizeLine]; omega))) ?_; intro _ _ _ _ _ _) | ((with_reducible show wpAny _ _ (call (Value.ref 91) _) _ _ _); (rename St _ _ _ _ => hsX); refine' c_law_gap (by walk_at "gE") (by (first | assumption | exact Rm.le (by assumption) (by omega))) hsX (by walk_at "rpa") (by omega) (by walk_at "rpa") ?_; clear hsX; intro _ _ _)) | (first | ((with_reducible show wpAny _ _ (eval (Expr.Tuple [Expr.Name _ _, Expr.Call _ _ _ _] _ _) _) _ _ _); refine mkTR ?_) | ((with_reducible show _ ∧ _); (rename St _ _ _ _ => hsX); refine' fin_disp (by (simp [sizeLine])) hsX (by walk_at "rpa") ?_; clear hsX; intro _ _ _ _ _ _) | ((with_reducible show wpAny _ _ (call (Value.ref 77) _) _ _ _); (rename St _ _ _ _ => hsX); refine' c_draw (by walk_at "gE") (by (first | assumption | exact Rm.le (by assumption) (by omega))) hsX (by walk_at "rem") (by walk_at "rem") (by omega) (by omega) (by omega) ?_; clear hsX; intro _ _ _ _ _ _)) | (first | ((with_reducible show wpAny _ _ (assign (Expr.Subscript _ _ _) _ _) _ _ _); refine asgS ?_) | ((with_reducible show wpAny _ _ (setItem (Value.ref _) (Value.int _ _) _) _ _ _); (rename St _ _ _ _ => hsX); refine' setD hsX (by walk_at "mem") (by omega) (by walk_at "up") ?_; clear hsX; intro _ _) | ((with_reducible show wpAny _ _ (subscriptTail _ _ _ _) _ _ _); refine' idxP' (by assumption) (by assumption) (by assumption) (by (first | exact Or.inl ⟨_, by assumption⟩ | exact Or.inr (by walk_at "mem"))) (by omega) (by omega) (by omega) ?_; intro _ _ _ _ _ _ _ _ _ _ _) | ((with_reducible show wpAny _ _ (subscriptTail _ _ _ (Value.int 0 _)) _ _ _); refine' idxT (j := 0) (by assumption) (by (first | exact Or.inl ⟨_, by assumption⟩ | exact Or.inr (by walk_at "mem"))) (by decide) (by decide) (by rfl) (by rfl) ?_) | ((with_reducible show wpAny _ _ (subscriptTail _ _ _ (Value.int 1 _)) _ _ _); refine' idxT (j := 1) (by assumption) (by (first | exact Or.inl ⟨_, by assumption⟩ | exact Or.inr (by walk_at "mem"))) (by decide) (by decide) (by rfl) (by rfl) ?_) | ((with_reducible show wpAny _ _ (subscriptTail _ _ _ _) _ _ _); (rename St _ _ _ _ => hsX); refine' getD' hsX (by (exact Or.inr (by walk_at "mem"))) (by assumption) ?_; clear hsX; intro _ _)) | (first | (first | ((with_reducible show wpAny _ _ (eval (Expr.Subscript _ (Expr.Slice none _ _ _) _) _) _ _ _); refine xSliceU ?_) | ((with_reducible show wpAny _ _ (callWith _ (Value.ref _) _ _ _) _ _ _); refine' cwF (by walk_at "gE") (by ((show keepIn (hd.heap_39 _) _ = _; k_is))) ?_) | ((with_reducible show wpAny _ _ (unaryOp UnaryOp.USub _) _ _ _); (rename St _ _ _ _ => hsX); refine negI hsX ?_; clear hsX; intro _ _ _) | ((with_reducible show wpAny _ _ (eval (Expr.Name _ _) (compEnvC _ _ _ _)) _ _ _); first | refine' nK (by assumption) (by assumption) (by assumption) ?_ | refine' nKC (by assumption) (by rfl) (by assumption) ?_) | ((with_reducible show wpAny _ _ (eval (Expr.Dict [] [] _) _) _ _ _); (rename St _ _ _ _ => hsX); refine' mkD hsX (by assumption) ?_; clear hsX; intro _ _ _ _ _) | ((with_reducible show wpAny _ _ (isTrue (Expr.Compare _ [_, _] [_, _] _) _ _) _ _ _); refine isTrue_chain ?_) | ((with_reducible show wpAny _ _ (testChain _ _ _ _) _ _ _); first | refine test_link ?_ | refine test_last ?_) | ((with_reducible show _ ∧ _); refine' and_g (by assumption) (by walk_at "gE") ?_) | ((with_reducible show wpAny _ _ (call (Value.type "range") [_]) _ _ _); (rename St _ _ _ _ => hsX); (refine rng1 hsX ?_); clear hsX; intro _ _ _ _ _ _) | ((with_reducible show wpAny _ _ (call (Value.type "range") [_, _]) _ _ _); (rename St _ _ _ _ => hsX); (refine rng2 hsX ?_); clear hsX; intro _ _ _ _ _)) | walk_at "S" | (first | ((with_reducible show wpAny _ _ (evalPart _ _) _ _ _); first | with_reducible refine part_none ?_ | with_reducible refine part_some ?_) | ((with_reducible show _ ∧ _); (rename St _ _ _ _ => hsX); (refine And.intro (by (try simp only [List.length_cons, List.length_nil]); decide) ⟨_, _, _, hsX, ?_⟩); clear hsX; intro _ _ _ _) | ((with_reducible show wpAny _ _ (getMethod (Value.ref _) (Str.ofString "append") _) _ _ _); refine' mApp (by assumption) (by (first | exact Or.inl ⟨_, by assumption⟩ | exact Or.inr (by walk_at "mem"))) ?_) | ((with_reducible show wpAny _ _ (getMethod (Value.ref _) (Str.ofString "pop") _) _ _ _); refine' mPop (by assumption) (by (first | exact Or.inl ⟨_, by assumption⟩ | exact Or.inr (by walk_at "mem"))) ?_)))
    have etk : ps.take (i + 1) = ps.take i ++ [p] := by rw [List.take_add_one, hpi]; rfl
    refine Turn.next hs (by walk_at "rem") ⟨_, _, _, hle'.tr (by walk_at "le"), rfl, ⟨by walk_at "lk", by walk_at "lk"⟩, ?_, ?_⟩
    · have e1 : flat [p] = p.1 ++ p.2 := by simp [flat]
      rw [etk, flat_app, e1, List.map_append, List.map_append, ← List.append_assoc]
      exact hcv.mono (by walk_at "le")
    · rw [etk, List.map_append, List.map_append]
      refine (q2.mono (by walk_at "le")).append (.one ?_)
      have e2 : pcD (dueOf p) = .tuple [.list (p.1.map .int), .int (gapL p.1 p.2)] := by rw [gap_law okp]; rfl
      rw [e2]; exact hT
  case hp =>
    rintro s ⟨I', m, cv, dvs, hle', hs, ⟨e1, e2⟩, q1, q2⟩

    obtain ⟨oD, ⟨nD, rfl⟩, hJD, hs⟩ := hs.freeze .head
    have lD := Kn.set_le (o := PySem.W.listOf dvs.toArray nD) hJD
    have hdue : Rp (I'.set DA (PySem.W.listOf dvs.toArray nD)) (.ref DA) (.list ((ps.map dueOf).map pcD)) := .list Kn.set_self (q2.mono lD)
    replace q1 := q1.mono lD
    replace g := (g.mono hle').mono lD
    have hleA : Kn.le I (I'.set DA (PySem.W.listOf dvs.toArray nD)) := ((hle.tr lC).tr hle').tr lD
    revert hs hdue q1 g hleA
    generalize I'.set DA (PySem.W.listOf dvs.toArray nD) = J2
    intro hs hdue q1 g hleA
    exact k2 _ _ _ _ _ ps P C DA dn hleA g hok hl1 hl8 hdn hs e1 e2 q1 hdue
  · obtain ⟨p, _, hv'⟩ := rpa_at (f := partD) rpa e
    obtain ⟨ta, x, y, tn, rfl, _⟩ := partInv hv'
    exact ⟨ta, rfl⟩
end

/-! # part D8 -/
theorem noMix_pcs (ps : List Piece) : PySem.SeqAt.noMix (.list (ps.map pcD)) (.list (ps.map pcD)) = true := nm_pcs ps
/-- the test of the law's stops -/
def stP (ps : List Piece) (v : Value) : Bool := match v with
  | .int j _ => stopB ps (j.toNat + 1)
  | _ => false
theorem ints_from : ∀ (vs : List Value) (k : Nat), (∀ (j : Nat) v, vs[j]? = some v → ∃ t, v = .int ((k + j : Nat) : Int) t) → IntsAre vs (nI (List.range' k vs.length))
  | [], _, _ => .nil
  | v :: r, k, h => by
    obtain ⟨t, rfl⟩ := h 0 v rfl
    have ih := ints_from r (k + 1) fun j v e => by
      obtain ⟨t, rfl⟩ := h (j + 1) v (by simpa using e)
      exact ⟨t, by congr 1; omega⟩
    exact .cons _ _ ih
theorem paired_plus {xs ys : List Value} {zs : List Int} (h : Paired (fun v y => Ex3 fun i t t' => v = Value.int i t ∧ y = .int (i + 1) t') xs ys) (hz : IntsAre xs zs) : IntsAre ys (zs.map (· + 1)) := by
  induction h generalizing zs with
  | nil => cases hz; exact .nil
  | cons h _ ih =>
    obtain ⟨i, t, t', rfl, rfl⟩ := h
    cases hz with
    | cons _ _ hz => exact .cons _ _ (ih hz)
theorem comp_stops {ps : List Piece} {vs ys : List Value} (hl : vs.length = ps.length) (hv : ∀ (j : Nat) v, vs[j]? = some v → ∃ t, v = .int (j : Nat) t) (hp : Paired (fun v y => Ex3 fun i t t' => v = Value.int i t ∧ y = .int (i + 1) t') (vs.filter (stP ps)) ys) : IntsAre ys (nI (stopsL ps)) := by
  have h1 := ints_from vs 0 fun j v e => by obtain ⟨t, rfl⟩ := hv j v e; exact ⟨t, by congr 1; omega⟩
  have h2 := paired_plus hp (ints_filter (p := stP ps) (p' := fun j => stopB ps (j.toNat + 1)) h1 fun i t => rfl)
  rw [hl] at h2
  have e : ((nI (List.range' 0 ps.length)).filter fun j => stopB ps (j.toNat + 1)).map (· + 1) = nI (stopsL ps) := by
    unfold stopsL nI
    rw [List.filter_map, List.map_map, List.map_map, List.range_eq_range']
    congr 1
  rwa [e] at h2
theorem last_getD {xs : List Int} (h : xs ≠ []) : xs.getLast h = xs.getD (xs.length - 1) 0 := by
  rw [List.getLast_eq_getElem, List.getD_eq_getElem?_getD, List.getElem?_eq_getElem (by have := List.length_pos_iff.mpr h; omega)]; rfl
theorem stP_is {ps : List Piece} (f : fine ps) {i : Nat} {t : Tok} (hi : i < ps.length) (hne : (ps.getD i ([], 0)).1 ≠ []) : stP ps (.int (i : Nat) t) = (decide (i = ps.length - 1) || (decide (gp ps i = 2) || decide ((ps.getD i ([], 0)).1.getLast hne ≠ 46))) := by
  have h := fine_at f hi
  show stopB ps (i + 1) = _
  unfold stopB mayB gp
  rw [Nat.add_sub_cancel, last_getD hne]
  rw [show decide (i + 1 = ps.length) = decide (i = ps.length - 1) from decide_eq_decide.mpr (by omega), show decide (1 < (ps.getD i ([], 0)).2) = decide ((ps.getD i ([], 0)).2 = 2) from decide_eq_decide.mpr (by omega)]
/-- what is known of all roads -/
def AllK (ps : List Piece) (W0 W1 : Int) (f : Int → Option Value) (lst : Int) : Prop :=
  (∀ k a, Rch ps W0 W1 k a → Ex2 fun v t => All4 (f ((k : Nat) : Int) = some (.int ((v : Nat) : Int) t)) (a ≤ v) (Rch ps W0 W1 k v) ((a = ps.length → lst ≤ k))) ∧ (lst = ps.length + 1 ∨ ∃ k : Nat, lst = k ∧ Rch ps W0 W1 k ps.length)
/-- the law from its tenth statement on -/
def Rest3 (w : World) (A : Around) (E : Value → Shared → Prop) (s₀ : Shared) (Q : Flow → Shared → Prop) (L c : Addr) (I₀ : Kn) (X : List Stmt) (env : Env) : Prop :=
  ∀ (I : Kn) (W : Own) (s : Shared) (m : Str → Option Value) (pv due : Value) (ps : List Piece) (P C FD : Addr) (dn W0 W1 lst : Int) (f : Int → Option Value) (t0 t1 tl : Tok), Kn.le I₀ I → G0 w I → fine ps → 1 ≤ ps.length → ps.length ≤ 8 → dn ≤ 60 →
    St s₀ I ((P, PotO C dn) :: (C, CelO) :: (L, NsO m) :: (c, CeO (some due)) :: W) s → m "pot" = some (.ref P) → m "pieces" = some pv → m "first_room" = some (.int W0 t0) → m "room" = some (.int W1 t1) → m "furthest" = some (.ref FD) → m "least" = some (.int lst tl) →
    Rp I pv (.list (ps.map pcD)) → Rp I due (.list (ps.map pcD)) → (∃ o, I FD = some o ∧ DiO f 1000 o) → (FD == sysModules) = false → AllK ps W0 W1 f lst →
    wpAny (model PROG w) A (execs X env) Q E s
section
variable {w : World} {A : Around} {E : Value → Shared → Prop} {s₀ : Shared} {I₀ : Kn} {Q : Flow → Shared → Prop} {L c fa : Addr}
theorem c_law2 {qual : Str} {body : List Stmt} {scope : Scope} {name : Str} {params : Arguments} {dV kV doc pm cdv ct oc : Value} {an od : Option Addr} {osl : Array (Option Value)} {cd : Value} (r : Rm A 4)
    (ho : (hd.heap_39 w.params).lookup 108 = some ⟨oc, od, .func (fnX name qual params body scope [] dV kV doc pm an cdv ct), osl⟩)
    (k3 : Rest3 w A E s₀ Q L c I₀ (body.drop 9) (envX qual scope L fa cd [("due", c)])) : Rest2 w A E s₀ Q L c I₀ (body.drop 3) (envX qual scope L fa cd [("due", c)]) := by
  refine bodyEq (P := fun qual body scope => Rest3 w A E s₀ Q L c I₀ (body.drop 9) (envX qual scope L fa cd [("due", c)]) → Rest2 w A E s₀ Q L c I₀ (body.drop 3) (envX qual scope L fa cd [("due", c)])) (by k_is) ho ?_ k3
  clear ho k3
  intro k3
  intro I W s m cv ps P C DA dn hle0 g hok hl1 hl8 hdn hs e1 e2 hcv hdue
  show wpAny (model PROG w) A (execs (_ :: _) _) Q E s
  have hfn := fine_due hok
  have hfl := flat_len hok
  refine xAssignSw2 (x := "first_room") (y := "room") (r.le (by omega)) ?_ rfl rfl
  refine eP ?Pa ?ha ?ka
  case Pa =>
   exact fun v s => Ex5 fun T W0 W1 t0 t1 => v = .ref T ∧ St s₀ I ((T, TuO [.int W0 t0, .int W1 t1]) :: (P, PotO C (dn + 1 + 1)) :: (C, CelO) :: (L, NsO m) :: (c, CeO (some (.ref DA))) :: W) s
  · repeat' first | (first | ((with_reducible show wpAny _ _ (call (Value.ref 77) _) _ _ _); (rename St _ _ _ _ => hsX); refine' c_draw (by walk_at "gE") (by (first | assumption | exact Rm.le (by assumption) (by omega))) hsX (by walk_at "rem") (by walk_at "rem") (by omega) (by omega) (by omega) ?_; clear hsX; intro _ _ _ _ _ _)) | (first | ((with_reducible show wpAny _ _ (assign (Expr.Subscript _ _ _) _ _) _ _ _); refine asgS ?_) | ((with_reducible show wpAny _ _ (setItem (Value.ref _) (Value.int _ _) _) _ _ _); (rename St _ _ _ _ => hsX); refine' setD hsX (by walk_at "mem") (by omega) (by walk_at "up") ?_; clear hsX; intro _ _) | ((with_reducible show wpAny _ _ (subscriptTail _ _ _ _) _ _ _); refine' idxP' (by assumption) (by assumption) (by assumption) (by (first | exact Or.inl ⟨_, by assumption⟩ | exact Or.inr (by walk_at "mem"))) (by omega) (by omega) (by omega) ?_; intro _ _ _ _ _ _ _ _ _ _ _) | ((with_reducible show wpAny _ _ (subscriptTail _ _ _ (Value.int 0 _)) _ _ _); refine' idxT (j := 0) (by assumption) (by (first | exact Or.inl ⟨_, by assumption⟩ | exact Or.inr (by walk_at "mem"))) (by decide) (by decide) (by rfl) (by rfl) ?_) | ((with_reducible show wpAny _ _ (subscriptTail _ _ _ (Value.int 1 _)) _ _ _); refine' idxT (j := 1) (by assumption) (by (first | exact Or.inl ⟨_, by assumption⟩ | exact Or.inr (by walk_at "mem"))) (by decide) (by decide) (by rfl) (by rfl) ?_) | ((with_reducible show wpAny _ _ (subscriptTail _ _ _ _) _ _ _); (rename St _ _ _ _ => hsX); refine' getD' hsX (by (exact Or.inr (by walk_at "mem"))) (by assumption) ?_; clear hsX; intro _ _)) | (first | (first | ((with_reducible show wpAny _ _ (eval (Expr.Subscript _ (Expr.Slice none _ _ _) _) _) _ _ _); refine xSliceU ?_) | ((with_reducible show wpAny _ _ (callWith _ (Value.ref _) _ _ _) _ _ _); refine' cwF (by walk_at "gE") (by ((show keepIn (hd.heap_39 _) _ = _; k_is))) ?_) | ((with_reducible show wpAny _ _ (unaryOp UnaryOp.USub _) _ _ _); (rename St _ _ _ _ => hsX); refine negI hsX ?_; clear hsX; intro _ _ _) | ((with_reducible show wpAny _ _ (eval (Expr.Name _ _) (compEnvC _ _ _ _)) _ _ _); first | refine' nK (by assumption) (by assumption) (by assumption) ?_ | refine' nKC (by assumption) (by rfl) (by assumption) ?_) | ((with_reducible show wpAny _ _ (eval (Expr.Dict [] [] _) _) _ _ _); (rename St _ _ _ _ => hsX); refine' mkD hsX (by assumption) ?_; clear hsX; intro _ _ _ _ _) | ((with_reducible show wpAny _ _ (isTrue (Expr.Compare _ [_, _] [_, _] _) _ _) _ _ _); refine isTrue_chain ?_) | ((with_reducible show wpAny _ _ (testChain _ _ _ _) _ _ _); first | refine test_link ?_ | refine test_last ?_) | ((with_reducible show _ ∧ _); refine' and_g (by assumption) (by walk_at "gE") ?_) | ((with_reducible show wpAny _ _ (call (Value.type "range") [_]) _ _ _); (rename St _ _ _ _ => hsX); (refine rng1 hsX ?_); clear hsX; intro _ _ _ _ _ _) | ((with_reducible show wpAny _ _ (call (Value.type "range") [_, _]) _ _ _); (rename St _ _ _ _ => hsX); (refine rng2 hsX ?_); clear hsX; intro _ _ _ _ _)) | walk_at "S" | (first | ((with_reducible show wpAny _ _ (evalPart _ _) _ _ _); first | with_reducible refine part_none ?_ | with_reducible refine part_some ?_) | ((with_reducible show _ ∧ _); (rename St _ _ _ _ => hsX); (refine And.intro (by (try simp only [List.length_cons, List.length_nil]); decide) ⟨_, _, _, hsX, ?_⟩); clear hsX; intro _ _ _ _) | ((with_reducible show wpAny _ _ (getMethod (Value.ref _) (Str.ofString "append") _) _ _ _); refine' mApp (by assumption) (by (first | exact Or.inl ⟨_, by assumption⟩ | exact Or.inr (by walk_at "mem"))) ?_) | ((with_reducible show wpAny _ _ (getMethod (Value.ref _) (Str.ofString "pop") _) _ _ _); refine' mPop (by assumption) (by (first | exact Or.inl ⟨_, by assumption⟩ | exact Or.inr (by walk_at "mem"))) ?_)))
    exact ⟨_, _, _, _, _, rfl, by assumption⟩
  clear hs
  rintro _ s ⟨T, W0, W1, t0, t1, rfl, hs⟩
  refine ⟨T, _, _, _, _, _, rfl, hs, .inr (.head _), fun s' hs => ?_⟩
  replace hs := hs.rem .head
  repeat' first | (first | ((with_reducible show wpAny _ _ (call (Value.ref 77) _) _ _ _); (rename St _ _ _ _ => hsX); refine' c_draw (by walk_at "gE") (by (first | assumption | exact Rm.le (by assumption) (by omega))) hsX (by walk_at "rem") (by walk_at "rem") (by omega) (by omega) (by omega) ?_; clear hsX; intro _ _ _ _ _ _)) | (first | ((with_reducible show wpAny _ _ (assign (Expr.Subscript _ _ _) _ _) _ _ _); refine asgS ?_) | ((with_reducible show wpAny _ _ (setItem (Value.ref _) (Value.int _ _) _) _ _ _); (rename St _ _ _ _ => hsX); refine' setD hsX (by walk_at "mem") (by omega) (by walk_at "up") ?_; clear hsX; intro _ _) | ((with_reducible show wpAny _ _ (subscriptTail _ _ _ _) _ _ _); refine' idxP' (by assumption) (by assumption) (by assumption) (by (first | exact Or.inl ⟨_, by assumption⟩ | exact Or.inr (by walk_at "mem"))) (by omega) (by omega) (by omega) ?_; intro _ _ _ _ _ _ _ _ _ _ _) | ((with_reducible show wpAny _ _ (subscriptTail _ _ _ (Value.int 0 _)) _ _ _); refine' idxT (j := 0) (by assumption) (by (first | exact Or.inl ⟨_, by assumption⟩ | exact Or.inr (by walk_at "mem"))) (by decide) (by decide) (by rfl) (by rfl) ?_) | ((with_reducible show wpAny _ _ (subscriptTail _ _ _ (Value.int 1 _)) _ _ _); refine' idxT (j := 1) (by assumption) (by (first | exact Or.inl ⟨_, by assumption⟩ | exact Or.inr (by walk_at "mem"))) (by decide) (by decide) (by rfl) (by rfl) ?_) | ((with_reducible show wpAny _ _ (subscriptTail _ _ _ _) _ _ _); (rename St _ _ _ _ => hsX); refine' getD' hsX (by (exact Or.inr (by walk_at "mem"))) (by assumption) ?_; clear hsX; intro _ _)) | (first | (first | ((with_reducible show wpAny _ _ (eval (Expr.Subscript _ (Expr.Slice none _ _ _) _) _) _ _ _); refine xSliceU ?_) | ((with_reducible show wpAny _ _ (callWith _ (Value.ref _) _ _ _) _ _ _); refine' cwF (by walk_at "gE") (by ((show keepIn (hd.heap_39 _) _ = _; k_is))) ?_) | ((with_reducible show wpAny _ _ (unaryOp UnaryOp.USub _) _ _ _); (rename St _ _ _ _ => hsX); refine negI hsX ?_; clear hsX; intro _ _ _) | ((with_reducible show wpAny _ _ (eval (Expr.Name _ _) (compEnvC _ _ _ _)) _ _ _); first | refine' nK (by assumption) (by assumption) (by assumption) ?_ | refine' nKC (by assumption) (by rfl) (by assumption) ?_) | ((with_reducible show wpAny _ _ (eval (Expr.Dict [] [] _) _) _ _ _); (rename St _ _ _ _ => hsX); refine' mkD hsX (by assumption) ?_; clear hsX; intro _ _ _ _ _) | ((with_reducible show wpAny _ _ (isTrue (Expr.Compare _ [_, _] [_, _] _) _ _) _ _ _); refine isTrue_chain ?_) | ((with_reducible show wpAny _ _ (testChain _ _ _ _) _ _ _); first | refine test_link ?_ | refine test_last ?_) | ((with_reducible show _ ∧ _); refine' and_g (by assumption) (by walk_at "gE") ?_) | ((with_reducible show wpAny _ _ (call (Value.type "range") [_]) _ _ _); (rename St _ _ _ _ => hsX); (refine rng1 hsX ?_); clear hsX; intro _ _ _ _ _ _) | ((with_reducible show wpAny _ _ (call (Value.type "range") [_, _]) _ _ _); (rename St _ _ _ _ => hsX); (refine rng2 hsX ?_); clear hsX; intro _ _ _ _ _)) | walk_at "S" | (first | ((with_reducible show wpAny _ _ (evalPart _ _) _ _ _); first | with_reducible refine part_none ?_ | with_reducible refine part_some ?_) | ((with_reducible show _ ∧ _); (rename St _ _ _ _ => hsX); (refine And.intro (by (try simp only [List.length_cons, List.length_nil]); decide) ⟨_, _, _, hsX, ?_⟩); clear hsX; intro _ _ _ _) | ((with_reducible show wpAny _ _ (getMethod (Value.ref _) (Str.ofString "append") _) _ _ _); refine' mApp (by assumption) (by (first | exact Or.inl ⟨_, by assumption⟩ | exact Or.inr (by walk_at "mem"))) ?_) | ((with_reducible show wpAny _ _ (getMethod (Value.ref _) (Str.ofString "pop") _) _ _ _); refine' mPop (by assumption) (by (first | exact Or.inl ⟨_, by assumption⟩ | exact Or.inr (by walk_at "mem"))) ?_)))
  rename St _ _ _ _ => hs
  refine c_pieces_of g r hs hcv (fun p hp => okP_good (hok p hp)) (by omega) (by omega) fun J pv s' hle hpv hs => ?_
  generalize hpc : ps.map dueOf = pcs at hdue hfn hpv
  have hpcl : pcs.length = ps.length := by rw [← hpc, List.length_map]
  replace g := g.mono hle
  replace hdue := hdue.mono hle
  repeat' first | (first | ((with_reducible show wpAny _ _ (call (Value.ref 77) _) _ _ _); (rename St _ _ _ _ => hsX); refine' c_draw (by walk_at "gE") (by (first | assumption | exact Rm.le (by assumption) (by omega))) hsX (by walk_at "rem") (by walk_at "rem") (by omega) (by omega) (by omega) ?_; clear hsX; intro _ _ _ _ _ _)) | (first | ((with_reducible show wpAny _ _ (assign (Expr.Subscript _ _ _) _ _) _ _ _); refine asgS ?_) | ((with_reducible show wpAny _ _ (setItem (Value.ref _) (Value.int _ _) _) _ _ _); (rename St _ _ _ _ => hsX); refine' setD hsX (by walk_at "mem") (by omega) (by walk_at "up") ?_; clear hsX; intro _ _) | ((with_reducible show wpAny _ _ (subscriptTail _ _ _ _) _ _ _); refine' idxP' (by assumption) (by assumption) (by assumption) (by (first | exact Or.inl ⟨_, by assumption⟩ | exact Or.inr (by walk_at "mem"))) (by omega) (by omega) (by omega) ?_; intro _ _ _ _ _ _ _ _ _ _ _) | ((with_reducible show wpAny _ _ (subscriptTail _ _ _ (Value.int 0 _)) _ _ _); refine' idxT (j := 0) (by assumption) (by (first | exact Or.inl ⟨_, by assumption⟩ | exact Or.inr (by walk_at "mem"))) (by decide) (by decide) (by rfl) (by rfl) ?_) | ((with_reducible show wpAny _ _ (subscriptTail _ _ _ (Value.int 1 _)) _ _ _); refine' idxT (j := 1) (by assumption) (by (first | exact Or.inl ⟨_, by assumption⟩ | exact Or.inr (by walk_at "mem"))) (by decide) (by decide) (by rfl) (by rfl) ?_) | ((with_reducible show wpAny _ _ (subscriptTail _ _ _ _) _ _ _); (rename St _ _ _ _ => hsX); refine' getD' hsX (by (exact Or.inr (by walk_at "mem"))) (by assumption) ?_; clear hsX; intro _ _)) | (first | (first | ((with_reducible show wpAny _ _ (eval (Expr.Subscript _ (Expr.Slice none _ _ _) _) _) _ _ _); refine xSliceU ?_) | ((with_reducible show wpAny _ _ (callWith _ (Value.ref _) _ _ _) _ _ _); refine' cwF (by walk_at "gE") (by ((show keepIn (hd.heap_39 _) _ = _; k_is))) ?_) | ((with_reducible show wpAny _ _ (unaryOp UnaryOp.USub _) _ _ _); (rename St _ _ _ _ => hsX); refine negI hsX ?_; clear hsX; intro _ _ _) | ((with_reducible show wpAny _ _ (eval (Expr.Name _ _) (compEnvC _ _ _ _)) _ _ _); first | refine' nK (by assumption) (by assumption) (by assumption) ?_ | refine' nKC (by assumption) (by rfl) (by assumption) ?_) | ((with_reducible show wpAny _ _ (eval (Expr.Dict [] [] _) _) _ _ _); (rename St _ _ _ _ => hsX); refine' mkD hsX (by assumption) ?_; clear hsX; intro _ _ _ _ _) | ((with_reducible show wpAny _ _ (isTrue (Expr.Compare _ [_, _] [_, _] _) _ _) _ _ _); refine isTrue_chain ?_) | ((with_reducible show wpAny _ _ (testChain _ _ _ _) _ _ _); first | refine test_link ?_ | refine test_last ?_) | ((with_reducible show _ ∧ _); refine' and_g (by assumption) (by walk_at "gE") ?_) | ((with_reducible show wpAny _ _ (call (Value.type "range") [_]) _ _ _); (rename St _ _ _ _ => hsX); (refine rng1 hsX ?_); clear hsX; intro _ _ _ _ _ _) | ((with_reducible show wpAny _ _ (call (Value.type "range") [_, _]) _ _ _); (rename St _ _ _ _ => hsX); (refine rng2 hsX ?_); clear hsX; intro _ _ _ _ _)) | walk_at "S" | (first | ((with_reducible show wpAny _ _ (evalPart _ _) _ _ _); first | with_reducible refine part_none ?_ | with_reducible refine part_some ?_) | ((with_reducible show _ ∧ _); (rename St _ _ _ _ => hsX); (refine And.intro (by (try simp only [List.length_cons, List.length_nil]); decide) ⟨_, _, _, hsX, ?_⟩); clear hsX; intro _ _ _ _) | ((with_reducible show wpAny _ _ (getMethod (Value.ref _) (Str.ofString "append") _) _ _ _); refine' mApp (by assumption) (by (first | exact Or.inl ⟨_, by assumption⟩ | exact Or.inr (by walk_at "mem"))) ?_) | ((with_reducible show wpAny _ _ (getMethod (Value.ref _) (Str.ofString "pop") _) _ _ _); refine' mPop (by assumption) (by (first | exact Or.inl ⟨_, by assumption⟩ | exact Or.inr (by walk_at "mem"))) ?_)))
  rename St _ _ _ _ => hs
  refine neD hs (r.le (by omega)) hpv hdue (sh_pcs _) (sh_pcs _) (noMix_pcs _) ?_
  rw [Spec.same_self, Bool.not_true]
  repeat' first | (first | ((with_reducible show wpAny _ _ (call (Value.ref 77) _) _ _ _); (rename St _ _ _ _ => hsX); refine' c_draw (by walk_at "gE") (by (first | assumption | exact Rm.le (by assumption) (by omega))) hsX (by walk_at "rem") (by walk_at "rem") (by omega) (by omega) (by omega) ?_; clear hsX; intro _ _ _ _ _ _)) | (first | ((with_reducible show wpAny _ _ (assign (Expr.Subscript _ _ _) _ _) _ _ _); refine asgS ?_) | ((with_reducible show wpAny _ _ (setItem (Value.ref _) (Value.int _ _) _) _ _ _); (rename St _ _ _ _ => hsX); refine' setD hsX (by walk_at "mem") (by omega) (by walk_at "up") ?_; clear hsX; intro _ _) | ((with_reducible show wpAny _ _ (subscriptTail _ _ _ _) _ _ _); refine' idxP' (by assumption) (by assumption) (by assumption) (by (first | exact Or.inl ⟨_, by assumption⟩ | exact Or.inr (by walk_at "mem"))) (by omega) (by omega) (by omega) ?_; intro _ _ _ _ _ _ _ _ _ _ _) | ((with_reducible show wpAny _ _ (subscriptTail _ _ _ (Value.int 0 _)) _ _ _); refine' idxT (j := 0) (by assumption) (by (first | exact Or.inl ⟨_, by assumption⟩ | exact Or.inr (by walk_at "mem"))) (by decide) (by decide) (by rfl) (by rfl) ?_) | ((with_reducible show wpAny _ _ (subscriptTail _ _ _ (Value.int 1 _)) _ _ _); refine' idxT (j := 1) (by assumption) (by (first | exact Or.inl ⟨_, by assumption⟩ | exact Or.inr (by walk_at "mem"))) (by decide) (by decide) (by rfl) (by rfl) ?_) | ((with_reducible show wpAny _ _ (subscriptTail _ _ _ _) _ _ _); (rename St _ _ _ _ => hsX); refine' getD' hsX (by (exact Or.inr (by walk_at "mem"))) (by assumption) ?_; clear hsX; intro _ _)) | (first | (first | ((with_reducible show wpAny _ _ (eval (Expr.Subscript _ (Expr.Slice none _ _ _) _) _) _ _ _); refine xSliceU ?_) | ((with_reducible show wpAny _ _ (callWith _ (Value.ref _) _ _ _) _ _ _); refine' cwF (by walk_at "gE") (by ((show keepIn (hd.heap_39 _) _ = _; k_is))) ?_) | ((with_reducible show wpAny _ _ (unaryOp UnaryOp.USub _) _ _ _); (rename St _ _ _ _ => hsX); refine negI hsX ?_; clear hsX; intro _ _ _) | ((with_reducible show wpAny _ _ (eval (Expr.Name _ _) (compEnvC _ _ _ _)) _ _ _); first | refine' nK (by assumption) (by assumption) (by assumption) ?_ | refine' nKC (by assumption) (by rfl) (by assumption) ?_) | ((with_reducible show wpAny _ _ (eval (Expr.Dict [] [] _) _) _ _ _); (rename St _ _ _ _ => hsX); refine' mkD hsX (by assumption) ?_; clear hsX; intro _ _ _ _ _) | ((with_reducible show wpAny _ _ (isTrue (Expr.Compare _ [_, _] [_, _] _) _ _) _ _ _); refine isTrue_chain ?_) | ((with_reducible show wpAny _ _ (testChain _ _ _ _) _ _ _); first | refine test_link ?_ | refine test_last ?_) | ((with_reducible show _ ∧ _); refine' and_g (by assumption) (by walk_at "gE") ?_) | ((with_reducible show wpAny _ _ (call (Value.type "range") [_]) _ _ _); (rename St _ _ _ _ => hsX); (refine rng1 hsX ?_); clear hsX; intro _ _ _ _ _ _) | ((with_reducible show wpAny _ _ (call (Value.type "range") [_, _]) _ _ _); (rename St _ _ _ _ => hsX); (refine rng2 hsX ?_); clear hsX; intro _ _ _ _ _)) | walk_at "S" | (first | ((with_reducible show wpAny _ _ (evalPart _ _) _ _ _); first | with_reducible refine part_none ?_ | with_reducible refine part_some ?_) | ((with_reducible show _ ∧ _); (rename St _ _ _ _ => hsX); (refine And.intro (by (try simp only [List.length_cons, List.length_nil]); decide) ⟨_, _, _, hsX, ?_⟩); clear hsX; intro _ _ _ _) | ((with_reducible show wpAny _ _ (getMethod (Value.ref _) (Str.ofString "append") _) _ _ _); refine' mApp (by assumption) (by (first | exact Or.inl ⟨_, by assumption⟩ | exact Or.inr (by walk_at "mem"))) ?_) | ((with_reducible show wpAny _ _ (getMethod (Value.ref _) (Str.ofString "pop") _) _ _ _); refine' mPop (by assumption) (by (first | exact Or.inl ⟨_, by assumption⟩ | exact Or.inr (by walk_at "mem"))) ?_)))
  obtain ⟨DA', dvs, dnn, e, ed, rd⟩ := hdue.listInv
  cases e
  have hdl : dvs.length = pcs.length := by have := rd.length; rwa [List.length_map] at this
  refine xAssignCompRC (stP pcs) (fun v y => Ex3 fun i t t' => v = Value.int i t ∧ y = .int (i + 1) t') (r.le (by omega)) [("due", c)] ?_ rfl
  repeat' first | (first | ((with_reducible show wpAny _ _ (call (Value.ref 77) _) _ _ _); (rename St _ _ _ _ => hsX); refine' c_draw (by walk_at "gE") (by (first | assumption | exact Rm.le (by assumption) (by omega))) hsX (by walk_at "rem") (by walk_at "rem") (by omega) (by omega) (by omega) ?_; clear hsX; intro _ _ _ _ _ _)) | (first | ((with_reducible show wpAny _ _ (assign (Expr.Subscript _ _ _) _ _) _ _ _); refine asgS ?_) | ((with_reducible show wpAny _ _ (setItem (Value.ref _) (Value.int _ _) _) _ _ _); (rename St _ _ _ _ => hsX); refine' setD hsX (by walk_at "mem") (by omega) (by walk_at "up") ?_; clear hsX; intro _ _) | ((with_reducible show wpAny _ _ (subscriptTail _ _ _ _) _ _ _); refine' idxP' (by assumption) (by assumption) (by assumption) (by (first | exact Or.inl ⟨_, by assumption⟩ | exact Or.inr (by walk_at "mem"))) (by omega) (by omega) (by omega) ?_; intro _ _ _ _ _ _ _ _ _ _ _) | ((with_reducible show wpAny _ _ (subscriptTail _ _ _ (Value.int 0 _)) _ _ _); refine' idxT (j := 0) (by assumption) (by (first | exact Or.inl ⟨_, by assumption⟩ | exact Or.inr (by walk_at "mem"))) (by decide) (by decide) (by rfl) (by rfl) ?_) | ((with_reducible show wpAny _ _ (subscriptTail _ _ _ (Value.int 1 _)) _ _ _); refine' idxT (j := 1) (by assumption) (by (first | exact Or.inl ⟨_, by assumption⟩ | exact Or.inr (by walk_at "mem"))) (by decide) (by decide) (by rfl) (by rfl) ?_) | ((with_reducible show wpAny _ _ (subscriptTail _ _ _ _) _ _ _); (rename St _ _ _ _ => hsX); refine' getD' hsX (by (exact Or.inr (by walk_at "mem"))) (by assumption) ?_; clear hsX; intro _ _)) | (first | (first | ((with_reducible show wpAny _ _ (eval (Expr.Subscript _ (Expr.Slice none _ _ _) _) _) _ _ _); refine xSliceU ?_) | ((with_reducible show wpAny _ _ (callWith _ (Value.ref _) _ _ _) _ _ _); refine' cwF (by walk_at "gE") (by ((show keepIn (hd.heap_39 _) _ = _; k_is))) ?_) | ((with_reducible show wpAny _ _ (unaryOp UnaryOp.USub _) _ _ _); (rename St _ _ _ _ => hsX); refine negI hsX ?_; clear hsX; intro _ _ _) | ((with_reducible show wpAny _ _ (eval (Expr.Name _ _) (compEnvC _ _ _ _)) _ _ _); first | refine' nK (by assumption) (by assumption) (by assumption) ?_ | refine' nKC (by assumption) (by rfl) (by assumption) ?_) | ((with_reducible show wpAny _ _ (eval (Expr.Dict [] [] _) _) _ _ _); (rename St _ _ _ _ => hsX); refine' mkD hsX (by assumption) ?_; clear hsX; intro _ _ _ _ _) | ((with_reducible show wpAny _ _ (isTrue (Expr.Compare _ [_, _] [_, _] _) _ _) _ _ _); refine isTrue_chain ?_) | ((with_reducible show wpAny _ _ (testChain _ _ _ _) _ _ _); first | refine test_link ?_ | refine test_last ?_) | ((with_reducible show _ ∧ _); refine' and_g (by assumption) (by walk_at "gE") ?_) | ((with_reducible show wpAny _ _ (call (Value.type "range") [_]) _ _ _); (rename St _ _ _ _ => hsX); (refine rng1 hsX ?_); clear hsX; intro _ _ _ _ _ _) | ((with_reducible show wpAny _ _ (call (Value.type "range") [_, _]) _ _ _); (rename St _ _ _ _ => hsX); (refine rng2 hsX ?_); clear hsX; intro _ _ _ _ _)) | walk_at "S" | (first | ((with_reducible show wpAny _ _ (evalPart _ _) _ _ _); first | with_reducible refine part_none ?_ | with_reducible refine part_some ?_) | ((with_reducible show _ ∧ _); (rename St _ _ _ _ => hsX); (refine And.intro (by (try simp only [List.length_cons, List.length_nil]); decide) ⟨_, _, _, hsX, ?_⟩); clear hsX; intro _ _ _ _) | ((with_reducible show wpAny _ _ (getMethod (Value.ref _) (Str.ofString "append") _) _ _ _); refine' mApp (by assumption) (by (first | exact Or.inl ⟨_, by assumption⟩ | exact Or.inr (by walk_at "mem"))) ?_) | ((with_reducible show wpAny _ _ (getMethod (Value.ref _) (Str.ofString "pop") _) _ _ _); refine' mPop (by assumption) (by (first | exact Or.inl ⟨_, by assumption⟩ | exact Or.inr (by walk_at "mem"))) ?_)))
  rename St _ _ _ _ => hs
  rename IsRange _ _ _ _ _ _ _ _ => hr
  refine ⟨_, _, _, _, _, _, _, _, dvs.length, rfl, hs.front (a := L) (by walk_at "rem"), hr, by omega, ?_, ?_, ?_⟩
  · clear hs
    intro C' i t m₃ J' s₃ E' hi hm hn hle' hwk hs
    have hc1 : CeK J' c _ := hwk (c, CeO (some (.ref DA))) (by walk_at "mem")
    replace ed := hle' _ _ ed
    replace rd := rd.mono hle'
    replace g := g.mono hle'
    have hfa := (fine_at hfn (k := i) (by omega))
    have hne : (pcs.getD (i : Int).toNat ([], 0)).1 ≠ [] := hfa.1
    repeat' first | (first | ((with_reducible show wpAny _ _ (eval (Expr.Name _ _) (compEnvC _ _ _ _)) _ _ _); refine' nKBC (by assumption) (by walk_at "gE") (by ((show nsIn (hd.heap_39 _) _ _ = _; k_is))) (by boot_fast) (by decide) ?_) | ((with_reducible show wpAny _ _ (subscriptTail _ _ (Value.ref _) (Value.int (-1) _)) _ _ _); refine' idxLast (by assumption) (by (first | exact Or.inl ⟨_, by assumption⟩ | exact Or.inr (by walk_at "mem"))) (by assumption) (by assumption) ?_; intro _)) | (first | ((with_reducible show wpAny _ _ (call (Value.ref 77) _) _ _ _); (rename St _ _ _ _ => hsX); refine' c_draw (by walk_at "gE") (by (first | assumption | exact Rm.le (by assumption) (by omega))) hsX (by walk_at "rem") (by walk_at "rem") (by omega) (by omega) (by omega) ?_; clear hsX; intro _ _ _ _ _ _)) | (first | ((with_reducible show wpAny _ _ (assign (Expr.Subscript _ _ _) _ _) _ _ _); refine asgS ?_) | ((with_reducible show wpAny _ _ (setItem (Value.ref _) (Value.int _ _) _) _ _ _); (rename St _ _ _ _ => hsX); refine' setD hsX (by walk_at "mem") (by omega) (by walk_at "up") ?_; clear hsX; intro _ _) | ((with_reducible show wpAny _ _ (subscriptTail _ _ _ _) _ _ _); refine' idxP' (by assumption) (by assumption) (by assumption) (by (first | exact Or.inl ⟨_, by assumption⟩ | exact Or.inr (by walk_at "mem"))) (by omega) (by omega) (by omega) ?_; intro _ _ _ _ _ _ _ _ _ _ _) | ((with_reducible show wpAny _ _ (subscriptTail _ _ _ (Value.int 0 _)) _ _ _); refine' idxT (j := 0) (by assumption) (by (first | exact Or.inl ⟨_, by assumption⟩ | exact Or.inr (by walk_at "mem"))) (by decide) (by decide) (by rfl) (by rfl) ?_) | ((with_reducible show wpAny _ _ (subscriptTail _ _ _ (Value.int 1 _)) _ _ _); refine' idxT (j := 1) (by assumption) (by (first | exact Or.inl ⟨_, by assumption⟩ | exact Or.inr (by walk_at "mem"))) (by decide) (by decide) (by rfl) (by rfl) ?_) | ((with_reducible show wpAny _ _ (subscriptTail _ _ _ _) _ _ _); (rename St _ _ _ _ => hsX); refine' getD' hsX (by (exact Or.inr (by walk_at "mem"))) (by assumption) ?_; clear hsX; intro _ _)) | (first | (first | ((with_reducible show wpAny _ _ (eval (Expr.Subscript _ (Expr.Slice none _ _ _) _) _) _ _ _); refine xSliceU ?_) | ((with_reducible show wpAny _ _ (callWith _ (Value.ref _) _ _ _) _ _ _); refine' cwF (by walk_at "gE") (by ((show keepIn (hd.heap_39 _) _ = _; k_is))) ?_) | ((with_reducible show wpAny _ _ (unaryOp UnaryOp.USub _) _ _ _); (rename St _ _ _ _ => hsX); refine negI hsX ?_; clear hsX; intro _ _ _) | ((with_reducible show wpAny _ _ (eval (Expr.Name _ _) (compEnvC _ _ _ _)) _ _ _); first | refine' nK (by assumption) (by assumption) (by assumption) ?_ | refine' nKC (by assumption) (by rfl) (by assumption) ?_) | ((with_reducible show wpAny _ _ (eval (Expr.Dict [] [] _) _) _ _ _); (rename St _ _ _ _ => hsX); refine' mkD hsX (by assumption) ?_; clear hsX; intro _ _ _ _ _) | ((with_reducible show wpAny _ _ (isTrue (Expr.Compare _ [_, _] [_, _] _) _ _) _ _ _); refine isTrue_chain ?_) | ((with_reducible show wpAny _ _ (testChain _ _ _ _) _ _ _); first | refine test_link ?_ | refine test_last ?_) | ((with_reducible show _ ∧ _); refine' and_g (by assumption) (by walk_at "gE") ?_) | ((with_reducible show wpAny _ _ (call (Value.type "range") [_]) _ _ _); (rename St _ _ _ _ => hsX); (refine rng1 hsX ?_); clear hsX; intro _ _ _ _ _ _) | ((with_reducible show wpAny _ _ (call (Value.type "range") [_, _]) _ _ _); (rename St _ _ _ _ => hsX); (refine rng2 hsX ?_); clear hsX; intro _ _ _ _ _)) | walk_at "S" | (first | ((with_reducible show wpAny _ _ (evalPart _ _) _ _ _); first | with_reducible refine part_none ?_ | with_reducible refine part_some ?_) | ((with_reducible show _ ∧ _); (rename St _ _ _ _ => hsX); (refine And.intro (by (try simp only [List.length_cons, List.length_nil]); decide) ⟨_, _, _, hsX, ?_⟩); clear hsX; intro _ _ _ _) | ((with_reducible show wpAny _ _ (getMethod (Value.ref _) (Str.ofString "append") _) _ _ _); refine' mApp (by assumption) (by (first | exact Or.inl ⟨_, by assumption⟩ | exact Or.inr (by walk_at "mem"))) ?_) | ((with_reducible show wpAny _ _ (getMethod (Value.ref _) (Str.ofString "pop") _) _ _ _); refine' mPop (by assumption) (by (first | exact Or.inl ⟨_, by assumption⟩ | exact Or.inr (by walk_at "mem"))) ?_)))
    · rename (i : Int) = _ => hq
      exact ⟨by rw [stP_is hfn (by omega) hfa.1, decide_eq_true (show i = pcs.length - 1 by omega)]; rfl, by assumption⟩
    · rename gp pcs _ = 2 => hq
      exact ⟨by rw [stP_is hfn (by omega) hfa.1, decide_eq_true (show gp pcs i = 2 from hq), Bool.true_or, Bool.or_true], by assumption⟩
    · rename List.getLast _ _ ≠ 46 => hq
      exact ⟨by rw [stP_is hfn (by omega) hfa.1, decide_eq_true (p := (pcs.getD i ([], 0)).1.getLast hfa.1 ≠ 46) hq, Bool.or_true, Bool.or_true], by assumption⟩
    · rename ¬ (List.getLast _ _ ≠ 46) => hq
      rename ¬ (gp pcs _ = 2) => hq2
      rename ¬ ((i : Int) = _) => hq3
      exact ⟨by rw [stP_is hfn (by omega) hfa.1, decide_eq_false (p := (pcs.getD i ([], 0)).1.getLast hfa.1 ≠ 46) hq, decide_eq_false (show ¬ gp pcs i = 2 from hq2), decide_eq_false (show ¬ i = pcs.length - 1 by omega)]; rfl, by assumption⟩
  · clear hs
    intro C' i t m₃ J' s₃ E' hi _ hm hn hle' hwk hs
    repeat' first | (first | ((with_reducible show wpAny _ _ (eval (Expr.Name _ _) (compEnvC _ _ _ _)) _ _ _); refine' nKBC (by assumption) (by walk_at "gE") (by ((show nsIn (hd.heap_39 _) _ _ = _; k_is))) (by boot_fast) (by decide) ?_) | ((with_reducible show wpAny _ _ (subscriptTail _ _ (Value.ref _) (Value.int (-1) _)) _ _ _); refine' idxLast (by assumption) (by (first | exact Or.inl ⟨_, by assumption⟩ | exact Or.inr (by walk_at "mem"))) (by assumption) (by assumption) ?_; intro _)) | (first | ((with_reducible show wpAny _ _ (call (Value.ref 77) _) _ _ _); (rename St _ _ _ _ => hsX); refine' c_draw (by walk_at "gE") (by (first | assumption | exact Rm.le (by assumption) (by omega))) hsX (by walk_at "rem") (by walk_at "rem") (by omega) (by omega) (by omega) ?_; clear hsX; intro _ _ _ _ _ _)) | (first | ((with_reducible show wpAny _ _ (assign (Expr.Subscript _ _ _) _ _) _ _ _); refine asgS ?_) | ((with_reducible show wpAny _ _ (setItem (Value.ref _) (Value.int _ _) _) _ _ _); (rename St _ _ _ _ => hsX); refine' setD hsX (by walk_at "mem") (by omega) (by walk_at "up") ?_; clear hsX; intro _ _) | ((with_reducible show wpAny _ _ (subscriptTail _ _ _ _) _ _ _); refine' idxP' (by assumption) (by assumption) (by assumption) (by (first | exact Or.inl ⟨_, by assumption⟩ | exact Or.inr (by walk_at "mem"))) (by omega) (by omega) (by omega) ?_; intro _ _ _ _ _ _ _ _ _ _ _) | ((with_reducible show wpAny _ _ (subscriptTail _ _ _ (Value.int 0 _)) _ _ _); refine' idxT (j := 0) (by assumption) (by (first | exact Or.inl ⟨_, by assumption⟩ | exact Or.inr (by walk_at "mem"))) (by decide) (by decide) (by rfl) (by rfl) ?_) | ((with_reducible show wpAny _ _ (subscriptTail _ _ _ (Value.int 1 _)) _ _ _); refine' idxT (j := 1) (by assumption) (by (first | exact Or.inl ⟨_, by assumption⟩ | exact Or.inr (by walk_at "mem"))) (by decide) (by decide) (by rfl) (by rfl) ?_) | ((with_reducible show wpAny _ _ (subscriptTail _ _ _ _) _ _ _); (rename St _ _ _ _ => hsX); refine' getD' hsX (by (exact Or.inr (by walk_at "mem"))) (by assumption) ?_; clear hsX; intro _ _)) | (first | (first | ((with_reducible show wpAny _ _ (eval (Expr.Subscript _ (Expr.Slice none _ _ _) _) _) _ _ _); refine xSliceU ?_) | ((with_reducible show wpAny _ _ (callWith _ (Value.ref _) _ _ _) _ _ _); refine' cwF (by walk_at "gE") (by ((show keepIn (hd.heap_39 _) _ = _; k_is))) ?_) | ((with_reducible show wpAny _ _ (unaryOp UnaryOp.USub _) _ _ _); (rename St _ _ _ _ => hsX); refine negI hsX ?_; clear hsX; intro _ _ _) | ((with_reducible show wpAny _ _ (eval (Expr.Name _ _) (compEnvC _ _ _ _)) _ _ _); first | refine' nK (by assumption) (by assumption) (by assumption) ?_ | refine' nKC (by assumption) (by rfl) (by assumption) ?_) | ((with_reducible show wpAny _ _ (eval (Expr.Dict [] [] _) _) _ _ _); (rename St _ _ _ _ => hsX); refine' mkD hsX (by assumption) ?_; clear hsX; intro _ _ _ _ _) | ((with_reducible show wpAny _ _ (isTrue (Expr.Compare _ [_, _] [_, _] _) _ _) _ _ _); refine isTrue_chain ?_) | ((with_reducible show wpAny _ _ (testChain _ _ _ _) _ _ _); first | refine test_link ?_ | refine test_last ?_) | ((with_reducible show _ ∧ _); refine' and_g (by assumption) (by walk_at "gE") ?_) | ((with_reducible show wpAny _ _ (call (Value.type "range") [_]) _ _ _); (rename St _ _ _ _ => hsX); (refine rng1 hsX ?_); clear hsX; intro _ _ _ _ _ _) | ((with_reducible show wpAny _ _ (call (Value.type "range") [_, _]) _ _ _); (rename St _ _ _ _ => hsX); (refine rng2 hsX ?_); clear hsX; intro _ _ _ _ _)) | walk_at "S" | (first | ((with_reducible show wpAny _ _ (evalPart _ _) _ _ _); first | with_reducible refine part_none ?_ | with_reducible refine part_some ?_) | ((with_reducible show _ ∧ _); (rename St _ _ _ _ => hsX); (refine And.intro (by (try simp only [List.length_cons, List.length_nil]); decide) ⟨_, _, _, hsX, ?_⟩); clear hsX; intro _ _ _ _) | ((with_reducible show wpAny _ _ (getMethod (Value.ref _) (Str.ofString "append") _) _ _ _); refine' mApp (by assumption) (by (first | exact Or.inl ⟨_, by assumption⟩ | exact Or.inr (by walk_at "mem"))) ?_) | ((with_reducible show wpAny _ _ (getMethod (Value.ref _) (Str.ofString "pop") _) _ _ _); refine' mPop (by assumption) (by (first | exact Or.inl ⟨_, by assumption⟩ | exact Or.inr (by walk_at "mem"))) ?_)))
    exact ⟨⟨_, _, _, rfl, rfl⟩, by assumption⟩
  · clear hs
    intro D ys vs s' hlen hvs hp hs
    have hys := comp_stops (hlen.trans hdl) hvs hp
    obtain ⟨oD, ⟨nD, rfl⟩, hJD, hs⟩ := hs.freeze .head
    have lD := Kn.set_le (o := PySem.W.listOf ys.toArray nD) hJD
    have hst : Rp (J.set D (PySem.W.listOf ys.toArray nD)) (.ref D) (.list (iN (stopsL pcs))) := .list Kn.set_self (by rw [iN_eq]; exact .ofInts hys)
    replace hpv := hpv.mono lD
    replace hdue := hdue.mono lD
    replace g := g.mono lD
    have hleA := (hle0.tr hle).tr lD
    revert hs hst hpv hdue g hleA
    generalize J.set D (PySem.W.listOf ys.toArray nD) = J2
    intro hs hst hpv hdue g hleA
    repeat' first | (first | ((with_reducible show wpAny _ _ (call (Value.ref 77) _) _ _ _); (rename St _ _ _ _ => hsX); refine' c_draw (by walk_at "gE") (by (first | assumption | exact Rm.le (by assumption) (by omega))) hsX (by walk_at "rem") (by walk_at "rem") (by omega) (by omega) (by omega) ?_; clear hsX; intro _ _ _ _ _ _)) | (first | ((with_reducible show wpAny _ _ (assign (Expr.Subscript _ _ _) _ _) _ _ _); refine asgS ?_) | ((with_reducible show wpAny _ _ (setItem (Value.ref _) (Value.int _ _) _) _ _ _); (rename St _ _ _ _ => hsX); refine' setD hsX (by walk_at "mem") (by omega) (by walk_at "up") ?_; clear hsX; intro _ _) | ((with_reducible show wpAny _ _ (subscriptTail _ _ _ _) _ _ _); refine' idxP' (by assumption) (by assumption) (by assumption) (by (first | exact Or.inl ⟨_, by assumption⟩ | exact Or.inr (by walk_at "mem"))) (by omega) (by omega) (by omega) ?_; intro _ _ _ _ _ _ _ _ _ _ _) | ((with_reducible show wpAny _ _ (subscriptTail _ _ _ (Value.int 0 _)) _ _ _); refine' idxT (j := 0) (by assumption) (by (first | exact Or.inl ⟨_, by assumption⟩ | exact Or.inr (by walk_at "mem"))) (by decide) (by decide) (by rfl) (by rfl) ?_) | ((with_reducible show wpAny _ _ (subscriptTail _ _ _ (Value.int 1 _)) _ _ _); refine' idxT (j := 1) (by assumption) (by (first | exact Or.inl ⟨_, by assumption⟩ | exact Or.inr (by walk_at "mem"))) (by decide) (by decide) (by rfl) (by rfl) ?_) | ((with_reducible show wpAny _ _ (subscriptTail _ _ _ _) _ _ _); (rename St _ _ _ _ => hsX); refine' getD' hsX (by (exact Or.inr (by walk_at "mem"))) (by assumption) ?_; clear hsX; intro _ _)) | (first | (first | ((with_reducible show wpAny _ _ (eval (Expr.Subscript _ (Expr.Slice none _ _ _) _) _) _ _ _); refine xSliceU ?_) | ((with_reducible show wpAny _ _ (callWith _ (Value.ref _) _ _ _) _ _ _); refine' cwF (by walk_at "gE") (by ((show keepIn (hd.heap_39 _) _ = _; k_is))) ?_) | ((with_reducible show wpAny _ _ (unaryOp UnaryOp.USub _) _ _ _); (rename St _ _ _ _ => hsX); refine negI hsX ?_; clear hsX; intro _ _ _) | ((with_reducible show wpAny _ _ (eval (Expr.Name _ _) (compEnvC _ _ _ _)) _ _ _); first | refine' nK (by assumption) (by assumption) (by assumption) ?_ | refine' nKC (by assumption) (by rfl) (by assumption) ?_) | ((with_reducible show wpAny _ _ (eval (Expr.Dict [] [] _) _) _ _ _); (rename St _ _ _ _ => hsX); refine' mkD hsX (by assumption) ?_; clear hsX; intro _ _ _ _ _) | ((with_reducible show wpAny _ _ (isTrue (Expr.Compare _ [_, _] [_, _] _) _ _) _ _ _); refine isTrue_chain ?_) | ((with_reducible show wpAny _ _ (testChain _ _ _ _) _ _ _); first | refine test_link ?_ | refine test_last ?_) | ((with_reducible show _ ∧ _); refine' and_g (by assumption) (by walk_at "gE") ?_) | ((with_reducible show wpAny _ _ (call (Value.type "range") [_]) _ _ _); (rename St _ _ _ _ => hsX); (refine rng1 hsX ?_); clear hsX; intro _ _ _ _ _ _) | ((with_reducible show wpAny _ _ (call (Value.type "range") [_, _]) _ _ _); (rename St _ _ _ _ => hsX); (refine rng2 hsX ?_); clear hsX; intro _ _ _ _ _)) | walk_at "S" | (first | ((with_reducible show wpAny _ _ (evalPart _ _) _ _ _); first | with_reducible refine part_none ?_ | with_reducible refine part_some ?_) | ((with_reducible show _ ∧ _); (rename St _ _ _ _ => hsX); (refine And.intro (by (try simp only [List.length_cons, List.length_nil]); decide) ⟨_, _, _, hsX, ?_⟩); clear hsX; intro _ _ _ _) | ((with_reducible show wpAny _ _ (getMethod (Value.ref _) (Str.ofString "append") _) _ _ _); refine' mApp (by assumption) (by (first | exact Or.inl ⟨_, by assumption⟩ | exact Or.inr (by walk_at "mem"))) ?_) | ((with_reducible show wpAny _ _ (getMethod (Value.ref _) (Str.ofString "pop") _) _ _ _); refine' mPop (by assumption) (by (first | exact Or.inl ⟨_, by assumption⟩ | exact Or.inr (by walk_at "mem"))) ?_)))
    rename St _ _ _ _ => hs
    refine c_roads g (r.le (by omega)) hs hdue hst hfn (by omega) (by omega) fun J3 T F O f1 f2 s' hle3 hT hF hO hb hs => ?_
    replace hpv := hpv.mono hle3
    replace hdue := hdue.mono hle3
    replace g := g.mono hle3
    refine asg2 hs (r.le (by omega)) (.inl hT) fun s' hs => ?_
    repeat' first | (first | ((with_reducible show wpAny _ _ (call (Value.ref 77) _) _ _ _); (rename St _ _ _ _ => hsX); refine' c_draw (by walk_at "gE") (by (first | assumption | exact Rm.le (by assumption) (by omega))) hsX (by walk_at "rem") (by walk_at "rem") (by omega) (by omega) (by omega) ?_; clear hsX; intro _ _ _ _ _ _)) | (first | ((with_reducible show wpAny _ _ (assign (Expr.Subscript _ _ _) _ _) _ _ _); refine asgS ?_) | ((with_reducible show wpAny _ _ (setItem (Value.ref _) (Value.int _ _) _) _ _ _); (rename St _ _ _ _ => hsX); refine' setD hsX (by walk_at "mem") (by omega) (by walk_at "up") ?_; clear hsX; intro _ _) | ((with_reducible show wpAny _ _ (subscriptTail _ _ _ _) _ _ _); refine' idxP' (by assumption) (by assumption) (by assumption) (by (first | exact Or.inl ⟨_, by assumption⟩ | exact Or.inr (by walk_at "mem"))) (by omega) (by omega) (by omega) ?_; intro _ _ _ _ _ _ _ _ _ _ _) | ((with_reducible show wpAny _ _ (subscriptTail _ _ _ (Value.int 0 _)) _ _ _); refine' idxT (j := 0) (by assumption) (by (first | exact Or.inl ⟨_, by assumption⟩ | exact Or.inr (by walk_at "mem"))) (by decide) (by decide) (by rfl) (by rfl) ?_) | ((with_reducible show wpAny _ _ (subscriptTail _ _ _ (Value.int 1 _)) _ _ _); refine' idxT (j := 1) (by assumption) (by (first | exact Or.inl ⟨_, by assumption⟩ | exact Or.inr (by walk_at "mem"))) (by decide) (by decide) (by rfl) (by rfl) ?_) | ((with_reducible show wpAny _ _ (subscriptTail _ _ _ _) _ _ _); (rename St _ _ _ _ => hsX); refine' getD' hsX (by (exact Or.inr (by walk_at "mem"))) (by assumption) ?_; clear hsX; intro _ _)) | (first | (first | ((with_reducible show wpAny _ _ (eval (Expr.Subscript _ (Expr.Slice none _ _ _) _) _) _ _ _); refine xSliceU ?_) | ((with_reducible show wpAny _ _ (callWith _ (Value.ref _) _ _ _) _ _ _); refine' cwF (by walk_at "gE") (by ((show keepIn (hd.heap_39 _) _ = _; k_is))) ?_) | ((with_reducible show wpAny _ _ (unaryOp UnaryOp.USub _) _ _ _); (rename St _ _ _ _ => hsX); refine negI hsX ?_; clear hsX; intro _ _ _) | ((with_reducible show wpAny _ _ (eval (Expr.Name _ _) (compEnvC _ _ _ _)) _ _ _); first | refine' nK (by assumption) (by assumption) (by assumption) ?_ | refine' nKC (by assumption) (by rfl) (by assumption) ?_) | ((with_reducible show wpAny _ _ (eval (Expr.Dict [] [] _) _) _ _ _); (rename St _ _ _ _ => hsX); refine' mkD hsX (by assumption) ?_; clear hsX; intro _ _ _ _ _) | ((with_reducible show wpAny _ _ (isTrue (Expr.Compare _ [_, _] [_, _] _) _ _) _ _ _); refine isTrue_chain ?_) | ((with_reducible show wpAny _ _ (testChain _ _ _ _) _ _ _); first | refine test_link ?_ | refine test_last ?_) | ((with_reducible show _ ∧ _); refine' and_g (by assumption) (by walk_at "gE") ?_) | ((with_reducible show wpAny _ _ (call (Value.type "range") [_]) _ _ _); (rename St _ _ _ _ => hsX); (refine rng1 hsX ?_); clear hsX; intro _ _ _ _ _ _) | ((with_reducible show wpAny _ _ (call (Value.type "range") [_, _]) _ _ _); (rename St _ _ _ _ => hsX); (refine rng2 hsX ?_); clear hsX; intro _ _ _ _ _)) | walk_at "S" | (first | ((with_reducible show wpAny _ _ (evalPart _ _) _ _ _); first | with_reducible refine part_none ?_ | with_reducible refine part_some ?_) | ((with_reducible show _ ∧ _); (rename St _ _ _ _ => hsX); (refine And.intro (by (try simp only [List.length_cons, List.length_nil]); decide) ⟨_, _, _, hsX, ?_⟩); clear hsX; intro _ _ _ _) | ((with_reducible show wpAny _ _ (getMethod (Value.ref _) (Str.ofString "append") _) _ _ _); refine' mApp (by assumption) (by (first | exact Or.inl ⟨_, by assumption⟩ | exact Or.inr (by walk_at "mem"))) ?_) | ((with_reducible show wpAny _ _ (getMethod (Value.ref _) (Str.ofString "pop") _) _ _ _); refine' mPop (by assumption) (by (first | exact Or.inl ⟨_, by assumption⟩ | exact Or.inr (by walk_at "mem"))) ?_)))
    rename St _ _ _ _ => hs
    refine c_all g (r.le (by omega)) hs hdue (by omega) (by omega) hF hO hb fun J4 T' FD f lst tl s' hle4 hT' hFD hDf hcov hlsd hs => ?_
    replace hpv := hpv.mono hle4
    replace hdue := hdue.mono hle4
    replace g := g.mono hle4
    refine asg2 hs (r.le (by omega)) (.inl hT') fun s' hs => ?_
    repeat' (first | ((with_reducible show wpAny _ _ (assign _ _ _) _ _ _); (first | (first | ((with_reducible show wpAny _ _ (eval (Expr.Subscript _ (Expr.Slice none _ _ _) _) _) _ _ _); refine xSliceU ?_) | ((with_reducible show wpAny _ _ (callWith _ (Value.ref _) _ _ _) _ _ _); refine' cwF (by walk_at "gE") (by ((show keepIn (hd.heap_39 _) _ = _; k_is))) ?_) | ((with_reducible show wpAny _ _ (unaryOp UnaryOp.USub _) _ _ _); (rename St _ _ _ _ => hsX); refine negI hsX ?_; clear hsX; intro _ _ _) | ((with_reducible show wpAny _ _ (eval (Expr.Name _ _) (compEnvC _ _ _ _)) _ _ _); first | refine' nK (by assumption) (by assumption) (by assumption) ?_ | refine' nKC (by assumption) (by rfl) (by assumption) ?_) | ((with_reducible show wpAny _ _ (eval (Expr.Dict [] [] _) _) _ _ _); (rename St _ _ _ _ => hsX); refine' mkD hsX (by assumption) ?_; clear hsX; intro _ _ _ _ _) | ((with_reducible show wpAny _ _ (isTrue (Expr.Compare _ [_, _] [_, _] _) _ _) _ _ _); refine isTrue_chain ?_) | ((with_reducible show wpAny _ _ (testChain _ _ _ _) _ _ _); first | refine test_link ?_ | refine test_last ?_) | ((with_reducible show _ ∧ _); refine' and_g (by assumption) (by walk_at "gE") ?_) | ((with_reducible show wpAny _ _ (call (Value.type "range") [_]) _ _ _); (rename St _ _ _ _ => hsX); (refine rng1 hsX ?_); clear hsX; intro _ _ _ _ _ _) | ((with_reducible show wpAny _ _ (call (Value.type "range") [_, _]) _ _ _); (rename St _ _ _ _ => hsX); (refine rng2 hsX ?_); clear hsX; intro _ _ _ _ _)) | walk_at "S" | (first | ((with_reducible show wpAny _ _ (evalPart _ _) _ _ _); first | with_reducible refine part_none ?_ | with_reducible refine part_some ?_) | ((with_reducible show _ ∧ _); (rename St _ _ _ _ => hsX); (refine And.intro (by (try simp only [List.length_cons, List.length_nil]); decide) ⟨_, _, _, hsX, ?_⟩); clear hsX; intro _ _ _ _) | ((with_reducible show wpAny _ _ (getMethod (Value.ref _) (Str.ofString "append") _) _ _ _); refine' mApp (by assumption) (by (first | exact Or.inl ⟨_, by assumption⟩ | exact Or.inr (by walk_at "mem"))) ?_) | ((with_reducible show wpAny _ _ (getMethod (Value.ref _) (Str.ofString "pop") _) _ _ _); refine' mPop (by assumption) (by (first | exact Or.inl ⟨_, by assumption⟩ | exact Or.inr (by walk_at "mem"))) ?_)))) | ((with_reducible show wpAny _ _ (storeName _ _ _) _ _ _); (first | (first | ((with_reducible show wpAny _ _ (eval (Expr.Subscript _ (Expr.Slice none _ _ _) _) _) _ _ _); refine xSliceU ?_) | ((with_reducible show wpAny _ _ (callWith _ (Value.ref _) _ _ _) _ _ _); refine' cwF (by walk_at "gE") (by ((show keepIn (hd.heap_39 _) _ = _; k_is))) ?_) | ((with_reducible show wpAny _ _ (unaryOp UnaryOp.USub _) _ _ _); (rename St _ _ _ _ => hsX); refine negI hsX ?_; clear hsX; intro _ _ _) | ((with_reducible show wpAny _ _ (eval (Expr.Name _ _) (compEnvC _ _ _ _)) _ _ _); first | refine' nK (by assumption) (by assumption) (by assumption) ?_ | refine' nKC (by assumption) (by rfl) (by assumption) ?_) | ((with_reducible show wpAny _ _ (eval (Expr.Dict [] [] _) _) _ _ _); (rename St _ _ _ _ => hsX); refine' mkD hsX (by assumption) ?_; clear hsX; intro _ _ _ _ _) | ((with_reducible show wpAny _ _ (isTrue (Expr.Compare _ [_, _] [_, _] _) _ _) _ _ _); refine isTrue_chain ?_) | ((with_reducible show wpAny _ _ (testChain _ _ _ _) _ _ _); first | refine test_link ?_ | refine test_last ?_) | ((with_reducible show _ ∧ _); refine' and_g (by assumption) (by walk_at "gE") ?_) | ((with_reducible show wpAny _ _ (call (Value.type "range") [_]) _ _ _); (rename St _ _ _ _ => hsX); (refine rng1 hsX ?_); clear hsX; intro _ _ _ _ _ _) | ((with_reducible show wpAny _ _ (call (Value.type "range") [_, _]) _ _ _); (rename St _ _ _ _ => hsX); (refine rng2 hsX ?_); clear hsX; intro _ _ _ _ _)) | walk_at "S" | (first | ((with_reducible show wpAny _ _ (evalPart _ _) _ _ _); first | with_reducible refine part_none ?_ | with_reducible refine part_some ?_) | ((with_reducible show _ ∧ _); (rename St _ _ _ _ => hsX); (refine And.intro (by (try simp only [List.length_cons, List.length_nil]); decide) ⟨_, _, _, hsX, ?_⟩); clear hsX; intro _ _ _ _) | ((with_reducible show wpAny _ _ (getMethod (Value.ref _) (Str.ofString "append") _) _ _ _); refine' mApp (by assumption) (by (first | exact Or.inl ⟨_, by assumption⟩ | exact Or.inr (by walk_at "mem"))) ?_) | ((with_reducible show wpAny _ _ (getMethod (Value.ref _) (Str.ofString "pop") _) _ _ _); refine' mPop (by assumption) (by (first | exact Or.inl ⟨_, by assumption⟩ | exact Or.inr (by walk_at "mem"))) ?_)))))
    rename St _ _ _ _ => hs
    have hs' := (hs.front (a := C) (by walk_at "rem")).front (a := P) (by walk_at "rem")
    exact k3 J4 W _ _ pv (.ref DA) pcs P C FD (dn + 1 + 1) W0 W1 lst f t0 t1 tl (hleA.tr (hle3.tr hle4)) g hfn (by omega) (by omega) (by omega) hs' (by walk_at "lk") (by walk_at "lk") (by walk_at "lk") (by walk_at "lk") (by walk_at "lk") (by walk_at "lk") hpv hdue hDf hFD ⟨hcov, hlsd⟩
end

/-! # part D9 -/
theorem lst_is {ps : List Piece} {W0 W1 lst : Int} {f : Int → Option Value} {es : List Nat} (hf : fine ps) (h : Greedy ps W0 W1 es) (hA : AllK ps W0 W1 f lst) : lst = es.length := by
  obtain ⟨g1, g2⟩ := greedy_least hf h
  obtain ⟨v, t, _, _, _, h4⟩ := hA.1 _ _ g1
  have h5 := h4 rfl
  have h6 := road_n h
  rcases hA.2 with q | ⟨k, rfl, hk⟩
  · omega
  · have := g2 _ hk
    omega
theorem fur_is {ps : List Piece} {W0 W1 lst : Int} {f : Int → Option Value} {es : List Nat} {i e : Nat} (hf : fine ps) (h : Greedy ps W0 W1 es) (hA : AllK ps W0 W1 f lst) (he : es[i]? = some e) : ∃ t, f ((i + 1 : Nat) : Int) = some (.int (e : Nat) t) := by
  obtain ⟨g1, g2⟩ := greedy_furthest hf h he
  obtain ⟨v, t, h1, h2, h3, _⟩ := hA.1 _ _ g1
  have := g2 _ h3
  have : v = e := by omega
  subst this
  exact ⟨t, h1⟩
theorem row_len {ps : List Piece} {W0 W1 : Int} {es : List Nat} (h : Greedy ps W0 W1 es) {row : List Piece} {i : Nat} (hr : (cuts ps 0 es)[i]? = some row) : ∃ e, All3 (es[i]? = some e) (row ≠ []) (((((cuts ps 0 es).take i).map List.length).sum + row.length = e)) := by
  obtain ⟨e, e1, e2, e3⟩ := cut_at (C := fun b e => best ps (roomAt W0 W1 b) b e) (fun b e h => ⟨h.1.1, h.1.2.1⟩) h hr
  exact ⟨e, e1, e2, by omega⟩
theorem row_le {ps : List Piece} {W0 W1 : Int} {es : List Nat} (h : Greedy ps W0 W1 es) {row : List Piece} {i : Nat} (hr : (cuts ps 0 es)[i]? = some row) : row.length ≤ ps.length := by
  have h1 := rows_flat h
  have h2 : row ∈ cuts ps 0 es := List.mem_of_getElem? hr
  have : row.length ≤ (cuts ps 0 es).flatten.length := (List.sublist_flatten_of_mem h2).length_le
  rwa [h1] at this
theorem take_le {ps : List Piece} {W0 W1 : Int} {es : List Nat} (h : Greedy ps W0 W1 es) (i : Nat) : ((cuts ps 0 es).take i).flatten.length ≤ ps.length := by
  have h1 := rows_flat h
  have h2 : ((cuts ps 0 es).take i).flatten.length ≤ (cuts ps 0 es).flatten.length := by
    conv => rhs; rw [← List.take_append_drop i (cuts ps 0 es), List.flatten_append, List.length_append]
    omega
  rwa [h1] at h2
section
variable {w : World} {A : Around} {E : Value → Shared → Prop} {s₀ : Shared} {I₀ : Kn} {Q : Flow → Shared → Prop} {L c fa : Addr}
theorem c_law3 {qual : Str} {body : List Stmt} {scope : Scope} {name : Str} {params : Arguments} {dV kV doc pm cdv ct oc : Value} {an od : Option Addr} {osl : Array (Option Value)} {cd : Value} (r : Rm A 4)
    (ho : (hd.heap_39 w.params).lookup 108 = some ⟨oc, od, .func (fnX name qual params body scope [] dV kV doc pm an cdv ct), osl⟩)
    (h : ∀ s', (∃ hh tk, s' = { s₀ with heap := hh, toks := tk }) → (∀ b o, I₀ b = some o → s'.heap.get? b = some o) → Q (.ret (.bool true)) s') : Rest3 w A E s₀ Q L c I₀ (body.drop 9) (envX qual scope L fa cd [("due", c)]) := by
  refine bodyEq (P := fun qual body scope => Rest3 w A E s₀ Q L c I₀ (body.drop 9) (envX qual scope L fa cd [("due", c)])) (by k_is) ho ?_
  clear ho
  intro I W s m pv due ps P C FD dn W0 W1 lst f t0 t1 tl hle0 g hf hn1 hn8 hdn hs e1 e2 e3 e4 e5 e6 hpv hdue hDf hFD hA
  show wpAny (model PROG w) A (execs (_ :: _) _) Q E s
  refine xAssignSw3 (x := "rows_here") (y := "at") (z := "joined_here") (r.le (by omega)) ?_ rfl rfl
  refine eP ?Pa ?ha ?ka
  case Pa =>
   exact fun v s => Ex6 fun T rv JA tz J es => All5 (v = .ref T) (Kn.le I J) (Greedy ps W0 W1 es) (Rp J rv (.list ((cuts ps 0 es).map rowD))) (St s₀ J ((T, TuO [rv, .int 0 tz, .ref JA]) :: (JA, LsO []) :: (P, PotO C dn) :: (C, CelO) :: (L, NsO m) :: (c, CeO (some due)) :: W) s)
  · repeat' first | (first | ((with_reducible show wpAny _ _ (call (Value.ref 77) _) _ _ _); (rename St _ _ _ _ => hsX); refine' c_draw (by walk_at "gE") (by (first | assumption | exact Rm.le (by assumption) (by omega))) hsX (by walk_at "rem") (by walk_at "rem") (by omega) (by omega) (by omega) ?_; clear hsX; intro _ _ _ _ _ _)) | (first | ((with_reducible show wpAny _ _ (assign (Expr.Subscript _ _ _) _ _) _ _ _); refine asgS ?_) | ((with_reducible show wpAny _ _ (setItem (Value.ref _) (Value.int _ _) _) _ _ _); (rename St _ _ _ _ => hsX); refine' setD hsX (by walk_at "mem") (by omega) (by walk_at "up") ?_; clear hsX; intro _ _) | ((with_reducible show wpAny _ _ (subscriptTail _ _ _ _) _ _ _); refine' idxP' (by assumption) (by assumption) (by assumption) (by (first | exact Or.inl ⟨_, by assumption⟩ | exact Or.inr (by walk_at "mem"))) (by omega) (by omega) (by omega) ?_; intro _ _ _ _ _ _ _ _ _ _ _) | ((with_reducible show wpAny _ _ (subscriptTail _ _ _ (Value.int 0 _)) _ _ _); refine' idxT (j := 0) (by assumption) (by (first | exact Or.inl ⟨_, by assumption⟩ | exact Or.inr (by walk_at "mem"))) (by decide) (by decide) (by rfl) (by rfl) ?_) | ((with_reducible show wpAny _ _ (subscriptTail _ _ _ (Value.int 1 _)) _ _ _); refine' idxT (j := 1) (by assumption) (by (first | exact Or.inl ⟨_, by assumption⟩ | exact Or.inr (by walk_at "mem"))) (by decide) (by decide) (by rfl) (by rfl) ?_) | ((with_reducible show wpAny _ _ (subscriptTail _ _ _ _) _ _ _); (rename St _ _ _ _ => hsX); refine' getD' hsX (by (exact Or.inr (by walk_at "mem"))) (by assumption) ?_; clear hsX; intro _ _)) | (first | (first | ((with_reducible show wpAny _ _ (eval (Expr.Subscript _ (Expr.Slice none _ _ _) _) _) _ _ _); refine xSliceU ?_) | ((with_reducible show wpAny _ _ (callWith _ (Value.ref _) _ _ _) _ _ _); refine' cwF (by walk_at "gE") (by ((show keepIn (hd.heap_39 _) _ = _; k_is))) ?_) | ((with_reducible show wpAny _ _ (unaryOp UnaryOp.USub _) _ _ _); (rename St _ _ _ _ => hsX); refine negI hsX ?_; clear hsX; intro _ _ _) | ((with_reducible show wpAny _ _ (eval (Expr.Name _ _) (compEnvC _ _ _ _)) _ _ _); first | refine' nK (by assumption) (by assumption) (by assumption) ?_ | refine' nKC (by assumption) (by rfl) (by assumption) ?_) | ((with_reducible show wpAny _ _ (eval (Expr.Dict [] [] _) _) _ _ _); (rename St _ _ _ _ => hsX); refine' mkD hsX (by assumption) ?_; clear hsX; intro _ _ _ _ _) | ((with_reducible show wpAny _ _ (isTrue (Expr.Compare _ [_, _] [_, _] _) _ _) _ _ _); refine isTrue_chain ?_) | ((with_reducible show wpAny _ _ (testChain _ _ _ _) _ _ _); first | refine test_link ?_ | refine test_last ?_) | ((with_reducible show _ ∧ _); refine' and_g (by assumption) (by walk_at "gE") ?_) | ((with_reducible show wpAny _ _ (call (Value.type "range") [_]) _ _ _); (rename St _ _ _ _ => hsX); (refine rng1 hsX ?_); clear hsX; intro _ _ _ _ _ _) | ((with_reducible show wpAny _ _ (call (Value.type "range") [_, _]) _ _ _); (rename St _ _ _ _ => hsX); (refine rng2 hsX ?_); clear hsX; intro _ _ _ _ _)) | walk_at "S" | (first | ((with_reducible show wpAny _ _ (evalPart _ _) _ _ _); first | with_reducible refine part_none ?_ | with_reducible refine part_some ?_) | ((with_reducible show _ ∧ _); (rename St _ _ _ _ => hsX); (refine And.intro (by (try simp only [List.length_cons, List.length_nil]); decide) ⟨_, _, _, hsX, ?_⟩); clear hsX; intro _ _ _ _) | ((with_reducible show wpAny _ _ (getMethod (Value.ref _) (Str.ofString "append") _) _ _ _); refine' mApp (by assumption) (by (first | exact Or.inl ⟨_, by assumption⟩ | exact Or.inr (by walk_at "mem"))) ?_) | ((with_reducible show wpAny _ _ (getMethod (Value.ref _) (Str.ofString "pop") _) _ _ _); refine' mPop (by assumption) (by (first | exact Or.inl ⟨_, by assumption⟩ | exact Or.inr (by walk_at "mem"))) ?_)))
    rename St _ _ _ _ => hs
    refine c_rows_of g (r.le (by omega)) hs hpv hf (by omega) fun J rv es s' hle hG hrv hs => ?_
    repeat' first | (first | ((with_reducible show wpAny _ _ (call (Value.ref 77) _) _ _ _); (rename St _ _ _ _ => hsX); refine' c_draw (by walk_at "gE") (by (first | assumption | exact Rm.le (by assumption) (by omega))) hsX (by walk_at "rem") (by walk_at "rem") (by omega) (by omega) (by omega) ?_; clear hsX; intro _ _ _ _ _ _)) | (first | ((with_reducible show wpAny _ _ (assign (Expr.Subscript _ _ _) _ _) _ _ _); refine asgS ?_) | ((with_reducible show wpAny _ _ (setItem (Value.ref _) (Value.int _ _) _) _ _ _); (rename St _ _ _ _ => hsX); refine' setD hsX (by walk_at "mem") (by omega) (by walk_at "up") ?_; clear hsX; intro _ _) | ((with_reducible show wpAny _ _ (subscriptTail _ _ _ _) _ _ _); refine' idxP' (by assumption) (by assumption) (by assumption) (by (first | exact Or.inl ⟨_, by assumption⟩ | exact Or.inr (by walk_at "mem"))) (by omega) (by omega) (by omega) ?_; intro _ _ _ _ _ _ _ _ _ _ _) | ((with_reducible show wpAny _ _ (subscriptTail _ _ _ (Value.int 0 _)) _ _ _); refine' idxT (j := 0) (by assumption) (by (first | exact Or.inl ⟨_, by assumption⟩ | exact Or.inr (by walk_at "mem"))) (by decide) (by decide) (by rfl) (by rfl) ?_) | ((with_reducible show wpAny _ _ (subscriptTail _ _ _ (Value.int 1 _)) _ _ _); refine' idxT (j := 1) (by assumption) (by (first | exact Or.inl ⟨_, by assumption⟩ | exact Or.inr (by walk_at "mem"))) (by decide) (by decide) (by rfl) (by rfl) ?_) | ((with_reducible show wpAny _ _ (subscriptTail _ _ _ _) _ _ _); (rename St _ _ _ _ => hsX); refine' getD' hsX (by (exact Or.inr (by walk_at "mem"))) (by assumption) ?_; clear hsX; intro _ _)) | (first | (first | ((with_reducible show wpAny _ _ (eval (Expr.Subscript _ (Expr.Slice none _ _ _) _) _) _ _ _); refine xSliceU ?_) | ((with_reducible show wpAny _ _ (callWith _ (Value.ref _) _ _ _) _ _ _); refine' cwF (by walk_at "gE") (by ((show keepIn (hd.heap_39 _) _ = _; k_is))) ?_) | ((with_reducible show wpAny _ _ (unaryOp UnaryOp.USub _) _ _ _); (rename St _ _ _ _ => hsX); refine negI hsX ?_; clear hsX; intro _ _ _) | ((with_reducible show wpAny _ _ (eval (Expr.Name _ _) (compEnvC _ _ _ _)) _ _ _); first | refine' nK (by assumption) (by assumption) (by assumption) ?_ | refine' nKC (by assumption) (by rfl) (by assumption) ?_) | ((with_reducible show wpAny _ _ (eval (Expr.Dict [] [] _) _) _ _ _); (rename St _ _ _ _ => hsX); refine' mkD hsX (by assumption) ?_; clear hsX; intro _ _ _ _ _) | ((with_reducible show wpAny _ _ (isTrue (Expr.Compare _ [_, _] [_, _] _) _ _) _ _ _); refine isTrue_chain ?_) | ((with_reducible show wpAny _ _ (testChain _ _ _ _) _ _ _); first | refine test_link ?_ | refine test_last ?_) | ((with_reducible show _ ∧ _); refine' and_g (by assumption) (by walk_at "gE") ?_) | ((with_reducible show wpAny _ _ (call (Value.type "range") [_]) _ _ _); (rename St _ _ _ _ => hsX); (refine rng1 hsX ?_); clear hsX; intro _ _ _ _ _ _) | ((with_reducible show wpAny _ _ (call (Value.type "range") [_, _]) _ _ _); (rename St _ _ _ _ => hsX); (refine rng2 hsX ?_); clear hsX; intro _ _ _ _ _)) | walk_at "S" | (first | ((with_reducible show wpAny _ _ (evalPart _ _) _ _ _); first | with_reducible refine part_none ?_ | with_reducible refine part_some ?_) | ((with_reducible show _ ∧ _); (rename St _ _ _ _ => hsX); (refine And.intro (by (try simp only [List.length_cons, List.length_nil]); decide) ⟨_, _, _, hsX, ?_⟩); clear hsX; intro _ _ _ _) | ((with_reducible show wpAny _ _ (getMethod (Value.ref _) (Str.ofString "append") _) _ _ _); refine' mApp (by assumption) (by (first | exact Or.inl ⟨_, by assumption⟩ | exact Or.inr (by walk_at "mem"))) ?_) | ((with_reducible show wpAny _ _ (getMethod (Value.ref _) (Str.ofString "pop") _) _ _ _); refine' mPop (by assumption) (by (first | exact Or.inl ⟨_, by assumption⟩ | exact Or.inr (by walk_at "mem"))) ?_)))
    rename St _ _ _ _ => hs
    exact ⟨_, rv, _, _, J, es, rfl, hle, hG, hrv, hs⟩
  clear hs
  rintro _ s ⟨T, rv, JA, tz, J, es, rfl, hle, hG, hrv, hs⟩
  refine ⟨T, rv, _, _, _, _, _, rfl, hs, .inr (.head _), fun s' hs => ?_⟩
  replace hs := hs.rem .head
  obtain ⟨oC, ⟨nC, rfl⟩, hJC, hs⟩ := hs.freeze .head
  have lC := Kn.set_le (o := PySem.W.listOf ([] : List Value).toArray nC) hJC
  have hj0 : Rp (J.set JA (PySem.W.listOf ([] : List Value).toArray nC)) (.ref JA) (.list []) := .list Kn.set_self .nil
  replace g := g.mono (hle.tr lC)
  replace hpv := hpv.mono (hle.tr lC)
  replace hdue := hdue.mono (hle.tr lC)
  replace hrv := hrv.mono lC
  replace hDf : ∃ o, (J.set JA (PySem.W.listOf ([] : List Value).toArray nC)) FD = some o ∧ DiO f 1000 o := let ⟨o, e, q⟩ := hDf; ⟨o, (hle.tr lC) _ _ e, q⟩
  have hleA := hle0.tr (hle.tr lC)
  revert hs hj0 g hpv hdue hrv hDf hleA
  generalize J.set JA (PySem.W.listOf ([] : List Value).toArray nC) = J1
  intro hs hj0 g hpv hdue hrv hDf hleA
  repeat' first | (first | ((with_reducible show wpAny _ _ (call (Value.ref 77) _) _ _ _); (rename St _ _ _ _ => hsX); refine' c_draw (by walk_at "gE") (by (first | assumption | exact Rm.le (by assumption) (by omega))) hsX (by walk_at "rem") (by walk_at "rem") (by omega) (by omega) (by omega) ?_; clear hsX; intro _ _ _ _ _ _)) | (first | ((with_reducible show wpAny _ _ (assign (Expr.Subscript _ _ _) _ _) _ _ _); refine asgS ?_) | ((with_reducible show wpAny _ _ (setItem (Value.ref _) (Value.int _ _) _) _ _ _); (rename St _ _ _ _ => hsX); refine' setD hsX (by walk_at "mem") (by omega) (by walk_at "up") ?_; clear hsX; intro _ _) | ((with_reducible show wpAny _ _ (subscriptTail _ _ _ _) _ _ _); refine' idxP' (by assumption) (by assumption) (by assumption) (by (first | exact Or.inl ⟨_, by assumption⟩ | exact Or.inr (by walk_at "mem"))) (by omega) (by omega) (by omega) ?_; intro _ _ _ _ _ _ _ _ _ _ _) | ((with_reducible show wpAny _ _ (subscriptTail _ _ _ (Value.int 0 _)) _ _ _); refine' idxT (j := 0) (by assumption) (by (first | exact Or.inl ⟨_, by assumption⟩ | exact Or.inr (by walk_at "mem"))) (by decide) (by decide) (by rfl) (by rfl) ?_) | ((with_reducible show wpAny _ _ (subscriptTail _ _ _ (Value.int 1 _)) _ _ _); refine' idxT (j := 1) (by assumption) (by (first | exact Or.inl ⟨_, by assumption⟩ | exact Or.inr (by walk_at "mem"))) (by decide) (by decide) (by rfl) (by rfl) ?_) | ((with_reducible show wpAny _ _ (subscriptTail _ _ _ _) _ _ _); (rename St _ _ _ _ => hsX); refine' getD' hsX (by (exact Or.inr (by walk_at "mem"))) (by assumption) ?_; clear hsX; intro _ _)) | (first | (first | ((with_reducible show wpAny _ _ (eval (Expr.Subscript _ (Expr.Slice none _ _ _) _) _) _ _ _); refine xSliceU ?_) | ((with_reducible show wpAny _ _ (callWith _ (Value.ref _) _ _ _) _ _ _); refine' cwF (by walk_at "gE") (by ((show keepIn (hd.heap_39 _) _ = _; k_is))) ?_) | ((with_reducible show wpAny _ _ (unaryOp UnaryOp.USub _) _ _ _); (rename St _ _ _ _ => hsX); refine negI hsX ?_; clear hsX; intro _ _ _) | ((with_reducible show wpAny _ _ (eval (Expr.Name _ _) (compEnvC _ _ _ _)) _ _ _); first | refine' nK (by assumption) (by assumption) (by assumption) ?_ | refine' nKC (by assumption) (by rfl) (by assumption) ?_) | ((with_reducible show wpAny _ _ (eval (Expr.Dict [] [] _) _) _ _ _); (rename St _ _ _ _ => hsX); refine' mkD hsX (by assumption) ?_; clear hsX; intro _ _ _ _ _) | ((with_reducible show wpAny _ _ (isTrue (Expr.Compare _ [_, _] [_, _] _) _ _) _ _ _); refine isTrue_chain ?_) | ((with_reducible show wpAny _ _ (testChain _ _ _ _) _ _ _); first | refine test_link ?_ | refine test_last ?_) | ((with_reducible show _ ∧ _); refine' and_g (by assumption) (by walk_at "gE") ?_) | ((with_reducible show wpAny _ _ (call (Value.type "range") [_]) _ _ _); (rename St _ _ _ _ => hsX); (refine rng1 hsX ?_); clear hsX; intro _ _ _ _ _ _) | ((with_reducible show wpAny _ _ (call (Value.type "range") [_, _]) _ _ _); (rename St _ _ _ _ => hsX); (refine rng2 hsX ?_); clear hsX; intro _ _ _ _ _)) | walk_at "S" | (first | ((with_reducible show wpAny _ _ (evalPart _ _) _ _ _); first | with_reducible refine part_none ?_ | with_reducible refine part_some ?_) | ((with_reducible show _ ∧ _); (rename St _ _ _ _ => hsX); (refine And.intro (by (try simp only [List.length_cons, List.length_nil]); decide) ⟨_, _, _, hsX, ?_⟩); clear hsX; intro _ _ _ _) | ((with_reducible show wpAny _ _ (getMethod (Value.ref _) (Str.ofString "append") _) _ _ _); refine' mApp (by assumption) (by (first | exact Or.inl ⟨_, by assumption⟩ | exact Or.inr (by walk_at "mem"))) ?_) | ((with_reducible show wpAny _ _ (getMethod (Value.ref _) (Str.ofString "pop") _) _ _ _); refine' mPop (by assumption) (by (first | exact Or.inl ⟨_, by assumption⟩ | exact Or.inr (by walk_at "mem"))) ?_)))
  rename St _ _ _ _ => hs
  obtain ⟨ra, rvs, rn, rfl, era, rr⟩ := hrv.listInv
  have hrl : rvs.length = es.length := by have := rr.length; rwa [List.length_map, cuts_len] at this
  refine xForE (r.le (by omega)) ?_
  repeat' first | (first | ((with_reducible show wpAny _ _ (call (Value.ref 77) _) _ _ _); (rename St _ _ _ _ => hsX); refine' c_draw (by walk_at "gE") (by (first | assumption | exact Rm.le (by assumption) (by omega))) hsX (by walk_at "rem") (by walk_at "rem") (by omega) (by omega) (by omega) ?_; clear hsX; intro _ _ _ _ _ _)) | (first | ((with_reducible show wpAny _ _ (assign (Expr.Subscript _ _ _) _ _) _ _ _); refine asgS ?_) | ((with_reducible show wpAny _ _ (setItem (Value.ref _) (Value.int _ _) _) _ _ _); (rename St _ _ _ _ => hsX); refine' setD hsX (by walk_at "mem") (by omega) (by walk_at "up") ?_; clear hsX; intro _ _) | ((with_reducible show wpAny _ _ (subscriptTail _ _ _ _) _ _ _); refine' idxP' (by assumption) (by assumption) (by assumption) (by (first | exact Or.inl ⟨_, by assumption⟩ | exact Or.inr (by walk_at "mem"))) (by omega) (by omega) (by omega) ?_; intro _ _ _ _ _ _ _ _ _ _ _) | ((with_reducible show wpAny _ _ (subscriptTail _ _ _ (Value.int 0 _)) _ _ _); refine' idxT (j := 0) (by assumption) (by (first | exact Or.inl ⟨_, by assumption⟩ | exact Or.inr (by walk_at "mem"))) (by decide) (by decide) (by rfl) (by rfl) ?_) | ((with_reducible show wpAny _ _ (subscriptTail _ _ _ (Value.int 1 _)) _ _ _); refine' idxT (j := 1) (by assumption) (by (first | exact Or.inl ⟨_, by assumption⟩ | exact Or.inr (by walk_at "mem"))) (by decide) (by decide) (by rfl) (by rfl) ?_) | ((with_reducible show wpAny _ _ (subscriptTail _ _ _ _) _ _ _); (rename St _ _ _ _ => hsX); refine' getD' hsX (by (exact Or.inr (by walk_at "mem"))) (by assumption) ?_; clear hsX; intro _ _)) | (first | (first | ((with_reducible show wpAny _ _ (eval (Expr.Subscript _ (Expr.Slice none _ _ _) _) _) _ _ _); refine xSliceU ?_) | ((with_reducible show wpAny _ _ (callWith _ (Value.ref _) _ _ _) _ _ _); refine' cwF (by walk_at "gE") (by ((show keepIn (hd.heap_39 _) _ = _; k_is))) ?_) | ((with_reducible show wpAny _ _ (unaryOp UnaryOp.USub _) _ _ _); (rename St _ _ _ _ => hsX); refine negI hsX ?_; clear hsX; intro _ _ _) | ((with_reducible show wpAny _ _ (eval (Expr.Name _ _) (compEnvC _ _ _ _)) _ _ _); first | refine' nK (by assumption) (by assumption) (by assumption) ?_ | refine' nKC (by assumption) (by rfl) (by assumption) ?_) | ((with_reducible show wpAny _ _ (eval (Expr.Dict [] [] _) _) _ _ _); (rename St _ _ _ _ => hsX); refine' mkD hsX (by assumption) ?_; clear hsX; intro _ _ _ _ _) | ((with_reducible show wpAny _ _ (isTrue (Expr.Compare _ [_, _] [_, _] _) _ _) _ _ _); refine isTrue_chain ?_) | ((with_reducible show wpAny _ _ (testChain _ _ _ _) _ _ _); first | refine test_link ?_ | refine test_last ?_) | ((with_reducible show _ ∧ _); refine' and_g (by assumption) (by walk_at "gE") ?_) | ((with_reducible show wpAny _ _ (call (Value.type "range") [_]) _ _ _); (rename St _ _ _ _ => hsX); (refine rng1 hsX ?_); clear hsX; intro _ _ _ _ _ _) | ((with_reducible show wpAny _ _ (call (Value.type "range") [_, _]) _ _ _); (rename St _ _ _ _ => hsX); (refine rng2 hsX ?_); clear hsX; intro _ _ _ _ _)) | walk_at "S" | (first | ((with_reducible show wpAny _ _ (evalPart _ _) _ _ _); first | with_reducible refine part_none ?_ | with_reducible refine part_some ?_) | ((with_reducible show _ ∧ _); (rename St _ _ _ _ => hsX); (refine And.intro (by (try simp only [List.length_cons, List.length_nil]); decide) ⟨_, _, _, hsX, ?_⟩); clear hsX; intro _ _ _ _) | ((with_reducible show wpAny _ _ (getMethod (Value.ref _) (Str.ofString "append") _) _ _ _); refine' mApp (by assumption) (by (first | exact Or.inl ⟨_, by assumption⟩ | exact Or.inr (by walk_at "mem"))) ?_) | ((with_reducible show wpAny _ _ (getMethod (Value.ref _) (Str.ofString "pop") _) _ _ _); refine' mPop (by assumption) (by (first | exact Or.inl ⟨_, by assumption⟩ | exact Or.inr (by walk_at "mem"))) ?_)))
  rename St _ _ _ _ => hs
  refine enumL hs (.inl ⟨_, era⟩) fun e it oe oi s' hs hen hit => ?_
  refine ⟨e, it, ra, rn, rvs, oe, oi, s₀, _, _, ?Jv, ?Post, rfl, hs, era, hen, hit, ?h0, ?hle, ?turn, ?done, ?hp⟩
  case Jv =>
   exact fun i I' W' => Ex4 fun m jv atv ta => All5 (Kn.le J1 I') (W' = (P, PotO C dn) :: (C, CelO) :: (L, NsO m) :: (c, CeO (some due)) :: W) ((All9 (m "pot" = some (.ref P)) (m "pieces" = some pv) (m "first_room" = some (.int W0 t0)) (m "room" = some (.int W1 t1)) (m "furthest" = some (.ref FD)) (m "least" = some (.int lst tl)) (m "rows_here" = some (.ref ra)) (m "at" = some (.int atv ta)) (m "joined_here" = some jv))) (atv = ((((cuts ps 0 es).take i).map List.length).sum : Nat)) (Rp I' jv (.list ((((cuts ps 0 es).take i).flatten).map pcD)))
  case Post =>
   exact fun s => Ex3 fun I' m jv => All4 (Kn.le J1 I') (St s₀ I' ((P, PotO C dn) :: (C, CelO) :: (L, NsO m) :: (c, CeO (some due)) :: W) s) ((All7 (m "pot" = some (.ref P)) (m "pieces" = some pv) (m "first_room" = some (.int W0 t0)) (m "room" = some (.int W1 t1)) (m "least" = some (.int lst tl)) (m "rows_here" = some (.ref ra)) (m "joined_here" = some jv))) (Rp I' jv (.list (ps.map pcD)))
  case h0 => exact ⟨_, .ref JA, _, _, Kn.le.rfl', rfl, ⟨by walk_at "lk", by walk_at "lk", by walk_at "lk", by walk_at "lk", by walk_at "lk", by walk_at "lk", by walk_at "lk", by walk_at "lk", by walk_at "lk"⟩, by simp, by simpa using hj0⟩
  case hle => rintro i I' W' ⟨_, _, _, _, h, _⟩; exact h
  case done =>
    rintro I' _ s ⟨m, jv, atv, ta, hle', rfl, ⟨q1, q2, q3, q4, q5, q6, q7, q8, q9⟩, _, hj⟩ hs
    rw [hrl, ← cuts_len (ps := ps) (b := 0), List.take_length, rows_flat hG] at hj
    exact ⟨_, _, _, hle', hs, ⟨q1, q2, q3, q4, q6, q7, q9⟩, hj⟩
  case turn =>
    rintro i t v I' _ oe oi T s hv ⟨m, jv, atv, ta, hle', rfl, ⟨q1, q2, q3, q4, q5, q6, q7, q8, q9⟩, hat, hj⟩ hs hT
    obtain ⟨row, hrow, hrv'⟩ := rpa_at (f := rowD) (rr.mono hle') hv
    obtain ⟨ee, hee, hrne, hsum⟩ := row_len hG hrow
    have hr8 := row_le hG hrow
    have ht8 := take_le hG i
    obtain ⟨tf, hfv⟩ := fur_is hf hG hA hee
    obtain ⟨va, vvs, vn, rfl, eva, rv⟩ := Rp.listInv (show Rp I' v (.list (row.map pcD)) from hrv')
    have hvl : vvs.length = row.length := by have := rv.length; rwa [List.length_map] at this
    replace g := g.mono hle'
    replace hDf : ∃ o, I' FD = some o ∧ DiO f 1000 o := let ⟨o, e, q⟩ := hDf; ⟨o, hle' _ _ e, q⟩
    refine asg2' hs (r.le (by omega)) hT fun s' hs => ?_
    repeat' first | (first | ((with_reducible show wpAny _ _ (eval (Expr.List [] _) _) _ _ _); (rename St _ _ _ _ => hsX); refine' eqNil hsX (by (first | assumption | exact Rm.le (by assumption) (by omega))) (by (first | exact Or.inl ⟨_, by assumption⟩ | exact Or.inr (by walk_at "mem"))) (by assumption) (by exact sh_pcs _) ?_; clear hsX; intro _ _) | ((with_reducible show wpAny _ _ (getMethod (Value.ref _) (Str.ofString "get") _) _ _ _); refine' mGet (by assumption) (by (exact Or.inl (by assumption))) ?_) | ((with_reducible show wpAny _ _ (callWith _ (Value.builtin "dict.get") _ _ _) _ _ _); refine' dget1 (by assumption) ?_)) | (first | ((with_reducible show wpAny _ _ (call (Value.ref 77) _) _ _ _); (rename St _ _ _ _ => hsX); refine' c_draw (by walk_at "gE") (by (first | assumption | exact Rm.le (by assumption) (by omega))) hsX (by walk_at "rem") (by walk_at "rem") (by omega) (by omega) (by omega) ?_; clear hsX; intro _ _ _ _ _ _)) | (first | ((with_reducible show wpAny _ _ (assign (Expr.Subscript _ _ _) _ _) _ _ _); refine asgS ?_) | ((with_reducible show wpAny _ _ (setItem (Value.ref _) (Value.int _ _) _) _ _ _); (rename St _ _ _ _ => hsX); refine' setD hsX (by walk_at "mem") (by omega) (by walk_at "up") ?_; clear hsX; intro _ _) | ((with_reducible show wpAny _ _ (subscriptTail _ _ _ _) _ _ _); refine' idxP' (by assumption) (by assumption) (by assumption) (by (first | exact Or.inl ⟨_, by assumption⟩ | exact Or.inr (by walk_at "mem"))) (by omega) (by omega) (by omega) ?_; intro _ _ _ _ _ _ _ _ _ _ _) | ((with_reducible show wpAny _ _ (subscriptTail _ _ _ (Value.int 0 _)) _ _ _); refine' idxT (j := 0) (by assumption) (by (first | exact Or.inl ⟨_, by assumption⟩ | exact Or.inr (by walk_at "mem"))) (by decide) (by decide) (by rfl) (by rfl) ?_) | ((with_reducible show wpAny _ _ (subscriptTail _ _ _ (Value.int 1 _)) _ _ _); refine' idxT (j := 1) (by assumption) (by (first | exact Or.inl ⟨_, by assumption⟩ | exact Or.inr (by walk_at "mem"))) (by decide) (by decide) (by rfl) (by rfl) ?_) | ((with_reducible show wpAny _ _ (subscriptTail _ _ _ _) _ _ _); (rename St _ _ _ _ => hsX); refine' getD' hsX (by (exact Or.inr (by walk_at "mem"))) (by assumption) ?_; clear hsX; intro _ _)) | (first | (first | ((with_reducible show wpAny _ _ (eval (Expr.Subscript _ (Expr.Slice none _ _ _) _) _) _ _ _); refine xSliceU ?_) | ((with_reducible show wpAny _ _ (callWith _ (Value.ref _) _ _ _) _ _ _); refine' cwF (by walk_at "gE") (by ((show keepIn (hd.heap_39 _) _ = _; k_is))) ?_) | ((with_reducible show wpAny _ _ (unaryOp UnaryOp.USub _) _ _ _); (rename St _ _ _ _ => hsX); refine negI hsX ?_; clear hsX; intro _ _ _) | ((with_reducible show wpAny _ _ (eval (Expr.Name _ _) (compEnvC _ _ _ _)) _ _ _); first | refine' nK (by assumption) (by assumption) (by assumption) ?_ | refine' nKC (by assumption) (by rfl) (by assumption) ?_) | ((with_reducible show wpAny _ _ (eval (Expr.Dict [] [] _) _) _ _ _); (rename St _ _ _ _ => hsX); refine' mkD hsX (by assumption) ?_; clear hsX; intro _ _ _ _ _) | ((with_reducible show wpAny _ _ (isTrue (Expr.Compare _ [_, _] [_, _] _) _ _) _ _ _); refine isTrue_chain ?_) | ((with_reducible show wpAny _ _ (testChain _ _ _ _) _ _ _); first | refine test_link ?_ | refine test_last ?_) | ((with_reducible show _ ∧ _); refine' and_g (by assumption) (by walk_at "gE") ?_) | ((with_reducible show wpAny _ _ (call (Value.type "range") [_]) _ _ _); (rename St _ _ _ _ => hsX); (refine rng1 hsX ?_); clear hsX; intro _ _ _ _ _ _) | ((with_reducible show wpAny _ _ (call (Value.type "range") [_, _]) _ _ _); (rename St _ _ _ _ => hsX); (refine rng2 hsX ?_); clear hsX; intro _ _ _ _ _)) | walk_at "S" | (first | ((with_reducible show wpAny _ _ (evalPart _ _) _ _ _); first | with_reducible refine part_none ?_ | with_reducible refine part_some ?_) | ((with_reducible show _ ∧ _); (rename St _ _ _ _ => hsX); (refine And.intro (by (try simp only [List.length_cons, List.length_nil]); decide) ⟨_, _, _, hsX, ?_⟩); clear hsX; intro _ _ _ _) | ((with_reducible show wpAny _ _ (getMethod (Value.ref _) (Str.ofString "append") _) _ _ _); refine' mApp (by assumption) (by (first | exact Or.inl ⟨_, by assumption⟩ | exact Or.inr (by walk_at "mem"))) ?_) | ((with_reducible show wpAny _ _ (getMethod (Value.ref _) (Str.ofString "pop") _) _ _ _); refine' mPop (by assumption) (by (first | exact Or.inl ⟨_, by assumption⟩ | exact Or.inr (by walk_at "mem"))) ?_)))
    rename St _ _ _ _ => hs
    refine catR hs hj (show Rp I' (.ref va) (.list (row.map pcD)) from hrv') (by simp only [List.length_map, sizeLine]; omega) fun J2 jv2 s' hle2 hj2 hs => ?_
    replace g := g.mono hle2
    replace eva := hle2 _ _ eva
    replace rv := rv.mono hle2
    replace hDf : ∃ o, J2 FD = some o ∧ DiO f 1000 o := let ⟨o, e, q⟩ := hDf; ⟨o, hle2 _ _ e, q⟩
    have hfv' : f ((i : Int) + 1) = some (.int (ee : Nat) tf) := (show ((i : Int) + 1) = ((i + 1 : Nat) : Int) from by omega) ▸ hfv
    repeat' first | (first | ((with_reducible show wpAny _ _ (eval (Expr.List [] _) _) _ _ _); (rename St _ _ _ _ => hsX); refine' eqNil hsX (by (first | assumption | exact Rm.le (by assumption) (by omega))) (by (first | exact Or.inl ⟨_, by assumption⟩ | exact Or.inr (by walk_at "mem"))) (by assumption) (by exact sh_pcs _) ?_; clear hsX; intro _ _) | ((with_reducible show wpAny _ _ (getMethod (Value.ref _) (Str.ofString "get") _) _ _ _); refine' mGet (by assumption) (by (exact Or.inl (by assumption))) ?_) | ((with_reducible show wpAny _ _ (callWith _ (Value.builtin "dict.get") _ _ _) _ _ _); refine' dget1 (by assumption) ?_)) | (first | ((with_reducible show wpAny _ _ (call (Value.ref 77) _) _ _ _); (rename St _ _ _ _ => hsX); refine' c_draw (by walk_at "gE") (by (first | assumption | exact Rm.le (by assumption) (by omega))) hsX (by walk_at "rem") (by walk_at "rem") (by omega) (by omega) (by omega) ?_; clear hsX; intro _ _ _ _ _ _)) | (first | ((with_reducible show wpAny _ _ (assign (Expr.Subscript _ _ _) _ _) _ _ _); refine asgS ?_) | ((with_reducible show wpAny _ _ (setItem (Value.ref _) (Value.int _ _) _) _ _ _); (rename St _ _ _ _ => hsX); refine' setD hsX (by walk_at "mem") (by omega) (by walk_at "up") ?_; clear hsX; intro _ _) | ((with_reducible show wpAny _ _ (subscriptTail _ _ _ _) _ _ _); refine' idxP' (by assumption) (by assumption) (by assumption) (by (first | exact Or.inl ⟨_, by assumption⟩ | exact Or.inr (by walk_at "mem"))) (by omega) (by omega) (by omega) ?_; intro _ _ _ _ _ _ _ _ _ _ _) | ((with_reducible show wpAny _ _ (subscriptTail _ _ _ (Value.int 0 _)) _ _ _); refine' idxT (j := 0) (by assumption) (by (first | exact Or.inl ⟨_, by assumption⟩ | exact Or.inr (by walk_at "mem"))) (by decide) (by decide) (by rfl) (by rfl) ?_) | ((with_reducible show wpAny _ _ (subscriptTail _ _ _ (Value.int 1 _)) _ _ _); refine' idxT (j := 1) (by assumption) (by (first | exact Or.inl ⟨_, by assumption⟩ | exact Or.inr (by walk_at "mem"))) (by decide) (by decide) (by rfl) (by rfl) ?_) | ((with_reducible show wpAny _ _ (subscriptTail _ _ _ _) _ _ _); (rename St _ _ _ _ => hsX); refine' getD' hsX (by (exact Or.inr (by walk_at "mem"))) (by assumption) ?_; clear hsX; intro _ _)) | (first | (first | ((with_reducible show wpAny _ _ (eval (Expr.Subscript _ (Expr.Slice none _ _ _) _) _) _ _ _); refine xSliceU ?_) | ((with_reducible show wpAny _ _ (callWith _ (Value.ref _) _ _ _) _ _ _); refine' cwF (by walk_at "gE") (by ((show keepIn (hd.heap_39 _) _ = _; k_is))) ?_) | ((with_reducible show wpAny _ _ (unaryOp UnaryOp.USub _) _ _ _); (rename St _ _ _ _ => hsX); refine negI hsX ?_; clear hsX; intro _ _ _) | ((with_reducible show wpAny _ _ (eval (Expr.Name _ _) (compEnvC _ _ _ _)) _ _ _); first | refine' nK (by assumption) (by assumption) (by assumption) ?_ | refine' nKC (by assumption) (by rfl) (by assumption) ?_) | ((with_reducible show wpAny _ _ (eval (Expr.Dict [] [] _) _) _ _ _); (rename St _ _ _ _ => hsX); refine' mkD hsX (by assumption) ?_; clear hsX; intro _ _ _ _ _) | ((with_reducible show wpAny _ _ (isTrue (Expr.Compare _ [_, _] [_, _] _) _ _) _ _ _); refine isTrue_chain ?_) | ((with_reducible show wpAny _ _ (testChain _ _ _ _) _ _ _); first | refine test_link ?_ | refine test_last ?_) | ((with_reducible show _ ∧ _); refine' and_g (by assumption) (by walk_at "gE") ?_) | ((with_reducible show wpAny _ _ (call (Value.type "range") [_]) _ _ _); (rename St _ _ _ _ => hsX); (refine rng1 hsX ?_); clear hsX; intro _ _ _ _ _ _) | ((with_reducible show wpAny _ _ (call (Value.type "range") [_, _]) _ _ _); (rename St _ _ _ _ => hsX); (refine rng2 hsX ?_); clear hsX; intro _ _ _ _ _)) | walk_at "S" | (first | ((with_reducible show wpAny _ _ (evalPart _ _) _ _ _); first | with_reducible refine part_none ?_ | with_reducible refine part_some ?_) | ((with_reducible show _ ∧ _); (rename St _ _ _ _ => hsX); (refine And.intro (by (try simp only [List.length_cons, List.length_nil]); decide) ⟨_, _, _, hsX, ?_⟩); clear hsX; intro _ _ _ _) | ((with_reducible show wpAny _ _ (getMethod (Value.ref _) (Str.ofString "append") _) _ _ _); refine' mApp (by assumption) (by (first | exact Or.inl ⟨_, by assumption⟩ | exact Or.inr (by walk_at "mem"))) ?_) | ((with_reducible show wpAny _ _ (getMethod (Value.ref _) (Str.ofString "pop") _) _ _ _); refine' mPop (by assumption) (by (first | exact Or.inl ⟨_, by assumption⟩ | exact Or.inr (by walk_at "mem"))) ?_)))
    · rename _ = ([] : List PyData) => hq
      exact absurd (List.map_eq_nil_iff.mp hq) hrne
    · rename St _ _ _ _ => hs
      refine ⟨_, _, _, _, _, f, 1000, rfl, hs, .inl hDf, fun s' hs => ?_⟩
      rw [hfv', Option.getD_some]
      repeat' first | (first | ((with_reducible show wpAny _ _ (eval (Expr.List [] _) _) _ _ _); (rename St _ _ _ _ => hsX); refine' eqNil hsX (by (first | assumption | exact Rm.le (by assumption) (by omega))) (by (first | exact Or.inl ⟨_, by assumption⟩ | exact Or.inr (by walk_at "mem"))) (by assumption) (by exact sh_pcs _) ?_; clear hsX; intro _ _) | ((with_reducible show wpAny _ _ (getMethod (Value.ref _) (Str.ofString "get") _) _ _ _); refine' mGet (by assumption) (by (exact Or.inl (by assumption))) ?_) | ((with_reducible show wpAny _ _ (callWith _ (Value.builtin "dict.get") _ _ _) _ _ _); refine' dget1 (by assumption) ?_)) | (first | ((with_reducible show wpAny _ _ (call (Value.ref 77) _) _ _ _); (rename St _ _ _ _ => hsX); refine' c_draw (by walk_at "gE") (by (first | assumption | exact Rm.le (by assumption) (by omega))) hsX (by walk_at "rem") (by walk_at "rem") (by omega) (by omega) (by omega) ?_; clear hsX; intro _ _ _ _ _ _)) | (first | ((with_reducible show wpAny _ _ (assign (Expr.Subscript _ _ _) _ _) _ _ _); refine asgS ?_) | ((with_reducible show wpAny _ _ (setItem (Value.ref _) (Value.int _ _) _) _ _ _); (rename St _ _ _ _ => hsX); refine' setD hsX (by walk_at "mem") (by omega) (by walk_at "up") ?_; clear hsX; intro _ _) | ((with_reducible show wpAny _ _ (subscriptTail _ _ _ _) _ _ _); refine' idxP' (by assumption) (by assumption) (by assumption) (by (first | exact Or.inl ⟨_, by assumption⟩ | exact Or.inr (by walk_at "mem"))) (by omega) (by omega) (by omega) ?_; intro _ _ _ _ _ _ _ _ _ _ _) | ((with_reducible show wpAny _ _ (subscriptTail _ _ _ (Value.int 0 _)) _ _ _); refine' idxT (j := 0) (by assumption) (by (first | exact Or.inl ⟨_, by assumption⟩ | exact Or.inr (by walk_at "mem"))) (by decide) (by decide) (by rfl) (by rfl) ?_) | ((with_reducible show wpAny _ _ (subscriptTail _ _ _ (Value.int 1 _)) _ _ _); refine' idxT (j := 1) (by assumption) (by (first | exact Or.inl ⟨_, by assumption⟩ | exact Or.inr (by walk_at "mem"))) (by decide) (by decide) (by rfl) (by rfl) ?_) | ((with_reducible show wpAny _ _ (subscriptTail _ _ _ _) _ _ _); (rename St _ _ _ _ => hsX); refine' getD' hsX (by (exact Or.inr (by walk_at "mem"))) (by assumption) ?_; clear hsX; intro _ _)) | (first | (first | ((with_reducible show wpAny _ _ (eval (Expr.Subscript _ (Expr.Slice none _ _ _) _) _) _ _ _); refine xSliceU ?_) | ((with_reducible show wpAny _ _ (callWith _ (Value.ref _) _ _ _) _ _ _); refine' cwF (by walk_at "gE") (by ((show keepIn (hd.heap_39 _) _ = _; k_is))) ?_) | ((with_reducible show wpAny _ _ (unaryOp UnaryOp.USub _) _ _ _); (rename St _ _ _ _ => hsX); refine negI hsX ?_; clear hsX; intro _ _ _) | ((with_reducible show wpAny _ _ (eval (Expr.Name _ _) (compEnvC _ _ _ _)) _ _ _); first | refine' nK (by assumption) (by assumption) (by assumption) ?_ | refine' nKC (by assumption) (by rfl) (by assumption) ?_) | ((with_reducible show wpAny _ _ (eval (Expr.Dict [] [] _) _) _ _ _); (rename St _ _ _ _ => hsX); refine' mkD hsX (by assumption) ?_; clear hsX; intro _ _ _ _ _) | ((with_reducible show wpAny _ _ (isTrue (Expr.Compare _ [_, _] [_, _] _) _ _) _ _ _); refine isTrue_chain ?_) | ((with_reducible show wpAny _ _ (testChain _ _ _ _) _ _ _); first | refine test_link ?_ | refine test_last ?_) | ((with_reducible show _ ∧ _); refine' and_g (by assumption) (by walk_at "gE") ?_) | ((with_reducible show wpAny _ _ (call (Value.type "range") [_]) _ _ _); (rename St _ _ _ _ => hsX); (refine rng1 hsX ?_); clear hsX; intro _ _ _ _ _ _) | ((with_reducible show wpAny _ _ (call (Value.type "range") [_, _]) _ _ _); (rename St _ _ _ _ => hsX); (refine rng2 hsX ?_); clear hsX; intro _ _ _ _ _)) | walk_at "S" | (first | ((with_reducible show wpAny _ _ (evalPart _ _) _ _ _); first | with_reducible refine part_none ?_ | with_reducible refine part_some ?_) | ((with_reducible show _ ∧ _); (rename St _ _ _ _ => hsX); (refine And.intro (by (try simp only [List.length_cons, List.length_nil]); decide) ⟨_, _, _, hsX, ?_⟩); clear hsX; intro _ _ _ _) | ((with_reducible show wpAny _ _ (getMethod (Value.ref _) (Str.ofString "append") _) _ _ _); refine' mApp (by assumption) (by (first | exact Or.inl ⟨_, by assumption⟩ | exact Or.inr (by walk_at "mem"))) ?_) | ((with_reducible show wpAny _ _ (getMethod (Value.ref _) (Str.ofString "pop") _) _ _ _); refine' mPop (by assumption) (by (first | exact Or.inl ⟨_, by assumption⟩ | exact Or.inr (by walk_at "mem"))) ?_)))
      · rename (_ : Int) ≠ _ => hq
        exact absurd (by omega) hq
      · rename St _ _ _ _ => hs
        refine ⟨_, _, _, _, hs, by walk_at "rem", by walk_at "rem", _, _, _, _, hle'.tr hle2, rfl, ⟨by walk_at "lk", by walk_at "lk", by walk_at "lk", by walk_at "lk", by walk_at "lk", by walk_at "lk", by walk_at "lk", by walk_at "lk", by walk_at "lk"⟩, ?_, ?_⟩
        · rw [List.take_add_one, hrow, List.map_append, List.sum_append, hat, hvl]
          simp
        · rw [List.take_add_one, hrow, List.flatten_append, List.map_append]
          simpa using hj2
  case hp =>
    rintro s ⟨I', m, jv, hle', hs, ⟨q1, q2, q3, q4, q6, q7, q9⟩, hj⟩
    replace g := g.mono hle'
    replace hpv := hpv.mono hle'
    replace hdue := hdue.mono hle'
    replace era := hle' _ _ era
    have hlst := lst_is hf hG hA
    have hen8 := road_n hG
    repeat' first | (first | ((with_reducible show wpAny _ _ (eval (Expr.List [] _) _) _ _ _); (rename St _ _ _ _ => hsX); refine' eqNil hsX (by (first | assumption | exact Rm.le (by assumption) (by omega))) (by (first | exact Or.inl ⟨_, by assumption⟩ | exact Or.inr (by walk_at "mem"))) (by assumption) (by exact sh_pcs _) ?_; clear hsX; intro _ _) | ((with_reducible show wpAny _ _ (getMethod (Value.ref _) (Str.ofString "get") _) _ _ _); refine' mGet (by assumption) (by (exact Or.inl (by assumption))) ?_) | ((with_reducible show wpAny _ _ (callWith _ (Value.builtin "dict.get") _ _ _) _ _ _); refine' dget1 (by assumption) ?_)) | (first | ((with_reducible show wpAny _ _ (call (Value.ref 77) _) _ _ _); (rename St _ _ _ _ => hsX); refine' c_draw (by walk_at "gE") (by (first | assumption | exact Rm.le (by assumption) (by omega))) hsX (by walk_at "rem") (by walk_at "rem") (by omega) (by omega) (by omega) ?_; clear hsX; intro _ _ _ _ _ _)) | (first | ((with_reducible show wpAny _ _ (assign (Expr.Subscript _ _ _) _ _) _ _ _); refine asgS ?_) | ((with_reducible show wpAny _ _ (setItem (Value.ref _) (Value.int _ _) _) _ _ _); (rename St _ _ _ _ => hsX); refine' setD hsX (by walk_at "mem") (by omega) (by walk_at "up") ?_; clear hsX; intro _ _) | ((with_reducible show wpAny _ _ (subscriptTail _ _ _ _) _ _ _); refine' idxP' (by assumption) (by assumption) (by assumption) (by (first | exact Or.inl ⟨_, by assumption⟩ | exact Or.inr (by walk_at "mem"))) (by omega) (by omega) (by omega) ?_; intro _ _ _ _ _ _ _ _ _ _ _) | ((with_reducible show wpAny _ _ (subscriptTail _ _ _ (Value.int 0 _)) _ _ _); refine' idxT (j := 0) (by assumption) (by (first | exact Or.inl ⟨_, by assumption⟩ | exact Or.inr (by walk_at "mem"))) (by decide) (by decide) (by rfl) (by rfl) ?_) | ((with_reducible show wpAny _ _ (subscriptTail _ _ _ (Value.int 1 _)) _ _ _); refine' idxT (j := 1) (by assumption) (by (first | exact Or.inl ⟨_, by assumption⟩ | exact Or.inr (by walk_at "mem"))) (by decide) (by decide) (by rfl) (by rfl) ?_) | ((with_reducible show wpAny _ _ (subscriptTail _ _ _ _) _ _ _); (rename St _ _ _ _ => hsX); refine' getD' hsX (by (exact Or.inr (by walk_at "mem"))) (by assumption) ?_; clear hsX; intro _ _)) | (first | (first | ((with_reducible show wpAny _ _ (eval (Expr.Subscript _ (Expr.Slice none _ _ _) _) _) _ _ _); refine xSliceU ?_) | ((with_reducible show wpAny _ _ (callWith _ (Value.ref _) _ _ _) _ _ _); refine' cwF (by walk_at "gE") (by ((show keepIn (hd.heap_39 _) _ = _; k_is))) ?_) | ((with_reducible show wpAny _ _ (unaryOp UnaryOp.USub _) _ _ _); (rename St _ _ _ _ => hsX); refine negI hsX ?_; clear hsX; intro _ _ _) | ((with_reducible show wpAny _ _ (eval (Expr.Name _ _) (compEnvC _ _ _ _)) _ _ _); first | refine' nK (by assumption) (by assumption) (by assumption) ?_ | refine' nKC (by assumption) (by rfl) (by assumption) ?_) | ((with_reducible show wpAny _ _ (eval (Expr.Dict [] [] _) _) _ _ _); (rename St _ _ _ _ => hsX); refine' mkD hsX (by assumption) ?_; clear hsX; intro _ _ _ _ _) | ((with_reducible show wpAny _ _ (isTrue (Expr.Compare _ [_, _] [_, _] _) _ _) _ _ _); refine isTrue_chain ?_) | ((with_reducible show wpAny _ _ (testChain _ _ _ _) _ _ _); first | refine test_link ?_ | refine test_last ?_) | ((with_reducible show _ ∧ _); refine' and_g (by assumption) (by walk_at "gE") ?_) | ((with_reducible show wpAny _ _ (call (Value.type "range") [_]) _ _ _); (rename St _ _ _ _ => hsX); (refine rng1 hsX ?_); clear hsX; intro _ _ _ _ _ _) | ((with_reducible show wpAny _ _ (call (Value.type "range") [_, _]) _ _ _); (rename St _ _ _ _ => hsX); (refine rng2 hsX ?_); clear hsX; intro _ _ _ _ _)) | walk_at "S" | (first | ((with_reducible show wpAny _ _ (evalPart _ _) _ _ _); first | with_reducible refine part_none ?_ | with_reducible refine part_some ?_) | ((with_reducible show _ ∧ _); (rename St _ _ _ _ => hsX); (refine And.intro (by (try simp only [List.length_cons, List.length_nil]); decide) ⟨_, _, _, hsX, ?_⟩); clear hsX; intro _ _ _ _) | ((with_reducible show wpAny _ _ (getMethod (Value.ref _) (Str.ofString "append") _) _ _ _); refine' mApp (by assumption) (by (first | exact Or.inl ⟨_, by assumption⟩ | exact Or.inr (by walk_at "mem"))) ?_) | ((with_reducible show wpAny _ _ (getMethod (Value.ref _) (Str.ofString "pop") _) _ _ _); refine' mPop (by assumption) (by (first | exact Or.inl ⟨_, by assumption⟩ | exact Or.inr (by walk_at "mem"))) ?_)))
    rename St _ _ _ _ => hs
    refine neD hs (r.le (by omega)) hj hdue (sh_pcs _) (sh_pcs _) (noMix_pcs _) ?_
    rw [Spec.same_self, Bool.not_true]
    repeat' first | (first | ((with_reducible show wpAny _ _ (eval (Expr.List [] _) _) _ _ _); (rename St _ _ _ _ => hsX); refine' eqNil hsX (by (first | assumption | exact Rm.le (by assumption) (by omega))) (by (first | exact Or.inl ⟨_, by assumption⟩ | exact Or.inr (by walk_at "mem"))) (by assumption) (by exact sh_pcs _) ?_; clear hsX; intro _ _) | ((with_reducible show wpAny _ _ (getMethod (Value.ref _) (Str.ofString "get") _) _ _ _); refine' mGet (by assumption) (by (exact Or.inl (by assumption))) ?_) | ((with_reducible show wpAny _ _ (callWith _ (Value.builtin "dict.get") _ _ _) _ _ _); refine' dget1 (by assumption) ?_)) | (first | ((with_reducible show wpAny _ _ (call (Value.ref 77) _) _ _ _); (rename St _ _ _ _ => hsX); refine' c_draw (by walk_at "gE") (by (first | assumption | exact Rm.le (by assumption) (by omega))) hsX (by walk_at "rem") (by walk_at "rem") (by omega) (by omega) (by omega) ?_; clear hsX; intro _ _ _ _ _ _)) | (first | ((with_reducible show wpAny _ _ (assign (Expr.Subscript _ _ _) _ _) _ _ _); refine asgS ?_) | ((with_reducible show wpAny _ _ (setItem (Value.ref _) (Value.int _ _) _) _ _ _); (rename St _ _ _ _ => hsX); refine' setD hsX (by walk_at "mem") (by omega) (by walk_at "up") ?_; clear hsX; intro _ _) | ((with_reducible show wpAny _ _ (subscriptTail _ _ _ _) _ _ _); refine' idxP' (by assumption) (by assumption) (by assumption) (by (first | exact Or.inl ⟨_, by assumption⟩ | exact Or.inr (by walk_at "mem"))) (by omega) (by omega) (by omega) ?_; intro _ _ _ _ _ _ _ _ _ _ _) | ((with_reducible show wpAny _ _ (subscriptTail _ _ _ (Value.int 0 _)) _ _ _); refine' idxT (j := 0) (by assumption) (by (first | exact Or.inl ⟨_, by assumption⟩ | exact Or.inr (by walk_at "mem"))) (by decide) (by decide) (by rfl) (by rfl) ?_) | ((with_reducible show wpAny _ _ (subscriptTail _ _ _ (Value.int 1 _)) _ _ _); refine' idxT (j := 1) (by assumption) (by (first | exact Or.inl ⟨_, by assumption⟩ | exact Or.inr (by walk_at "mem"))) (by decide) (by decide) (by rfl) (by rfl) ?_) | ((with_reducible show wpAny _ _ (subscriptTail _ _ _ _) _ _ _); (rename St _ _ _ _ => hsX); refine' getD' hsX (by (exact Or.inr (by walk_at "mem"))) (by assumption) ?_; clear hsX; intro _ _)) | (first | (first | ((with_reducible show wpAny _ _ (eval (Expr.Subscript _ (Expr.Slice none _ _ _) _) _) _ _ _); refine xSliceU ?_) | ((with_reducible show wpAny _ _ (callWith _ (Value.ref _) _ _ _) _ _ _); refine' cwF (by walk_at "gE") (by ((show keepIn (hd.heap_39 _) _ = _; k_is))) ?_) | ((with_reducible show wpAny _ _ (unaryOp UnaryOp.USub _) _ _ _); (rename St _ _ _ _ => hsX); refine negI hsX ?_; clear hsX; intro _ _ _) | ((with_reducible show wpAny _ _ (eval (Expr.Name _ _) (compEnvC _ _ _ _)) _ _ _); first | refine' nK (by assumption) (by assumption) (by assumption) ?_ | refine' nKC (by assumption) (by rfl) (by assumption) ?_) | ((with_reducible show wpAny _ _ (eval (Expr.Dict [] [] _) _) _ _ _); (rename St _ _ _ _ => hsX); refine' mkD hsX (by assumption) ?_; clear hsX; intro _ _ _ _ _) | ((with_reducible show wpAny _ _ (isTrue (Expr.Compare _ [_, _] [_, _] _) _ _) _ _ _); refine isTrue_chain ?_) | ((with_reducible show wpAny _ _ (testChain _ _ _ _) _ _ _); first | refine test_link ?_ | refine test_last ?_) | ((with_reducible show _ ∧ _); refine' and_g (by assumption) (by walk_at "gE") ?_) | ((with_reducible show wpAny _ _ (call (Value.type "range") [_]) _ _ _); (rename St _ _ _ _ => hsX); (refine rng1 hsX ?_); clear hsX; intro _ _ _ _ _ _) | ((with_reducible show wpAny _ _ (call (Value.type "range") [_, _]) _ _ _); (rename St _ _ _ _ => hsX); (refine rng2 hsX ?_); clear hsX; intro _ _ _ _ _)) | walk_at "S" | (first | ((with_reducible show wpAny _ _ (evalPart _ _) _ _ _); first | with_reducible refine part_none ?_ | with_reducible refine part_some ?_) | ((with_reducible show _ ∧ _); (rename St _ _ _ _ => hsX); (refine And.intro (by (try simp only [List.length_cons, List.length_nil]); decide) ⟨_, _, _, hsX, ?_⟩); clear hsX; intro _ _ _ _) | ((with_reducible show wpAny _ _ (getMethod (Value.ref _) (Str.ofString "append") _) _ _ _); refine' mApp (by assumption) (by (first | exact Or.inl ⟨_, by assumption⟩ | exact Or.inr (by walk_at "mem"))) ?_) | ((with_reducible show wpAny _ _ (getMethod (Value.ref _) (Str.ofString "pop") _) _ _ _); refine' mPop (by assumption) (by (first | exact Or.inl ⟨_, by assumption⟩ | exact Or.inr (by walk_at "mem"))) ?_)))
    · rename (_ : Int) ≠ _ => hq
      exact absurd (by omega) hq
    rename St _ _ _ _ => hs
    refine c_rows_of g (r.le (by omega)) hs hpv hf (by omega) fun J3 wv es' s' hle3 hG' hwv hs => ?_
    have hwide := greedy_wider hf hG hG' (by omega) (by omega)
    obtain ⟨wa, wvs, wn, rfl, ewa, rw'⟩ := hwv.listInv
    have hwl : wvs.length = es'.length := by have := rw'.length; rwa [List.length_map, cuts_len] at this
    replace hpv := hpv.mono hle3
    replace hdue := hdue.mono hle3
    replace g := g.mono hle3
    repeat' first | (first | ((with_reducible show wpAny _ _ (eval (Expr.List [] _) _) _ _ _); (rename St _ _ _ _ => hsX); refine' eqNil hsX (by (first | assumption | exact Rm.le (by assumption) (by omega))) (by (first | exact Or.inl ⟨_, by assumption⟩ | exact Or.inr (by walk_at "mem"))) (by assumption) (by exact sh_pcs _) ?_; clear hsX; intro _ _) | ((with_reducible show wpAny _ _ (getMethod (Value.ref _) (Str.ofString "get") _) _ _ _); refine' mGet (by assumption) (by (exact Or.inl (by assumption))) ?_) | ((with_reducible show wpAny _ _ (callWith _ (Value.builtin "dict.get") _ _ _) _ _ _); refine' dget1 (by assumption) ?_)) | (first | ((with_reducible show wpAny _ _ (call (Value.ref 77) _) _ _ _); (rename St _ _ _ _ => hsX); refine' c_draw (by walk_at "gE") (by (first | assumption | exact Rm.le (by assumption) (by omega))) hsX (by walk_at "rem") (by walk_at "rem") (by omega) (by omega) (by omega) ?_; clear hsX; intro _ _ _ _ _ _)) | (first | ((with_reducible show wpAny _ _ (assign (Expr.Subscript _ _ _) _ _) _ _ _); refine asgS ?_) | ((with_reducible show wpAny _ _ (setItem (Value.ref _) (Value.int _ _) _) _ _ _); (rename St _ _ _ _ => hsX); refine' setD hsX (by walk_at "mem") (by omega) (by walk_at "up") ?_; clear hsX; intro _ _) | ((with_reducible show wpAny _ _ (subscriptTail _ _ _ _) _ _ _); refine' idxP' (by assumption) (by assumption) (by assumption) (by (first | exact Or.inl ⟨_, by assumption⟩ | exact Or.inr (by walk_at "mem"))) (by omega) (by omega) (by omega) ?_; intro _ _ _ _ _ _ _ _ _ _ _) | ((with_reducible show wpAny _ _ (subscriptTail _ _ _ (Value.int 0 _)) _ _ _); refine' idxT (j := 0) (by assumption) (by (first | exact Or.inl ⟨_, by assumption⟩ | exact Or.inr (by walk_at "mem"))) (by decide) (by decide) (by rfl) (by rfl) ?_) | ((with_reducible show wpAny _ _ (subscriptTail _ _ _ (Value.int 1 _)) _ _ _); refine' idxT (j := 1) (by assumption) (by (first | exact Or.inl ⟨_, by assumption⟩ | exact Or.inr (by walk_at "mem"))) (by decide) (by decide) (by rfl) (by rfl) ?_) | ((with_reducible show wpAny _ _ (subscriptTail _ _ _ _) _ _ _); (rename St _ _ _ _ => hsX); refine' getD' hsX (by (exact Or.inr (by walk_at "mem"))) (by assumption) ?_; clear hsX; intro _ _)) | (first | (first | ((with_reducible show wpAny _ _ (eval (Expr.Subscript _ (Expr.Slice none _ _ _) _) _) _ _ _); refine xSliceU ?_) | ((with_reducible show wpAny _ _ (callWith _ (Value.ref _) _ _ _) _ _ _); refine' cwF (by walk_at "gE") (by ((show keepIn (hd.heap_39 _) _ = _; k_is))) ?_) | ((with_reducible show wpAny _ _ (unaryOp UnaryOp.USub _) _ _ _); (rename St _ _ _ _ => hsX); refine negI hsX ?_; clear hsX; intro _ _ _) | ((with_reducible show wpAny _ _ (eval (Expr.Name _ _) (compEnvC _ _ _ _)) _ _ _); first | refine' nK (by assumption) (by assumption) (by assumption) ?_ | refine' nKC (by assumption) (by rfl) (by assumption) ?_) | ((with_reducible show wpAny _ _ (eval (Expr.Dict [] [] _) _) _ _ _); (rename St _ _ _ _ => hsX); refine' mkD hsX (by assumption) ?_; clear hsX; intro _ _ _ _ _) | ((with_reducible show wpAny _ _ (isTrue (Expr.Compare _ [_, _] [_, _] _) _ _) _ _ _); refine isTrue_chain ?_) | ((with_reducible show wpAny _ _ (testChain _ _ _ _) _ _ _); first | refine test_link ?_ | refine test_last ?_) | ((with_reducible show _ ∧ _); refine' and_g (by assumption) (by walk_at "gE") ?_) | ((with_reducible show wpAny _ _ (call (Value.type "range") [_]) _ _ _); (rename St _ _ _ _ => hsX); (refine rng1 hsX ?_); clear hsX; intro _ _ _ _ _ _) | ((with_reducible show wpAny _ _ (call (Value.type "range") [_, _]) _ _ _); (rename St _ _ _ _ => hsX); (refine rng2 hsX ?_); clear hsX; intro _ _ _ _ _)) | walk_at "S" | (first | ((with_reducible show wpAny _ _ (evalPart _ _) _ _ _); first | with_reducible refine part_none ?_ | with_reducible refine part_some ?_) | ((with_reducible show _ ∧ _); (rename St _ _ _ _ => hsX); (refine And.intro (by (try simp only [List.length_cons, List.length_nil]); decide) ⟨_, _, _, hsX, ?_⟩); clear hsX; intro _ _ _ _) | ((with_reducible show wpAny _ _ (getMethod (Value.ref _) (Str.ofString "append") _) _ _ _); refine' mApp (by assumption) (by (first | exact Or.inl ⟨_, by assumption⟩ | exact Or.inr (by walk_at "mem"))) ?_) | ((with_reducible show wpAny _ _ (getMethod (Value.ref _) (Str.ofString "pop") _) _ _ _); refine' mPop (by assumption) (by (first | exact Or.inl ⟨_, by assumption⟩ | exact Or.inr (by walk_at "mem"))) ?_)))
    · rename St _ _ _ _ => hs
      refine eqD hs (r.le (by omega)) hpv hdue (sh_pcs _) (sh_pcs _) (noMix_pcs _) ?_
      rw [Spec.same_self]
      exact h _ hs.same fun b o e => hs.ok.keep _ _ (hle3 _ _ (hle' _ _ (hleA _ _ e)))
    · rename ¬ ((wvs.length : Int) ≤ lst) => hq
      exact absurd (by omega) hq
end

/-! # part J0 -/
theorem script_rp {P : Params} {h : Heap} {a : Addr} {vs : List Value} {ns : List Int} (hL : h.IsList a vs.toArray) (hI : IntsAre vs ns) (w1 : Well P h (.ref a) (ofPy (.list (ns.map .int)))) : Rp (fun b => h.get? b) (.ref a) (.list (ns.map .int)) := by
  obtain ⟨o, e, hc, n, hd⟩ := hL
  obtain ⟨ds, eds⟩ : ∃ ds, ofPy (.list (ns.map .int)) = WData.list ds := ⟨_, rfl⟩
  rw [eds] at w1
  cases w1 with
  | @list _ vs' _ e' _ =>
    rw [e'] at e
    cases e
    injection hd with hd _
    rw [hd] at e'
    exact .list (n := 0) e' (.ofInts hI)
theorem rmCaller {env : Env} : Rm (callerA.deeper env) 4 := Rm.deeper (n := 4) ⟨rfl, by decide, by decide⟩
section
variable {w : World} {A : Around} {E : Value → Shared → Prop} {Q : Flow → Shared → Prop} {L c fa : Addr}
theorem join {s₁ : Shared} {h₁ : Heap} {tk : Nat} {mean : ExcName → Option Value} {mg mb m : Str → Option Value} {a : Addr} {vs : List Value} {ns : List Int} {o : Obj} {qual : Str} {body : List Stmt} {scope : Scope} {name : Str} {params : Arguments} {dV kV doc pm cdv ct oc : Value} {an od : Option Addr} {osl : Array (Option Value)} {cd : Value}
    (KX : (hd.heap_39 w.params).In s₁.heap) (T : Top hd.view_39 (looseW hd.view_39 []) mean mg mb s₁.heap) (F : Fr s₁.heap L h₁ m) (N0 : News s₁.heap L h₁ [(c, o)]) (hc : o.data = .cell none)
    (hL : s₁.heap.IsList a vs.toArray) (hI : IntsAre vs ns) (w1 : Well w.params s₁.heap (.ref a) (ofPy (.list (ns.map .int)))) (hn : ns.length ≤ 63) (hm : m "script" = some (.ref a)) (r : Rm A 4)
    (ho : (hd.heap_39 w.params).lookup 108 = some ⟨oc, od, .func (fnX name qual params body scope [] dV kV doc pm an cdv ct), osl⟩)
    (hQ : ∀ s', (∃ hh tk, s' = { s₁ with heap := hh, toks := tk }) → (∀ b o, s₁.heap.get? b = some o → s'.heap.get? b = some o) → Q (.ret (.bool true)) s') :
    wpAny (model PROG w) A (execs body (envX qual scope L fa cd [("due", c)])) Q E { s₁ with heap := h₁, toks := tk } := by
  have hs : St s₁ (fun b => s₁.heap.get? b) ((L, NsO m) :: (c, CeO none) :: []) { s₁ with heap := h₁, toks := tk } := by
    refine ⟨⟨h₁, tk, rfl⟩, F.keep, fun p hp => ?_, ?_⟩
    · rcases List.mem_cons.mp hp with rfl | hp
      · refine ⟨?_, ?_⟩
        · cases e : s₁.heap.get? L with
          | none => rfl
          | some x => exact absurd (Heap.lt_size e) (Nat.not_lt.mpr F.above)
        · obtain ⟨oL, es, ep, e, q⟩ := F.ns
          exact ⟨oL, e, es, ep, q⟩
      · cases List.mem_singleton.mp hp
        exact ⟨(N0 _ (.head _)).2.2, o, (N0 _ (.head _)).1, hc⟩
    · refine List.nodup_cons.mpr ⟨fun q => ?_, List.nodup_cons.mpr ⟨fun q => (nomatch q), List.nodup_nil⟩⟩
      exact (N0 _ (.head _)).2.1 (List.mem_singleton.mp q).symm
  exact c_law ⟨s₁.heap, mg, mb, KX, topRead_of T, fun _ _ e => e⟩ r ho hs hm (script_rp hL hI w1) hn (c_law2 r ho (c_law3 r ho hQ))
end

end Mine

open PySem PySem.W PyProof.Rows
set_option maxRecDepth 100000 in
set_option maxHeartbeats 8000000 in
theorem PySem.Challenge.cw_rg0131_01_holds : PySem.Challenge.rw_rg0131_01.Holds := by
  exact Mine.hd (by
    k_go0
    rename Top _ _ _ _ _ _ => T
    rename Fr _ _ _ _ => F
    rename News _ _ _ [_] => N0
    rename IntsAre _ _ => hI
    rename Well _ _ _ _ => w1
    rename Heap.IsList _ _ _ => hL
    rename Frag.In _ _ => KX
    rename Obj => ob
    refine' Mine.join KX T F N0 ?hc hL hI w1 ?hn ?hm ?r ?ho ?hQ
    case ho => k_is
    case hc => (rename Obj.data _ = _ => hd0; exact hd0)
    case hn => omega
    case hm => rfl
    case r => exact Mine.rmCaller
    case hQ =>
      rintro s' ⟨hh, tk, rfl⟩ hk
      rename Shared.gens _ = _ => hg
      refine ⟨.inl ⟨.bool true, .bool true, [], rfl, raisesW_false ?_, .bool _, ?_, fun _ => ⟨List.nodup_nil, fun _ h => (nomatch h)⟩⟩, hk, rfl, hg⟩
      · wrow_none_raised
      · wrow_post)
